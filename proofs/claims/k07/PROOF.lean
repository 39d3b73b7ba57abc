import PyProof.Rows.All
import Wide.All
import OpenK.AllK
import Wide.FinOn
import HandS.ForMost
import HandS.ForExc
import HandS.CallSlots
import HandS.TryMany
import HandS.HeadHook2
import HandS.Defaults
import KE.DataCmp
import KE.DataEq
import KE.DataAny
import HandS.Flow
import HandS.Style
import HandS.Zip
import KE.GoesEnum
import HandS.TupAny
import HandS.IsInst
import KE.SortData
import KE.DataMinMax
import KE.KRevSl
import HandS.Small
import KE.KDictPairs
import HandS.Head0
import HandS.Head1
import HandS.Head2
import HandS.HeadEnd
import HandS.HeadHook1
import PyProof.ExcBaseAll.ValueError
import HandS.Strs
import HandS.TupLe
import HandS.DictComp
import PyProof.FitsInt
import KE.KStateDown
import HandS.Base
import HandS.Call
import HandS.Ends
import HandS.More
import HandS.Words
import HandS.WordsExc
import PySem.Challenge.RW_jointtables_k07_models_from_weights
set_option Elab.async false
set_option linter.all false
set_option maxRecDepth 100000
set_option maxHeartbeats 0
namespace PP
open PySem PySem.Spec L2
open PyProof.Rows hiding St

/-! ### values with owners -/
abbrev D := PyData
inductive Tv where
  | d (x : D)
  | ml (b : Bool) (xs : List D)
  | md (b : Bool) (t : Bool) (kvs : List (D × D))
def Tv.bor : Tv → Bool
  | .d _ => false
  | .ml b _ => b
  | .md b _ _ => b
abbrev Ga := List (Option Tv)
inductive Rs (α : Type) where
  | ok (a : α) (g : Ga)
  | exc (c : Str) (g : Ga)
  | stuck
abbrev M (α : Type) := Ga → Rs α
def bnd {α β : Type} (m : M α) (f : α → M β) : M β := fun g => match m g with
  | .ok a g' => f a g'
  | .exc c g' => .exc c g'
  | .stuck => .stuck

/-! ### frozen data in an abstract heap -/
def kD : Key → D
  | .inl i => .int i
  | .inr x => .str x
def KL (K : PySem.W.Frag) (a : Addr) (xs : List V) : Prop :=
  ∃ (o : Obj) (its : Array Value) (n : Nat), K.lookup a = some o ∧ o.cls = .type "list" ∧ o.dict = none ∧ o.data = .seq its n ∧ its.size ≤ sizeLine ∧ Vals xs its.toList
def FzL (K : PySem.W.Frag) (H : Hp) (a : Addr) (xs : List V) : Prop := (∃ o, H a = some (.frz o (.lst xs))) ∨ KL K a xs
/-- a plain tuple: of ints alone, or its object is known -/
def vKey : V → Bool
  | .int _ => true
  | _ => false
def tupO (o : Obj) (xs : List V) : HO := if xs.all vKey = true then .tup xs else .frz o (.tup xs)
def FT (H : Hp) (a : Addr) (xs : List V) : Prop := ∃ o : Obj, o.dict = none ∧ H a = some (tupO o xs)
mutual
inductive Fz (K : PySem.W.Frag) (H : Hp) : V → D → Prop
  | non : Fz K H .non .none
  | bl (b : Bool) : Fz K H (.bl b) (.bool b)
  | int (i : Int) : Fz K H (.int i) (.int i)
  | str (x : Str) : Fz K H (.str x) (.str x)
  | lst {a : Addr} {xs : List V} {ds : List D} : FzL K H a xs → FzAll K H xs ds → Fz K H (.ref a) (.list ds)
  | tup {a : Addr} {xs : List V} {ds : List D} : FT H a xs → FzAll K H xs ds → Fz K H (.ref a) (.tuple ds)
  | dK {a : Addr} {o : Obj} {kvs : List (Key × V)} {ds : List D} : H a = some (.frz o (.dK kvs)) → FzAll K H (kvs.map (·.2)) ds → Fz K H (.ref a) (.dict ((kvs.map fun p => kD p.1).zip ds))
  | dT {a : Addr} {o : Obj} {kvs : List (List Key × V)} {ds : List D} : H a = some (.frz o (.dT kvs)) → FzAll K H (kvs.map (·.2)) ds → Fz K H (.ref a) (.dict ((kvs.map fun p => PyData.tuple (p.1.map kD)).zip ds))
inductive FzAll (K : PySem.W.Frag) (H : Hp) : List V → List D → Prop
  | nil : FzAll K H [] []
  | cons {v : V} {vs : List V} {d : D} {ds : List D} : Fz K H v d → FzAll K H vs ds → FzAll K H (v :: vs) (d :: ds)
end
/-- what is never written -/
def isFz : HO → Bool
  | .frz _ _ => true
  | .tup _ => true
  | _ => false
def Pers (H H' : Hp) : Prop := ∀ a o, H a = some o → isFz o = true → H' a = some o
theorem Pers.refl (H : Hp) : Pers H H := fun _ _ e _ => e
theorem Pers.trans {H H1 H2 : Hp} (a : Pers H H1) (b : Pers H1 H2) : Pers H H2 := fun c o e f => b c o (a c o e f) f
theorem Pers.of_same {H H' : Hp} (s : Same H H') : Pers H H' := fun a o e _ => s a o e
theorem FzL.pers {K : PySem.W.Frag} {H H' : Hp} {a : Addr} {xs : List V} (h : FzL K H a xs) (p : Pers H H') : FzL K H' a xs := by
  rcases h with ⟨o, e⟩ | h
  · exact .inl ⟨o, p a _ e rfl⟩
  · exact .inr h
theorem tupO_fz (o : Obj) (xs : List V) : isFz (tupO o xs) = true := by
  unfold tupO
  split <;> rfl
theorem FT.pers {H H' : Hp} {a : Addr} {xs : List V} (h : FT H a xs) (p : Pers H H') : FT H' a xs := by
  obtain ⟨o, d, e⟩ := h
  exact ⟨o, d, p a _ e (tupO_fz o xs)⟩
theorem FT.sq {K : PySem.W.Frag} {H : Hp} {a : Addr} {xs : List V} (h : FT H a xs) : SqT K H a xs := by
  obtain ⟨o, d, e⟩ := h
  unfold tupO at e
  split at e
  · exact .inl (.inl e)
  · exact .inl (.inr ⟨o, e⟩)
theorem FT.key {H : Hp} {a : Addr} {xs : List V} (h : FT H a xs) (k : xs.all vKey = true) : H a = some (.tup xs) := by
  obtain ⟨o, d, e⟩ := h
  rw [tupO, if_pos k] at e
  exact e
theorem FT.exact {H : Hp} {a : Addr} {xs : List V} (h : FT H a xs) (k : xs.all vKey = false) : ∃ o : Obj, o.dict = none ∧ H a = some (.frz o (.tup xs)) := by
  obtain ⟨o, d, e⟩ := h
  rw [tupO, if_neg (by rw [k]; decide)] at e
  exact ⟨o, d, e⟩
theorem tupO_ok {P : Program} {w : World} {H : Hp} {h : Heap} {a : Addr} {o : Obj} {xs : List V} {its : List Value} {n : Nat} (e : h.get? a = some o) (hc : o.cls = .type "tuple") (hd : o.data = .seq its.toArray n) (r : Vals xs its) (z : xs.length ≤ sizeLine) : ObjOk P w H h a (tupO o xs) := by
  have q : ObjOk P w H h a (.tup xs) := ⟨z, its, r, ⟨o, e, hc, n, hd⟩⟩
  unfold tupO
  split
  · exact q
  · exact ⟨e, q⟩
theorem FT.new {H : Hp} {a : Addr} {o : Obj} {xs : List V} (d : o.dict = none) : FT (L2.upd H a (tupO o xs)) a xs := ⟨o, d, upd_same⟩
theorem sqT_pers {K : PySem.W.Frag} {H H' : Hp} {a : Addr} {xs : List V} (h : SqT K H a xs) (p : Pers H H') : SqT K H' a xs := by
  rcases h with (h | ⟨o, h⟩) | h
  · exact .inl (.inl (p a _ h rfl))
  · exact .inl (.inr ⟨o, p a _ h rfl⟩)
  · exact .inr h
mutual
theorem Fz.pers {K : PySem.W.Frag} {H H' : Hp} : ∀ {v : V} {d : D}, Fz K H v d → Pers H H' → Fz K H' v d
  | _, _, .non, _ => .non
  | _, _, .bl b, _ => .bl b
  | _, _, .int i, _ => .int i
  | _, _, .str x, _ => .str x
  | _, _, .lst h a, p => .lst (h.pers p) (FzAll.pers a p)
  | _, _, .tup h a, p => .tup (h.pers p) (FzAll.pers a p)
  | _, _, .dK h a, p => .dK (p _ _ h rfl) (FzAll.pers a p)
  | _, _, .dT h a, p => .dT (p _ _ h rfl) (FzAll.pers a p)
theorem FzAll.pers {K : PySem.W.Frag} {H H' : Hp} : ∀ {vs : List V} {ds : List D}, FzAll K H vs ds → Pers H H' → FzAll K H' vs ds
  | _, _, .nil, _ => .nil
  | _, _, .cons h a, p => .cons (Fz.pers h p) (FzAll.pers a p)
end
theorem FzL.sq {K : PySem.W.Frag} {H : Hp} {a : Addr} {xs : List V} (h : FzL K H a xs) : SqL K H a xs := by
  rcases h with ⟨o, e⟩ | h
  · exact .inl (.inr ⟨o, e⟩)
  · exact .inr h
mutual
theorem Fz.dp {K : PySem.W.Frag} {H : Hp} : ∀ {v : V} {d : D}, Fz K H v d → d.plain = true → Dp K H v d
  | _, _, .non, _ => .non
  | _, _, .bl b, _ => .bl b
  | _, _, .int i, _ => .int i
  | _, _, .str x, _ => .str x
  | _, _, .lst h a, p => .lst h.sq (FzAll.dp a (by simpa [PyData.plain] using p))
  | _, _, .tup h a, p => .tup h.sq (FzAll.dp a (by simpa [PyData.plain] using p))
  | _, _, .dK h a, p => by simp [PyData.plain] at p
  | _, _, .dT h a, p => by simp [PyData.plain] at p
theorem FzAll.dp {K : PySem.W.Frag} {H : Hp} : ∀ {vs : List V} {ds : List D}, FzAll K H vs ds → PyData.plainAll ds = true → DpAll K H vs ds
  | _, _, .nil, _ => .nil
  | _, _, .cons h a, p => by
    rw [PyData.plainAll, Bool.and_eq_true] at p
    exact .cons (Fz.dp h p.1) (FzAll.dp a p.2)
end
theorem FzAll.length {K : PySem.W.Frag} {H : Hp} : ∀ {vs : List V} {ds : List D}, FzAll K H vs ds → vs.length = ds.length
  | _, _, .nil => rfl
  | _, _, .cons _ a => by simp [FzAll.length a]
theorem FzAll.append {K : PySem.W.Frag} {H : Hp} : ∀ {vs ws : List V} {ds es : List D}, FzAll K H vs ds → FzAll K H ws es → FzAll K H (vs ++ ws) (ds ++ es)
  | _, _, _, _, .nil, b => b
  | _, _, _, _, .cons h a, b => .cons h (FzAll.append a b)
theorem FzAll.get {K : PySem.W.Frag} {H : Hp} : ∀ {vs : List V} {ds : List D} {i : Nat} {v : V}, FzAll K H vs ds → vs[i]? = some v → ∃ d, ds[i]? = some d ∧ Fz K H v d
  | _, _, _, _, .nil, e => by simp at e
  | _, _, 0, _, .cons h a, e => by simp at e; subst e; exact ⟨_, rfl, h⟩
  | _, _, i + 1, v, .cons h a, e => by
    obtain ⟨d, h1, h2⟩ := FzAll.get (i := i) (v := v) a (by simpa using e)
    exact ⟨d, by simpa using h1, h2⟩
theorem FzAll.get' {K : PySem.W.Frag} {H : Hp} : ∀ {vs : List V} {ds : List D} {i : Nat} {d : D}, FzAll K H vs ds → ds[i]? = some d → ∃ v, vs[i]? = some v ∧ Fz K H v d
  | _, _, _, _, .nil, e => by simp at e
  | _, _, 0, _, .cons h a, e => by simp at e; subst e; exact ⟨_, rfl, h⟩
  | _, _, i + 1, v, .cons h a, e => by
    obtain ⟨d, h1, h2⟩ := FzAll.get' (i := i) (d := v) a (by simpa using e)
    exact ⟨d, by simpa using h1, h2⟩
theorem FzAll.set {K : PySem.W.Frag} {H : Hp} {v : V} {d : D} (h : Fz K H v d) : ∀ {vs : List V} {ds : List D} (i : Nat), FzAll K H vs ds → FzAll K H (vs.set i v) (ds.set i d)
  | _, _, _, .nil => .nil
  | _, _, 0, .cons _ a => .cons h a
  | _, _, i + 1, .cons q a => .cons q (FzAll.set h i a)
theorem FzAll.eraseIdx {K : PySem.W.Frag} {H : Hp} : ∀ {vs : List V} {ds : List D} (i : Nat), FzAll K H vs ds → FzAll K H (vs.eraseIdx i) (ds.eraseIdx i)
  | _, _, _, .nil => .nil
  | _, _, 0, .cons _ a => a
  | _, _, i + 1, .cons q a => .cons q (FzAll.eraseIdx i a)
theorem FzAll.take {K : PySem.W.Frag} {H : Hp} : ∀ {vs : List V} {ds : List D} (n : Nat), FzAll K H vs ds → FzAll K H (vs.take n) (ds.take n)
  | _, _, 0, _ => by simp; exact .nil
  | _, _, _ + 1, .nil => by simp; exact .nil
  | _, _, n + 1, .cons h a => .cons h (FzAll.take n a)
theorem FzAll.drop {K : PySem.W.Frag} {H : Hp} : ∀ {vs : List V} {ds : List D} (n : Nat), FzAll K H vs ds → FzAll K H (vs.drop n) (ds.drop n)
  | _, _, 0, a => a
  | _, _, _ + 1, .nil => by simp; exact .nil
  | _, _, n + 1, .cons h a => FzAll.drop n a

/-! ### slots -/
inductive TRep (K : PySem.W.Frag) (H : Hp) : V → Tv → List Addr → Prop
  | d {v : V} {x : D} : Fz K H v x → TRep K H v (.d x) []
  | ml {a : Addr} {vs : List V} {xs : List D} {b : Bool} : H a = some (.lst vs) → FzAll K H vs xs → TRep K H (.ref a) (.ml b xs) [a]
  | mk {a : Addr} {kvs : List (Key × V)} {ds : List D} {b : Bool} : H a = some (.dK kvs) → FzAll K H (kvs.map (·.2)) ds → TRep K H (.ref a) (.md b false ((kvs.map fun p => kD p.1).zip ds)) [a]
  | mt {a : Addr} {kvs : List (List Key × V)} {ds : List D} {b : Bool} : H a = some (.dT kvs) → FzAll K H (kvs.map (·.2)) ds → TRep K H (.ref a) (.md b true ((kvs.map fun p => PyData.tuple (p.1.map kD)).zip ds)) [a]
inductive SRep (K : PySem.W.Frag) (H : Hp) : St → Ga → List Addr → Prop
  | nil : SRep K H [] [] []
  | skip {o : Option V} {σ : St} {g : Ga} {R : List Addr} : SRep K H σ g R → SRep K H (o :: σ) (none :: g) R
  | cons {v : V} {t : Tv} {rt : List Addr} {σ : St} {g : Ga} {R : List Addr} : TRep K H v t rt → SRep K H σ g R → SRep K H (some v :: σ) (some t :: g) (rt ++ R)
/-- what is kept: all but the roots -/
def Ext (R : List Addr) (H H' : Hp) : Prop := ∀ a o, H a = some o → a ∉ R → H' a = some o
def New (R : List Addr) (H : Hp) (R' : List Addr) : Prop := ∀ a ∈ R', a ∈ R ∨ H a = none
/-- roots are not frozen -/
def Live (R : List Addr) (H : Hp) : Prop := ∀ a ∈ R, ∀ o, H a = some o → isFz o = false
theorem TRep.live {K : PySem.W.Frag} {H : Hp} {v : V} {t : Tv} {rt : List Addr} (h : TRep K H v t rt) : Live rt H := by
  cases h with
  | d _ => intro a ha; cases ha
  | ml e _ | mk e _ | mt e _ =>
    intro a ha o ho
    rw [List.mem_singleton] at ha
    subst ha
    rw [e] at ho
    cases ho
    rfl
theorem Live.app {A B : List Addr} {H : Hp} (a : Live A H) (b : Live B H) : Live (A ++ B) H := fun x hx => (List.mem_append.mp hx).elim (a x) (b x)
theorem SRep.live {K : PySem.W.Frag} {H : Hp} : ∀ {σ : St} {g : Ga} {R : List Addr}, SRep K H σ g R → Live R H
  | _, _, _, .nil => fun a ha => by cases ha
  | _, _, _, .skip h => SRep.live h
  | _, _, _, .cons t h => t.live.app (SRep.live h)
theorem Ext.pers {R : List Addr} {H H' : Hp} (e : Ext R H H') (l : Live R H) : Pers H H' := fun a o h f => e a o h fun ha => by
  have := l a ha o h
  rw [f] at this
  cases this
theorem Ext.refl (R : List Addr) (H : Hp) : Ext R H H := fun _ _ e _ => e
theorem Ext.of_same {R : List Addr} {H H' : Hp} (s : Same H H') : Ext R H H' := fun a o e _ => s a o e
theorem New.refl (R : List Addr) (H : Hp) : New R H R := fun _ h => .inl h
theorem Ext.none {R : List Addr} {H H' : Hp} (e : Ext R H H') {a : Addr} (h : H' a = none) (n : a ∉ R) : H a = none := by
  cases q : H a with
  | none => rfl
  | some o => rw [e a o q n] at h; cases h
theorem TRep.root_some {K : PySem.W.Frag} {H : Hp} {v : V} {t : Tv} {rt : List Addr} (h : TRep K H v t rt) : ∀ a ∈ rt, H a ≠ none := by
  cases h with
  | d _ => intro a ha; cases ha
  | ml e _ | mk e _ | mt e _ =>
    intro a ha
    rw [List.mem_singleton] at ha
    subst ha
    rw [e]
    simp
theorem SRep.root_some {K : PySem.W.Frag} {H : Hp} : ∀ {σ : St} {g : Ga} {R : List Addr}, SRep K H σ g R → ∀ a ∈ R, H a ≠ none
  | _, _, _, .nil, a, ha => by cases ha
  | _, _, _, .skip h, a, ha => SRep.root_some h a ha
  | _, _, _, .cons t h, a, ha => (List.mem_append.mp ha).elim (t.root_some a) (SRep.root_some h a)
/-- one after the other -/
theorem Ext.trans {R R1 : List Addr} {H H1 H2 : Hp} (a : Ext R H H1) (n : New R H R1) (b : Ext R1 H1 H2) : Ext R H H2 := fun c o e h => b c o (a c o e h) fun hc => by
  rcases n c hc with q | q
  · exact h q
  · rw [e] at q; cases q
theorem New.trans {R R1 R2 : List Addr} {H H1 : Hp} (a : Ext R H H1) (n : New R H R1) (m : New R1 H1 R2) : New R H R2 := fun c hc => by
  rcases m c hc with q | q
  · exact n c q
  · by_cases h : c ∈ R
    · exact .inl h
    · exact .inr (a.none q h)
theorem New.sub {R R1 R2 : List Addr} {H : Hp} (n : New R H R1) (s : ∀ a ∈ R2, a ∈ R1) : New R H R2 := fun a h => n a (s a h)
/-- the slots stay, in a heap that keeps the roots and what is frozen -/
theorem TRep.keep {K : PySem.W.Frag} {H H' : Hp} {v : V} {t : Tv} {rt : List Addr} (h : TRep K H v t rt) (p : Pers H H') (k : ∀ a ∈ rt, H' a = H a) : TRep K H' v t rt := by
  cases h with
  | d h => exact .d (h.pers p)
  | ml e h => exact .ml ((k _ (List.mem_singleton.mpr rfl)).trans e) (h.pers p)
  | mk e h => exact .mk ((k _ (List.mem_singleton.mpr rfl)).trans e) (h.pers p)
  | mt e h => exact .mt ((k _ (List.mem_singleton.mpr rfl)).trans e) (h.pers p)
theorem SRep.keep {K : PySem.W.Frag} {H H' : Hp} : ∀ {σ : St} {g : Ga} {R : List Addr}, SRep K H σ g R → Pers H H' → (∀ a ∈ R, H' a = H a) → SRep K H' σ g R
  | _, _, _, .nil, _, _ => .nil
  | _, _, _, .skip h, p, k => .skip (SRep.keep h p k)
  | _, _, _, .cons t h, p, k => .cons (t.keep p fun a ha => k a (List.mem_append_left _ ha)) (SRep.keep h p fun a ha => k a (List.mem_append_right _ ha))
theorem SRep.same {K : PySem.W.Frag} {H H' : Hp} {σ : St} {g : Ga} {R : List Addr} (h : SRep K H σ g R) (s : Same H H') : SRep K H' σ g R :=
  h.keep (.of_same s) fun a ha => by
    cases q : H a with
    | none => exact absurd q (h.root_some a ha)
    | some o => exact s a o q
theorem SRep.len {K : PySem.W.Frag} {H : Hp} : ∀ {σ : St} {g : Ga} {R : List Addr}, SRep K H σ g R → σ.length = g.length
  | _, _, _, .nil => rfl
  | _, _, _, .skip h => by simp [SRep.len h]
  | _, _, _, .cons _ h => by simp [SRep.len h]
theorem SRep.get {K : PySem.W.Frag} {H : Hp} : ∀ {σ : St} {g : Ga} {R : List Addr} {i : Nat} {t : Tv}, SRep K H σ g R → g[i]? = some (some t) → ∃ v rt, σ[i]? = some (some v) ∧ TRep K H v t rt ∧ ∀ a ∈ rt, a ∈ R
  | _, _, _, _, _, .nil, e => by simp at e
  | _, _, _, 0, _, .skip h, e => by simp at e
  | _, _, _, i + 1, t, .skip h, e => by
    obtain ⟨v, rt, h1, h2, h3⟩ := SRep.get (i := i) (t := t) h (by simpa using e)
    exact ⟨v, rt, by simpa using h1, h2, h3⟩
  | _, _, _, 0, _, .cons t h, e => by
    simp at e
    subst e
    exact ⟨_, _, rfl, t, fun a ha => List.mem_append_left _ ha⟩
  | _, _, _, i + 1, t, .cons q h, e => by
    obtain ⟨v, rt, h1, h2, h3⟩ := SRep.get (i := i) (t := t) h (by simpa using e)
    exact ⟨v, rt, by simpa using h1, h2, fun a ha => List.mem_append_right _ (h3 a ha)⟩
/-- a slot stored -/
theorem SRep.set {K : PySem.W.Frag} {H : Hp} {v : V} {t : Tv} {rt : List Addr} (q : TRep K H v t rt) : ∀ {σ : St} {g : Ga} {R : List Addr} (i : Nat), SRep K H σ g R → (rt ++ R).Nodup →
    ∃ R', SRep K H (σ.set i (some v)) (g.set i (some t)) R' ∧ R'.Nodup ∧ ∀ a ∈ R', a ∈ rt ++ R
  | _, _, _, _, .nil, _ => ⟨[], .nil, List.nodup_nil, fun a h => nomatch h⟩
  | _, _, _, 0, .skip h, n => ⟨_, .cons q h, n, fun a h => h⟩
  | _, _, _, i + 1, .skip h, n => by
    obtain ⟨R', h1, h2, h3⟩ := SRep.set q i h n
    exact ⟨R', .skip h1, h2, h3⟩
  | _, _, _, 0, .cons (rt := r1) (R := R1) t' h, n => by
    refine ⟨rt ++ R1, .cons q h, ?_, fun a ha => ?_⟩
    · exact n.sublist (List.Sublist.append_left (List.sublist_append_right _ _) _)
    · rcases List.mem_append.mp ha with z | z
      · exact List.mem_append_left _ z
      · exact List.mem_append_right _ (List.mem_append_right _ z)
  | _, _, _, i + 1, .cons (rt := r1) (R := R1) t' h, n => by
    have n1 : (rt ++ R1).Nodup := n.sublist (List.Sublist.append_left (List.sublist_append_right _ _) _)
    obtain ⟨R', h1, h2, h3⟩ := SRep.set q i h n1
    refine ⟨r1 ++ R', .cons t' h1, ?_, fun a ha => ?_⟩
    · rw [List.nodup_append] at n ⊢
      obtain ⟨n2, n3, n4⟩ := n
      rw [List.nodup_append] at n3
      refine ⟨n3.1, h2, fun a ha b hb => ?_⟩
      rcases List.mem_append.mp (h3 b hb) with z | z
      · exact fun e => n4 b z a (List.mem_append_left _ ha) e.symm
      · exact n3.2.2 a ha b z
    · rcases List.mem_append.mp ha with z | z
      · exact List.mem_append_right _ (List.mem_append_left _ z)
      · rcases List.mem_append.mp (h3 a z) with y | y
        · exact List.mem_append_left _ y
        · exact List.mem_append_right _ (List.mem_append_right _ y)
/-- a slot forgotten -/
theorem SRep.forget {K : PySem.W.Frag} {H : Hp} : ∀ {σ : St} {g : Ga} {R : List Addr} (i : Nat) (o : Option V), SRep K H σ g R → R.Nodup →
    ∃ R', SRep K H (σ.set i o) (g.set i none) R' ∧ R'.Nodup ∧ ∀ a ∈ R', a ∈ R
  | _, _, _, _, _, .nil, _ => ⟨[], .nil, List.nodup_nil, fun a h => nomatch h⟩
  | _, _, _, 0, o, .skip h, n => ⟨_, .skip h, n, fun a h => h⟩
  | _, _, _, i + 1, o, .skip h, n => by
    obtain ⟨R', h1, h2, h3⟩ := SRep.forget i o h n
    exact ⟨R', .skip h1, h2, h3⟩
  | _, _, _, 0, o, .cons (rt := r1) (R := R1) t' h, n => by
    exact ⟨R1, .skip h, (List.nodup_append.mp n).2.1, fun a ha => List.mem_append_right _ ha⟩
  | _, _, _, i + 1, o, .cons (rt := r1) (R := R1) t' h, n => by
    have n' := List.nodup_append.mp n
    obtain ⟨R', h1, h2, h3⟩ := SRep.forget i o h n'.2.1
    refine ⟨r1 ++ R', .cons t' h1, ?_, fun a ha => ?_⟩
    · rw [List.nodup_append]
      exact ⟨n'.1, h2, fun a ha b hb => n'.2.2 a ha b (h3 b hb)⟩
    · rcases List.mem_append.mp ha with z | z
      · exact List.mem_append_left _ z
      · exact List.mem_append_right _ (h3 a z)
/-- a slot that owns a root -/
def Tv.own : Tv → Bool
  | .d _ => false
  | _ => true
theorem TRep.own1 {K : PySem.W.Frag} {H : Hp} {v : V} {t : Tv} {rt : List Addr} (h : TRep K H v t rt) (o : t.own = true) : ∃ a, v = .ref a ∧ rt = [a] := by
  cases h with
  | d _ => cases o
  | ml _ _ | mk _ _ | mt _ _ => exact ⟨_, rfl, rfl⟩
/-- the root of a slot rewritten, or frozen: all other slots are as they were -/
theorem SRep.putG {K : PySem.W.Frag} {H : Hp} : ∀ {σ : St} {g : Ga} {R : List Addr} {i : Nat} {t0 : Tv}, SRep K H σ g R → R.Nodup → g[i]? = some (some t0) → t0.own = true →
    ∃ a, σ[i]? = some (some (.ref a)) ∧ TRep K H (.ref a) t0 [a] ∧ a ∈ R ∧
      ∀ (H' : Hp) (t : Tv) (rt : List Addr), Pers H H' → (∀ c ∈ R, c ≠ a → H' c = H c) → TRep K H' (.ref a) t rt → rt.Sublist [a] → ∃ R', SRep K H' σ (g.set i (some t)) R' ∧ R'.Sublist R
  | _, _, _, _, _, .nil, _, e, _ => by simp at e
  | _, _, _, 0, _, .skip h, _, e, _ => by simp at e
  | _, _, _, i + 1, t0, .skip h, n, e, o => by
    obtain ⟨a, h1, h2, h4, h5⟩ := SRep.putG (i := i) (t0 := t0) h n (by simpa using e) o
    refine ⟨a, by simpa using h1, h2, h4, fun H' t rt p k q sb => ?_⟩
    obtain ⟨R', z1, z2⟩ := h5 H' t rt p k q sb
    exact ⟨R', .skip z1, z2⟩
  | _, _, _, 0, _, .cons t h, n, e, o => by
    simp at e
    subst e
    obtain ⟨a, rfl, rfl⟩ := t.own1 o
    refine ⟨_, rfl, t, List.mem_append_left _ (List.mem_singleton.mpr rfl), fun H' t' rt p k q sb => ?_⟩
    refine ⟨_, .cons q (h.keep p fun c hc => k c (List.mem_append_right _ hc) fun z => ?_), sb.append_right _⟩
    exact (List.nodup_append.mp n).2.2 _ (List.mem_singleton.mpr rfl) c hc z.symm
  | _, _, _, i + 1, t0, .cons t h, n, e, o => by
    obtain ⟨a, h1, h2, h4, h5⟩ := SRep.putG (i := i) (t0 := t0) h (List.nodup_append.mp n).2.1 (by simpa using e) o
    refine ⟨a, by simpa using h1, h2, List.mem_append_right _ h4, fun H' t' rt p k q sb => ?_⟩
    obtain ⟨R', z1, z2⟩ := h5 H' t' rt p (fun c hc => k c (List.mem_append_right _ hc)) q sb
    refine ⟨_, .cons (t.keep p fun c hc => k c (List.mem_append_left _ hc) fun z => ?_) z1, z2.append_left _⟩
    subst z
    exact (List.nodup_append.mp n).2.2 c hc c h4 rfl
theorem SRep.put {K : PySem.W.Frag} {H : Hp} {σ : St} {g : Ga} {R : List Addr} {i : Nat} {b : Bool} {xs : List D} (s : SRep K H σ g R) (n : R.Nodup) (e : g[i]? = some (some (.ml b xs))) :
    ∃ a vs, σ[i]? = some (some (.ref a)) ∧ H a = some (.lst vs) ∧ FzAll K H vs xs ∧ a ∈ R ∧
      ∀ (H' : Hp) (t : Tv) (rt : List Addr), Pers H H' → (∀ c ∈ R, c ≠ a → H' c = H c) → TRep K H' (.ref a) t rt → rt.Sublist [a] → ∃ R', SRep K H' σ (g.set i (some t)) R' ∧ R'.Sublist R := by
  obtain ⟨a, h1, h2, h4, h5⟩ := s.putG n e rfl
  cases h2 with
  | ml e1 e2 => exact ⟨a, _, h1, e1, e2, h4, h5⟩
end PP

namespace PP
open PySem PySem.Spec L2
open PyProof.Rows hiding St

/-! ### running on -/
/-- what is borrowed stays borrowed -/
def BorK (g g' : Ga) : Prop := ∀ (i : Nat) (t : Tv), g[i]? = some (some t) → t.bor = true → ∃ t' : Tv, g'[i]? = some (some t') ∧ t'.bor = true
theorem BorK.refl (g : Ga) : BorK g g := fun _ t e h => ⟨t, e, h⟩
theorem BorK.trans {g g1 g2 : Ga} (a : BorK g g1) (b : BorK g1 g2) : BorK g g2 := fun i t e h => by
  obtain ⟨t', e', h'⟩ := a i t e h
  exact b i t' e' h'
def Go (K : PySem.W.Frag) (σ : St) (R : List Addr) (H : Hp) (g g' : Ga) (H' : Hp) : Prop := BorK g g' ∧ ∃ R', SRep K H' σ g' R' ∧ R'.Nodup ∧ Ext R H H' ∧ New R H R'
theorem Go.refl {K : PySem.W.Frag} {σ : St} {R : List Addr} {H : Hp} {g : Ga} (s : SRep K H σ g R) (n : R.Nodup) : Go K σ R H g g H := ⟨BorK.refl g, R, s, n, Ext.refl R H, New.refl R H⟩
theorem Go.same {K : PySem.W.Frag} {σ : St} {R : List Addr} {H H' : Hp} {g : Ga} (s : SRep K H σ g R) (n : R.Nodup) (e : Same H H') : Go K σ R H g g H' := ⟨BorK.refl g, R, s.same e, n, Ext.of_same e, New.refl R H⟩
def tG {α β : Type} (rep : Hp → β → α → Prop) (K : PySem.W.Frag) (W : WX) (m : M α) : St → Hp → (β → Hp → Prop) → Prop := fun σ H Q =>
  ∃ g R, SRep K H σ g R ∧ R.Nodup ∧ match m g with
    | .ok a g' => ∀ b H', Go K σ R H g g' H' → rep H' b a → Q b H'
    | .exc c g' => ∀ H', Go K σ R H g g' H' → W (.ref (He.ga K c)) none σ H'
    | .stuck => False
theorem tG_bind {α β α' β' : Type} {rep1 : Hp → β → α → Prop} {rep2 : Hp → β' → α' → Prop} {K : PySem.W.Frag} {W : WX} {m : M α} {f : α → M α'} {σ : St} {H : Hp} {Q : β' → Hp → Prop} (h : tG rep2 K W (bnd m f) σ H Q) :
    tG rep1 K W m σ H (fun b1 H1 => ∃ a, rep1 H1 b1 a ∧ tG rep2 K W (f a) σ H1 Q) := by
  obtain ⟨g, R, s, n, h⟩ := h
  refine ⟨g, R, s, n, ?_⟩
  unfold bnd at h
  cases e : m g with
  | stuck => rw [e] at h; exact h
  | exc c g' => rw [e] at h; exact h
  | ok a g1 =>
    rw [e] at h
    intro b1 H1 go r1
    obtain ⟨bk1, R1, s1, n1, e1, w1⟩ := go
    refine ⟨a, r1, g1, R1, s1, n1, ?_⟩
    dsimp only at h
    cases e2 : f a g1 with
    | stuck => rw [e2] at h; exact h
    | exc c g' =>
      rw [e2] at h
      intro H2 go2
      obtain ⟨bk2, R2, s2, n2, x2, w2⟩ := go2
      exact h H2 ⟨bk1.trans bk2, R2, s2, n2, e1.trans w1 x2, New.trans e1 w1 w2⟩
    | ok a2 g2 =>
      rw [e2] at h
      intro b2 H2 go2 r2
      obtain ⟨bk2, R2, s2, n2, x2, w2⟩ := go2
      exact h b2 H2 ⟨bk1.trans bk2, R2, s2, n2, e1.trans w1 x2, New.trans e1 w1 w2⟩ r2
theorem tG_mono {α β : Type} {rep : Hp → β → α → Prop} {K : PySem.W.Frag} {W : WX} {m : M α} {σ : St} {H : Hp} {Q Q' : β → Hp → Prop} (h : tG rep K W m σ H Q) (k : ∀ b H', Pers H H' → Q b H' → Q' b H') : tG rep K W m σ H Q' := by
  obtain ⟨g, R, s, n, h⟩ := h
  refine ⟨g, R, s, n, ?_⟩
  cases e : m g with
  | stuck => rw [e] at h; exact h
  | exc c g' => rw [e] at h; exact h
  | ok a g1 =>
    rw [e] at h
    intro b1 H1 go r1
    have go' := go
    obtain ⟨_, R1, s1, n1, e1, w1⟩ := go'
    exact k b1 H1 (e1.pers s.live) (h b1 H1 go r1)
/-- a value reckoned from values -/
def lift {α : Type} (o : Option α) : M α := fun g => match o with
  | some a => .ok a g
  | none => .stuck
theorem tG_lift {α β : Type} {rep : Hp → β → α → Prop} {K : PySem.W.Frag} {W : WX} {o : Option α} {σ : St} {H : Hp} {Q : β → Hp → Prop} (h : tG rep K W (lift o) σ H Q) : ∃ a, o = some a ∧ ∀ b H', Same H H' → rep H' b a → Q b H' := by
  obtain ⟨g, R, s, n, h⟩ := h
  cases o with
  | none => exact h.elim
  | some a => exact ⟨a, rfl, fun b H' e r => h b H' (Go.same s n e) r⟩

/-! ### the judgements -/
abbrev tD (K : PySem.W.Frag) (W : WX) (m : M D) : TE := tG (Fz K) K W m
abbrev tAD (K : PySem.W.Frag) (W : WX) (m : M (List D)) : TA := tG (FzAll K) K W m
abbrev tTD (K : PySem.W.Frag) (W : WX) (m : M Bool) : TT := tG (fun _ b a => b = a) K W m
def RE (X : Cx) (W : WX) (e : Expr) (m : M D) : Prop := PE X e (tD X.K W m)
def RT (X : Cx) (W : WX) (e : Expr) (m : M Bool) : Prop := PT X e (tTD X.K W m)
def RW (X : Cx) (W : WX) (e : Expr) (m : M Bool) : Prop := PW X e (tTD X.K W m)
def RA (X : Cx) (W : WX) (es : List Expr) (m : M (List D)) : Prop := PA X es (tAD X.K W m)
theorem PE.imp {X : Cx} {e : Expr} {t t' : TE} (h : PE X e t) (k : ∀ σ H Q, t' σ H Q → t σ H Q) : PE X e t' := ⟨fun pins s σ H Q I q => h.run pins s σ H Q I (k σ H Q q)⟩
theorem PT.imp {X : Cx} {e : Expr} {t t' : TT} (h : PT X e t) (k : ∀ σ H Q, t' σ H Q → t σ H Q) : PT X e t' := ⟨fun pins s σ H Q I q => h.run pins s σ H Q I (k σ H Q q)⟩
theorem PW.imp {X : Cx} {e : Expr} {t t' : TT} (h : PW X e t) (k : ∀ σ H Q, t' σ H Q → t σ H Q) : PW X e t' := ⟨fun wh pins s σ H Q I q => h.run wh pins s σ H Q I (k σ H Q q)⟩
theorem PA.imp {X : Cx} {e : List Expr} {t t' : TA} (h : PA X e t) (k : ∀ σ H Q, t' σ H Q → t σ H Q) : PA X e t' := ⟨fun pos pins s σ H Q I q => h.run pos pins s σ H Q I (k σ H Q q)⟩
theorem PS.imp {X : Cx} {e : Stmt} {t t' : TS} (h : PS X e t) (k : ∀ D σ H, t' D σ H → t D σ H) : PS X e t' := ⟨fun pins s σ H D I q => h.run pins s σ H D I (k D σ H q)⟩
theorem PSs.imp {X : Cx} {e : List Stmt} {t t' : TS} (h : PSs X e t) (k : ∀ D σ H, t' D σ H → t D σ H) : PSs X e t' := ⟨fun pins s σ H D I q => h.run pins s σ H D I (k D σ H q)⟩

/-! ### names and constants -/
def eVar (i : Nat) : M D := fun g => match g[i]? with
  | some (some (.d x)) => .ok x g
  | _ => .stuck
def eC (x : D) : M D := fun g => .ok x g
section
variable {X : Cx} {W : WX}
theorem tC_of {v : V} {x : D} (hf : ∀ H, Fz X.K H v x) {σ : St} {H : Hp} {Q : VK} (h : tD X.K W (eC x) σ H Q) : tC v σ H Q := by
  obtain ⟨g, R, s, n, h⟩ := h
  exact h v H (Go.refl s n) (hf H)
theorem r_int {i j pos} : RE X W (.Constant (.int i) j pos) (eC (.int i)) := PE.imp pe_int fun _ _ _ h => tC_of (fun _ => .int i) h
theorem r_bl {b j pos} : RE X W (.Constant (.bool b) j pos) (eC (.bool b)) := PE.imp pe_bl fun _ _ _ h => tC_of (fun _ => .bl b) h
theorem r_non {j pos} : RE X W (.Constant .none j pos) (eC .none) := PE.imp pe_non fun _ _ _ h => tC_of (fun _ => .non) h
theorem r_str {x j pos} : RE X W (.Constant (.str x) j pos) (eC (.str x)) := PE.imp pe_str fun _ _ _ h => tC_of (fun _ => .str x) h
theorem r_var (i : Nat) {x : Str} {pos : Pos} (hN : X.N[i]? = some x := by rfl) (hv : Vis X.env.scope x := by first | exact Or.inl rfl | exact Or.inr (Or.inl rfl) | exact Or.inr (Or.inr rfl)) (hd : (x == ("__debug__" : Str)) = false := by decide)
    (hcd : (x == ("__classdict__" : Str)) = false := by decide) : RE X W (.Name x pos) (eVar i) := PE.imp (pe_var hN hv hd hcd) fun σ H Q h => by
  obtain ⟨g, R, s, n, h⟩ := h
  unfold eVar at h
  split at h
  next x g' e =>
    split at e
    · rename_i y q
      cases e
      obtain ⟨v, rt, h1, h2, h3⟩ := s.get q
      cases h2 with
      | d f => exact ⟨v, h1, h v H (Go.refl s n) f⟩
    · cases e
  next e => split at e <;> cases e
  next e => exact h.elim

/-! ### one, two values -/
def ap1 {α : Type} (f : D → Option α) (a : M D) : M α := bnd a fun x => lift (f x)
def ap2 {α : Type} (f : D → D → Option α) (a b : M D) : M α := bnd a fun x => bnd b fun y => lift (f x y)
def apA {α : Type} (f : List D → Option α) (a : M (List D)) : M α := bnd a fun x => lift (f x)
theorem tD1 {α β : Type} {rep : Hp → β → α → Prop} {f : D → Option α} {a : M D} {σ : St} {H : Hp} {Q : β → Hp → Prop} (h : tG rep X.K W (ap1 f a) σ H Q) :
    tD X.K W a σ H fun v H1 => ∃ x, Fz X.K H1 v x ∧ ∃ c, f x = some c ∧ ∀ b H', Same H1 H' → rep H' b c → Q b H' :=
  tG_mono (tG_bind h) fun v H1 _ ⟨x, r, q⟩ => ⟨x, r, tG_lift q⟩
theorem tD2 {α β : Type} {rep : Hp → β → α → Prop} {f : D → D → Option α} {a b : M D} {σ : St} {H : Hp} {Q : β → Hp → Prop} (h : tG rep X.K W (ap2 f a b) σ H Q) :
    tD X.K W a σ H fun v H1 => tD X.K W b σ H1 fun u H2 => ∃ x y, Fz X.K H2 v x ∧ Fz X.K H2 u y ∧ ∃ c, f x y = some c ∧ ∀ b H', Same H2 H' → rep H' b c → Q b H' :=
  tG_mono (tG_bind h) fun v H1 _ ⟨x, r, q⟩ => tG_mono (tG_bind q) fun u H2 p ⟨y, r2, q2⟩ => ⟨x, y, r.pers p, r2, tG_lift q2⟩
theorem tDA {α β : Type} {rep : Hp → β → α → Prop} {f : List D → Option α} {a : M (List D)} {σ : St} {H : Hp} {Q : β → Hp → Prop} (h : tG rep X.K W (apA f a) σ H Q) :
    tAD X.K W a σ H fun v H1 => ∃ x, FzAll X.K H1 v x ∧ ∃ c, f x = some c ∧ ∀ b H', Same H1 H' → rep H' b c → Q b H' :=
  tG_mono (tG_bind h) fun v H1 _ ⟨x, r, q⟩ => ⟨x, r, tG_lift q⟩
/-- by values: an operator, a call, a method -/
def rO1 (K : PySem.W.Frag) (f : D → Option D) : V → Hp → VK → Prop := fun v H Q => ∃ x, Fz K H v x ∧ ∃ c, f x = some c ∧ ∀ b H', Same H H' → Fz K H' b c → Q b H'
def rO2 (K : PySem.W.Frag) (f : D → D → Option D) : R2 := fun v u H Q => ∃ x y, Fz K H v x ∧ Fz K H u y ∧ ∃ c, f x y = some c ∧ ∀ b H', Same H H' → Fz K H' b c → Q b H'
def rOA (K : PySem.W.Frag) (f : List D → Option D) : List V → Hp → VK → Prop := fun vs H Q => ∃ xs, FzAll K H vs xs ∧ ∃ c, f xs = some c ∧ ∀ b H', Same H H' → Fz K H' b c → Q b H'
variable {a b : Expr} {ma mb : M D} {pos : Pos}
theorem r_bin {o : Operator} {f : D → D → Option D} (ho : OpR X (binaryOp o) (rO2 X.K f)) (ha : RE X W a ma) (hb : RE X W b mb) : RE X W (.BinOp a o b pos) (ap2 f ma mb) := PE.imp (pe_op ho ha hb) fun _ _ _ h => tD2 h
theorem r_cmp {o : CmpOp} {f : D → D → Option D} (ho : OpR X (compareOp o) (rO2 X.K f)) (ha : RE X W a ma) (hb : RE X W b mb) (hm : behindInMarks o b = false := by first | exact nomark _ | rfl) : RE X W (.Compare a [o] [b] pos) (ap2 f ma mb) :=
  PE.imp (pe_cmpR ho ha hb hm) fun _ _ _ h => tD2 h
theorem r_un {o : UnaryOp} {f : D → Option D} (ho : UnR X (unaryOp o) (rO1 X.K f)) (ha : RE X W a ma) : RE X W (.UnaryOp o a pos) (ap1 f ma) := PE.imp (pe_un ho ha) fun _ _ _ h => tD1 h
theorem r_nil : RA X W [] (fun g => .ok [] g) := PA.imp pa_nil fun σ H Q h => by
  obtain ⟨g, R, s, n, h⟩ := h
  exact h [] H (Go.refl s n) .nil
def aCons (a : M D) (b : M (List D)) : M (List D) := bnd a fun x => bnd b fun xs => fun g => .ok (x :: xs) g
theorem r_cons {es : List Expr} {m : M (List D)} (ha : RE X W a ma) (hr : RA X W es m) (hs : starEach (a :: es) X.env = (false, eval a X.env) :: starEach es X.env := by rfl) : RA X W (a :: es) (aCons ma m) :=
  PA.imp (pa_cons ha hr hs) fun σ H Q h => tG_mono (tG_bind (rep1 := Fz X.K) h) fun v H1 _ ⟨x, r, q⟩ => tG_mono (tG_bind (rep1 := FzAll X.K) q) fun vs H2 p ⟨xs, r2, q2⟩ => by
    obtain ⟨g, R, s, n, h⟩ := q2
    exact h (v :: vs) H2 (Go.refl s n) (.cons (r.pers p) r2)
end
end PP

namespace PP
open PySem PySem.Spec L2
open PyProof.Rows hiding St

/-! ### truth -/
def truD : D → Option Bool
  | .none => some false
  | .bool b => some b
  | .int i => some (i != 0)
  | .str x => if x.length ≤ sizeLine then some ((x.length : Int) != 0) else none
  | .list xs => some (!xs.isEmpty)
  | .tuple xs => some (!xs.isEmpty)
  | .dict _ => none
theorem truV_of {K : PySem.W.Frag} {H : Hp} {v : V} {x : D} {k : Bool} (h : Fz K H v x) (e : truD x = some k) : TruV K v H k := by
  cases h with
  | non => cases e; rfl
  | bl b => cases e; rfl
  | int i => cases e; rfl
  | str x =>
    simp only [truD] at e
    split at e
    · rename_i hl
      cases e
      exact ⟨hl, rfl⟩
    · cases e
  | lst h a =>
    cases e
    refine .inl ⟨_, h.sq, ?_⟩
    cases a <;> rfl
  | tup h a =>
    cases e
    refine .inr (.inl ⟨_, h.sq, ?_⟩)
    cases a <;> rfl
  | dK h a => cases e
  | dT h a => cases e
def asB : D → Option Bool
  | .bool b => some b
  | _ => none
def tru (m : M D) : M Bool := ap1 truD m
def tst (m : M D) : M Bool := ap1 asB m
section
variable {X : Cx} {W : WX} {a b c : Expr} {ma mb mc : M D} {pos : Pos}
theorem r_tru (ha : RE X W a ma) (he : ∀ whole, isTrue a X.env whole = (do let v ← whole; standAt a.pos; holding [v] (truthy v)) := by intro _; rfl) : RT X W a (tru ma) :=
  PT.imp (pt_truth ha he) fun σ H Q h => tG_mono (tD1 h) fun v H1 _ ⟨x, f, k, e, q⟩ => ⟨k, truV_of f e, q k H1 (Same.refl _) rfl⟩
theorem asB_of {v : V} {z : D} {k : Bool} {K : PySem.W.Frag} {H : Hp} (f : Fz K H v z) (e : asB z = some k) : v = .bl k := by
  cases f <;> cases e
  rfl
theorem tst_of {m : M D} {σ : St} {H : Hp} {Q : Bool → Hp → Prop} (h : tTD X.K W (tst m) σ H Q) : tTest (tD X.K W m) σ H Q :=
  tG_mono (tD1 h) fun v H1 _ ⟨z, f, k, e, q⟩ => ⟨k, asB_of f e, q k H1 (Same.refl _) rfl⟩
theorem r_tcmp {o : CmpOp} {f : D → D → Option D} (ho : OpR X (compareOp o) (rO2 X.K f)) (ha : RE X W a ma) (hb : RE X W b mb) (hm : behindInMarks o b = false := by first | exact nomark _ | rfl) : RT X W (.Compare a [o] [b] pos) (tst (ap2 f ma mb)) :=
  PT.imp (pt_cmpR ho ha hb hm) fun σ H Q h => by
    have := tst_of h
    exact tD2 this
/-- a op b op' c -/
def eChain (f f' : D → D → Option D) (a b c : M D) : M D := bnd a fun x => bnd b fun y => match f x y with
  | some (.bool true) => bnd c fun z => lift (f' y z)
  | some (.bool false) => fun g => .ok (.bool false) g
  | _ => fun _ => .stuck
theorem chain_of {f f' : D → D → Option D} {σ : St} {H : Hp} {Q : VK} (h : tD X.K W (eChain f f' ma mb mc) σ H Q) : tChain (rO2 X.K f) (rO2 X.K f') (tD X.K W ma) (tD X.K W mb) (tD X.K W mc) σ H Q := by
  refine tG_mono (tG_bind h) fun v H1 _ ⟨x, r, q⟩ => tG_mono (tG_bind q) fun u H2 p ⟨y, r2, q2⟩ => ?_
  have rx := r.pers p
  refine ⟨x, y, rx, r2, ?_⟩
  cases e : f x y with
  | none => rw [e] at q2; obtain ⟨_, _, _, _, q2⟩ := q2; exact q2.elim
  | some d =>
    rw [e] at q2
    cases d with
    | bool k =>
      refine ⟨_, rfl, fun bv H' sm fb => ?_⟩
      cases fb
      refine ⟨k, rfl, ?_⟩
      cases k with
      | true =>
        dsimp only at q2
        rw [if_pos rfl]
        obtain ⟨g, R, s, n, q2⟩ := q2
        have q3 : tD X.K W (bnd mc fun z => lift (f' y z)) σ H' Q := by
          refine ⟨g, R, s.same sm, n, ?_⟩
          cases e2 : (bnd mc (fun z => lift (f' y z)) g) with
          | stuck => rw [e2] at q2; exact q2
          | exc c g' =>
            rw [e2] at q2
            intro H2 go
            obtain ⟨bk, R2, s2, n2, x2, w2⟩ := go
            exact q2 H2 ⟨bk, R2, s2, n2, (Ext.of_same sm).trans (New.refl _ _) x2, New.trans (Ext.of_same sm) (New.refl _ _) w2⟩
          | ok a2 g2 =>
            rw [e2] at q2
            intro b2 H2 go r2
            obtain ⟨bk, R2, s2, n2, x2, w2⟩ := go
            exact q2 b2 H2 ⟨bk, R2, s2, n2, (Ext.of_same sm).trans (New.refl _ _) x2, New.trans (Ext.of_same sm) (New.refl _ _) w2⟩ r2
        refine tG_mono (tG_bind q3) fun w H4 p4 ⟨z, r4, q4⟩ => ?_
        obtain ⟨c, e5, q5⟩ := tG_lift q4
        exact ⟨y, z, (r2.pers (Pers.of_same sm)).pers p4, r4, c, e5, q5⟩
      | false =>
        dsimp only at q2
        rw [if_neg Bool.false_ne_true]
        obtain ⟨g, R, s, n, q2⟩ := q2
        exact q2 (.bl false) H' (Go.same s n sm) (.bl false)
    | _ => obtain ⟨_, _, _, _, q2⟩ := q2; exact q2.elim
theorem r_chain {o o' : CmpOp} {f f' : D → D → Option D} (ho : OpR X (compareOp o) (rO2 X.K f)) (ho' : OpR X (compareOp o') (rO2 X.K f')) (ha : RE X W a ma) (hb : RE X W b mb) (hc : RE X W c mc) (hm : lastMarks [o, o'] [b, c] = false := by with_unfolding_all rfl) :
    RE X W (.Compare a [o, o'] [b, c] pos) (eChain f f' ma mb mc) := PE.imp (pe_chain ho ho' ha hb hc hm) fun _ _ _ h => chain_of h
theorem r_tchain {o o' : CmpOp} {f f' : D → D → Option D} (ho : OpR X (compareOp o) (rO2 X.K f)) (ho' : OpR X (compareOp o') (rO2 X.K f')) (ha : RE X W a ma) (hb : RE X W b mb) (hc : RE X W c mc) (hm : lastMarks [o, o'] [b, c] = false := by with_unfolding_all rfl) :
    RT X W (.Compare a [o, o'] [b, c] pos) (tst (eChain f f' ma mb mc)) := PT.imp (pt_chain ho ho' ha hb hc hm) fun _ _ _ h => chain_of (tst_of h)

/-! ### and, or, not -/
def mNot (t : M Bool) : M Bool := bnd t fun k g => .ok (!k) g
def mAnd (t u : M Bool) : M Bool := bnd t fun k => if k = true then u else fun g => .ok false g
def mOr (t u : M Bool) : M Bool := bnd t fun k => if k = true then fun g => .ok true g else u
variable {ta tb : M Bool} {rest : List Expr}
theorem tG_ret {α β : Type} {rep : Hp → β → α → Prop} {x : α} {σ : St} {H : Hp} {Q : β → Hp → Prop} (h : tG rep X.K W (fun g => .ok x g) σ H Q) {b : β} (r : rep H b x) : Q b H := by
  obtain ⟨g, R, s, n, h⟩ := h
  exact h b H (Go.refl s n) r
theorem r_tnot (ha : RT X W a ta) : RT X W (.UnaryOp .Not a pos) (mNot ta) := PT.imp (pt_not ha) fun σ H Q h => tG_mono (tG_bind h) fun c H1 _ ⟨k, e, q⟩ => by
  subst e
  exact tG_ret q rfl
theorem r_tand (ha : RT X W a ta) (hb : RW X W (.BoolOp .And (b :: rest) pos) tb) : RW X W (.BoolOp .And (a :: b :: rest) pos) (mAnd ta tb) := PW.imp (pw_and ha hb) fun σ H Q h => tG_mono (tG_bind h) fun c H1 _ ⟨k, e, q⟩ => by
  subst e
  cases c with
  | true => exact q
  | false => exact tG_ret q rfl
theorem r_tor (ha : RT X W a ta) (hb : RW X W (.BoolOp .Or (b :: rest) pos) tb) : RW X W (.BoolOp .Or (a :: b :: rest) pos) (mOr ta tb) := PW.imp (pw_or ha hb) fun σ H Q h => tG_mono (tG_bind h) fun c H1 _ ⟨k, e, q⟩ => by
  subst e
  cases c with
  | true => exact tG_ret q rfl
  | false => exact q
theorem r_tand1 (ha : RT X W a ta) : RW X W (.BoolOp .And [a] pos) ta := pw_and1 ha
theorem r_tor1 (ha : RT X W a ta) : RW X W (.BoolOp .Or [a] pos) ta := pw_or1 ha
theorem r_tw (h : RW X W a ta) : RT X W a ta := PW.pt h
/-- as values -/
def eNot (m : M D) : M D := bnd m fun x => lift ((truD x).map fun k => .bool (!k))
def eAnd (m u : M D) : M D := bnd m fun x => match truD x with
  | some true => u
  | some false => fun g => .ok x g
  | none => fun _ => .stuck
def eOr (m u : M D) : M D := bnd m fun x => match truD x with
  | some true => fun g => .ok x g
  | some false => u
  | none => fun _ => .stuck
theorem r_not (ha : RE X W a ma) : RE X W (.UnaryOp .Not a pos) (eNot ma) := PE.imp (pe_notT ha) fun σ H Q h => tG_mono (tG_bind h) fun v H1 _ ⟨x, r, q⟩ => by
  obtain ⟨z, e, q⟩ := tG_lift q
  cases t : truD x with
  | none => rw [t] at e; cases e
  | some k =>
    rw [t] at e
    cases e
    exact ⟨k, truV_of r t, q (.bl (!k)) H1 (Same.refl _) (.bl _)⟩
theorem r_and (ha : RE X W a ma) (hb : RE X W (.BoolOp .And (b :: rest) pos) mb) : RE X W (.BoolOp .And (a :: b :: rest) pos) (eAnd ma mb) := PE.imp (pe_andT ha hb) fun σ H Q h => tG_mono (tG_bind h) fun v H1 _ ⟨x, r, q⟩ => by
  cases t : truD x with
  | none => rw [t] at q; obtain ⟨_, _, _, _, q⟩ := q; exact q.elim
  | some k =>
    rw [t] at q
    refine ⟨k, truV_of r t, ?_⟩
    cases k with
    | true => exact q
    | false => exact tG_ret q r
theorem r_or (ha : RE X W a ma) (hb : RE X W (.BoolOp .Or (b :: rest) pos) mb) : RE X W (.BoolOp .Or (a :: b :: rest) pos) (eOr ma mb) := PE.imp (pe_orT ha hb) fun σ H Q h => tG_mono (tG_bind h) fun v H1 _ ⟨x, r, q⟩ => by
  cases t : truD x with
  | none => rw [t] at q; obtain ⟨_, _, _, _, q⟩ := q; exact q.elim
  | some k =>
    rw [t] at q
    refine ⟨k, truV_of r t, ?_⟩
    cases k with
    | true => exact tG_ret q r
    | false => exact q
theorem r_one {op} (h : RE X W a ma) : RE X W (.BoolOp op [a] pos) ma := pe_one h
def eIf {α : Type} (t : M Bool) (a b : M α) : M α := bnd t fun k => if k = true then a else b
theorem r_ifE (hc : RT X W c ta) (ha : RE X W a ma) (hb : RE X W b mb) : RE X W (.IfExp c a b pos) (eIf ta ma mb) := PE.imp (pe_ifExp hc ha hb) fun σ H Q h => tG_mono (tG_bind h) fun c H1 _ ⟨k, e, q⟩ => by
  subst e
  cases c with
  | true => exact q
  | false => exact q

/-! ### displays -/
theorem Same.upd {H : Hp} {p : Addr} {o : HO} (h : H p = none) : Same H (L2.upd H p o) := fun b x e => by
  rw [upd_ne (ne_of_none e h)]
  exact e
def eTup (m : M (List D)) : M D := bnd m fun xs => lift (if xs.length ≤ sizeLine then some (.tuple xs) else none)
theorem pe_tupX {es : List Expr} {t : TA} {x1} (h : PA X es t) : PE X (.Tuple es x1 pos) (fun σ H Q => t σ H fun xs H1 => xs.length ≤ sizeLine ∧ ∀ p o, H1 p = none → o.dict = none → Q (.ref p) (L2.upd H1 p (tupO o xs))) := by
  refine ⟨fun pins s σ H Q I hq => ?_⟩
  refine wpAny_Tuple_spliced (thn (h.run pos pins s σ H _ I hq) fun us s1 ⟨xs, H1, I1, r, z, q⟩ => ⟨by rw [← r.length]; exact z, ?_⟩)
  have hf : H1 s1.heap.objs.size = none := I1.hok.fresh (Nat.le_refl _)
  exact ⟨.ref s1.heap.objs.size, _, I1.laid (t' := s1.toks) (fun b u e => Heap.get?_push_of_some _ e) (Nat.le_refl _) (tupO_ok (Heap.get?_push_size _ rfl) rfl rfl r z), rfl, q _ _ hf rfl⟩
theorem r_tup {es : List Expr} {m : M (List D)} {x1} (h : RA X W es m) : RE X W (.Tuple es x1 pos) (eTup m) := PE.imp (pe_tupX h) fun σ H Q h => tG_mono (tG_bind h) fun vs H1 _ ⟨xs, r, q⟩ => by
  obtain ⟨z, e, q⟩ := tG_lift q
  split at e
  · rename_i hl
    cases e
    refine ⟨by rw [r.length]; exact hl, fun p o np hd => q _ _ (Same.upd np) (.tup (.new hd) (r.pers (.of_same (Same.upd np))))⟩
  · cases e
/-- a list just made is known as it is from now on -/
theorem pe_fz {e : Expr} {t : TE} (h : PE X e t) : PE X e (fun σ H Q => t σ H fun v H1 => ∃ p u, v = .ref p ∧ H1 p = some u ∧ Mut (some u) ∧ ∀ o, Q v (L2.upd H1 p (.frz o u))) := by
  refine ⟨fun pins s σ H Q I hw => ?_⟩
  refine thn (h.run pins s σ H _ I hw) fun v s1 ⟨x, H1, I1, r, p, u, e, hu, mu, q⟩ => ?_
  subst e
  obtain ⟨od, I2⟩ := I1.lock hu mu
  exact ⟨.ref p, _, I2, r, q od⟩
def eLst (m : M (List D)) : M D := bnd m fun xs => lift (if xs.length ≤ sizeLine then some (.list xs) else none)
theorem fz_new {K : PySem.W.Frag} {H1 : Hp} {p : Addr} {vs : List V} {xs : List D} {o : Obj} (np : H1 p = none) (r : FzAll K H1 vs xs) : Same H1 (L2.upd (L2.upd H1 p (.lst vs)) p (.frz o (.lst vs))) ∧ Fz K (L2.upd (L2.upd H1 p (.lst vs)) p (.frz o (.lst vs))) (.ref p) (.list xs) := by
  rw [upd_upd]
  exact ⟨Same.upd np, .lst (.inl ⟨o, upd_same⟩) (r.pers (.of_same (Same.upd np)))⟩
theorem r_lst {es : List Expr} {m : M (List D)} (h : RA X W es m) : RE X W (.List es pos) (eLst m) := PE.imp (pe_fz (pe_lst h)) fun σ H Q h => tG_mono (tG_bind h) fun vs H1 _ ⟨xs, r, q⟩ => by
  obtain ⟨z, e, q⟩ := tG_lift q
  split at e
  · rename_i hl
    cases e
    refine ⟨by rw [r.length]; exact hl, fun p np => ⟨p, _, rfl, upd_same, trivial, fun o => ?_⟩⟩
    obtain ⟨h1, h2⟩ := fz_new (o := o) np r
    exact q _ _ h1 h2
  · cases e
end
end PP

namespace PP
open PySem PySem.Spec L2
open PyProof.Rows hiding St

/-! ### statements -/
inductive Fl where
  | nx | brk | cnt
  | ret (x : D)
def Kp (g : Ga) (σ σ' : St) : Prop := ∀ (i : Nat) (t : Tv), g[i]? = some (some t) → t.bor = true → σ'[i]? = σ[i]?
theorem Kp.refl (g : Ga) (σ : St) : Kp g σ σ := fun _ _ _ _ => rfl
theorem Kp.trans {g g1 : Ga} {σ σ1 σ2 : St} (a : Kp g σ σ1) (b : BorK g g1) (c : Kp g1 σ1 σ2) : Kp g σ σ2 := fun i t e h => by
  obtain ⟨t', e', h'⟩ := b i t e h
  exact (c i t' e' h').trans (a i t e h)
def GoS (K : PySem.W.Frag) (g : Ga) (σ : St) (R : List Addr) (H : Hp) (g' : Ga) (σ' : St) (H' : Hp) : Prop :=
  BorK g g' ∧ Kp g σ σ' ∧ ∃ R', SRep K H' σ' g' R' ∧ R'.Nodup ∧ Ext R H H' ∧ New R H R'
theorem Go.s {K : PySem.W.Frag} {σ : St} {R : List Addr} {H H' : Hp} {g g' : Ga} (h : Go K σ R H g g' H') : GoS K g σ R H g' σ H' := ⟨h.1, Kp.refl g σ, h.2⟩
def Fl.end (K : PySem.W.Frag) (D : Ends) (σ : St) (H : Hp) : Fl → Prop
  | .nx => D.nx σ H
  | .brk => D.bk σ H
  | .cnt => D.ct σ H
  | .ret x => ∀ v, Fz K H v x → D.rt v H
def tS (K : PySem.W.Frag) (W : WX) (m : M Fl) : TS := fun D σ H => ∃ g R, SRep K H σ g R ∧ R.Nodup ∧ match m g with
  | .ok f g' => ∀ σ' H', GoS K g σ R H g' σ' H' → f.end K D σ' H'
  | .exc c g' => ∀ σ' H', GoS K g σ R H g' σ' H' → W (.ref (He.ga K c)) none σ' H'
  | .stuck => False
def RS (X : Cx) (W : WX) (st : Stmt) (m : M Fl) : Prop := PS X st (tS X.K W m)
def RSs (X : Cx) (W : WX) (st : List Stmt) (m : M Fl) : Prop := PSs X st (tS X.K W m)
/-- behind a part of it: the rest, from where one stands -/
theorem GoS.then {K : PySem.W.Frag} {g g1 g2 : Ga} {σ σ1 σ2 : St} {R R1 : List Addr} {H H1 H2 : Hp} (b1 : BorK g g1) (k1 : Kp g σ σ1) (e1 : Ext R H H1) (w1 : New R H R1) (h : GoS K g1 σ1 R1 H1 g2 σ2 H2) : GoS K g σ R H g2 σ2 H2 := by
  obtain ⟨b2, k2, R2, s2, n2, e2, w2⟩ := h
  exact ⟨b1.trans b2, k1.trans b1 k2, R2, s2, n2, e1.trans w1 e2, New.trans e1 w1 w2⟩
theorem tS_bind {α β : Type} {rep : Hp → β → α → Prop} {K : PySem.W.Frag} {W : WX} {m : M α} {f : α → M Fl} {D : Ends} {σ : St} {H : Hp} (h : tS K W (bnd m f) D σ H) :
    tG rep K W m σ H (fun b H1 => ∃ a, rep H1 b a ∧ tS K W (f a) D σ H1) := by
  obtain ⟨g, R, s, n, h⟩ := h
  refine ⟨g, R, s, n, ?_⟩
  unfold bnd at h
  cases e : m g with
  | stuck => rw [e] at h; exact h
  | exc c g' => rw [e] at h; exact fun H' go => h σ H' go.s
  | ok a g1 =>
    rw [e] at h
    intro b1 H1 go r1
    obtain ⟨bk1, R1, s1, n1, e1, w1⟩ := go
    refine ⟨a, r1, g1, R1, s1, n1, ?_⟩
    dsimp only at h
    cases e2 : f a g1 with
    | stuck => rw [e2] at h; exact h
    | exc c g' => rw [e2] at h; exact fun σ' H' go => h σ' H' (go.then bk1 (Kp.refl g σ) e1 w1)
    | ok a g' => rw [e2] at h; exact fun σ' H' go => h σ' H' (go.then bk1 (Kp.refl g σ) e1 w1)
theorem tS_ok {K : PySem.W.Frag} {W : WX} {f : Fl} {D : Ends} {σ : St} {H : Hp} (h : tS K W (fun g => .ok f g) D σ H) : f.end K D σ H := by
  obtain ⟨g, R, s, n, h⟩ := h
  exact h σ H (Go.refl s n).s
section
variable {X : Cx} {W : WX} {st : Stmt} {rest : List Stmt} {a b e : Expr} {pos : Pos}
def sSeq (m k : M Fl) : M Fl := fun g => match m g with
  | .ok .nx g' => k g'
  | r => r
theorem r_seq {m k : M Fl} (h1 : RS X W st m) (h2 : RSs X W rest k) : RSs X W (st :: rest) (sSeq m k) := PSs.imp (pss_cons h1 h2) fun D σ H h => by
  obtain ⟨g, R, s, n, h⟩ := h
  refine ⟨g, R, s, n, ?_⟩
  unfold sSeq at h
  cases e : m g with
  | stuck => rw [e] at h; exact h
  | exc c g' => rw [e] at h; exact h
  | ok f g1 =>
    rw [e] at h
    cases f with
    | brk => exact h
    | cnt => exact h
    | ret x => exact h
    | nx =>
      intro σ1 H1 go
      obtain ⟨b1, k1, R1, s1, n1, e1, w1⟩ := go
      refine ⟨g1, R1, s1, n1, ?_⟩
      dsimp only at h
      cases e2 : k g1 with
      | stuck => rw [e2] at h; exact h
      | exc c g' => rw [e2] at h; exact fun σ' H' go => h σ' H' (go.then b1 k1 e1 w1)
      | ok a g' => rw [e2] at h; exact fun σ' H' go => h σ' H' (go.then b1 k1 e1 w1)
theorem r_end {m : M Fl} (h1 : RS X W st m) : RSs X W [st] m := pss_one h1
theorem r_empty : RSs X W [] (fun g => .ok .nx g) := PSs.imp pss_nil fun D σ H h => tS_ok h
theorem r_pass : RS X W (.Pass pos) (fun g => .ok .nx g) := PS.imp ps_pass fun D σ H h => tS_ok h
theorem r_brk : RS X W (.Break pos) (fun g => .ok .brk g) := PS.imp ps_break fun D σ H h => tS_ok h
theorem r_cnt : RS X W (.Continue pos) (fun g => .ok .cnt g) := PS.imp ps_continue fun D σ H h => tS_ok h
def sRet (m : M D) : M Fl := bnd m fun x g => .ok (.ret x) g
theorem r_ret {m : M D} (h : RE X W e m) : RS X W (.Return (some e) pos) (sRet m) := PS.imp (ps_ret h) fun D σ H h => tG_mono (tS_bind h) fun v H1 _ ⟨x, r, q⟩ => tS_ok q v r
theorem r_retN : RS X W (.Return none pos) (fun g => .ok (.ret .none) g) := PS.imp ps_retN fun D σ H h => tS_ok h .non .non
def sDrop (m : M D) : M Fl := bnd m fun _ g => .ok .nx g
theorem r_expr {m : M D} (h : RE X W e m) (hs : swapsWith e none pos.line X.env = pure false := by rfl) : RS X W (.Expr e pos) (sDrop m) := PS.imp (ps_expr h hs) fun D σ H h => tG_mono (tS_bind h) fun v H1 _ ⟨x, r, q⟩ => tS_ok q
def sIf (t : M Bool) (a b : M Fl) : M Fl := bnd t fun k => if k = true then a else b
theorem r_if {c : Expr} {ss us : List Stmt} {t : M Bool} {m k : M Fl} (hc : RT X W c t) (ha : RSs X W ss m) (hb : RSs X W us k) : RS X W (.If c ss us pos) (sIf t m k) := PS.imp (ps_if hc ha hb) fun D σ H h => tG_mono (tS_bind h) fun c H1 _ ⟨k, e, q⟩ => by
  subst e
  cases c with
  | true => exact q
  | false => exact q

/-! ### targets -/
def freeAt (g : Ga) (i : Nat) : Bool := match g[i]? with
  | some none => true
  | some (some t) => !t.bor
  | none => false
theorem freeAt_lt {g : Ga} {i : Nat} (h : freeAt g i = true) : i < g.length := by
  unfold freeAt at h
  cases e : g[i]? with
  | none => rw [e] at h; cases h
  | some o => exact (List.getElem?_eq_some_iff.mp e).1
theorem freeAt_bor {g : Ga} {i : Nat} {t : Tv} (h : freeAt g i = true) (e : g[i]? = some (some t)) : t.bor = false := by
  unfold freeAt at h
  rw [e] at h
  simpa using h
theorem borK_set {g : Ga} {i : Nat} {o : Option Tv} (h : freeAt g i = true) : BorK g (g.set i o) := fun j t e b => by
  by_cases hj : i = j
  · subst hj
    rw [freeAt_bor h e] at b
    cases b
  · exact ⟨t, by rw [List.getElem?_set_ne hj]; exact e, b⟩
theorem kp_set {g : Ga} {σ : St} {i : Nat} {o : Option V} (h : freeAt g i = true) : Kp g σ (σ.set i o) := fun j t e b => by
  by_cases hj : i = j
  · subst hj
    rw [freeAt_bor h e] at b
    cases b
  · rw [List.getElem?_set_ne hj]
abbrev Bd := D → Ga → Option Ga
/-- only slots of vs are set -/
def Ch (vs : List Nat) (σ σ' : St) : Prop := σ'.length = σ.length ∧ ∀ i : Nat, i ∉ vs → σ'[i]? = σ[i]?
theorem Ch.refl (vs : List Nat) (σ : St) : Ch vs σ σ := ⟨rfl, fun _ _ => rfl⟩
theorem Ch.trans {vs us : List Nat} {σ σ1 σ2 : St} (a : Ch vs σ σ1) (b : Ch us σ1 σ2) : Ch (vs ++ us) σ σ2 := ⟨b.1.trans a.1, fun i hi => by
  rw [List.mem_append, not_or] at hi
  exact (b.2 i hi.2).trans (a.2 i hi.1)⟩
theorem Ch.mono {vs us : List Nat} {σ σ1 : St} (a : Ch vs σ σ1) (h : ∀ i ∈ vs, i ∈ us) : Ch us σ σ1 := ⟨a.1, fun i hi => a.2 i fun z => hi (h i z)⟩
def tBd (K : PySem.W.Frag) (vs : List Nat) (b : Bd) : TG := fun v σ H Q => ∃ g R x g', SRep K H σ g R ∧ R.Nodup ∧ Fz K H v x ∧ b x g = some g' ∧ ∀ σ', Ch vs σ σ' → BorK g g' → Kp g σ σ' → (∃ R', SRep K H σ' g' R' ∧ R'.Nodup ∧ ∀ a ∈ R', a ∈ R) → Q σ' H
def RG (X : Cx) (tg : Expr) (vs : List Nat) (b : Bd) : Prop := PG X tg (tBd X.K vs b)
theorem PG.imp {X : Cx} {e : Expr} {t t' : TG} (h : PG X e t) (k : ∀ v σ H Q, t' v σ H Q → t v σ H Q) : PG X e t' := ⟨fun pins s σ H v u Q I r q => h.run pins s σ H v u Q I r (k v σ H Q q)⟩
theorem PGs.imp {X : Cx} {e : List Expr} {t t' : TGs} (h : PGs X e t) (k : ∀ v σ H Q, t' v σ H Q → t v σ H Q) : PGs X e t' := ⟨fun pins s σ H v u Q I r q => h.run pins s σ H v u Q I r (k v σ H Q q)⟩
def bName (i : Nat) : Bd := fun x g => if freeAt g i = true then some (g.set i (some (.d x))) else none
theorem r_name {i : Nat} {x : Str} (hN : X.N.Nodup) (hi : X.N[i]? = some x := by rfl) (hx : Loc X.env.scope x := by first | exact Or.inl rfl | exact Or.inr rfl) (hf : X.fn x = true ∨ X.env.scope.names.lookup x = some .local := by first | exact .inl rfl | exact .inr rfl) :
    RG X (.Name x pos) [i] (bName i) := PG.imp (pg_name hN hi hx hf) fun v σ H Q h => by
  obtain ⟨g, R, y, g', s, n, f, e, q⟩ := h
  unfold bName at e
  split at e
  · rename_i hfr
    cases e
    obtain ⟨R', s', n', m'⟩ := SRep.set (TRep.d f) i s (by simpa using n)
    exact q _ ⟨List.length_set, fun j hj => List.getElem?_set_ne (fun z => hj (by simp [z]))⟩ (borK_set hfr) (kp_set hfr) ⟨R', s', n', fun a ha => by simpa using m' a ha⟩
  · cases e
/-- several -/
def bAll : List Bd → List D → Ga → Option Ga
  | [], [], g => some g
  | b :: bs, x :: xs, g => (b x g).bind fun g' => bAll bs xs g'
  | _, _, _ => none
def bTup (bs : List Bd) : Bd := fun x g => match x with
  | .tuple xs => bAll bs xs g
  | _ => none
def tBds (K : PySem.W.Frag) (us : List Nat) (bs : List Bd) : TGs := fun vs σ H Q => ∃ g R xs g', SRep K H σ g R ∧ R.Nodup ∧ FzAll K H vs xs ∧ bAll bs xs g = some g' ∧ ∀ σ', Ch us σ σ' → BorK g g' → Kp g σ σ' → (∃ R', SRep K H σ' g' R' ∧ R'.Nodup ∧ ∀ a ∈ R', a ∈ R) → Q σ' H
def RGs (X : Cx) (tg : List Expr) (us : List Nat) (b : List Bd) : Prop := PGs X tg (tBds X.K us b)
theorem r_gnil : RGs X [] [] [] := PGs.imp pgs_nil fun v σ H Q h => by
  obtain ⟨g, R, xs, g', s, n, f, e, q⟩ := h
  cases f with
  | nil =>
    cases e
    exact ⟨rfl, q σ (Ch.refl _ _) (BorK.refl g) (Kp.refl g σ) ⟨R, s, n, fun a h => h⟩⟩
  | cons h t => cases e
theorem r_gcons {es : List Expr} {bd : Bd} {bs : List Bd} {u1 u2 : List Nat} (h1 : RG X e u1 bd) (h2 : RGs X es u2 bs) (hs : (assignEach (e :: es) X.env).map (·.2) = assign e X.env :: (assignEach es X.env).map (·.2) := by rfl) : RGs X (e :: es) (u1 ++ u2) (bd :: bs) := PGs.imp (pgs_cons h1 h2 hs) fun vs σ H Q h => by
  obtain ⟨g, R, xs, g', s, n, f, e, q⟩ := h
  cases f with
  | nil => cases e
  | cons h t =>
    rename_i v vs d ds
    have e : (bd d g).bind (fun g' => bAll bs ds g') = some g' := e
    cases e1 : bd d g with
    | none => rw [e1] at e; cases e
    | some g1 =>
      rw [e1] at e
      have e : bAll bs ds g1 = some g' := e
      refine ⟨v, vs, rfl, g, R, d, g1, s, n, h, e1, fun σ1 c1 b1 k1 ⟨R1, s1, n1, m1⟩ => ?_⟩
      exact ⟨g1, R1, ds, g', s1, n1, t, e, fun σ2 c2 b2 k2 ⟨R2, s2, n2, m2⟩ => q σ2 (c1.trans c2) (b1.trans b2) (k1.trans b1 k2) ⟨R2, s2, n2, fun a ha => m1 a (m2 a ha)⟩⟩
theorem bAll_len : ∀ {bs : List Bd} {xs : List D} {g g' : Ga}, bAll bs xs g = some g' → xs.length = bs.length
  | [], [], _, _, _ => rfl
  | [], _ :: _, _, _, e => by cases e
  | _ :: _, [], _, _, e => by cases e
  | b :: bs, x :: xs, g, g', e => by
    have e : (b x g).bind (fun g' => bAll bs xs g') = some g' := e
    cases e1 : b x g with
    | none => rw [e1] at e; cases e
    | some g1 =>
      rw [e1] at e
      have e : bAll bs xs g1 = some g' := e
      simp [bAll_len e]
theorem r_gtup {es : List Expr} {k : Nat} {bs : List Bd} {us : List Nat} (hc : X.calm = true) (h : RGs X es us bs) (hn : (assignEach es X.env).length = bs.length := by rfl) (hst : (assignEach es X.env).findIdx? (·.1) = none := by rfl) : RG X (.Tuple es k pos) us (bTup bs) :=
  PG.imp (pg_tup (n := bs.length) hc h hn hst) fun v σ H Q h => by
  obtain ⟨g, R, y, g', s, n, f, e, q⟩ := h
  cases f with
  | tup hs ha =>
    have e : bAll bs _ g = some g' := e
    exact ⟨_, _, rfl, hs.sq, by rw [ha.length]; exact bAll_len e, g, R, _, g', s, n, ha, e, q⟩
  | _ => cases e
def sAsg (b : Bd) (m : M D) : M Fl := bnd m fun x g => match b x g with
  | some g' => .ok .nx g'
  | none => .stuck
theorem asg_of {bd : Bd} {us : List Nat} {m : M D} {D : Ends} {σ : St} {H : Hp} (h : tS X.K W (sAsg bd m) D σ H) : tAsg (tD X.K W m) (tBd X.K us bd) D σ H :=
  tG_mono (tS_bind h) fun v H1 _ ⟨x, r, q⟩ => by
    obtain ⟨g, R, s, n, q⟩ := q
    dsimp only at q
    cases e : bd x g with
    | none => rw [e] at q; exact q.elim
    | some g' =>
      rw [e] at q
      refine ⟨g, R, x, g', s, n, r, e, fun σ' _ b k ⟨R', s', n', m'⟩ => ?_⟩
      exact q σ' H1 ⟨b, k, R', s', n', Ext.refl R H1, fun a ha => .inl (m' a ha)⟩
theorem r_asg {tg : Expr} {bd : Bd} {us : List Nat} {m : M D} (he : RE X W e m) (hg : RG X tg us bd) (hs : swapsWithSole [tg] e pos.line X.env = pure false := by rfl) (hw : swappedStores [tg] e X.env = pure none := by rfl)
    (h1 : (assignEach [tg] X.env).map (·.2) = [assign tg X.env] := by rfl) : RS X W (.Assign [tg] e pos) (sAsg bd m) := PS.imp (ps_asg he hg hs hw h1) fun D σ H h => asg_of h
theorem gName_of {i : Nat} {v : V} {σ : St} {H : Hp} {Q : St → Hp → Prop} {K : PySem.W.Frag} (h : tBd K [i] (bName i) v σ H Q) : gName i v σ H Q := by
  obtain ⟨g, R, y, g', s, n, f, e, q⟩ := h
  unfold bName at e
  split at e
  · rename_i hfr
    cases e
    obtain ⟨R', s', n', m'⟩ := SRep.set (TRep.d f) i s (by simpa using n)
    exact q _ ⟨List.length_set, fun j hj => List.getElem?_set_ne (fun z => hj (by simp [z]))⟩ (borK_set hfr) (kp_set hfr) ⟨R', s', n', fun a ha => by simpa using m' a ha⟩
  · cases e
theorem r_set {i : Nat} {x : Str} {m : M D} {pos' : Pos} (hN : X.N.Nodup) (he : RE X W e m) (hi : X.N[i]? = some x := by rfl) (hx : Loc X.env.scope x := by first | exact Or.inl rfl | exact Or.inr rfl) (hs : swapsWith e (some (.Name x pos')) pos.line X.env = pure false := by rfl)
    (hf : X.fn x = true ∨ X.env.scope.names.lookup x = some .local := by first | exact .inl rfl | exact .inr rfl) : RS X W (.Assign [.Name x pos'] e pos) (sAsg (bName i) m) :=
  PS.imp (ps_set hN hi hx he hs hf) fun D σ H h => tG_mono (asg_of h) fun v H1 _ q => gName_of q

/-! ### a ghost step: a list, a dict is not changed any more -/
def frzT : Tv → Option D
  | .ml false xs => some (.list xs)
  | .md false _ kvs => some (.dict kvs)
  | _ => none
def sFrz (i : Nat) : M Fl := fun g => match g[i]? with
  | some (some t) => (match frzT t with
    | some x => .ok .nx (g.set i (some (.d x)))
    | none => .stuck)
  | _ => .stuck
theorem frzT_own {t : Tv} {x : D} (h : frzT t = some x) : t.own = true ∧ t.bor = false := by
  cases t with
  | d _ => cases h
  | ml b _ => cases b <;> first | exact ⟨rfl, rfl⟩ | cases h
  | md b _ _ => cases b <;> first | exact ⟨rfl, rfl⟩ | cases h
theorem TRep.frz {K : PySem.W.Frag} {H : Hp} {a : Addr} {t : Tv} {rt : List Addr} {x : D} (h : TRep K H (.ref a) t rt) (e : frzT t = some x) : ∃ u, H a = some u ∧ Mut (some u) ∧ isFz u = false ∧ ∀ H' o, Pers H H' → H' a = some (.frz o u) → Fz K H' (.ref a) x := by
  cases h with
  | d _ => cases e
  | ml h1 h2 =>
    rename_i vs xs b
    cases b with
    | true => cases e
    | false =>
      cases e
      exact ⟨_, h1, trivial, rfl, fun H' o p q => .lst (.inl ⟨o, q⟩) (h2.pers p)⟩
  | mk h1 h2 =>
    rename_i kvs ds b
    cases b with
    | true => cases e
    | false =>
      cases e
      exact ⟨_, h1, trivial, rfl, fun H' o p q => .dK q (h2.pers p)⟩
  | mt h1 h2 =>
    rename_i kvs ds b
    cases b with
    | true => cases e
    | false =>
      cases e
      exact ⟨_, h1, trivial, rfl, fun H' o p q => .dT q (h2.pers p)⟩
theorem frz_step {K : PySem.W.Frag} {g : Ga} {σ : St} {R : List Addr} {H : Hp} {i : Nat} {t : Tv} {x : D} (s : SRep K H σ g R) (n : R.Nodup) (e : g[i]? = some (some t)) (ef : frzT t = some x) :
    ∃ a u, H a = some u ∧ Mut (some u) ∧ ∀ o, GoS K g σ R H (g.set i (some (.d x))) σ (L2.upd H a (.frz o u)) := by
  obtain ⟨hown, hbor⟩ := frzT_own ef
  obtain ⟨a, h1, h2, h4, h5⟩ := s.putG n e hown
  obtain ⟨u, hu, mu, fu, hz⟩ := h2.frz ef
  refine ⟨a, u, hu, mu, fun o => ?_⟩
  have p : Pers H (L2.upd H a (.frz o u)) := fun c u' hu' hf => by
    rw [upd_ne]
    · exact hu'
    · rintro rfl
      rw [hu] at hu'
      cases hu'
      rw [fu] at hf
      cases hf
  obtain ⟨R', s', sb⟩ := h5 (L2.upd H a (.frz o u)) (.d x) [] p (fun c _ hc => upd_ne hc) (.d (hz _ o p upd_same)) (List.nil_sublist _)
  refine ⟨fun j t' ej b => ?_, Kp.refl g σ, R', s', sb.nodup n, fun c u' hu' hc => ?_, fun c hc => .inl (sb.subset hc)⟩
  · by_cases hj : i = j
    · subst hj
      rw [e] at ej
      cases ej
      rw [hbor] at b
      cases b
    · exact ⟨t', by rw [List.getElem?_set_ne hj]; exact ej, b⟩
  · rw [upd_ne]
    · exact hu'
    · rintro rfl
      exact hc h4
theorem r_frz {i : Nat} {ss : List Stmt} {m : M Fl} (h : RSs X W ss m) : RSs X W ss (sSeq (sFrz i) m) := by
  refine ⟨fun pins s σ H D I q => ?_⟩
  obtain ⟨g, R, sr, n, q⟩ := q
  unfold sSeq sFrz at q
  cases e : g[i]? with
  | none => rw [e] at q; exact q.elim
  | some o =>
    cases o with
    | none => rw [e] at q; exact q.elim
    | some t =>
      rw [e] at q
      dsimp only at q
      cases ef : frzT t with
      | none => rw [ef] at q; exact q.elim
      | some x =>
        rw [ef] at q
        obtain ⟨a, u, ha, mu, go⟩ := frz_step sr n e ef
        obtain ⟨od, I1⟩ := I.lock ha mu
        obtain ⟨b1, k1, R1, s1, n1, e1, w1⟩ := go od
        refine h.run pins s σ _ D I1 ⟨_, R1, s1, n1, ?_⟩
        dsimp only at q
        cases e2 : m (g.set i (some (.d x))) with
        | stuck => rw [e2] at q; exact q
        | exc c g' => rw [e2] at q; exact fun σ' H' go => q σ' H' (go.then b1 k1 e1 w1)
        | ok a g' => rw [e2] at q; exact fun σ' H' go => q σ' H' (go.then b1 k1 e1 w1)
end
end PP

namespace PP
open PySem PySem.Spec L2
open PyProof.Rows hiding St

/-! ### a list or a tuple that is walked -/
def srcIs (k : Bool) (h : Heap) (a : Addr) (items : Array Value) : Prop := if k = true then h.IsList a items else h.IsTuple a items
def srcIt (k : Bool) (h : Heap) (it a : Addr) (i : Nat) : Prop := if k = true then h.IsListIter it a i else h.IsTupleIter it a i
def srcSq (k : Bool) (K : PySem.W.Frag) (H : Hp) (a : Addr) (xs : List V) : Prop := if k = true then SqL K H a xs else SqT K H a xs
def srcO (k : Bool) (a : Addr) : Obj := if k = true then { cls := .type "list_iterator", data := .fields #[.ref a, .int 0 0] } else { cls := .type "tuple_iterator", data := .fields #[.ref a, .int 0 0] }
section
variable {X : Cx} {pins : List (Addr × Obj)} {σ : St} {H : Hp} {s : Shared} {a : Addr} {xs ys : List V} {k : Bool}
theorem Inv.src (I : Inv X pins σ H s) (h : srcSq k X.K H a xs) : ∃ its : List Value, Vals xs its ∧ srcIs k s.heap a its.toArray ∧ a < s.heap.objs.size := by
  cases k with
  | true =>
    obtain ⟨its, r, p, _⟩ := I.list (show SqL X.K H a xs from h)
    exact ⟨its, r, p.isList, p.lt⟩
  | false =>
    obtain ⟨its, r, p, _⟩ := I.tuple (show SqT X.K H a xs from h)
    exact ⟨its, r, p, p.lt⟩
theorem Inv.src_inj (I : Inv X pins σ H s) (h : srcSq k X.K H a xs) (h' : srcSq k X.K H a ys) : xs = ys := by
  cases k with
  | true => exact I.list_inj (show SqL X.K H a xs from h) h'
  | false => exact I.tuple_inj (show SqT X.K H a xs from h) h'
theorem src_draws {prog : Program} {w : World} {A : Around} (hh : A.handled = none) (k : Bool) (it l : Addr) (hne : l ≠ it) (items : Array Value) :
    Draws prog w A it [it, l] items.size (fun i v => items[i]? = some v) (fun i h => srcIt k h it l i ∧ srcIs k h l items) := by
  cases k with
  | true => exact Draws.list hh it l hne items
  | false => exact Draws.tuple hh it l hne items
theorem src_begins (k : Bool) (l : Addr) (items : Array Value) : Begins (.ref l) (srcO k l) fun h => srcIs k h l items := by
  cases k with
  | true => exact begins_list l items
  | false => exact begins_tuple l items
theorem srcIt_at {h h' : Heap} {it : Addr} {i : Nat} (st : srcIt k h it a i) (kp : ∀ o, h.get? it = some o → h'.get? it = some o) : srcIt k h' it a i := by
  cases k with
  | true => exact Heap.IsListIter.at st kp
  | false => exact Heap.IsTupleIter.at st kp
theorem srcIt_obj {h : Heap} {it : Addr} {i : Nat} (st : srcIt k h it a i) : ∃ o, h.get? it = some o ∧ ∀ v, o.data ≠ .cell v := by
  cases k with
  | true =>
    obtain ⟨o, e, c, d⟩ : h.IsListIter it a i := st
    exact ⟨o, e, fun v z => by rw [d] at z; cases z⟩
  | false =>
    obtain ⟨o, e, c, d⟩ : h.IsTupleIter it a i := st
    exact ⟨o, e, fun v z => by rw [d] at z; cases z⟩
theorem srcIt_new {h : Heap} {it : Addr} (e : h.get? it = some (srcO k a)) : srcIt k h it a 0 := by
  cases k with
  | true => exact ⟨_, e, rfl, rfl⟩
  | false => exact ⟨_, e, rfl, rfl⟩
end

/-! ### zip of two, lists or tuples -/
def Izp (K : PySem.W.Frag) (k1 k2 : Bool) (a b : Addr) : It :=
  ⟨fun i H => ∃ (xs ys : List V) (x y : V), srcSq k1 K H a xs ∧ srcSq k2 K H b ys ∧ xs[i]? = some x ∧ ys[i]? = some y,
    fun i H v H' => ∃ (o : Obj) (T : Addr) (x y : V), o.dict = none ∧ v = .ref T ∧ H T = none ∧ H' = L2.upd H T (tupO o [x, y]) ∧ (∀ xs, srcSq k1 K H a xs → xs[i]? = some x) ∧ ∀ ys, srcSq k2 K H b ys → ys[i]? = some y,
    fun i H => ∃ xs ys : List V, srcSq k1 K H a xs ∧ srcSq k2 K H b ys ∧ i = min xs.length ys.length⟩
theorem turn_zp {P : Program} {w : World} {K : PySem.W.Frag} {elts : List Expr} {kk : Nat} {tpos : Pos} {k1 k2 : Bool} {a b z TI TO i1 i2 : Addr} (D : ZipApart z TI TO i1 i2 a b) (S : ZipSep2 z TI TO i1 i2 [i1, a] [i2, b]) (n1 : a ≠ i1) (n2 : b ≠ i2) :
    Turn P w K (.Tuple elts kk tpos) (Izp K k1 k2 a b) [z, TI, TO, i1, i2] z (fun i h => IsZip h z TI TO .none ∧ IsPair h TI (.ref i1) (.ref i2) ∧ (∃ x y, IsPair h TO x y) ∧ srcIt k1 h i1 a i ∧ srcIt k2 h i2 b i) where
  mem := by simp
  obj := fun i h st c hc => by
    obtain ⟨hz, hTI, ⟨x, y, hTO⟩, h1, h2⟩ := st
    have e' : c = z ∨ c = TI ∨ c = TO ∨ c = i1 ∨ c = i2 := by simpa using hc
    rcases e' with q | q | q | q | q
    · rw [q]; exact ⟨_, hz, fun v q => nomatch q⟩
    · rw [q]; exact ⟨_, hTI, fun v q => nomatch q⟩
    · rw [q]; exact ⟨_, hTO, fun v q => nomatch q⟩
    · rw [q]; exact srcIt_obj h1
    · rw [q]; exact srcIt_obj h2
  keep := fun i h h' st k => by
    obtain ⟨hz, hTI, ⟨x, y, hTO⟩, h1, h2⟩ := st
    exact ⟨k z (by simp) _ hz, k TI (by simp) _ hTI, ⟨x, y, k TO (by simp) _ hTO⟩, srcIt_at h1 fun o q => k i1 (by simp) o q, srcIt_at h2 fun o q => k i2 (by simp) o q⟩
  item := by
    intro X hP hw hK hc i pins s σ H E I hf st hg
    subst hP hw hK
    obtain ⟨hz, hTI, ⟨x0, y0, hTO⟩, h1, h2⟩ := st
    obtain ⟨xs, ys, x, y, hqx, hqy, hx, hy⟩ := hg
    obtain ⟨its, rv, p, _⟩ := PP.Inv.src I hqx
    obtain ⟨its2, rv2, p2, _⟩ := PP.Inv.src I hqy
    obtain ⟨u, hu, ru⟩ := rv.get hx
    obtain ⟨u2, hu2, ru2⟩ := rv2.get hy
    have hzl : z < s.heap.objs.size := Heap.lt_size hz
    have l1 : i < its.toArray.size := by
      obtain ⟨q, _⟩ := List.getElem?_eq_some_iff.mp hu
      simpa using q
    have l2 : i < its2.toArray.size := by
      obtain ⟨q, _⟩ := List.getElem?_eq_some_iff.mp hu2
      simpa using q
    refine wpAny_pyNext_zipD2_item S (src_draws (A := X.A.in1) (I.ok.hd hc) k1 i1 a n1 its.toArray) (src_draws (A := X.A.in1) (I.ok.hd hc) k2 i2 b n2 its2.toArray) hz hTI hTO ⟨h1, p⟩ ⟨h2, p2⟩ l1 l2 fun v1 v2 h' tk q1 q2 z' TO' h1' h2' hT hsz hk => ?_
    have ev1 : v1 = u := by
      have q1 : its.toArray[i]? = some v1 := q1
      rw [List.getElem?_toArray, hu] at q1
      exact (Option.some.inj q1).symm
    have ev2 : v2 = u2 := by
      have q2 : its2.toArray[i]? = some v2 := q2
      rw [List.getElem?_toArray, hu2] at q2
      exact (Option.some.inj q2).symm
    subst ev1 ev2
    refine ⟨_, rfl, wpAny_letOwnedTupleGo_zip (s := { s with heap := h', toks := tk }) z' fun h'' z'' sb => ?_⟩
    have hT2 : h''.get? s.heap.objs.size = some { cls := .type "tuple", data := .seq #[v1, v2] } := (sb.2 _ (Nat.ne_of_gt hzl)).trans hT
    have new : ObjOk X.prog X.w (L2.upd H s.heap.objs.size (tupO { cls := .type "tuple", data := .seq #[v1, v2] } [x, y])) h'' s.heap.objs.size (tupO { cls := .type "tuple", data := .seq #[v1, v2] } [x, y]) :=
      tupO_ok (its := [v1, v2]) hT2 rfl rfl (.cons ru (.cons ru2 .nil)) (by show 2 ≤ sizeLine; decide)
    have I1 : Inv X pins σ (L2.upd H s.heap.objs.size (tupO { cls := .type "tuple", data := .seq #[v1, v2] } [x, y])) { s with heap := h'', toks := tk } :=
      I.turnedNew (t' := tk) (ch := [z, TI, TO, i1, i2]) (fun c o hb q => (sb.2 c (fun q' => hb (by simp [q']))).trans (hk c o (fun q' => hb (by simp [q'])) (fun q' => hb (by simp [q'])) (fun q' => hb (by simp [q'])) (fun q' => hb (by simp [q'])) q)) hf (Nat.le_refl _) new
    refine ⟨.ref s.heap.objs.size, _, I1, rfl, ⟨_, _, x, y, rfl, rfl, I.hok.fresh (Nat.le_refl _), rfl, fun l hl => by rw [PP.Inv.src_inj I hl hqx]; exact hx, fun l hl => by rw [PP.Inv.src_inj I hl hqy]; exact hy⟩, ⟨z'', ?_, ⟨v1, v2, ?_⟩, ?_, ?_⟩, fun c hcm => ?_⟩
    · exact (sb.2 _ D.TIz).trans (hk _ _ D.TIz D.TITO D.TIi1 D.TIi2 hTI)
    · exact (sb.2 _ D.TOz).trans TO'
    · exact srcIt_at h1'.1 fun o q => (sb.2 _ D.i1z).trans q
    · exact srcIt_at h2'.1 fun o q => (sb.2 _ D.i2z).trans q
    · have hlt : c < s.heap.objs.size := by
        have e' : c = z ∨ c = TI ∨ c = TO ∨ c = i1 ∨ c = i2 := by simpa using hcm
        rcases e' with q | q | q | q | q
        · rw [q]; exact hzl
        · rw [q]; exact Heap.lt_size hTI
        · rw [q]; exact Heap.lt_size hTO
        · rw [q]; obtain ⟨_, e1, _⟩ := srcIt_obj h1; exact Heap.lt_size e1
        · rw [q]; obtain ⟨_, e2, _⟩ := srcIt_obj h2; exact Heap.lt_size e2
      rw [upd_ne (Nat.ne_of_lt hlt)]
      exact (hf c hcm).1
  done := by
    intro X hP hw hK hc i pins s σ H E I hf st hg
    subst hP hw hK
    obtain ⟨hz, hTI, ⟨x0, y0, hTO⟩, h1, h2⟩ := st
    obtain ⟨xs, ys, hqx, hqy, hend⟩ := hg
    obtain ⟨its, rv, p, _⟩ := PP.Inv.src I hqx
    obtain ⟨its2, rv2, p2, _⟩ := PP.Inv.src I hqy
    have l1 := rv.length
    have l2 := rv2.length
    have m1 : i ≤ its.toArray.size := by simp only [List.size_toArray]; omega
    have m2 : i ≤ its2.toArray.size := by simp only [List.size_toArray]; omega
    have m3 : i = its.toArray.size ∨ i = its2.toArray.size := by simp only [List.size_toArray]; omega
    exact wpAny_pyNext_zipD2_end S (src_draws (A := X.A.in1) (I.ok.hd hc) k1 i1 a n1 its.toArray) (src_draws (A := X.A.in1) (I.ok.hd hc) k2 i2 b n2 its2.toArray) hz hTI hTO ⟨h1, p⟩ ⟨h2, p2⟩ m1 m2 m3 fun h' tk hk => ⟨rfl, I.turnedL (t' := tk) (ch := [z, TI, TO, i1, i2]) (fun c o hb q =>
      hk c o (fun q' => hb (by simp [q'])) (fun q' => hb (by simp [q'])) (fun q' => hb (by simp [q'])) (fun q' => hb (by simp [q'])) q) hf⟩
  self := fun A i s Q E st h => wpAny_pyIter_zip st.1 h
def iZp (K : PySem.W.Frag) (ta : TA) : TI := fun σ H R => ta σ H fun vs H1 => ∃ k1 k2 a b xs ys, vs = [.ref a, .ref b] ∧ srcSq k1 K H1 a xs ∧ srcSq k2 K H1 b ys ∧ R (Izp K k1 k2 a b) H1
theorem pi_zp {X : Cx} {e e2 : Expr} {ta : TA} {p pos tpos : Pos} {elts : List Expr} {kk : Nat} (hg : Gl X "zip") (hm : X.mg "zip" = none) (ha : PA X [e, e2] ta)
    (hs : starEach [e, e2] X.env = (false, eval e X.env) :: starEach [e2] X.env := by rfl) (hpl : (backTo pos (starEach [e2] X.env)).any (·.1) = false := by rfl) :
    PI X (.Tuple elts kk tpos) (.Call (.Name "zip" p) [e, e2] [] pos) (iZp X.K ta) := by
  refine ⟨fun pins s σ H R I h => ?_⟩
  refine Call_ (ld_blt I hg hm PyProof.Rows.boot_zip (PyProof.Rows.callWith_type1 (thn (ha.run pos pins s σ H _ I h) fun us s1 ⟨vs, H1, I1, r1, q1⟩ => ?_) hs hpl))
  obtain ⟨k1, k2, a, b, xs, ys, ex, hqx, hqy, q⟩ := q1
  subst ex
  cases r1 with
  | cons r rr =>
    cases rr with
    | cons r' rr =>
      cases rr
      cases r
      cases r'
      obtain ⟨its, rv, p1, la⟩ := PP.Inv.src I1 hqx
      obtain ⟨its2, rv2, p2, lb⟩ := PP.Inv.src I1 hqy
      refine zip_begins2 (src_begins k1 a its.toArray) (src_begins k2 b its2.toArray) p1 p2 fun h' hz hTI hTO h1 h2 hsz hk => wpAny_pyIter_zip hz ?_
      have I2 : Inv X pins σ H1 { s1 with heap := h' } := I1.kept (t' := s1.toks) hk
      refine ⟨s1.heap.objs.size + 4, [s1.heap.objs.size + 4, s1.heap.objs.size + 2, s1.heap.objs.size + 3, s1.heap.objs.size, s1.heap.objs.size + 1], _, _, H1, rfl, I2,
        turn_zp (k1 := k1) (k2 := k2) (PySem.W.ktu_apart s1.heap.objs.size a b la lb) (zip_sep2 (N := s1.heap.objs.size) (fp1 := [a]) (fp2 := [b]) (by simpa using la) (by simpa using lb)) (Nat.ne_of_lt la) (Nat.ne_of_lt (Nat.lt_succ_of_lt lb)), ⟨hz, hTI, ⟨_, _, hTO⟩, srcIt_new h1, srcIt_new h2⟩, fun c hcm => ?_, q⟩
      have e' : c = s1.heap.objs.size + 4 ∨ c = s1.heap.objs.size + 2 ∨ c = s1.heap.objs.size + 3 ∨ c = s1.heap.objs.size ∨ c = s1.heap.objs.size + 1 := by simpa using hcm
      have hle : s1.heap.objs.size ≤ c := by
        rcases e' with z | z | z | z | z
        · rw [z]; exact Nat.le_add_right _ _
        · rw [z]; exact Nat.le_add_right _ _
        · rw [z]; exact Nat.le_add_right _ _
        · rw [z]; exact Nat.le_refl _
        · rw [z]; exact Nat.le_add_right _ _
      exact I1.fpOk hle (I1.hok.fresh hle)
end PP

namespace PP
open PySem PySem.Spec L2
open PyProof.Rows hiding St
open PySem.Builtin.SmallTypes in
theorem meets_enum1 {v : Value} {o : Obj} {H : Heap → Prop} (B : Begins v o H) :
    Meets (Builtin.«enumerate.__new__» ⟨[.type "enumerate", v], []⟩) (fun _ R s => H s.heap ∧
      R (.ok (.ret (.ref (s.heap.push o).objs.size))) { s with heap := (s.heap.push o).push { cls := .type "enumerate", data := .fields #[.none, .bool false, .ref s.heap.objs.size, rawInt 0, .none, .none] } }) :=
  .of_wp fun prog w A R s h => by
    obtain ⟨hp, g, d, tk, os⟩ := s; obtain ⟨h1, h⟩ := h
    have hsub := sub_enumerate
    have q1 : ∀ {A' : Around} {E : Value → Shared → Prop} {Q : Value → Shared → Prop}, Q (.ref hp.objs.size) ⟨hp.push o, g, d, tk, os⟩ → wpAny (model prog w) A' (pyIter v) Q E ⟨hp, g, d, tk, os⟩ :=
      fun q => B.iter prog w _ _ ⟨hp, g, d, tk, os⟩ _ h1 q
    wp_walk using q1
    refine wpAny_stack_any fun st => wpAny_pure ?_
    split
    · rename_i c _ _ _ _ _
      cases (c == Value.type "enumerate")
      · wp_walk using q1
        exact ⟨_, rfl, h⟩
      · wp_walk using q1
        exact ⟨_, rfl, h⟩
    · wp_walk using q1
      exact ⟨_, rfl, h⟩
theorem call_enum1 {prog : Program} {w : World} {A : Around} {E : Value → Shared → Prop} {s : Shared} {v : Value} {o : Obj} {H : Heap → Prop} {Q : Value → Shared → Prop} (B : Begins v o H) (h1 : H s.heap)
    (h : ∀ h', IsEnum h' (s.heap.objs.size + 1) s.heap.objs.size 0 .none → h'.get? s.heap.objs.size = some o → h'.objs.size = s.heap.objs.size + 2 →
      (∀ b o, s.heap.get? b = some o → h'.get? b = some o) → Q (.ref (s.heap.objs.size + 1)) { s with heap := h' }) :
    wpAny (model prog w) A (call (.type "enumerate") [v]) Q E s := by
  refine callType_new F.called_enumerate (by decide) (F.typeCall_enumerate_1 _) (F.newCall_enumerate_1 _) (fun obj => F.args_object_init_2 obj _) F.entry_enumerate_new
    (meets_enum1 B) ⟨h1, ?_⟩
  have hz : (s.heap.push o).objs.size = s.heap.objs.size + 1 := Heap.size_push ..
  show _ ∧ _
  rw [hz]
  have he : IsEnum ((s.heap.push o).push { cls := .type "enumerate", data := .fields #[.none, .bool false, .ref s.heap.objs.size, rawInt 0, .none, .none] }) (s.heap.objs.size + 1) s.heap.objs.size 0 .none := by
    have := Heap.get?_push_size (s.heap.push o) (o := { cls := .type "enumerate", data := .fields #[.none, .bool false, .ref s.heap.objs.size, rawInt 0, .none, .none] }) rfl
    rw [hz] at this; exact this
  refine ⟨⟨_, he, rfl⟩, h _ he (Heap.get?_push_of_some _ (Heap.get?_push_size _ B.free)) (by rw [Heap.size_push, hz]) fun b o x => Heap.get?_push_of_some _ (Heap.get?_push_of_some _ x)⟩

/-! ### enumerate of a list or a tuple -/
def Ien (K : PySem.W.Frag) (k : Bool) (a : Addr) : It :=
  ⟨fun i H => ∃ (xs : List V) (x : V), srcSq k K H a xs ∧ xs[i]? = some x, fun i H v H' => ∃ (o : Obj) (T : Addr) (x : V), o.dict = none ∧ v = .ref T ∧ H T = none ∧ H' = L2.upd H T (tupO o [.int (i : Nat), x]) ∧ ∀ xs, srcSq k K H a xs → xs[i]? = some x, fun i H => ∃ xs : List V, srcSq k K H a xs ∧ xs.length = i⟩
theorem turn_en {P : Program} {w : World} {K : PySem.W.Frag} {elts : List Expr} {kk : Nat} {tpos : Pos} {k : Bool} (a e it : Addr) (hae : a ≠ e) (hai : a ≠ it) :
    Turn P w K (.Tuple elts kk tpos) (Ien K k a) [e, it] e (fun i h => (∃ old, IsEnum h e it ((i : Nat) : Int) old) ∧ srcIt k h it a i ∧ e ≠ it) where
  mem := by simp
  obj := fun i h st b hb => by
    obtain ⟨⟨old, he⟩, hi, _⟩ := st
    have e' : b = e ∨ b = it := by simpa using hb
    rcases e' with z | z
    · rw [z]; exact ⟨_, he, fun v q => nomatch q⟩
    · rw [z]; exact srcIt_obj hi
  keep := fun i h h' st k => let ⟨⟨old, he⟩, hi, hne⟩ := st; ⟨⟨old, k e (by simp) _ he⟩, srcIt_at hi fun o q => k it (by simp) o q, hne⟩
  item := by
    intro X hP hw hK hc i pins s σ H E I hf st hg
    subst hP hw hK
    obtain ⟨⟨old, he⟩, hit, hne⟩ := st
    obtain ⟨xs, x, hq, hx⟩ := hg
    obtain ⟨its, rv, p, _⟩ := PP.Inv.src I hq
    obtain ⟨u, hu, ru⟩ := rv.get hx
    have hel : e < s.heap.objs.size := Heap.lt_size he
    have hil : it < s.heap.objs.size := by obtain ⟨_, q, _⟩ := srcIt_obj hit; exact Heap.lt_size q
    have l1 : i < its.toArray.size := by
      obtain ⟨q, _⟩ := List.getElem?_eq_some_iff.mp hu
      simpa using q
    refine wpAny_pyNext_enum_itemC (src_draws (A := X.A.in1) (I.ok.hd hc) k it a hai its.toArray) he ⟨hit, p⟩ l1 hne (by simp [hne, Ne.symm hae]) fun v1 h' tk q1 ho hit' hT hsz hk => ?_
    have ev1 : v1 = u := by
      have q1 : its.toArray[i]? = some v1 := q1
      rw [List.getElem?_toArray, hu] at q1
      exact (Option.some.inj q1).symm
    subst ev1
    refine ⟨_, rfl, wpAny_letOwnedTupleGo_enum (s := { s with heap := h', toks := tk + 1 }) ho fun h'' he' sb => ?_⟩
    have hT2 : h''.get? s.heap.objs.size = some { cls := .type "tuple", data := .seq #[.int i tk, v1] } := (sb.2 _ (Nat.ne_of_gt hel)).trans hT
    have new : ObjOk X.prog X.w (L2.upd H s.heap.objs.size (tupO { cls := .type "tuple", data := .seq #[.int i tk, v1] } [.int (i : Nat), x])) h'' s.heap.objs.size (tupO { cls := .type "tuple", data := .seq #[.int i tk, v1] } [.int (i : Nat), x]) :=
      tupO_ok (its := [.int i tk, v1]) hT2 rfl rfl (.cons ⟨_, rfl⟩ (.cons ru .nil)) (by show 2 ≤ sizeLine; decide)
    have I1 : Inv X pins σ (L2.upd H s.heap.objs.size (tupO { cls := .type "tuple", data := .seq #[.int i tk, v1] } [.int (i : Nat), x])) { s with heap := h'', toks := tk + 1 } :=
      I.turnedNew (ch := [e, it]) (fun b ob hb q => (sb.2 b (fun z => hb (by simp [z]))).trans (hk b ob (fun z => hb (by simp [z])) (fun z => hb (by simp [z])) q)) hf (Nat.le_refl _) new
    refine ⟨.ref s.heap.objs.size, _, I1, rfl, ⟨_, _, x, rfl, rfl, I.hok.fresh (Nat.le_refl _), rfl, fun ys hy => by rw [PP.Inv.src_inj I hy hq]; exact hx⟩, ⟨⟨v1, ?_⟩, srcIt_at hit'.1 fun o q => (sb.2 it (Ne.symm hne)).trans q, hne⟩, fun b hb => ?_⟩
    · have e1 : ((i + 1 : Nat) : Int) = (i : Int) + 1 := by omega
      rw [e1]; exact he'
    · have hb' : b < s.heap.objs.size := by
        have e' : b = e ∨ b = it := by simpa using hb
        rcases e' with z | z
        · rw [z]; exact hel
        · rw [z]; exact hil
      rw [upd_ne (Nat.ne_of_lt hb')]
      exact (hf b hb).1
  done := by
    intro X hP hw hK hc i pins s σ H E I hf st hg
    subst hP hw hK
    obtain ⟨⟨old, he⟩, hit, hne⟩ := st
    obtain ⟨xs, hq, hx⟩ := hg
    obtain ⟨its, rv, p, _⟩ := PP.Inv.src I hq
    obtain ⟨f0, f1, f2, f3, f4, f5⟩ := hf it (by simp)
    have hl := rv.length
    have hn : i = its.toArray.size := by simp only [List.size_toArray]; omega
    have hst : srcIt k s.heap it a its.toArray.size ∧ srcIs k s.heap a its.toArray := by
      rw [hn] at hit
      exact ⟨hit, p⟩
    exact wpAny_pyNext_enum_endD (src_draws (A := X.A.in1) (I.ok.hd hc) k it a hai its.toArray) he hst fun h' eb => ⟨rfl, I.turned (t' := s.toks) (fun b o hb q => eb b o hb q) f0 f1 f3 f4 f5⟩
  self := fun A i s Q E st h => let ⟨⟨_, he⟩, _⟩ := st; wpAny_pyIter_enum he h
def iEn (K : PySem.W.Frag) (ta : TA) : TI := fun σ H R => ta σ H fun vs H1 => ∃ k a xs, vs = [.ref a] ∧ srcSq k K H1 a xs ∧ R (Ien K k a) H1
theorem pi_en {X : Cx} {e : Expr} {ta : TA} {p pos tpos : Pos} {elts : List Expr} {kk : Nat} (hg : Gl X "enumerate") (hm : X.mg "enumerate" = none) (ha : PA X [e] ta) (hs : starEach [e] X.env = [(false, eval e X.env)] := by rfl) :
    PI X (.Tuple elts kk tpos) (.Call (.Name "enumerate" p) [e] [] pos) (iEn X.K ta) := by
  refine ⟨fun pins s σ H R I h => ?_⟩
  refine Call_ (ld_blt I hg hm boot_enumerate (PyProof.Rows.callWith_type1 (thn (ha.run pos pins s σ H _ I h) fun us s1 ⟨vs, H1, I1, r1, q1⟩ => ?_) hs rfl))
  obtain ⟨k, a, xs, ex, hq, q⟩ := q1
  subst ex
  cases r1 with
  | cons r rr =>
    cases rr
    cases r
    obtain ⟨its, rv, p', la⟩ := PP.Inv.src I1 hq
    refine call_enum1 (src_begins k a its.toArray) p' fun h' he hit hsz hk => wpAny_pyIter_enum he ?_
    have I2 : Inv X pins σ H1 { s1 with heap := h' } := I1.kept (t' := s1.toks) hk
    refine ⟨s1.heap.objs.size + 1, [s1.heap.objs.size + 1, s1.heap.objs.size], _, _, H1, rfl, I2, turn_en (k := k) a (s1.heap.objs.size + 1) s1.heap.objs.size (Nat.ne_of_lt (Nat.lt_succ_of_lt la)) (Nat.ne_of_lt la), ⟨⟨.none, he⟩, srcIt_new hit, Nat.succ_ne_self _⟩, fun b hb => ?_, q⟩
    have e' : b = s1.heap.objs.size + 1 ∨ b = s1.heap.objs.size := by simpa using hb
    have hle : s1.heap.objs.size ≤ b := by
      rcases e' with z | z
      · rw [z]; exact Nat.le_add_right _ _
      · rw [z]; exact Nat.le_refl _
    exact I1.fpOk hle (I1.hok.fresh hle)

/-! ### what is walked, by its items -/
structure Wk (K : PySem.W.Frag) (J : It) (items : List D) (G : Hp → Prop) (L : List Addr := []) : Prop where
  st : ∀ H H', G H → Pers H H' → (∀ a ∈ L, H' a = H a) → G H'
  go : ∀ i H d, G H → items[i]? = some d → J.go i H ∧ ∀ x H', J.yld i H x H' → Same H H' ∧ Fz K H' x d
  stop : ∀ H, G H → J.stop items.length H
def repI (K : PySem.W.Frag) (H : Hp) (J : It) (items : List D) : Prop := ∃ G, Wk K J items G ∧ G H
def RI (X : Cx) (W : WX) (tg it : Expr) (m : M (List D)) : Prop := PI X tg it (tG (repI X.K) X.K W m)
theorem PI.imp {X : Cx} {tg e : Expr} {t t' : TI} (h : PI X tg e t) (k : ∀ σ H Q, t' σ H Q → t σ H Q) : PI X tg e t' := ⟨fun pins s σ H Q I q => h.run pins s σ H Q I (k σ H Q q)⟩
def FzS (k : Bool) (K : PySem.W.Frag) (H : Hp) (a : Addr) (xs : List V) : Prop := if k = true then FzL K H a xs else FT H a xs
theorem FzS.pers {k : Bool} {K : PySem.W.Frag} {H H' : Hp} {a : Addr} {xs : List V} (h : FzS k K H a xs) (p : Pers H H') : FzS k K H' a xs := by
  cases k with
  | true => exact FzL.pers (show FzL K H a xs from h) p
  | false => exact FT.pers (show FT H a xs from h) p
theorem FzS.sq {k : Bool} {K : PySem.W.Frag} {H : Hp} {a : Addr} {xs : List V} (h : FzS k K H a xs) : srcSq k K H a xs := by
  cases k with
  | true => exact FzL.sq (show FzL K H a xs from h)
  | false => exact FT.sq (show FT H a xs from h)
def itemsD : D → Option (List D)
  | .list xs => some xs
  | .tuple xs => some xs
  | .str x => some (x.cps.toList.map fun c => .str ⟨#[c]⟩)
  | _ => none
def seqD : D → Option (List D)
  | .list xs => some xs
  | .tuple xs => some xs
  | _ => none
theorem seqD_src {K : PySem.W.Frag} {H : Hp} {v : V} {x : D} {items : List D} (f : Fz K H v x) (e : seqD x = some items) : ∃ k a xs, v = .ref a ∧ FzS k K H a xs ∧ FzAll K H xs items := by
  cases f with
  | lst h a => cases e; exact ⟨true, _, _, rfl, h, a⟩
  | tup h a => cases e; exact ⟨false, _, _, rfl, h, a⟩
  | _ => cases e
theorem wk_list {K : PySem.W.Frag} {a : Addr} {xs : List V} {items : List D} {H0 : Hp} (fa : FzAll K H0 xs items) : Wk K (Itl K a) items (fun H => FzL K H a xs ∧ Pers H0 H) where
  st := fun H H' ⟨h, q⟩ p _ => ⟨h.pers p, q.trans p⟩
  go := fun i H d ⟨h, q⟩ e => by
    obtain ⟨v, e1, f⟩ := fa.get' e
    refine ⟨⟨xs, v, h.sq, e1⟩, fun x H' y => ?_⟩
    obtain ⟨eh, y⟩ := y
    subst eh
    rw [y xs h.sq] at e1
    cases e1
    exact ⟨Same.refl _, f.pers q⟩
  stop := fun H ⟨h, q⟩ => ⟨xs, h.sq, by rw [fa.length]; exact Nat.le_refl _⟩
theorem wk_tup {K : PySem.W.Frag} {a : Addr} {xs : List V} {items : List D} {H0 : Hp} (fa : FzAll K H0 xs items) : Wk K (Itt K a) items (fun H => FT H a xs ∧ Pers H0 H) where
  st := fun H H' ⟨h, q⟩ p _ => ⟨h.pers p, q.trans p⟩
  go := fun i H d ⟨h, q⟩ e => by
    obtain ⟨v, e1, f⟩ := fa.get' e
    refine ⟨⟨xs, v, h.sq, e1⟩, fun x H' y => ?_⟩
    obtain ⟨eh, y⟩ := y
    subst eh
    rw [y xs h.sq] at e1
    cases e1
    exact ⟨Same.refl _, f.pers q⟩
  stop := fun H ⟨h, q⟩ => ⟨xs, h.sq, by rw [fa.length]; exact Nat.le_refl _⟩
theorem wk_str {K : PySem.W.Frag} {x : Str} : Wk K (Its x) (x.cps.toList.map fun c => .str ⟨#[c]⟩) (fun _ => True) where
  st := fun _ _ _ _ _ => trivial
  go := fun i H d _ e => by
    rw [List.getElem?_map] at e
    cases q : x.cps.toList[i]? with
    | none => rw [q] at e; cases e
    | some c =>
      rw [q] at e
      cases e
      have hl : i < x.cps.size := by
        obtain ⟨z, _⟩ := List.getElem?_eq_some_iff.mp q
        simpa using z
      refine ⟨hl, fun v H' y => ?_⟩
      obtain ⟨eh, c', e', ev⟩ := y
      subst eh ev
      have : c' = c := by
        rw [← Array.getElem?_toList, q] at e'
        exact (Option.some.inj e').symm
      subst this
      exact ⟨Same.refl _, .str _⟩
  stop := fun H _ => by
    show x.cps.size ≤ _
    simp
def rngD (lo : Int) (n : Nat) : List D := (List.range n).map fun (i : Nat) => PyData.int (lo + (i : Int))
theorem wk_rng {K : PySem.W.Frag} {lo : Int} {n : Nat} : Wk K (Itr lo n) (rngD lo n) (fun _ => True) where
  st := fun _ _ _ _ _ => trivial
  go := fun i H d _ e => by
    unfold rngD at e
    rw [List.getElem?_map] at e
    cases q : (List.range n)[i]? with
    | none => rw [q] at e; cases e
    | some c =>
      rw [q] at e
      cases e
      obtain ⟨hl, e1⟩ := List.getElem?_eq_some_iff.mp q
      have hl' : i < n := by simpa using hl
      have : c = i := by rw [← e1]; simp
      subst this
      refine ⟨hl', fun v H' y => ?_⟩
      obtain ⟨eh, ev⟩ := y
      subst eh ev
      exact ⟨Same.refl _, .int _⟩
  stop := fun H _ => by
    show n ≤ _
    simp [rngD]
def zipD (xs ys : List D) : List D := (xs.zip ys).map fun p => .tuple [p.1, p.2]
theorem wk_zip {K : PySem.W.Frag} {k1 k2 : Bool} {a b : Addr} {xs ys : List V} {is js : List D} {H0 : Hp} (fa : FzAll K H0 xs is) (fb : FzAll K H0 ys js) : Wk K (Izp K k1 k2 a b) (zipD is js) (fun H => FzS k1 K H a xs ∧ FzS k2 K H b ys ∧ Pers H0 H) where
  st := fun H H' ⟨h, h2, q⟩ p _ => ⟨h.pers p, h2.pers p, q.trans p⟩
  go := fun i H d ⟨h, h2, q⟩ e => by
    unfold zipD at e
    rw [List.getElem?_map] at e
    cases q1 : (is.zip js)[i]? with
    | none => rw [q1] at e; cases e
    | some pr =>
      rw [q1] at e
      cases e
      obtain ⟨e1, e2⟩ := List.getElem?_zip_eq_some.mp q1
      obtain ⟨v, f1, f⟩ := fa.get' e1
      obtain ⟨u, g1, g⟩ := fb.get' e2
      refine ⟨⟨xs, ys, v, u, h.sq, h2.sq, f1, g1⟩, fun x H' y => ?_⟩
      obtain ⟨o, T, x1, x2, od, ex, nT, eH, y1, y2⟩ := y
      subst ex eH
      rw [y1 xs h.sq] at f1
      rw [y2 ys h2.sq] at g1
      cases f1
      cases g1
      have sm := Same.upd (o := tupO o [v, u]) nT
      exact ⟨sm, .tup (.new od) (.cons (f.pers (q.trans (.of_same sm))) (.cons (g.pers (q.trans (.of_same sm))) .nil))⟩
  stop := fun H ⟨h, h2, q⟩ => by
    refine ⟨xs, ys, h.sq, h2.sq, ?_⟩
    unfold zipD
    rw [List.length_map, List.length_zip, fa.length, fb.length]
def enumD (xs : List D) : List D := xs.zipIdx.map fun p => .tuple [.int (p.2 : Nat), p.1]
theorem wk_enum {K : PySem.W.Frag} {k : Bool} {a : Addr} {xs : List V} {is : List D} {H0 : Hp} (fa : FzAll K H0 xs is) : Wk K (Ien K k a) (enumD is) (fun H => FzS k K H a xs ∧ Pers H0 H) where
  st := fun H H' ⟨h, q⟩ p _ => ⟨h.pers p, q.trans p⟩
  go := fun i H d ⟨h, q⟩ e => by
    unfold enumD at e
    rw [List.getElem?_map, List.getElem?_zipIdx] at e
    cases q1 : is[i]? with
    | none => rw [q1] at e; cases e
    | some x =>
      rw [q1] at e
      simp only [Option.map_some, Nat.zero_add, Option.some.injEq] at e
      subst e
      obtain ⟨v, f1, f⟩ := fa.get' q1
      refine ⟨⟨xs, v, h.sq, f1⟩, fun y H' z => ?_⟩
      obtain ⟨o, T, x1, od, ex, nT, eH, y1⟩ := z
      subst ex eH
      rw [y1 xs h.sq] at f1
      cases f1
      have sm := Same.upd (o := tupO o [V.int (i : Nat), v]) nT
      exact ⟨sm, .tup (.new od) (.cons (.int _) (.cons (f.pers (q.trans (.of_same sm))) .nil))⟩
  stop := fun H ⟨h, q⟩ => ⟨xs, h.sq, by simp [enumD, fa.length]⟩
end PP

namespace PP
open PySem PySem.Spec L2
open PyProof.Rows hiding St
section
variable {X : Cx} {W : WX} {tg e : Expr} {pos : Pos}
/-! ### sources -/
theorem r_iter {m : M D} (h : RE X W e m) : RI X W tg e (ap1 itemsD m) := by
  refine ⟨fun pins s σ H R I q => ?_⟩
  have q := tD1 q
  refine thn (h.run pins s σ H _ I q) fun v s1 ⟨x, H1, I1, r1, d, f, c, e, q1⟩ => ?_
  cases f with
  | lst hl fa =>
    cases e
    cases r1
    obtain ⟨its, rv, p, hz⟩ := I1.list hl.sq
    exact wpAny_pyIter_list p.isList (pi_one (tk := s1.toks) I1 _ (turn_list _ _) ⟨_, Heap.get?_push_size _ rfl, rfl, rfl⟩ (q1 _ _ (Same.refl _) ⟨_, wk_list fa, hl, Pers.refl _⟩))
  | tup hl fa =>
    cases e
    cases r1
    obtain ⟨its, rv, p, hz⟩ := I1.tuple hl.sq
    exact wpAny_pyIter_tuple (show s1.heap.IsTuple _ its.toArray from p) (pi_one (tk := s1.toks) I1 _ (turn_tuple _ _) ⟨_, Heap.get?_push_size _ rfl, rfl, rfl⟩ (q1 _ _ (Same.refl _) ⟨_, wk_tup fa, hl, Pers.refl _⟩))
  | str x =>
    cases e
    obtain ⟨t, rfl⟩ := r1
    have q2 := q1 (Its x) H1 (Same.refl _) ⟨_, wk_str, trivial⟩
    cases ha : x.cps.all (· < 128)
    · exact wpAny_pyIter_wide ha (pi_one (tk := s1.toks) I1 _ (turn_str _ x t "str_iterator" (.inr rfl)) ⟨_, Heap.get?_push_size _ rfl, rfl, rfl⟩ q2)
    · exact wpAny_pyIter_ascii ha (pi_one (tk := s1.toks) I1 _ (turn_str _ x t "str_ascii_iterator" (.inl rfl)) ⟨_, Heap.get?_push_size _ rfl, rfl, rfl⟩ q2)
  | _ => cases e
def rng1 : List D → Option (List D)
  | [.int j] => if -(2 ^ 62) ≤ j ∧ j < 2 ^ 62 then some (rngD 0 j.toNat) else none
  | _ => none
def rng2 : List D → Option (List D)
  | [.int i, .int j] => if (-(2 ^ 62) ≤ i ∧ i < 2 ^ 62) ∧ (-(2 ^ 62) ≤ j ∧ j < 2 ^ 62) then some (rngD i (j - i).toNat) else none
  | _ => none
theorem fzAll1 {K : PySem.W.Frag} {H : Hp} {vs : List V} {x : D} (f : FzAll K H vs [x]) : ∃ v, vs = [v] ∧ Fz K H v x := by
  cases f with
  | cons h t => cases t; exact ⟨_, rfl, h⟩
theorem fzAll2 {K : PySem.W.Frag} {H : Hp} {vs : List V} {x y : D} (f : FzAll K H vs [x, y]) : ∃ v u, vs = [v, u] ∧ Fz K H v x ∧ Fz K H u y := by
  cases f with
  | cons h t =>
    cases t with
    | cons h2 t2 => cases t2; exact ⟨_, _, rfl, h, h2⟩
theorem r_rng1 {a : Expr} {m : M (List D)} {p : Pos} (hm : X.mg "range" = none) (ha : RA X W [a] m) (hg : Gl X "range" := by rfl) (hs : starEach [a] X.env = [(false, eval a X.env)] := by rfl) : RI X W tg (.Call (.Name "range" p) [a] [] pos) (apA rng1 m) :=
  PI.imp (pi_range1 hg hm ha hs) fun σ H Q h => tG_mono (tDA h) fun vs H1 _ ⟨xs, f, c, e, q⟩ => by
    unfold rng1 at e
    split at e
    · split at e
      · rename_i j hb
        cases e
        obtain ⟨v, ev, f1⟩ := fzAll1 f
        subst ev
        cases f1
        exact ⟨j, rfl, hb.1, hb.2, q _ _ (Same.refl _) ⟨_, wk_rng, trivial⟩⟩
      · cases e
    · cases e
theorem r_rng2 {a b : Expr} {m : M (List D)} {p : Pos} (hm : X.mg "range" = none) (ha : RA X W [a, b] m) (hg : Gl X "range" := by rfl) (hs : starEach [a, b] X.env = [(false, eval a X.env), (false, eval b X.env)] := by rfl) (hs2 : starEach [b] X.env = [(false, eval b X.env)] := by rfl) :
    RI X W tg (.Call (.Name "range" p) [a, b] [] pos) (apA rng2 m) :=
  PI.imp (pi_range2 hg hm ha hs hs2) fun σ H Q h => tG_mono (tDA h) fun vs H1 _ ⟨xs, f, c, e, q⟩ => by
    unfold rng2 at e
    split at e
    · split at e
      · rename_i i j hb
        cases e
        obtain ⟨v, u, ev, f1, f2⟩ := fzAll2 f
        subst ev
        cases f1
        cases f2
        exact ⟨i, j, rfl, ⟨hb.1.1, hb.1.2, hb.2.1, hb.2.2⟩, q _ _ (Same.refl _) ⟨_, wk_rng, trivial⟩⟩
      · cases e
    · cases e
def zip2 : List D → Option (List D)
  | [x, y] => match seqD x, seqD y with
    | some xs, some ys => some (zipD xs ys)
    | _, _ => none
  | _ => none
theorem zip2_inv {l c : List D} (e : zip2 l = some c) : ∃ x y xs ys, l = [x, y] ∧ seqD x = some xs ∧ seqD y = some ys ∧ c = zipD xs ys := by
  unfold zip2 at e
  split at e
  · split at e
    · cases e
      exact ⟨_, _, _, _, rfl, by assumption, by assumption, rfl⟩
    · cases e
  · cases e
theorem r_zip {a b : Expr} {m : M (List D)} {p tpos : Pos} {elts : List Expr} {kk : Nat} (hm : X.mg "zip" = none) (ha : RA X W [a, b] m) (hg : Gl X "zip" := by rfl) (hs : starEach [a, b] X.env = (false, eval a X.env) :: starEach [b] X.env := by rfl) (hpl : (backTo pos (starEach [b] X.env)).any (·.1) = false := by rfl) :
    RI X W (.Tuple elts kk tpos) (.Call (.Name "zip" p) [a, b] [] pos) (apA zip2 m) :=
  PI.imp (pi_zp hg hm ha hs hpl) fun σ H Q h => tG_mono (tDA h) fun vs H1 _ ⟨xs, f, c, e, q⟩ => by
    obtain ⟨x, y, is, js, rfl, e1, e2, rfl⟩ := zip2_inv e
    obtain ⟨v, u, ev, f1, f2⟩ := fzAll2 f
    subst ev
    obtain ⟨k1, a1, xs1, rfl, s1, g1⟩ := seqD_src f1 e1
    obtain ⟨k2, a2, xs2, rfl, s2, g2⟩ := seqD_src f2 e2
    exact ⟨k1, k2, a1, a2, xs1, xs2, rfl, s1.sq, s2.sq, q _ _ (Same.refl _) ⟨_, wk_zip g1 g2, s1, s2, Pers.refl _⟩⟩
def enum1 : List D → Option (List D)
  | [x] => (seqD x).map enumD
  | _ => none
theorem r_enum {a : Expr} {m : M (List D)} {p tpos : Pos} {elts : List Expr} {kk : Nat} (hm : X.mg "enumerate" = none) (ha : RA X W [a] m) (hg : Gl X "enumerate" := by rfl) (hs : starEach [a] X.env = [(false, eval a X.env)] := by rfl) :
    RI X W (.Tuple elts kk tpos) (.Call (.Name "enumerate" p) [a] [] pos) (apA enum1 m) :=
  PI.imp (pi_en hg hm ha hs) fun σ H Q h => tG_mono (tDA h) fun vs H1 _ ⟨xs, f, c, e, q⟩ => by
    unfold enum1 at e
    split at e
    · rename_i x
      cases e1 : seqD x with
      | none => rw [e1] at e; cases e
      | some is =>
        rw [e1] at e
        cases e
        obtain ⟨v, ev, f1⟩ := fzAll1 f
        subst ev
        obtain ⟨k1, a1, xs1, rfl, s1, g1⟩ := seqD_src f1 e1
        exact ⟨k1, a1, xs1, rfl, s1.sq, q _ _ (Same.refl _) ⟨_, wk_enum g1, s1, Pers.refl _⟩⟩
    · cases e

/-! ### for -/
def loop (b : Bd) (body : M Fl) : List D → M Fl
  | [], g => .ok .nx g
  | x :: r, g => match b x g with
    | none => .stuck
    | some g1 => match body g1 with
      | .ok .nx g2 => loop b body r g2
      | .ok .cnt g2 => loop b body r g2
      | .ok .brk g2 => .ok .nx g2
      | .ok (.ret v) g2 => .ok (.ret v) g2
      | .exc c g2 => .exc c g2
      | .stuck => .stuck
def sFor (b : Bd) (mi : M (List D)) (body : M Fl) : M Fl := bnd mi fun items => loop b body items
/-- go on with the rest -/
theorem tS_go {K : PySem.W.Frag} {g g1 : Ga} {σ σ1 : St} {R R1 : List Addr} {H H1 : Hp} {m : M Fl} {D : Ends} (b1 : BorK g g1) (k1 : Kp g σ σ1) (e1 : Ext R H H1) (w1 : New R H R1) (s1 : SRep K H1 σ1 g1 R1) (n1 : R1.Nodup)
    (h : match m g1 with
      | .ok f g' => ∀ σ' H', GoS K g σ R H g' σ' H' → f.end K D σ' H'
      | .exc c g' => ∀ σ' H', GoS K g σ R H g' σ' H' → W (.ref (He.ga K c)) none σ' H'
      | .stuck => False) : tS K W m D σ1 H1 := by
  refine ⟨g1, R1, s1, n1, ?_⟩
  cases e2 : m g1 with
  | stuck => rw [e2] at h; exact h
  | exc c g' => rw [e2] at h; exact fun σ' H' go => h σ' H' (go.then b1 k1 e1 w1)
  | ok a g' => rw [e2] at h; exact fun σ' H' go => h σ' H' (go.then b1 k1 e1 w1)
theorem for_of {b : Bd} {us : List Nat} {mi : M (List D)} {body : M Fl} {D : Ends} {σ : St} {H : Hp} (h : tS X.K W (sFor b mi body) D σ H) : tFor (tG (repI X.K) X.K W mi) (tBd X.K us b) (tS X.K W body) D σ H := by
  refine tG_mono (tS_bind h) fun J H1 _ ⟨items, ⟨G, wk, g0⟩, q⟩ => ?_
  refine ⟨fun i m σ H => i + m = items.length ∧ G H ∧ tS X.K W (loop b body (items.drop i)) D σ H, ⟨items.length, by omega, g0, by simpa using q⟩, ?_⟩
  rintro i m σ2 H2 ⟨em, gH, t⟩
  by_cases hi : i < items.length
  · right
    have ed : items.drop i = items[i] :: items.drop (i + 1) := (List.getElem_cons_drop hi).symm
    rw [ed] at t
    obtain ⟨go, yld⟩ := wk.go i H2 _ gH (List.getElem?_eq_getElem hi)
    refine ⟨go, fun σ' H' => G H' ∧ tS X.K W (loop b body (items.drop (i + 1))) D σ' H', fun σ' H' ⟨g', t'⟩ => ⟨m - 1, by omega, by omega, g', t'⟩, fun x H3 y => ?_⟩
    obtain ⟨sm, fx⟩ := yld x H3 y
    obtain ⟨g, R, s, n, t⟩ := t
    unfold loop at t
    cases e1 : b items[i] g with
    | none => rw [e1] at t; exact t.elim
    | some g1 =>
      rw [e1] at t
      dsimp only at t
      have s3 := s.same sm
      refine ⟨g, R, _, g1, s3, n, fx, e1, fun σ3 _ b3 k3 ⟨R3, s4, n4, m4⟩ => ?_⟩
      have e3 : Ext R H2 H3 := Ext.of_same sm
      have w3 : New R H2 R3 := fun a ha => .inl (m4 a ha)
      have pG : ∀ {σ4 : St} {H4 : Hp} {g2 : Ga}, GoS X.K g1 σ3 R3 H3 g2 σ4 H4 → G H4 := fun {σ4 H4 g2} go => by
        obtain ⟨_, _, R4, _, _, e4, _⟩ := go
        exact wk.st H2 H4 gH ((Pers.of_same sm).trans (e4.pers s4.live)) (fun _ z => nomatch z)
      refine ⟨g1, R3, s4, n4, ?_⟩
      cases e2 : body g1 with
      | stuck => rw [e2] at t; exact t
      | exc c g2 => rw [e2] at t; exact fun σ4 H4 go => t σ4 H4 (go.then b3 k3 e3 w3)
      | ok f g2 =>
        rw [e2] at t
        intro σ4 H4 go
        cases f with
        | nx =>
          obtain ⟨bk, kk, R4, s5, n5, e5, w5⟩ := id go
          exact ⟨pG go, tS_go (b3.trans bk) (k3.trans b3 kk) (e3.trans w3 e5) (New.trans e3 w3 w5) s5 n5 t⟩
        | cnt =>
          obtain ⟨bk, kk, R4, s5, n5, e5, w5⟩ := id go
          exact ⟨pG go, tS_go (b3.trans bk) (k3.trans b3 kk) (e3.trans w3 e5) (New.trans e3 w3 w5) s5 n5 t⟩
        | brk => exact t σ4 H4 (go.then b3 k3 e3 w3)
        | ret v => exact t σ4 H4 (go.then b3 k3 e3 w3)
  · left
    have e1 : i = items.length := by omega
    subst e1
    rw [List.drop_length] at t
    exact ⟨wk.stop H2 gH, tS_ok t⟩
theorem r_for {iter : Expr} {body : List Stmt} {b : Bd} {us : List Nat} {mi : M (List D)} {m : M Fl} (hp : PassesOwn (model X.prog X.w) X.A X.env X.xe) (hc : X.calm = true) (hi : RI X W tg iter mi) (hg : RG X tg us b) (hb : RSs X W body m)
    (hs : ∀ x, foldedSetIterable iter X.env x = pure x := by intro _; rfl) : RS X W (.For tg iter body [] pos) (sFor b mi m) := PS.imp (ps_for hp hc hi hg hb hs) fun D σ H h => for_of h

/-! ### while -/
def loopW (t : M Bool) (body : M Fl) : Nat → M Fl
  | 0 => fun _ => .stuck
  | n + 1 => bnd t fun k => if k = true then (fun g => match body g with
      | .ok .nx g2 => loopW t body n g2
      | .ok .cnt g2 => loopW t body n g2
      | .ok .brk g2 => .ok .nx g2
      | .ok (.ret v) g2 => .ok (.ret v) g2
      | .exc c g2 => .exc c g2
      | .stuck => .stuck) else fun g => .ok .nx g
def sWhile (fuel : Ga → Nat) (t : M Bool) (body : M Fl) : M Fl := fun g => loopW t body (fuel g) g
theorem r_while {c : Expr} {body : List Stmt} {t : M Bool} {m : M Fl} (fuel : Ga → Nat) (hp : PassesOwn (model X.prog X.w) X.A X.env X.xe) (hc : RT X W c t) (hb : RSs X W body m) : RS X W (.While c body [] pos) (sWhile fuel t m) := PS.imp (ps_while hp hc hb) fun D σ H h => by
  obtain ⟨g0, R0, s0, n0, h⟩ := h
  refine ⟨fun k σ H => tS X.K W (loopW t m k) D σ H, ⟨fuel g0, g0, R0, s0, n0, h⟩, ?_⟩
  intro k σ H h
  cases k with
  | zero => obtain ⟨_, _, _, _, h⟩ := h; exact h.elim
  | succ k =>
    refine tG_mono (tS_bind h) fun b H1 _ ⟨b', e, q⟩ => ?_
    subst e
    cases b with
    | false => exact tS_ok q
    | true =>
      rw [if_pos rfl]
      refine ⟨fun σ' H' => tS X.K W (loopW t m k) D σ' H', fun σ' H' t' => ⟨k, Nat.lt_succ_self k, t'⟩, ?_⟩
      rw [if_pos rfl] at q
      obtain ⟨g, R, s, n, q⟩ := q
      refine ⟨g, R, s, n, ?_⟩
      dsimp only at q
      cases e2 : m g with
      | stuck => rw [e2] at q; exact q
      | exc c g2 => rw [e2] at q; exact q
      | ok f g2 =>
        rw [e2] at q
        intro σ4 H4 go
        cases f with
        | nx =>
          obtain ⟨bk, kk, R4, s5, n5, e5, w5⟩ := id go
          exact tS_go bk kk e5 w5 s5 n5 q
        | cnt =>
          obtain ⟨bk, kk, R4, s5, n5, e5, w5⟩ := id go
          exact tS_go bk kk e5 w5 s5 n5 q
        | brk => exact q σ4 H4 go
        | ret v => exact q σ4 H4 go
end
end PP

namespace PP
open PySem PySem.Spec L2
open PyProof.Rows hiding St

/-! ### comprehensions -/
def wipeG (g : Ga) : List Nat → Ga
  | [] => g
  | v :: vs => (wipeG g vs).set v none
theorem wipeG_len (g : Ga) : ∀ vs, (wipeG g vs).length = g.length
  | [] => rfl
  | v :: vs => by unfold wipeG; rw [List.length_set, wipeG_len g vs]
theorem wipe_rep {K : PySem.W.Frag} {H : Hp} {σ : St} {g : Ga} {R : List Addr} (s : SRep K H σ g R) (n : R.Nodup) : ∀ vs : List Nat, ∃ R', SRep K H (wipe σ vs) (wipeG g vs) R' ∧ R'.Nodup ∧ ∀ a ∈ R', a ∈ R
  | [] => ⟨R, s, n, fun a h => h⟩
  | v :: vs => by
    obtain ⟨R1, s1, n1, m1⟩ := wipe_rep s n vs
    obtain ⟨R2, s2, n2, m2⟩ := SRep.forget v none s1 n1
    exact ⟨R2, s2, n2, fun a h => m1 a (m2 a h)⟩
/-- slots of nothing may hold anything -/
theorem SRep.loose {K : PySem.W.Frag} {H : Hp} : ∀ {σ σ' : St} {g : Ga} {R : List Addr}, SRep K H σ g R → σ'.length = σ.length → (∀ (i : Nat) (t : Tv), g[i]? = some (some t) → σ'[i]? = σ[i]?) → SRep K H σ' g R
  | [], [], _, _, .nil, _, _ => .nil
  | [], _ :: _, _, _, .nil, h, _ => by simp at h
  | _ :: _, [], _, _, _, h, _ => by simp at h
  | _ :: σ, _ :: σ', _, _, .skip s, h, k => .skip (SRep.loose s (by simpa using h) fun i t e => by simpa using k (i + 1) t (by simpa using e))
  | _ :: σ, o :: σ', _, _, .cons t s, h, k => by
    have e0 := k 0 _ rfl
    simp at e0
    subst e0
    exact .cons t (SRep.loose s (by simpa using h) fun i t e => by simpa using k (i + 1) t (by simpa using e))
theorem wipeG_in {g : Ga} {i : Nat} : ∀ {vs : List Nat} {t : Tv}, (wipeG g vs)[i]? = some (some t) → i ∉ vs ∧ g[i]? = some (some t)
  | [], t, h => ⟨by simp, h⟩
  | v :: vs, t, h => by
    unfold wipeG at h
    by_cases e : v = i
    · subst e
      by_cases hv : v < (wipeG g vs).length
      · rw [List.getElem?_set_self hv] at h
        cases h
      · rw [List.getElem?_eq_none (by simpa using hv)] at h
        cases h
    · rw [List.getElem?_set_ne e] at h
      obtain ⟨h1, h2⟩ := wipeG_in h
      exact ⟨by simp only [List.mem_cons, not_or]; exact ⟨fun z => e z.symm, h1⟩, h2⟩
theorem wipe_out' {σ : St} {i : Nat} : ∀ {vs : List Nat}, i ∉ vs → (wipe σ vs)[i]? = σ[i]?
  | [], _ => rfl
  | v :: vs, h => by
    simp only [List.mem_cons, not_or] at h
    unfold wipe
    rw [List.getElem?_set_ne (fun e => h.1 e.symm)]
    exact wipe_out' h.2
/-- back from the block -/
theorem unwipe {K : PySem.W.Frag} {H : Hp} {σ : St} {g : Ga} {R : List Addr} {vs : List Nat} (s : SRep K H (wipe σ vs) (wipeG g vs) R) : SRep K H σ (wipeG g vs) R :=
  s.loose (wipe_length σ vs).symm fun i t e => (wipe_out' (wipeG_in e).1).symm
theorem borK_wipe {g : Ga} {vs : List Nat} (h : vs.all (fun i => freeAt g i) = true) : BorK g (wipeG g vs) := fun i t e b => by
  by_cases hi : i ∈ vs
  · have := List.all_eq_true.mp h i hi
    rw [freeAt_bor this e] at b
    cases b
  · have : ∀ vs : List Nat, i ∉ vs → (wipeG g vs)[i]? = g[i]? := by
      intro vs
      induction vs with
      | nil => intro _; rfl
      | cons v vs ih =>
        intro hv
        simp only [List.mem_cons, not_or] at hv
        unfold wipeG
        rw [List.getElem?_set_ne (fun e => hv.1 e.symm)]
        exact ih hv.2
    exact ⟨t, by rw [this vs hi]; exact e, b⟩
abbrev WF : WX := fun _ _ _ _ => False
def cl (vs : List Nat) (b : Bd) (t : M Bool) (e : M D) : List D → List D → M (List D)
  | [], acc, g => .ok acc g
  | x :: r, acc, g => match b x g with
    | none => .stuck
    | some g1 => match t g1 with
      | .ok true g2 => (match e g2 with
        | .ok y g3 => if vs.all (fun i => freeAt g3 i) = true then cl vs b t e r (acc ++ [y]) (wipeG g3 vs) else .stuck
        | _ => .stuck)
      | .ok false g2 => if vs.all (fun i => freeAt g2 i) = true then cl vs b t e r acc (wipeG g2 vs) else .stuck
      | _ => .stuck
def eLc (vs : List Nat) (b : Bd) (t : M Bool) (e : M D) (mi : M (List D)) : M (List D) := bnd mi fun items g1 => if vs.all (fun i => freeAt g1 i) = true ∧ items.length ≤ sizeLine then (match cl vs b t e items [] (wipeG g1 vs) with
  | .ok ys g2 => .ok ys g2
  | _ => .stuck) else .stuck
/-- the slots that the target sets, forgotten again, are as they were -/
theorem wipe_back {σ σ2 : St} {g g2 : Ga} {vs : List Nat} (hl : σ2.length = σ.length) (h : ∀ i, i ∉ vs → σ2[i]? = σ[i]?) : wipe σ2 vs = wipe σ vs := by
  apply List.ext_getElem?
  intro i
  by_cases hi : i ∈ vs
  · have key : ∀ (τ : St) (us : List Nat), i ∈ us → (wipe τ us)[i]? = if i < τ.length then some none else none := by
      intro τ us
      induction us with
      | nil => intro h; cases h
      | cons v us ih =>
        intro h
        unfold wipe
        by_cases e : v = i
        · subst e
          by_cases hv : v < τ.length
          · rw [List.getElem?_set_self (by rw [wipe_length]; exact hv), if_pos hv]
          · rw [List.getElem?_eq_none (by rw [List.length_set, wipe_length]; omega), if_neg hv]
        · rw [List.getElem?_set_ne e]
          exact ih ((List.mem_cons.mp h).resolve_left (fun z => e z.symm))
    rw [key _ _ hi, key _ _ hi, hl]
  · rw [wipe_out' hi, wipe_out' hi, h i hi]
theorem Ch.wipe {σ σ2 : St} {vs : List Nat} (c : Ch vs σ σ2) : L2.wipe σ2 vs = L2.wipe σ vs := wipe_back (g := []) (g2 := []) c.1 c.2
theorem wipe_idem (σ : St) (vs : List Nat) : L2.wipe (L2.wipe σ vs) vs = L2.wipe σ vs :=
  wipe_back (g := []) (g2 := []) (wipe_length σ vs) fun i hi => wipe_out' hi
/-! ### expressions that make a list -/
def GoL (K : PySem.W.Frag) (σ : St) (R : List Addr) (H : Hp) (g g' : Ga) (p : Addr) (vs : List V) (ys : List D) (H' : Hp) : Prop :=
  BorK g g' ∧ H' p = some (.lst vs) ∧ FzAll K H' vs ys ∧ ∃ R', SRep K H' σ g' R' ∧ (p :: R').Nodup ∧ Ext R H H' ∧ New R H (p :: R')
def tL (K : PySem.W.Frag) (W : WX) (m : M (List D)) : TE := fun σ H Q => ∃ g R, SRep K H σ g R ∧ R.Nodup ∧ match m g with
  | .ok ys g' => ∀ p vs H', GoL K σ R H g g' p vs ys H' → Q (.ref p) H'
  | .exc c g' => ∀ H', Go K σ R H g g' H' → W (.ref (He.ga K c)) none σ H'
  | .stuck => False
def RL (X : Cx) (W : WX) (e : Expr) (m : M (List D)) : Prop := PE X e (tL X.K W m)
theorem GoL.frz {K : PySem.W.Frag} {σ : St} {R : List Addr} {H : Hp} {g g' : Ga} {p : Addr} {vs : List V} {ys : List D} {H' : Hp} (h : GoL K σ R H g g' p vs ys H') (o : Obj) :
    Go K σ R H g g' (L2.upd H' p (.frz o (.lst vs))) ∧ Fz K (L2.upd H' p (.frz o (.lst vs))) (.ref p) (.list ys) := by
  obtain ⟨bk, hp, fa, R', s, n, e, w⟩ := h
  have pe : Pers H' (L2.upd H' p (.frz o (.lst vs))) := fun a u hu hf => by
    rw [upd_ne]
    · exact hu
    · rintro rfl
      rw [hp] at hu
      cases hu
      cases hf
  obtain ⟨n1, n2⟩ := List.nodup_cons.mp n
  refine ⟨⟨bk, R', s.keep pe fun a ha => upd_ne (fun z => n1 (z ▸ ha)), n2, fun a u hu ha => ?_, fun a ha => w a (List.mem_cons_of_mem _ ha)⟩, .lst (.inl ⟨o, upd_same⟩) (fa.pers pe)⟩
  rw [upd_ne]
  · exact e a u hu ha
  · rintro rfl
    rcases w a List.mem_cons_self with q | q
    · exact ha q
    · rw [hu] at q; cases q
def frzL (m : M (List D)) : M D := bnd m fun ys g => .ok (.list ys) g
section
variable {X : Cx} {W : WX} {e : Expr}
theorem r_fzL {m : M (List D)} (h : RL X W e m) : RE X W e (frzL m) := PE.imp (pe_fz h) fun σ H Q h => by
  obtain ⟨g, R, s, n, h⟩ := h
  refine ⟨g, R, s, n, ?_⟩
  unfold frzL bnd at h
  cases e : m g with
  | stuck => rw [e] at h; exact h
  | exc c g' => rw [e] at h; exact h
  | ok ys g' =>
    rw [e] at h
    intro p vs H' go
    refine ⟨p, .lst vs, rfl, go.2.1, trivial, fun o => ?_⟩
    obtain ⟨h1, h2⟩ := go.frz o
    exact h _ _ h1 h2
end
def LPost (K : PySem.W.Frag) (σ : St) (R : List Addr) (H : Hp) (g : Ga) (Q : VK) : Rs (List D) → Prop
  | .ok ys g' => ∀ p vs H', GoL K σ R H g g' p vs ys H' → Q (.ref p) H'
  | _ => False
set_option maxHeartbeats 1000000 in
theorem lc_gen {K : PySem.W.Frag} {b : Bd} {us vs : List Nat} {t : M Bool} {e : M D} {items : List D} {σ : St} {H1 : Hp} {Q : VK} {g1 : Ga} {R1 L : List Addr} {J : It} {G : Hp → Prop} {FR : Rs (List D)} (hus : ∀ i ∈ us, i ∈ vs)
    (s1 : SRep K H1 σ g1 R1) (n1 : R1.Nodup) (wk : Wk K J items G L) (g0 : G H1) (hL : ∀ a ∈ L, H1 a ≠ none ∧ a ∉ R1) (cf : (vs.all fun i => freeAt g1 i) = true) (cz : items.length ≤ sizeLine) (hfr : cl vs b t e items [] (wipeG g1 vs) = FR)
    (h : LPost K σ R1 H1 g1 Q FR) (Dd : Addr) (nD : H1 Dd = none) : ∃ W : Nat → Nat → Hp → Prop, (∃ m, W 0 m (L2.upd H1 Dd (.lst []))) ∧ ∀ i m H, W i m H →
  (J.stop i H ∧ Q (.ref Dd) H) ∨ (J.go i H ∧ ∃ Nx : Hp → Prop, (∀ H', Nx H' → ∃ m', m' < m ∧ W (i + 1) m' H') ∧ ∀ x H', J.yld i H x H' → tBd K us b x (L2.wipe σ vs) H' fun σ2 H2 => L2.wipe σ2 vs = L2.wipe σ vs ∧ tTD K WF t σ2 H2 fun b H3 =>
    if b = true then tD K WF e σ2 H3 fun y H4 => ∃ acc, H4 Dd = some (.lst acc) ∧ acc.length < sizeLine ∧ Nx (L2.upd H4 Dd (.lst (acc ++ [y]))) else Nx H3) := by
      have smD : Same H1 (L2.upd H1 Dd (.lst [])) := Same.upd nD
      obtain ⟨Rw, sw, nw, mw⟩ := wipe_rep s1 n1 vs
      have nDw : ∀ {R' : List Addr}, (∀ a ∈ R', a ∈ R1) → Dd ∉ R' := fun hm hd => s1.root_some Dd (hm Dd hd) nD
      have hL0 : ∀ {Hi : Hp} {Ri : List Addr}, Ext R1 H1 Hi → New R1 H1 (Dd :: Ri) → ∀ a ∈ L, Hi a = H1 a ∧ a ∉ Dd :: Ri := fun {Hi Ri} ei wi a ha => by
        obtain ⟨q1, q2⟩ := hL a ha
        cases q : H1 a with
        | none => exact absurd q q1
        | some o =>
          refine ⟨ei a o q q2, fun z => ?_⟩
          rcases wi a z with y | y
          · exact q2 y
          · exact q1 y
      refine ⟨fun i m Hi => i + m = items.length ∧ G Hi ∧ ∃ gx Ri accV acc, SRep K Hi (L2.wipe σ vs) (wipeG gx vs) Ri ∧ (Dd :: Ri).Nodup ∧ Hi Dd = some (.lst accV) ∧ FzAll K Hi accV acc ∧ accV.length ≤ i ∧ Ext R1 H1 Hi ∧ New R1 H1 (Dd :: Ri) ∧
        BorK (wipeG g1 vs) (wipeG gx vs) ∧ cl vs b t e (items.drop i) acc (wipeG gx vs) = FR, ⟨items.length, by omega, wk.st H1 _ g0 (Pers.of_same smD) (fun a ha => (hL0 (Ri := Rw) (Ext.of_same smD) (fun c hc => by
        rcases List.mem_cons.mp hc with z | z
        · rw [z]; exact .inr nD
        · exact .inl (mw c z)) a ha).1), g1, Rw, [], [], sw.same smD, ?_, upd_same, .nil, Nat.zero_le _, Ext.of_same smD, ?_, BorK.refl _, by simpa using hfr⟩, ?_⟩
      · exact List.nodup_cons.mpr ⟨nDw mw, nw⟩
      · intro a ha
        rcases List.mem_cons.mp ha with z | z
        · rw [z]; exact .inr nD
        · exact .inl (mw a z)
      · rintro i m Hi ⟨eim, gH, gx, Ri, accV, acc, si, ni, hD, fa, al, ei, wi, bi, ec⟩
        obtain ⟨nD1, nD2⟩ := List.nodup_cons.mp ni
        by_cases hi : i < items.length
        · right
          have ed : items.drop i = items[i] :: items.drop (i + 1) := (List.getElem_cons_drop hi).symm
          rw [ed] at ec
          obtain ⟨jg, yld⟩ := wk.go i Hi _ gH (List.getElem?_eq_getElem hi)
          refine ⟨jg, fun H' => G H' ∧ ∃ gx Ri accV acc, SRep K H' (L2.wipe σ vs) (wipeG gx vs) Ri ∧ (Dd :: Ri).Nodup ∧ H' Dd = some (.lst accV) ∧ FzAll K H' accV acc ∧ accV.length ≤ i + 1 ∧ Ext R1 H1 H' ∧ New R1 H1 (Dd :: Ri) ∧
            BorK (wipeG g1 vs) (wipeG gx vs) ∧ cl vs b t e (items.drop (i + 1)) acc (wipeG gx vs) = FR, fun H' hN => ⟨m - 1, by omega, by omega, hN⟩, fun x H3 y => ?_⟩
          obtain ⟨sm, fx⟩ := yld x H3 y
          have s3 := si.same sm
          have hD3 : H3 Dd = some (.lst accV) := sm _ _ hD
          unfold cl at ec
          cases eb : b items[i] (wipeG gx vs) with
          | none =>
            rw [eb] at ec
            dsimp only at ec
            rw [← ec] at h
            exact h.elim
          | some ga =>
            rw [eb] at ec
            dsimp only at ec
            refine ⟨_, Ri, _, ga, s3, nD2, fx, eb, fun σ2 ch b2 k2 ⟨R2, s4, n4, m4⟩ => ⟨?_, ?_⟩⟩
            · rw [(ch.mono hus).wipe, wipe_idem]
            · have nD4 : Dd ∉ R2 := fun z => nD1 (m4 _ z)
              refine ⟨ga, R2, s4, n4, ?_⟩
              -- the end of a turn
              have fin : ∀ {H5 : Hp} {gz : Ga} {R5 : List Addr} {accV' : List V} {acc' : List D}, SRep K H5 σ2 gz R5 → R5.Nodup → Dd ∉ R5 → H5 Dd = some (.lst accV') → FzAll K H5 accV' acc' → accV'.length ≤ i + 1 → Ext (Dd :: Ri) Hi H5 → New (Dd :: Ri) Hi R5 → Pers Hi H5 →
                  BorK ga gz → vs.all (fun i => freeAt gz i) = true → cl vs b t e (items.drop (i + 1)) acc' (wipeG gz vs) = FR →
                  G H5 ∧ ∃ gx Ri accV acc, SRep K H5 (L2.wipe σ vs) (wipeG gx vs) Ri ∧ (Dd :: Ri).Nodup ∧ H5 Dd = some (.lst accV) ∧ FzAll K H5 accV acc ∧ accV.length ≤ i + 1 ∧ Ext R1 H1 H5 ∧ New R1 H1 (Dd :: Ri) ∧
                    BorK (wipeG g1 vs) (wipeG gx vs) ∧ cl vs b t e (items.drop (i + 1)) acc (wipeG gx vs) = FR := by
                intro H5 gz R5 accV' acc' s5 n5 nD5 hD5 fa5 al5 e5 w5 p5 b5 f5 c5
                obtain ⟨R6, s6, n6, m6⟩ := wipe_rep s5 n5 vs
                rw [(ch.mono hus).wipe, wipe_idem] at s6
                refine ⟨wk.st Hi H5 gH p5 (fun a ha => ?_), gz, R6, accV', acc', s6, List.nodup_cons.mpr ⟨fun z => nD5 (m6 _ z), n6⟩, hD5, fa5, al5, ei.trans wi e5, ?_, (bi.trans (b2.trans b5)).trans (borK_wipe f5), c5⟩
                · obtain ⟨z1, z2⟩ := hL0 ei wi a ha
                  cases q : H1 a with
                  | none => exact absurd q (hL a ha).1
                  | some o =>
                    rw [z1, q]
                    rw [q] at z1
                    exact e5 a o z1 z2
                have : New R1 H1 R5 := New.trans ei wi w5
                intro a ha
                rcases List.mem_cons.mp ha with z | z
                · rw [z]; exact wi Dd List.mem_cons_self
                · exact this a (m6 a z)
              have x3 : Ext (Dd :: Ri) Hi H3 := Ext.of_same sm
              have w3 : New (Dd :: Ri) Hi R2 := fun a ha => .inl (List.mem_cons_of_mem _ (m4 a ha))
              cases et : t ga with
              | stuck => rw [et] at ec; dsimp only at ec; rw [← ec] at h; exact h.elim
              | exc c g' => rw [et] at ec; dsimp only at ec; rw [← ec] at h; exact h.elim
              | ok bt gb =>
                rw [et] at ec
                intro bt' H4 go4 ebt
                subst ebt
                obtain ⟨b4, R4, s5, n5, x4, w4⟩ := go4
                have hD4 : H4 Dd = some (.lst accV) := x4 _ _ hD3 nD4
                have nD5 : Dd ∉ R4 := fun z => by
                  rcases w4 Dd z with q | q
                  · exact nD4 q
                  · rw [hD3] at q; cases q
                have p4 : Pers Hi H4 := (Pers.of_same sm).trans (x4.pers s4.live)
                cases bt' with
                | false =>
                  dsimp only at ec
                  rw [if_neg Bool.false_ne_true]
                  split at ec
                  · rename_i cf2
                    exact fin s5 n5 nD5 hD4 (fa.pers p4) (by omega) (x3.trans w3 x4) (New.trans x3 w3 w4) p4 b4 cf2 ec
                  · rw [← ec] at h; exact h.elim
                | true =>
                  dsimp only at ec
                  rw [if_pos rfl]
                  refine ⟨gb, R4, s5, n5, ?_⟩
                  cases ee : e gb with
                  | stuck => rw [ee] at ec; dsimp only at ec; rw [← ec] at h; exact h.elim
                  | exc c g' => rw [ee] at ec; dsimp only at ec; rw [← ec] at h; exact h.elim
                  | ok yd gc =>
                    rw [ee] at ec
                    dsimp only at ec
                    intro yv H5 go5 fy
                    obtain ⟨b5, R5, s6, n6, x5, w5⟩ := go5
                    have hD5 : H5 Dd = some (.lst accV) := x5 _ _ hD4 nD5
                    have nD6 : Dd ∉ R5 := fun z => by
                      rcases w5 Dd z with q | q
                      · exact nD5 q
                      · rw [hD4] at q; cases q
                    have p5 : Pers Hi H5 := p4.trans (x5.pers s5.live)
                    refine ⟨accV, hD5, by omega, ?_⟩
                    have p6 : Pers H5 (L2.upd H5 Dd (.lst (accV ++ [yv]))) := fun a u hu hf => by
                      rw [upd_ne]
                      · exact hu
                      · rintro rfl
                        rw [hD5] at hu
                        cases hu
                        cases hf
                    split at ec
                    · rename_i cf2
                      refine fin (s6.keep p6 fun a ha => upd_ne (fun z => nD6 (z ▸ ha))) n6 nD6 upd_same (((fa.pers p5).append (.cons fy .nil)).pers p6) (by rw [List.length_append, List.length_singleton]; omega) ?_ ?_ (p5.trans p6) (b4.trans b5) cf2 ec
                      · intro a u hu ha
                        rw [upd_ne]
                        · exact ((x3.trans w3 x4).trans (New.trans x3 w3 w4) x5) a u hu ha
                        · rintro rfl
                          exact ha List.mem_cons_self
                      · exact New.trans (x3.trans w3 x4) (New.trans x3 w3 w4) w5
                    · rw [← ec] at h; exact h.elim
        · left
          have e2 : i = items.length := by omega
          subst e2
          rw [List.drop_length] at ec
          have ec' : Rs.ok acc (wipeG gx vs) = FR := ec
          rw [← ec'] at h
          refine ⟨wk.stop Hi gH, h Dd accV Hi ⟨(borK_wipe cf).trans bi, hD, fa, Ri, unwipe si, ni, ei, wi⟩⟩
theorem GoL.then {K : PySem.W.Frag} {g g1 g2 : Ga} {σ : St} {R R1 : List Addr} {H H1 H2 : Hp} {p : Addr} {vs : List V} {ys : List D} (b1 : BorK g g1) (e1 : Ext R H H1) (w1 : New R H R1) (h : GoL K σ R1 H1 g1 g2 p vs ys H2) : GoL K σ R H g g2 p vs ys H2 := by
  obtain ⟨b2, hp, fa, R2, s2, n2, e2, w2⟩ := h
  exact ⟨b1.trans b2, hp, fa, R2, s2, n2, e1.trans w1 e2, New.trans e1 w1 w2⟩
theorem lc_of {K : PySem.W.Frag} {W : WX} {b : Bd} {us vs : List Nat} {t : M Bool} {e : M D} {mi : M (List D)} {σ : St} {H : Hp} {Q : VK} (hus : ∀ i ∈ us, i ∈ vs) (h : tL K W (eLc vs b t e mi) σ H Q) :
    tLc (tG (repI K) K W mi) (tBd K us b) (tTD K WF t) (tD K WF e) vs σ H Q := by
  obtain ⟨g, R, s, n, h⟩ := h
  refine ⟨g, R, s, n, ?_⟩
  unfold eLc bnd at h
  cases em : mi g with
  | stuck => rw [em] at h; exact h
  | exc c g' => rw [em] at h; exact h
  | ok items g1 =>
    rw [em] at h
    dsimp only at h
    intro J H1 go ⟨G, wk, g0⟩ Dd nD
    obtain ⟨bk1, R1, s1, n1, e1, w1⟩ := go
    by_cases cond : (vs.all fun i => freeAt g1 i) = true ∧ items.length ≤ sizeLine
    · rw [if_pos cond] at h
      obtain ⟨cf, cz⟩ := cond
      refine lc_gen hus s1 n1 wk g0 (fun a z => nomatch z) cf cz rfl ?_ Dd nD
      cases ec : cl vs b t e items [] (wipeG g1 vs) with
      | stuck => rw [ec] at h; exact h
      | exc c g' => rw [ec] at h; exact h
      | ok ys g2 =>
        rw [ec] at h
        exact fun p vs H' go => h p vs H' (go.then bk1 e1 w1)
    · rw [if_neg cond] at h
      exact h.elim
/-! over a list of one's own, hidden meanwhile -/
def eLcV (vs : List Nat) (b : Bd) (t : M Bool) (e : M D) (j : Nat) : M (List D) := fun g => match g[j]? with
  | some (some (.ml bb xs)) => if vs.all (fun i => freeAt (g.set j none) i) = true ∧ xs.length ≤ sizeLine ∧ j ∉ vs then (match cl vs b t e xs [] (wipeG (g.set j none) vs) with
    | .ok ys g2 => (match g2[j]? with
      | some none => .ok ys (g2.set j (some (.ml bb xs)))
      | _ => .stuck)
    | _ => .stuck) else .stuck
  | _ => .stuck
end PP

namespace PP
open PySem PySem.Spec L2
open PyProof.Rows hiding St
section
variable {X : Cx} {W : WX} {tg e a : Expr} {pos : Pos}
theorem PTs.imp {X : Cx} {ifs : List Expr} {t t' : TT} (h : PTs X ifs t) (k : ∀ σ H Q, t' σ H Q → t σ H Q) : PTs X ifs t' := ⟨fun pins s σ H Q I q => h.run pins s σ H Q I (k σ H Q q)⟩
def RTs (X : Cx) (W : WX) (ifs : List Expr) (m : M Bool) : Prop := PTs X ifs (tTD X.K W m)
def tAll : M Bool := fun g => .ok true g
theorem r_ifs0 : RTs X W [] tAll := PTs.imp pts_nil fun σ H Q h => tG_ret h rfl
theorem r_ifs1 {c : Expr} {t : M Bool} (h : RT X W c t) : RTs X W [c] t := pts_one h
theorem r_lc {elt iter : Expr} {ifs : List Expr} {scope : Scope} {own : List (Str × Nat)} {us : List Nat} {mi : M (List D)} {b : Bd} {t : M Bool} {m : M D} (hc : X.calm = true) (hN : X.N.Nodup) (hi : RI X W tg iter mi) (ok : BlkOk X.N X.env.scope scope own) (hus : ∀ i ∈ us, i ∈ own.map (·.2))
    (hg : ∀ (s : Shared) (H : Hp) (C : Addr) (cl : List (Str × Addr)) (fp : List Addr), RG (X.blk s H scope (compEnvC scope cl C X.env) fp) tg us b) (ht : ∀ (s : Shared) (H : Hp) (C : Addr) (cl : List (Str × Addr)) (fp : List Addr), RTs (X.blk s H scope (compEnvC scope cl C X.env) fp) WF ifs t)
    (he : ∀ (s : Shared) (H : Hp) (C : Addr) (cl : List (Str × Addr)) (fp : List Addr), RE (X.blk s H scope (compEnvC scope cl C X.env) fp) WF elt m) (hs : ∀ x, foldedSetIterable iter X.env x = pure x := by intro _; rfl) :
    RL X W (.ListComp elt [⟨tg, iter, ifs, 0⟩] scope pos) (eLc (own.map (·.2)) b t m mi) := PE.imp (pe_lc (g := tBd X.K us b) (tt := tTD X.K WF t) (te := tD X.K WF m) hc hN hi ok hg ht he hs) fun σ H Q h => lc_of hus h
def sSetL (i : Nat) (m : M (List D)) : M Fl := bnd m fun ys g1 => if freeAt g1 i = true then .ok .nx (g1.set i (some (.ml false ys))) else .stuck
theorem setL_of {i : Nat} {m : M (List D)} {D : Ends} {σ : St} {H : Hp} (h : tS X.K W (sSetL i m) D σ H) : tL X.K W m σ H (fun x H1 => gName i x σ H1 D.nx) := by
  obtain ⟨g, R, s, n, h⟩ := h
  refine ⟨g, R, s, n, ?_⟩
  unfold sSetL bnd at h
  cases e : m g with
  | stuck => rw [e] at h; exact h
  | exc c g' => rw [e] at h; exact fun H' go => h σ H' go.s
  | ok ys g1 =>
    rw [e] at h
    dsimp only at h
    intro p vs H' go
    obtain ⟨bk, hp, fa, R', s', n', e', w'⟩ := go
    by_cases hf : freeAt g1 i = true
    · rw [if_pos hf] at h
      obtain ⟨R2, s2, n2, m2⟩ := SRep.set (TRep.ml (b := false) hp fa) i s' (by simpa using n')
      refine h _ _ ⟨bk.trans (borK_set hf), (Kp.refl g σ).trans bk (kp_set hf), R2, s2, n2, e', fun c hc => w' c ?_⟩
      simpa using m2 c hc
    · rw [if_neg hf] at h
      exact h.elim
theorem r_setL {i : Nat} {x : Str} {m : M (List D)} {pos' : Pos} (hN : X.N.Nodup) (he : RL X W e m) (hi : X.N[i]? = some x := by rfl) (hx : Loc X.env.scope x := by first | exact Or.inl rfl | exact Or.inr rfl) (hs : swapsWith e (some (.Name x pos')) pos.line X.env = pure false := by rfl)
    (hf : X.fn x = true ∨ X.env.scope.names.lookup x = some .local := by first | exact .inl rfl | exact .inr rfl) : RS X W (.Assign [.Name x pos'] e pos) (sSetL i m) :=
  PS.imp (ps_set hN hi hx he hs hf) fun D σ H h => setL_of h
theorem r_setLc {i : Nat} {y : Str} {py spos : Pos} {elt iter : Expr} {ifs : List Expr} {scope : Scope} {own : List (Str × Nat)} {us : List Nat} {mi : M (List D)} {b : Bd} {t : M Bool} {m : M D} (hc : X.calm = true) (hN : X.N.Nodup) (hi : RI X W tg iter mi) (ok : BlkOk X.N X.env.scope scope own) (hus : ∀ i ∈ us, i ∈ own.map (·.2))
    (hg : ∀ (s : Shared) (H : Hp) (C : Addr) (cl : List (Str × Addr)) (fp : List Addr), RG (X.blk s H scope (compEnvC scope cl C X.env) fp) tg us b) (ht : ∀ (s : Shared) (H : Hp) (C : Addr) (cl : List (Str × Addr)) (fp : List Addr), RTs (X.blk s H scope (compEnvC scope cl C X.env) fp) WF ifs t)
    (he : ∀ (s : Shared) (H : Hp) (C : Addr) (cl : List (Str × Addr)) (fp : List Addr), RE (X.blk s H scope (compEnvC scope cl C X.env) fp) WF elt m)
    (hsw : swapsWith (.ListComp elt [⟨tg, iter, ifs, 0⟩] scope pos) (some (.Name y py)) spos.line X.env = pure true) (hy : X.N[i]? = some y := by rfl) (hyl : X.env.scope.names.lookup y = some .local := by rfl) (hs : ∀ x, foldedSetIterable iter X.env x = pure x := by intro _; rfl) :
    RS X W (.Assign [.Name y py] (.ListComp elt [⟨tg, iter, ifs, 0⟩] scope pos) spos) (sSetL i (eLc (own.map (·.2)) b t m mi)) := PS.imp (ps_setLc (g := tBd X.K us b) (tt := tTD X.K WF t) (te := tD X.K WF m) hc hN hy hyl hsw hi ok hg ht he hs) fun D σ H h => lc_of hus (setL_of h)

/-! ### a list display, list(x), as new lists -/
theorem tL_new {m : M (List D)} {σ : St} {H : Hp} {Q : VK} (h : tL X.K W m σ H Q) : tAD X.K W m σ H fun vs H1 => ∀ p, H1 p = none → Q (.ref p) (L2.upd H1 p (.lst vs)) := by
  obtain ⟨g, R, s, n, h⟩ := h
  refine ⟨g, R, s, n, ?_⟩
  cases e : m g with
  | stuck => rw [e] at h; exact h
  | exc c g' => rw [e] at h; exact h
  | ok ys g1 =>
    rw [e] at h
    intro vs H1 go fa p np
    obtain ⟨bk, R1, s1, n1, e1, w1⟩ := go
    have sm := Same.upd (o := HO.lst vs) np
    refine h p vs _ ⟨bk, upd_same, fa.pers (.of_same sm), R1, s1.same sm, List.nodup_cons.mpr ⟨fun z => s1.root_some p z np, n1⟩, e1.trans w1 (Ext.of_same sm), fun c hc => ?_⟩
    rcases List.mem_cons.mp hc with z | z
    · subst z
      by_cases hr : c ∈ R
      · exact .inl hr
      · exact .inr (e1.none np hr)
    · exact w1 c z
def lLst (m : M (List D)) : M (List D) := bnd m fun xs g => if xs.length ≤ sizeLine then .ok xs g else .stuck
theorem lLst_ok {m : M (List D)} {σ : St} {H : Hp} {Q : VK} (h : tL X.K W (lLst m) σ H Q) : tAD X.K W m σ H fun vs H1 => vs.length ≤ sizeLine ∧ ∀ p, H1 p = none → Q (.ref p) (L2.upd H1 p (.lst vs)) := by
  obtain ⟨g, R, s, n, h⟩ := tL_new h
  refine ⟨g, R, s, n, ?_⟩
  unfold lLst bnd at h
  cases e : m g with
  | stuck => rw [e] at h; exact h
  | exc c g' => rw [e] at h; exact h
  | ok ys g1 =>
    rw [e] at h
    dsimp only at h
    intro vs H1 go fa
    by_cases hl : ys.length ≤ sizeLine
    · rw [if_pos hl] at h
      exact ⟨by rw [fa.length]; exact hl, h vs H1 go fa⟩
    · rw [if_neg hl] at h
      exact h.elim
theorem r_lstL {es : List Expr} {m : M (List D)} (h : RA X W es m) : RL X W (.List es pos) (lLst m) := PE.imp (pe_lst h) fun σ H Q h => lLst_ok h

/-! ### a list of one's own: read, changed -/
def isMl (g : Ga) (i : Nat) : Bool := match g[i]? with
  | some (some (.ml _ _)) => true
  | _ => false
theorem isMl_get {g : Ga} {i : Nat} (h : isMl g i = true) : ∃ b xs, g[i]? = some (some (.ml b xs)) := by
  unfold isMl at h
  split at h
  · exact ⟨_, _, by assumption⟩
  · cases h
theorem SRep.mlv {K : PySem.W.Frag} {H : Hp} {σ : St} {g : Ga} {R : List Addr} {i : Nat} (s : SRep K H σ g R) (n : R.Nodup) (h : isMl g i = true) : ∃ p vs, σ[i]? = some (some (.ref p)) ∧ H p = some (.lst vs) := by
  obtain ⟨b, xs, e⟩ := isMl_get h
  obtain ⟨p, vs, h1, h2, _⟩ := s.put n e
  exact ⟨p, vs, h1, h2⟩
/-- rewritten in place -/
theorem put_go {K : PySem.W.Frag} {g : Ga} {σ : St} {R : List Addr} {H : Hp} {i : Nat} {b : Bool} {xs : List D} (s : SRep K H σ g R) (n : R.Nodup) (e : g[i]? = some (some (.ml b xs))) :
    ∃ p vs, σ[i]? = some (some (.ref p)) ∧ H p = some (.lst vs) ∧ FzAll K H vs xs ∧ ∀ (us : List V) (ys : List D), FzAll K H us ys → Go K σ R H g (g.set i (some (.ml b ys))) (L2.upd H p (.lst us)) ∧ Pers H (L2.upd H p (.lst us)) := by
  obtain ⟨p, vs, h1, h2, h3, h4, h5⟩ := s.put n e
  refine ⟨p, vs, h1, h2, h3, fun us ys fa => ?_⟩
  have pe : Pers H (L2.upd H p (.lst us)) := fun c u hu hf => by
    rw [upd_ne]
    · exact hu
    · rintro rfl
      rw [h2] at hu
      cases hu
      cases hf
  obtain ⟨R', s', sb⟩ := h5 (L2.upd H p (.lst us)) (.ml b ys) [p] pe (fun c _ hc => upd_ne hc) (.ml upd_same (fa.pers pe)) (List.Sublist.refl _)
  refine ⟨⟨fun j t ej bb => ?_, R', s', sb.nodup n, fun c u hu hc => ?_, fun c hc => .inl (sb.subset hc)⟩, pe⟩
  · by_cases hj : i = j
    · subst hj
      rw [e] at ej
      cases ej
      have hl : i < g.length := (List.getElem?_eq_some_iff.mp e).1
      exact ⟨_, List.getElem?_set_self hl, bb⟩
    · exact ⟨t, by rw [List.getElem?_set_ne hj]; exact ej, bb⟩
  · rw [upd_ne]
    · exact hu
    · rintro rfl
      exact hc h4
theorem Go.then {K : PySem.W.Frag} {g g1 g2 : Ga} {σ : St} {R R1 : List Addr} {H H1 H2 : Hp} (b1 : BorK g g1) (e1 : Ext R H H1) (w1 : New R H R1) (h : Go K σ R1 H1 g1 g2 H2) : Go K σ R H g g2 H2 := by
  obtain ⟨b2, R2, s2, n2, e2, w2⟩ := h
  exact ⟨b1.trans b2, R2, s2, n2, e1.trans w1 e2, New.trans e1 w1 w2⟩
/-- x.append(e), x.pop(e) ..: the slot's list, then the argument, then the deed -/
def onL {α β : Type} (i : Nat) (m : M β) (f : List D → β → Option (α × List D)) : M α := fun g => if isMl g i = true then (match m g with
  | .ok x g1 => (match g1[i]? with
    | some (some (.ml b xs)) => (match f xs x with
      | some (y, ys) => .ok y (g1.set i (some (.ml b ys)))
      | none => .stuck)
    | _ => .stuck)
  | .exc c g1 => .exc c g1
  | .stuck => .stuck) else .stuck
theorem onL_of {α β γ δ : Type} {i : Nat} {m : M β} {f : List D → β → Option (α × List D)} {rep : Hp → γ → β → Prop} {rep2 : Hp → δ → α → Prop} {σ : St} {H : Hp} {Q : δ → Hp → Prop} (h : tG rep2 X.K W (onL i m f) σ H Q) :
    ∃ p vs, σ[i]? = some (some (.ref p)) ∧ H p = some (.lst vs) ∧ tG rep X.K W m σ H fun u H1 => ∃ vs1 xs x y ys, H1 p = some (.lst vs1) ∧ FzAll X.K H1 vs1 xs ∧ rep H1 u x ∧ f xs x = some (y, ys) ∧
      ∀ us d, FzAll X.K H1 us ys → (Pers H1 (L2.upd H1 p (.lst us)) → rep2 (L2.upd H1 p (.lst us)) d y) → Q d (L2.upd H1 p (.lst us)) := by
  obtain ⟨g, R, s, n, h⟩ := h
  unfold onL at h
  by_cases hm : isMl g i = true
  · rw [if_pos hm] at h
    obtain ⟨p, vs, h1, h2⟩ := s.mlv n hm
    refine ⟨p, vs, h1, h2, g, R, s, n, ?_⟩
    cases e : m g with
    | stuck => rw [e] at h; exact h
    | exc c g' => rw [e] at h; exact h
    | ok x g1 =>
      rw [e] at h
      dsimp only at h
      intro u H1 go ru
      obtain ⟨bk, R1, s1, n1, e1, w1⟩ := go
      cases eg : g1[i]? with
      | none => rw [eg] at h; exact h.elim
      | some o =>
        cases o with
        | none => rw [eg] at h; exact h.elim
        | some t =>
          cases t with
          | d z => rw [eg] at h; exact h.elim
          | md _ _ _ => rw [eg] at h; exact h.elim
          | ml b xs =>
            rw [eg] at h
            dsimp only at h
            cases ef : f xs x with
            | none => rw [ef] at h; exact h.elim
            | some yy =>
              obtain ⟨y, ys⟩ := yy
              rw [ef] at h
              obtain ⟨p', vs1, q1, q2, q3, q4⟩ := put_go s1 n1 eg
              rw [h1] at q1
              cases q1
              refine ⟨vs1, xs, x, y, ys, q2, q3, ru, ef, fun us d fu rd => ?_⟩
              obtain ⟨go2, pe⟩ := q4 us ys fu
              exact h d _ (go2.then bk e1 w1) (rd pe)
  · rw [if_neg hm] at h
    exact h.elim
def fApp (xs : List D) (x : D) : Option (D × List D) := if xs.length < sizeLine then some (.none, xs ++ [x]) else none
def eApp (i : Nat) (m : M D) : M D := onL i m fApp
theorem r_app {x : Str} {i : Nat} {m : M D} {np apos cpos : Pos} (he : RE X W e m) (hN : X.N[i]? = some x := by rfl) (hv : Vis X.env.scope x := by first | exact Or.inl rfl | exact Or.inr (Or.inl rfl) | exact Or.inr (Or.inr rfl)) (hd : (x == ("__debug__" : Str)) = false := by decide)
    (hcd : (x == ("__classdict__" : Str)) = false := by decide) (hbase : attributeBase (.Name x np) "append" X.env (eval (.Name x np) X.env) = eval (.Name x np) X.env := by rfl)
    (hfew : ((backTo cpos (starEach [e] X.env)).all (fun x => !x.1) && (backToKw cpos (keywordEach [] X.env)).all (fun x => x.1.isSome)
      && decide ([e].length + ([] : List Keyword).length + (if ([] : List Keyword).isEmpty then 0 else 1) < 30)) = true := by rfl)
    (hline : (apos.endLine == cpos.line) = true := by rfl) (hs : starEach [e] X.env = (false, eval e X.env) :: starEach [] X.env := by rfl) (hplain : (backTo cpos (starEach [] X.env)).any (·.1) = false := by rfl) :
    RE X W (.Call (.Attribute (.Name x np) "append" apos) [e] [] cpos) (eApp i m) :=
  PE.imp (pe_bm PySem.F.plainAttrs_list PySem.F.slot_list_append PySem.F.type_list_append mt_append (pe_var hN hv hd hcd) (pa_cons he pa_nil hs) hbase hfew hline hs hplain) fun σ H Q h => by
    obtain ⟨p, vs, h1, h2, q⟩ := onL_of (rep := Fz X.K) h
    refine ⟨.ref p, h1, .inl ⟨rfl, _, SqL.of h2⟩, tG_mono q fun u H1 _ ⟨vs1, xs, x, y, ys, q1, q2, q3, q4, q5⟩ => ?_⟩
    unfold fApp at q4
    split at q4
    · rename_i hl
      cases q4
      exact ⟨p, vs1, u, rfl, rfl, q1, by rw [q2.length]; exact hl, q5 _ _ (q2.append (.cons q3 .nil)) fun _ => .non⟩
    · cases q4
/-- the place of an index of any sign -/
def fPop (xs : List D) (x : D) : Option (D × List D) := match x with
  | .int i => if -(2 ^ 63) ≤ i ∧ i < 2 ^ 63 then (match seqIndex? i xs.length with
    | some k => (xs[k]?).map fun y => (y, xs.eraseIdx k)
    | none => none) else none
  | _ => none
def ePop (i : Nat) (m : M D) : M D := onL i m fPop
theorem r_pop {x : Str} {i : Nat} {m : M D} {np apos cpos : Pos} (he : RE X W e m) (hN : X.N[i]? = some x := by rfl) (hv : Vis X.env.scope x := by first | exact Or.inl rfl | exact Or.inr (Or.inl rfl) | exact Or.inr (Or.inr rfl)) (hd : (x == ("__debug__" : Str)) = false := by decide)
    (hcd : (x == ("__classdict__" : Str)) = false := by decide) (hbase : attributeBase (.Name x np) "pop" X.env (eval (.Name x np) X.env) = eval (.Name x np) X.env := by rfl)
    (hfew : ((backTo cpos (starEach [e] X.env)).all (fun x => !x.1) && (backToKw cpos (keywordEach [] X.env)).all (fun x => x.1.isSome)
      && decide ([e].length + ([] : List Keyword).length + (if ([] : List Keyword).isEmpty then 0 else 1) < 30)) = true := by rfl)
    (hline : (apos.endLine == cpos.line) = true := by rfl) (hs : starEach [e] X.env = (false, eval e X.env) :: starEach [] X.env := by rfl) (hplain : (backTo cpos (starEach [] X.env)).any (·.1) = false := by rfl) :
    RE X W (.Call (.Attribute (.Name x np) "pop" apos) [e] [] cpos) (ePop i m) :=
  PE.imp (pe_bm PySem.F.plainAttrs_list PySem.F.slot_list_pop PySem.F.type_list_pop mt_popAt (pe_var hN hv hd hcd) (pa_cons he pa_nil hs) hbase hfew hline hs hplain) fun σ H Q h => by
    obtain ⟨p, vs, h1, h2, q⟩ := onL_of (rep := Fz X.K) h
    refine ⟨.ref p, h1, .inl ⟨rfl, _, SqL.of h2⟩, tG_mono q fun u H1 _ ⟨vs1, xs, x, y, ys, q1, q2, q3, q4, q5⟩ => ?_⟩
    unfold fPop at q4
    cases q3 with
    | int k0 =>
      dsimp only at q4
      split at q4
      · rename_i hb
        cases ek : seqIndex? k0 xs.length with
        | none => rw [ek] at q4; cases q4
        | some k =>
          rw [ek] at q4
          dsimp only at q4
          cases eg : xs[k]? with
          | none => rw [eg] at q4; cases q4
          | some z =>
            rw [eg] at q4
            cases q4
            obtain ⟨v, ev, fv⟩ := q2.get' eg
            exact ⟨p, vs1, k0, k, v, rfl, rfl, q1, hb.1, hb.2, by rw [q2.length]; exact ek, ev, q5 _ _ (q2.eraseIdx k) fun pe => fv.pers pe⟩
      · cases q4
    | _ => cases q4
end
end PP

namespace PP
open PySem PySem.Spec L2
open PyProof.Rows hiding St
/-- a list of one's own taken out of its slot -/
theorem SRep.takeOut {K : PySem.W.Frag} {H : Hp} : ∀ {σ : St} {g : Ga} {R : List Addr} {i : Nat} {b : Bool} {xs : List D}, SRep K H σ g R → R.Nodup → g[i]? = some (some (.ml b xs)) →
    ∃ a vs R', σ[i]? = some (some (.ref a)) ∧ H a = some (.lst vs) ∧ FzAll K H vs xs ∧ a ∈ R ∧ SRep K H σ (g.set i none) R' ∧ R'.Sublist R ∧ a ∉ R'
  | _, _, _, _, _, _, .nil, _, e => by simp at e
  | _, _, _, 0, _, _, .skip h, _, e => by simp at e
  | _, _, _, i + 1, b, xs, .skip h, n, e => by
    obtain ⟨a, vs, R', h1, h2, h3, h4, h5, h6, h7⟩ := SRep.takeOut (i := i) (b := b) (xs := xs) h n (by simpa using e)
    exact ⟨a, vs, R', by simpa using h1, h2, h3, h4, .skip h5, h6, h7⟩
  | _, _, _, 0, _, _, .cons t h, n, e => by
    simp at e
    subst e
    cases t with
    | ml e1 e2 =>
      refine ⟨_, _, _, rfl, e1, e2, List.mem_append_left _ (List.mem_singleton.mpr rfl), .skip h, List.sublist_append_right _ _, fun z => ?_⟩
      exact (List.nodup_append.mp n).2.2 _ (List.mem_singleton.mpr rfl) _ z rfl
  | _, _, _, i + 1, b, xs, .cons t h, n, e => by
    obtain ⟨a, vs, R', h1, h2, h3, h4, h5, h6, h7⟩ := SRep.takeOut (i := i) (b := b) (xs := xs) h (List.nodup_append.mp n).2.1 (by simpa using e)
    refine ⟨a, vs, _, by simpa using h1, h2, h3, List.mem_append_right _ h4, .cons t h5, h6.append_left _, fun z => ?_⟩
    rcases List.mem_append.mp z with y | y
    · exact (List.nodup_append.mp n).2.2 a y a h4 rfl
    · exact h7 y
theorem set_self {σ : St} {i : Nat} {o : Option V} (h : σ[i]? = some o) : σ.set i o = σ := by
  apply List.ext_getElem?
  intro j
  by_cases e : i = j
  · subst e
    have hl := (List.getElem?_eq_some_iff.mp h).1
    rw [List.getElem?_set_self hl, h]
  · rw [List.getElem?_set_ne e]
theorem upd_self {H : Hp} {a : Addr} {o : HO} (h : H a = some o) : L2.upd H a o = H := by
  funext b
  by_cases e : b = a
  · subst e; rw [upd_same, h]
  · rw [upd_ne e]
section
variable {X : Cx} {W : WX} {tg e a : Expr} {pos : Pos}
theorem lcV_of {K : PySem.W.Frag} {b : Bd} {us vs : List Nat} {t : M Bool} {e : M D} {j : Nat} {σ : St} {H : Hp} {Q : VK} (hus : ∀ i ∈ us, i ∈ vs) (h : tL K W (eLcV vs b t e j) σ H Q) :
    tLc (iList K (tVar j)) (tBd K us b) (tTD K WF t) (tD K WF e) vs σ H Q := by
  obtain ⟨g, R, s, n, h⟩ := h
  unfold eLcV at h
  cases eg : g[j]? with
  | none => rw [eg] at h; exact h.elim
  | some o =>
    cases o with
    | none => rw [eg] at h; exact h.elim
    | some tt =>
      cases tt with
      | d z => rw [eg] at h; exact h.elim
      | md _ _ _ => rw [eg] at h; exact h.elim
      | ml bb xs =>
        rw [eg] at h
        dsimp only at h
        by_cases cond : (vs.all fun i => freeAt (g.set j none) i) = true ∧ xs.length ≤ sizeLine ∧ j ∉ vs
        · rw [if_pos cond] at h
          obtain ⟨p, lv, R', h1, h2, h3, h4, h5, h6, h7⟩ := s.takeOut n eg
          refine ⟨.ref p, h1, p, rfl, ⟨lv, SqL.of h2⟩, fun Dd nD => ?_⟩
          have wk : Wk K (Itl K p) xs (fun Hx => Hx p = some (.lst lv) ∧ Pers H Hx) [p] := {
            st := fun Ha Hb ⟨q1, q2⟩ pe k => ⟨(k p (List.mem_singleton.mpr rfl)).trans q1, q2.trans pe⟩
            go := fun i Hx d ⟨q1, q2⟩ ei => by
              obtain ⟨v, e1, f⟩ := h3.get' ei
              refine ⟨⟨lv, v, SqL.of q1, e1⟩, fun x H' y => ?_⟩
              obtain ⟨eh, y⟩ := y
              subst eh
              rw [y lv (SqL.of q1)] at e1
              cases e1
              exact ⟨Same.refl _, f.pers q2⟩
            stop := fun Hx ⟨q1, q2⟩ => ⟨lv, SqL.of q1, by rw [h3.length]; exact Nat.le_refl _⟩ }
          refine lc_gen hus h5 (h6.nodup n) wk ⟨h2, Pers.refl _⟩ (fun c hc => ?_) cond.1 cond.2.1 rfl ?_ Dd nD
          · rw [List.mem_singleton] at hc
            subst hc
            exact ⟨by rw [h2]; simp, h7⟩
          · cases ec : cl vs b t e xs [] (wipeG (g.set j none) vs) with
            | stuck => rw [ec] at h; exact h
            | exc c g' => rw [ec] at h; exact h
            | ok ys g2 =>
              rw [ec] at h
              dsimp only at h
              intro q vs' H' go
              obtain ⟨bk, hq, fa, R2, s2, n2, e2, w2⟩ := go
              cases eg2 : g2[j]? with
              | none => rw [eg2] at h; exact h.elim
              | some o2 =>
                cases o2 with
                | some t2 => rw [eg2] at h; exact h.elim
                | none =>
                  rw [eg2] at h
                  obtain ⟨n3, n4⟩ := List.nodup_cons.mp n2
                  have hp' : H' p = some (.lst lv) := e2 p _ h2 h7
                  have pe : Pers H H' := e2.pers h5.live
                  have np2 : p ∉ R2 := fun z => by
                    rcases w2 p (List.mem_cons_of_mem _ z) with y | y
                    · exact h7 y
                    · rw [h2] at y; cases y
                  have npq : p ≠ q := fun z => by
                    rcases w2 q List.mem_cons_self with y | y
                    · rw [← z] at y; exact h7 y
                    · rw [← z, h2] at y; cases y
                  obtain ⟨R3, s3, m3, l3⟩ := SRep.set (TRep.ml (b := bb) hp' (h3.pers pe)) j s2 (by simpa using ⟨np2, n4⟩)
                  rw [set_self h1] at s3
                  have l3' : ∀ c ∈ R3, c = p ∨ c ∈ R2 := fun c hc => by simpa using l3 c hc
                  refine h q vs' H' ⟨fun i t ei bt => ?_, hq, fa, R3, s3, List.nodup_cons.mpr ⟨fun z => ?_, m3⟩, fun c o hc hr => e2 c o hc fun z => hr (h6.subset z), fun c hc => ?_⟩
                  · by_cases hj : j = i
                    · subst hj
                      rw [eg] at ei
                      cases ei
                      exact ⟨_, List.getElem?_set_self (List.getElem?_eq_some_iff.mp eg2).1, bt⟩
                    · obtain ⟨t', z1, z2⟩ := bk i t (by rw [List.getElem?_set_ne hj]; exact ei) bt
                      exact ⟨t', by rw [List.getElem?_set_ne hj]; exact z1, z2⟩
                  · rcases l3' q z with y | y
                    · exact npq y.symm
                    · exact n3 y
                  · rcases List.mem_cons.mp hc with z | z
                    · subst z
                      rcases w2 c List.mem_cons_self with y | y
                      · exact .inl (h6.subset y)
                      · exact .inr y
                    · rcases l3' c z with y | y
                      · rw [y]; exact .inl h4
                      · rcases w2 c (List.mem_cons_of_mem _ y) with x | x
                        · exact .inl (h6.subset x)
                        · exact .inr x
        · rw [if_neg cond] at h
          exact h.elim
theorem r_lcV {elt : Expr} {x : Str} {np : Pos} {j : Nat} {ifs : List Expr} {scope : Scope} {own : List (Str × Nat)} {us : List Nat} {b : Bd} {t : M Bool} {m : M D} (hc : X.calm = true) (hN : X.N.Nodup) (ok : BlkOk X.N X.env.scope scope own) (hus : ∀ i ∈ us, i ∈ own.map (·.2))
    (hg : ∀ (s : Shared) (H : Hp) (C : Addr) (cl : List (Str × Addr)) (fp : List Addr), RG (X.blk s H scope (compEnvC scope cl C X.env) fp) tg us b) (ht : ∀ (s : Shared) (H : Hp) (C : Addr) (cl : List (Str × Addr)) (fp : List Addr), RTs (X.blk s H scope (compEnvC scope cl C X.env) fp) WF ifs t)
    (he : ∀ (s : Shared) (H : Hp) (C : Addr) (cl : List (Str × Addr)) (fp : List Addr), RE (X.blk s H scope (compEnvC scope cl C X.env) fp) WF elt m) (hj : X.N[j]? = some x := by rfl) (hv : Vis X.env.scope x := by first | exact Or.inl rfl | exact Or.inr (Or.inl rfl) | exact Or.inr (Or.inr rfl)) (hd : (x == ("__debug__" : Str)) = false := by decide)
    (hcd : (x == ("__classdict__" : Str)) = false := by decide) (hs : ∀ y, foldedSetIterable (.Name x np) X.env y = pure y := by intro _; rfl) :
    RL X W (.ListComp elt [⟨tg, .Name x np, ifs, 0⟩] scope pos) (eLcV (own.map (·.2)) b t m j) := PE.imp (pe_lc (g := tBd X.K us b) (tt := tTD X.K WF t) (te := tD X.K WF m) hc hN (pi_list (pe_var hj hv hd hcd)) ok hg ht he hs) fun σ H Q h => lcV_of hus h
theorem r_setLcV {i : Nat} {y : Str} {py spos : Pos} {elt : Expr} {x : Str} {np : Pos} {j : Nat} {ifs : List Expr} {scope : Scope} {own : List (Str × Nat)} {us : List Nat} {b : Bd} {t : M Bool} {m : M D} (hc : X.calm = true) (hN : X.N.Nodup) (ok : BlkOk X.N X.env.scope scope own) (hus : ∀ i ∈ us, i ∈ own.map (·.2))
    (hg : ∀ (s : Shared) (H : Hp) (C : Addr) (cl : List (Str × Addr)) (fp : List Addr), RG (X.blk s H scope (compEnvC scope cl C X.env) fp) tg us b) (ht : ∀ (s : Shared) (H : Hp) (C : Addr) (cl : List (Str × Addr)) (fp : List Addr), RTs (X.blk s H scope (compEnvC scope cl C X.env) fp) WF ifs t)
    (he : ∀ (s : Shared) (H : Hp) (C : Addr) (cl : List (Str × Addr)) (fp : List Addr), RE (X.blk s H scope (compEnvC scope cl C X.env) fp) WF elt m)
    (hsw : swapsWith (.ListComp elt [⟨tg, .Name x np, ifs, 0⟩] scope pos) (some (.Name y py)) spos.line X.env = pure true) (hy : X.N[i]? = some y := by rfl) (hyl : X.env.scope.names.lookup y = some .local := by rfl) (hj : X.N[j]? = some x := by rfl) (hv : Vis X.env.scope x := by first | exact Or.inl rfl | exact Or.inr (Or.inl rfl) | exact Or.inr (Or.inr rfl)) (hd : (x == ("__debug__" : Str)) = false := by decide)
    (hcd : (x == ("__classdict__" : Str)) = false := by decide) (hs : ∀ y, foldedSetIterable (.Name x np) X.env y = pure y := by intro _; rfl) :
    RS X W (.Assign [.Name y py] (.ListComp elt [⟨tg, .Name x np, ifs, 0⟩] scope pos) spos) (sSetL i (eLcV (own.map (·.2)) b t m j)) := PS.imp (ps_setLc (g := tBd X.K us b) (tt := tTD X.K WF t) (te := tD X.K WF m) hc hN hy hyl hsw (pi_list (pe_var hj hv hd hcd)) ok hg ht he hs) fun D σ H h => lcV_of hus (setL_of h)

/-! ### x[e], len(x), truth of x, x[e] = v, of a list of one's own -/
theorem atI_fz {K : PySem.W.Frag} {H : Hp} {vs : List V} {xs : List D} {i : Int} {y : D} (f : FzAll K H vs xs) (h : atI xs i = some y) : ∃ v, atI vs i = some v ∧ Fz K H v y := by
  unfold atI at h ⊢
  rw [f.length]
  cases e : ixN xs.length i with
  | none => rw [e] at h; cases h
  | some j =>
    rw [e] at h
    have h : xs[j]? = some y := h
    obtain ⟨v, e1, fv⟩ := f.get' h
    exact ⟨v, e1, fv⟩
def fIdx (xs : List D) (x : D) : Option (D × List D) := match x with
  | .int i => (atI xs i).map fun y => (y, xs)
  | _ => none
def eIdxV (i : Nat) (m : M D) : M D := onL i m fIdx
theorem r_idxV {x : Str} {i : Nat} {m : M D} {np : Pos} (he : RE X W e m) (hs : PlainIx e := by exact fun _ _ => rfl) (hN : X.N[i]? = some x := by rfl) (hv : Vis X.env.scope x := by first | exact Or.inl rfl | exact Or.inr (Or.inl rfl) | exact Or.inr (Or.inr rfl)) (hd : (x == ("__debug__" : Str)) = false := by decide)
    (hcd : (x == ("__classdict__" : Str)) = false := by decide) : RE X W (.Subscript (.Name x np) e pos) (eIdxV i m) := PE.imp (pe_ix ix_list (pe_var hN hv hd hcd) he hs) fun σ H Q h => by
    obtain ⟨p, vs, h1, h2, q⟩ := onL_of (rep := Fz X.K) h
    refine ⟨.ref p, h1, tG_mono q fun u H1 _ ⟨vs1, xs, x, y, ys, q1, q2, q3, q4, q5⟩ => ?_⟩
    unfold fIdx at q4
    cases q3 with
    | int k =>
      dsimp only at q4
      cases ea : atI xs k with
      | none => rw [ea] at q4; cases q4
      | some z =>
        rw [ea] at q4
        cases q4
        obtain ⟨v, e1, fv⟩ := atI_fz q2 ea
        have := q5 vs1 v q2 fun pe => fv.pers pe
        rw [upd_self q1] at this
        exact ⟨p, vs1, k, v, rfl, rfl, SqL.of q1, e1, this⟩
    | _ => cases q4
def mU : M Unit := fun g => .ok () g
theorem tG_mU {σ : St} {H : Hp} {Q : Unit → Hp → Prop} (h : tG (fun _ (_ : Unit) (_ : Unit) => True) X.K W mU σ H Q) : Q () H := tG_ret h trivial
def eLenV (i : Nat) : M D := onL i mU fun xs _ => some (.int xs.length, xs)
theorem r_lenV {x : Str} {i : Nat} {np p : Pos} (hm : X.mg "len" = none) (hg : Gl X "len" := by rfl) (hN : X.N[i]? = some x := by rfl) (hv : Vis X.env.scope x := by first | exact Or.inl rfl | exact Or.inr (Or.inl rfl) | exact Or.inr (Or.inr rfl)) (hd : (x == ("__debug__" : Str)) = false := by decide)
    (hcd : (x == ("__classdict__" : Str)) = false := by decide) (hs : starEach [Expr.Name x np] X.env = (false, eval (Expr.Name x np) X.env) :: starEach [] X.env := by rfl) (hpl : (backTo pos (starEach [] X.env)).any (·.1) = false := by rfl) : RE X W (.Call (.Name "len" p) [.Name x np] [] pos) (eLenV i) :=
  PE.imp (pe_callB call_len_seq hg hm PySem.boot_len (pa_cons (pe_var hN hv hd hcd) pa_nil hs) (he := hs) (hpl := hpl)) fun σ H Q h => by
    obtain ⟨p, vs, h1, h2, q⟩ := onL_of (rep := fun _ (_ : Unit) (_ : Unit) => True) h
    obtain ⟨vs1, xs, x, y, ys, q1, q2, q3, q4, q5⟩ := tG_mU q
    cases q4
    have := q5 vs1 (.int vs1.length) q2 fun pe => by rw [q2.length]; exact .int _
    rw [upd_self q1] at this
    exact ⟨.ref p, h1, p, vs1, rfl, .inl (SqL.of q1), this⟩
def tTruV (i : Nat) : M Bool := onL i mU fun xs _ => some (!xs.isEmpty, xs)
theorem r_truV {x : Str} {i : Nat} {np : Pos} (hN : X.N[i]? = some x := by rfl) (hv : Vis X.env.scope x := by first | exact Or.inl rfl | exact Or.inr (Or.inl rfl) | exact Or.inr (Or.inr rfl)) (hd : (x == ("__debug__" : Str)) = false := by decide)
    (hcd : (x == ("__classdict__" : Str)) = false := by decide) : RT X W (.Name x np) (tTruV i) := PT.imp (pt_truth (pe_var hN hv hd hcd) (by intro _; rfl)) fun σ H Q h => by
    obtain ⟨p, vs, h1, h2, q⟩ := onL_of (rep := fun _ (_ : Unit) (_ : Unit) => True) h
    obtain ⟨vs1, xs, x, y, ys, q1, q2, q3, q4, q5⟩ := tG_mU q
    cases q4
    have := q5 vs1 _ q2 fun pe => rfl
    rw [upd_self q1] at this
    refine ⟨.ref p, h1, _, .inl ⟨vs1, SqL.of q1, rfl⟩, ?_⟩
    have e : (!vs1.isEmpty) = !xs.isEmpty := by cases q2 <;> rfl
    rw [e]
    exact this
def fSetI (y : D) (xs : List D) (k : D) : Option (D × List D) := match k with
  | .int j => (ixN xs.length j).map fun jj => (.none, xs.set jj y)
  | _ => none
def sSetI (i : Nat) (mk mv : M D) : M Fl := bnd mv fun y => bnd (onL i mk (fSetI y)) fun _ g => .ok .nx g
theorem r_setI {x : Str} {i : Nat} {ek : Expr} {mk mv : M D} {np tpos : Pos} (hv' : RE X W e mv) (hk : RE X W ek mk) (hN : X.N[i]? = some x := by rfl) (hv : Vis X.env.scope x := by first | exact Or.inl rfl | exact Or.inr (Or.inl rfl) | exact Or.inr (Or.inr rfl)) (hd : (x == ("__debug__" : Str)) = false := by decide)
    (hcd : (x == ("__classdict__" : Str)) = false := by decide)
    (ha : ∀ v, assign (.Subscript (.Name x np) ek tpos) X.env v = (do
      let ov ← holding [v] (eval (.Name x np) X.env)
      let iv ← holding [v, ov] (eval ek X.env)
      standAt tpos
      holding [v, ov, iv] (setItem ov iv v)
      release [v, ov, iv] []) := by intro _; rfl)
    (hs : swapsWithSole [.Subscript (.Name x np) ek tpos] e pos.line X.env = pure false := by rfl) (hw : swappedStores [.Subscript (.Name x np) ek tpos] e X.env = pure none := by rfl)
    (h1 : (assignEach [.Subscript (.Name x np) ek tpos] X.env).map (·.2) = [assign (.Subscript (.Name x np) ek tpos) X.env] := by rfl) :
    RS X W (.Assign [.Subscript (.Name x np) ek tpos] e pos) (sSetI i mk mv) :=
  PS.imp (ps_asg hv' (pg_sub (pe_var hN hv hd hcd) hk set_list ha) hs hw h1) fun D σ H h => tG_mono (tS_bind (rep := Fz X.K) h) fun v H1 _ ⟨y, ry, q⟩ => by
    obtain ⟨p, vs, h1, h2, q⟩ := onL_of (rep := Fz X.K) (tS_bind (rep := Fz X.K) q)
    refine ⟨.ref p, h1, tG_mono q fun u H2 pe ⟨vs1, xs, x, z, ys, q1, q2, q3, q4, q5⟩ => ?_⟩
    unfold fSetI at q4
    cases q3 with
    | int k =>
      dsimp only at q4
      cases ea : ixN xs.length k with
      | none => rw [ea] at q4; cases q4
      | some jj =>
        rw [ea] at q4
        cases q4
        obtain ⟨_, _, q6⟩ := q5 (vs1.set jj v) .non (q2.set (ry.pers pe) jj) fun _ => .non
        exact ⟨p, vs1, k, jj, rfl, rfl, q1, by rw [q2.length]; exact ea, tS_ok q6⟩
    | _ => cases q4
end
end PP

namespace PP
open PySem PySem.Spec L2
open PyProof.Rows hiding St

/-! ### defs that change nothing -/
inductive Rx where
  | ok (x : D)
  | exc (c : Str)
  | stuck
abbrev PF := List D → Rx
def spP (K : PySem.W.Frag) (n : Nat) (f : PF) : Sp := fun vs H Q E => vs.length = n ∧ ∃ ds, FzAll K H vs ds ∧ match f ds with
  | .ok x => ∀ v H', Same H H' → Fz K H' v x → Q v H'
  | .exc c => ∀ H', Same H H' → E (.ref (He.ga K c)) none H'
  | .stuck => False
def dsG (ds : List D) (k : Nat) : Ga := ds.map (fun x => some (.d x)) ++ List.replicate (k - ds.length) none
def runP (k : Nat) (m : M Fl) : PF := fun ds => match m (dsG ds k) with
  | .ok (.ret x) _ => .ok x
  | .ok .nx _ => .ok .none
  | .ok _ _ => .stuck
  | .exc c _ => .exc c
  | .stuck => .stuck
theorem SRep.nones {K : PySem.W.Frag} {H : Hp} : ∀ n : Nat, SRep K H (List.replicate n none) (List.replicate n none) []
  | 0 => .nil
  | n + 1 => .skip (SRep.nones n)
theorem SRep.ofDs {K : PySem.W.Frag} {H : Hp} {σ : St} {g : Ga} {R : List Addr} (r : SRep K H σ g R) : ∀ {vs : List V} {ds : List D}, FzAll K H vs ds → SRep K H (vs.map some ++ σ) (ds.map (fun x => some (Tv.d x)) ++ g) R
  | _, _, .nil => r
  | _, _, .cons h t => .cons (rt := []) (.d h) (SRep.ofDs r t)
theorem start_ds {K : PySem.W.Frag} {H : Hp} {N : List Str} {vs : List V} {ds : List D} (f : FzAll K H vs ds) : SRep K H (start N vs) (dsG ds N.length) [] := by
  unfold L2.start dsG
  rw [f.length]
  exact SRep.ofDs (SRep.nones _) f
abbrev WD (E : XK) : WX := fun cls d _ H => E cls d H
section
variable {P : Program} {w : World} {K : PySem.W.Frag} {mg : Str → Option Value} {base : Heap}
theorem fn_pure {x qual : Str} {params : Arguments} {body : List Stmt} {scope : Scope} {f : Addr} {fd : FuncData} {N ps : List Str} {k : Nat} {m : M Fl} (F : FunD K x qual params body scope [] [] f fd) (S : FnScope N ps scope)
    (hb : ∀ (X : Cx) (E : XK), X.prog = P → X.w = w → X.K = K → X.mg = mg → X.base = base → X.N = N → X.env.scope = scope → X.calm = true → X.fn = (fun _ => true) → X.stack = X.env :: X.outer → X.env.frame = some X.env.locals → Room k X.A → Takes X (WD E) → PassesOwn (model X.prog X.w) X.A X.env X.xe → RSs X (WD E) body m) :
    FnOk P w K mg base (L2.CX P w) (k + 1) f fd ps (spP K ps.length (runP N.length m)) := by
  refine F.ok S (fun vs H Q E h => h.1) fun cdv A outer s H vs Q E hr h => ?_
  obtain ⟨hl, ds, fa, h⟩ := h
  refine ⟨_, hb _ E rfl rfl rfl rfl rfl rfl rfl rfl rfl rfl rfl hr (takes_of rfl rfl rfl rfl) (passes_of rfl), dsG ds N.length, [], start_ds fa, List.nodup_nil, ?_⟩
  unfold runP at h
  have sm : ∀ {g' : Ga} {σ' : St} {H' : Hp}, GoS K (dsG ds N.length) (start N vs) [] H g' σ' H' → Same H H' := fun {g' σ' H'} go b o e => go.2.2.elim fun R' z => z.2.2.1 b o e (by simp)
  show match m (dsG ds N.length) with
    | .ok f g' => ∀ σ' H', GoS K (dsG ds N.length) (start N vs) [] H g' σ' H' → f.end K { nx := fun _ H' => Q .non H', rt := Q } σ' H'
    | .exc c g' => ∀ σ' H', GoS K (dsG ds N.length) (start N vs) [] H g' σ' H' → E (.ref (He.ga K c)) none H'
    | .stuck => False
  cases e : m (dsG ds N.length) with
  | stuck => rw [e] at h; exact h
  | exc c g' => rw [e] at h; exact fun σ' H' go => h H' (sm go)
  | ok fl g' =>
    rw [e] at h
    intro σ' H' go
    cases fl with
    | nx => exact h .non H' (sm go) .non
    | brk => exact h.elim
    | cnt => exact h.elim
    | ret x => exact fun v fv => h v H' (sm go) fv
end
/-- the name x stands for a def that is worth f, at level k -/
def Has (P : Program) (w : World) (K : PySem.W.Frag) (mg : Str → Option Value) (base : Heap) (k : Nat) (x : Str) (n : Nat) (f : PF) : Prop :=
  ∃ fa fd ps, FnOk P w K mg base (L2.CX P w) k fa fd ps (spP K n f) ∧ mg x = some (.ref fa) ∧ PySem.W.keepIn K (.ref fa) = true ∧ Binds K fd ps []
theorem Has.mono {P : Program} {w : World} {K : PySem.W.Frag} {mg : Str → Option Value} {base : Heap} {j k : Nat} {x : Str} {n : Nat} {f : PF} (h : Has P w K mg base j x n f) (hk : j ≤ k) : Has P w K mg base k x n f := by
  obtain ⟨fa, fd, ps, F, r⟩ := h
  exact ⟨fa, fd, ps, F.mono hk, r⟩
def rxM (r : Rx) : M D := fun g => match r with
  | .ok x => .ok x g
  | .exc c => .exc c g
  | .stuck => .stuck
def eCall (n : Nat) (f : PF) (m : M (List D)) : M D := bnd m fun ds => if ds.length = n then rxM (f ds) else fun _ => .stuck
section
variable {X : Cx} {W : WX} {e : Expr} {es : List Expr} {pos : Pos}
theorem call_of {n : Nat} {f : PF} {m : M (List D)} {σ : St} {H : Hp} {Q : VK} (h : tD X.K W (eCall n f m) σ H Q) : tAD X.K W m σ H fun vs H1 => spP X.K n f vs H1 Q (WE W σ) :=
  tG_mono (tG_bind (rep1 := FzAll X.K) h) fun vs H1 _ ⟨ds, fa, q⟩ => by
    by_cases hl : ds.length = n
    · rw [if_pos hl] at q
      refine ⟨by rw [fa.length]; exact hl, ds, fa, ?_⟩
      obtain ⟨g, R, s, n, q⟩ := q
      unfold rxM at q
      cases ef : f ds with
      | stuck => rw [ef] at q; exact q
      | exc c => rw [ef] at q; exact fun H' sm => q H' (Go.same s n sm)
      | ok x => rw [ef] at q; exact fun v H' sm fv => q v H' (Go.same s n sm) fv
    · rw [if_neg hl] at q
      obtain ⟨_, _, _, _, q⟩ := q
      exact q.elim
theorem r_call {k n : Nat} {x : Str} {f : PF} {m : M (List D)} {p : Pos} (F : Has X.prog X.w X.K X.mg X.base k x n f) (hr : Room k X.A) (tk : Takes X W) (ha : RA X W (e :: es) m) (hg : Gl X x := by rfl) (hdb : (x == ("__debug__" : Str)) = false := by decide)
    (he : starEach (e :: es) X.env = (false, eval e X.env) :: starEach es X.env := by rfl) (hpl : (backTo pos (starEach es X.env)).any (·.1) = false := by rfl) : RE X W (.Call (.Name x p) (e :: es) [] pos) (eCall n f m) := by
  obtain ⟨fa, fd, ps, F, hm, hk, hb⟩ := F
  exact PE.imp (pe_callS F hr hg hm hk hb (fun σ => passAt tk σ) ha hdb he hpl) fun σ H Q h => call_of h
def eCall0 (f : PF) : M D := fun g => match f [] with
  | .ok x => .ok x g
  | _ => .stuck
theorem r_call0 {k : Nat} {x : Str} {f : PF} {p : Pos} (F : Has X.prog X.w X.K X.mg X.base k x 0 f) (hr : Room k X.A) (hg : Gl X x := by rfl) (hdb : (x == ("__debug__" : Str)) = false := by decide) : RE X W (.Call (.Name x p) [] [] pos) (eCall0 f) := by
  obtain ⟨fa, fd, ps, F, hm, hk, hb⟩ := F
  refine PE.imp (pe_call0 (dvs := []) F hr hg hm hk hb .nil passL hdb) fun σ H Q h => ⟨rfl, [], .nil, ?_⟩
  obtain ⟨g, R, s, n, h⟩ := h
  unfold eCall0 at h
  cases ef : f [] with
  | stuck => rw [ef] at h; exact h
  | exc c => rw [ef] at h; exact h.elim
  | ok x => rw [ef] at h; exact fun v H' sm fv => h v H' (Go.same s n sm) fv
end

/-! ### defs that change one list of the caller's -/
inductive Rb where
  | ok (x : D) (zs : List D)
  | exc (c : Str) (zs : List D)
  | stuck
abbrev BF := List D → List D → List D → Rb
def spB (K : PySem.W.Frag) (np nq : Nat) (f : BF) : Sp := fun vs H Q E => ∃ us p ws lv xs zs ys, vs = us ++ .ref p :: ws ∧ us.length = np ∧ ws.length = nq ∧ FzAll K H us xs ∧ H p = some (.lst lv) ∧ FzAll K H lv zs ∧ FzAll K H ws ys ∧ match f xs zs ys with
  | .ok x zs' => ∀ v H' lv', Ext [p] H H' → H' p = some (.lst lv') → FzAll K H' lv' zs' → Fz K H' v x → Q v H'
  | .exc c zs' => ∀ H' lv', Ext [p] H H' → H' p = some (.lst lv') → FzAll K H' lv' zs' → E (.ref (He.ga K c)) none H'
  | .stuck => False
def bG (xs zs ys : List D) (k : Nat) : Ga := xs.map (fun x => some (.d x)) ++ some (.ml true zs) :: (ys.map (fun x => some (.d x)) ++ List.replicate (k - (xs.length + (ys.length + 1))) none)
def outB (np : Nat) (g : Ga) : Option (List D) := match g[np]? with
  | some (some (.ml true zs)) => some zs
  | _ => none
def runB (np k : Nat) (m : M Fl) : BF := fun xs zs ys => match m (bG xs zs ys k) with
  | .ok (.ret x) g => (match outB np g with
    | some zs' => .ok x zs'
    | none => .stuck)
  | .ok .nx g => (match outB np g with
    | some zs' => .ok .none zs'
    | none => .stuck)
  | .ok _ _ => .stuck
  | .exc c g => (match outB np g with
    | some zs' => .exc c zs'
    | none => .stuck)
  | .stuck => .stuck
theorem start_b {K : PySem.W.Frag} {H : Hp} {N : List Str} {us ws lv : List V} {p : Addr} {xs zs ys : List D} (f1 : FzAll K H us xs) (hp : H p = some (.lst lv)) (f2 : FzAll K H lv zs) (f3 : FzAll K H ws ys) : SRep K H (start N (us ++ .ref p :: ws)) (bG xs zs ys N.length) [p] := by
  unfold L2.start bG
  rw [List.map_append, List.length_append, List.length_cons, f1.length, f3.length, List.append_assoc]
  exact SRep.ofDs (.cons (rt := [p]) (R := []) (.ml hp f2) (SRep.ofDs (SRep.nones _) f3)) f1
theorem bor_b {xs zs ys : List D} {k : Nat} : (bG xs zs ys k)[xs.length]? = some (some (.ml true zs)) := by
  unfold bG
  rw [List.getElem?_append_right (by simp)]
  simp
section
variable {P : Program} {w : World} {K : PySem.W.Frag} {mg : Str → Option Value} {base : Heap}
theorem end_b {N : List Str} {us ws : List V} {p : Addr} {xs zs ys : List D} {H H' : Hp} {g' : Ga} {σ' : St} {zs' : List D} {np : Nat} (hx : us.length = np) (f1 : FzAll K H us xs) (go : GoS K (bG xs zs ys N.length) (start N (us ++ .ref p :: ws)) [p] H g' σ' H') (eo : outB np g' = some zs') :
    ∃ lv', Ext [p] H H' ∧ H' p = some (.lst lv') ∧ FzAll K H' lv' zs' := by
  obtain ⟨bk, kp, R', s', n', e', w'⟩ := go
  unfold outB at eo
  split at eo
  · rename_i q
    cases eo
    obtain ⟨v, rt, h1, h2, h3⟩ := s'.get q
    have hlen : xs.length = np := by rw [← f1.length]; exact hx
    have k1 := kp np _ (by rw [← hlen]; exact bor_b) rfl
    have e0 : (start N (us ++ V.ref p :: ws))[np]? = some (some (.ref p)) := by
      unfold L2.start
      rw [List.map_append, List.append_assoc, List.getElem?_append_right (by simp [hx])]
      simp [hx]
    rw [k1, e0] at h1
    cases h1
    cases h2 with
    | ml h4 h5 => exact ⟨_, e', h4, h5⟩
  · cases eo
theorem fn_ref {x qual : Str} {params : Arguments} {body : List Stmt} {scope : Scope} {f : Addr} {fd : FuncData} {N ps : List Str} {k np nq : Nat} {m : M Fl} (F : FunD K x qual params body scope [] [] f fd) (S : FnScope N ps scope) (hn : np + (nq + 1) = ps.length)
    (hb : ∀ (X : Cx) (E : XK), X.prog = P → X.w = w → X.K = K → X.mg = mg → X.base = base → X.N = N → X.env.scope = scope → X.calm = true → X.fn = (fun _ => true) → X.stack = X.env :: X.outer → X.env.frame = some X.env.locals → Room k X.A → Takes X (WD E) → PassesOwn (model X.prog X.w) X.A X.env X.xe → RSs X (WD E) body m) :
    FnOk P w K mg base (L2.CX P w) (k + 1) f fd ps (spB K np nq (runB np N.length m)) := by
  refine F.ok S (fun vs H Q E h => ?_) fun cdv A outer s H vs Q E hr h => ?_
  · obtain ⟨us, p, ws, lv, xs, zs, ys, e1, e2, e3, _⟩ := h
    rw [e1, List.length_append, List.length_cons]
    omega
  · obtain ⟨us, p, ws, lv, xs, zs, ys, e1, e2, e3, f1, hp, f2, f3, h⟩ := h
    subst e1
    refine ⟨_, hb _ E rfl rfl rfl rfl rfl rfl rfl rfl rfl rfl rfl hr (takes_of rfl rfl rfl rfl) (passes_of rfl), bG xs zs ys N.length, [p], start_b f1 hp f2 f3, by simp, ?_⟩
    unfold runB at h
    show match m (bG xs zs ys N.length) with
      | .ok f g' => ∀ σ' H', GoS K (bG xs zs ys N.length) (start N (us ++ V.ref p :: ws)) [p] H g' σ' H' → f.end K { nx := fun _ H' => Q .non H', rt := Q } σ' H'
      | .exc c g' => ∀ σ' H', GoS K (bG xs zs ys N.length) (start N (us ++ V.ref p :: ws)) [p] H g' σ' H' → E (.ref (He.ga K c)) none H'
      | .stuck => False
    cases e : m (bG xs zs ys N.length) with
    | stuck => rw [e] at h; exact h
    | exc c g' =>
      rw [e] at h
      dsimp only at h
      cases eo : outB np g' with
      | none => rw [eo] at h; exact h.elim
      | some zs' =>
        rw [eo] at h
        intro σ' H' go
        obtain ⟨lv', z1, z2, z3⟩ := end_b e2 f1 go eo
        exact h H' lv' z1 z2 z3
    | ok fl g' =>
      rw [e] at h
      cases fl with
      | brk => exact h.elim
      | cnt => exact h.elim
      | nx =>
        dsimp only at h
        cases eo : outB np g' with
        | none => rw [eo] at h; exact h.elim
        | some zs' =>
          rw [eo] at h
          intro σ' H' go
          obtain ⟨lv', z1, z2, z3⟩ := end_b e2 f1 go eo
          exact h .non H' lv' z1 z2 z3 .non
      | ret y =>
        dsimp only at h
        cases eo : outB np g' with
        | none => rw [eo] at h; exact h.elim
        | some zs' =>
          rw [eo] at h
          intro σ' H' go v fv
          obtain ⟨lv', z1, z2, z3⟩ := end_b e2 f1 go eo
          exact h v H' lv' z1 z2 z3 fv
end
def HasB (P : Program) (w : World) (K : PySem.W.Frag) (mg : Str → Option Value) (base : Heap) (k : Nat) (x : Str) (np nq : Nat) (f : BF) : Prop :=
  ∃ fa fd ps, FnOk P w K mg base (L2.CX P w) k fa fd ps (spB K np nq f) ∧ mg x = some (.ref fa) ∧ PySem.W.keepIn K (.ref fa) = true ∧ Binds K fd ps []
theorem HasB.mono {P : Program} {w : World} {K : PySem.W.Frag} {mg : Str → Option Value} {base : Heap} {j k : Nat} {x : Str} {np nq : Nat} {f : BF} (h : HasB P w K mg base j x np nq f) (hk : j ≤ k) : HasB P w K mg base k x np nq f := by
  obtain ⟨fa, fd, ps, F, r⟩ := h
  exact ⟨fa, fd, ps, F.mono hk, r⟩
/-- values, the list in slot i, values -/
def eCB (np nq : Nat) (f : BF) (i : Nat) (mq : M (List D)) : List D → List (M D) → M D
  | xs, m :: ms => bnd m fun x => eCB np nq f i mq (xs ++ [x]) ms
  | xs, [] => fun g => if isMl g i = true ∧ xs.length = np then (match mq g with
    | .ok ys g1 => if ys.length = nq then (match g1[i]? with
      | some (some (.ml b zs)) => (match f xs zs ys with
        | .ok y zs' => .ok y (g1.set i (some (.ml b zs')))
        | .exc c zs' => .exc c (g1.set i (some (.ml b zs')))
        | .stuck => .stuck)
      | _ => .stuck) else .stuck
    | .exc c g1 => .exc c g1
    | .stuck => .stuck) else .stuck
def tPre (K : PySem.W.Frag) (W : WX) : List (M D) → Nat → M (List D) → TA
  | [], i, mq => tCons (tVar i) (tAD K W mq)
  | m :: ms, i, mq => tCons (tD K W m) (tPre K W ms i mq)
section
variable {X : Cx} {W : WX} {e : Expr} {es : List Expr} {pos : Pos}
def RB (X : Cx) (W : WX) (es : List Expr) (ms : List (M D)) (i : Nat) (mq : M (List D)) : Prop := PA X es (tPre X.K W ms i mq)
theorem r_b0 {i : Nat} {x : Str} {np : Pos} {mq : M (List D)} (hq : RA X W es mq) (hN : X.N[i]? = some x := by rfl) (hv : Vis X.env.scope x := by first | exact Or.inl rfl | exact Or.inr (Or.inl rfl) | exact Or.inr (Or.inr rfl)) (hd : (x == ("__debug__" : Str)) = false := by decide)
    (hcd : (x == ("__classdict__" : Str)) = false := by decide) (hs : starEach (.Name x np :: es) X.env = (false, eval (.Name x np) X.env) :: starEach es X.env := by rfl) : RB X W (.Name x np :: es) [] i mq := pa_cons (pe_var hN hv hd hcd) hq hs
theorem r_bc {i : Nat} {m : M D} {ms : List (M D)} {mq : M (List D)} (h : RE X W e m) (hr : RB X W es ms i mq) (hs : starEach (e :: es) X.env = (false, eval e X.env) :: starEach es X.env := by rfl) : RB X W (e :: es) (m :: ms) i mq := pa_cons h hr hs
theorem cb_of {np nq : Nat} {f : BF} {i : Nat} {mq : M (List D)} {σ : St} {Q : VK} : ∀ (ms : List (M D)) (us : List V) (xs : List D) (H : Hp), FzAll X.K H us xs → tD X.K W (eCB np nq f i mq xs ms) σ H Q → tPre X.K W ms i mq σ H fun vs H1 => spB X.K np nq f (us ++ vs) H1 Q (WE W σ)
  | m :: ms, us, xs, H, fa, h => by
    refine tG_mono (tG_bind (rep1 := Fz X.K) h) fun v H1 pe ⟨x, fx, q⟩ => ?_
    have := cb_of ms (us ++ [v]) (xs ++ [x]) H1 ((fa.pers pe).append (.cons fx .nil)) q
    simpa only [List.append_assoc, List.singleton_append] using this
  | [], us, xs, H, fa, h => by
    obtain ⟨g, R, s, n, h⟩ := h
    unfold eCB at h
    by_cases hm : isMl g i = true ∧ xs.length = np
    · rw [if_pos hm] at h
      obtain ⟨p, lv0, h1, h2⟩ := s.mlv n hm.1
      refine ⟨.ref p, h1, g, R, s, n, ?_⟩
      cases e : mq g with
      | stuck => rw [e] at h; exact h
      | exc c g' => rw [e] at h; exact h
      | ok ys g1 =>
        rw [e] at h
        dsimp only at h
        intro ws H1 go fw
        obtain ⟨bk, R1, s1, n1, e1, w1⟩ := go
        by_cases hl : ys.length = nq
        · rw [if_pos hl] at h
          cases eg : g1[i]? with
          | none => rw [eg] at h; exact h.elim
          | some o =>
            cases o with
            | none => rw [eg] at h; exact h.elim
            | some t =>
              cases t with
              | d z => rw [eg] at h; exact h.elim
              | md _ _ _ => rw [eg] at h; exact h.elim
              | ml b zs =>
                rw [eg] at h
                dsimp only at h
                obtain ⟨p', lv, q1, q2, q3, q4, q5⟩ := s1.put n1 eg
                rw [h1] at q1
                cases q1
                refine ⟨us, p, ws, lv, xs, zs, ys, rfl, by rw [fa.length]; exact hm.2, by rw [fw.length]; exact hl, fa.pers (e1.pers s.live), q2, q3, fw, ?_⟩
                -- behind the call
                have fin : ∀ {H' : Hp} {lv' : List V} {zs' : List D}, Ext [p] H1 H' → H' p = some (.lst lv') → FzAll X.K H' lv' zs' → Go X.K σ R H g (g1.set i (some (.ml b zs'))) H' := fun {H' lv' zs'} x1 x2 x3 => by
                  have lvp : Live [p] H1 := fun a ha o ho => by
                    rw [List.mem_singleton] at ha
                    subst ha
                    rw [q2] at ho
                    cases ho
                    rfl
                  have pe : Pers H1 H' := x1.pers lvp
                  obtain ⟨R', s', sb⟩ := q5 H' (.ml b zs') [p] pe (fun c hc hn => by
                    cases q : H1 c with
                    | none => exact absurd q (s1.root_some c hc)
                    | some o => exact x1 c o q (by simpa using hn)) (.ml x2 x3) (List.Sublist.refl _)
                  have go1 : Go X.K σ R1 H1 g1 (g1.set i (some (.ml b zs'))) H' := ⟨fun j t ej bb => by
                    by_cases hj : i = j
                    · subst hj
                      rw [eg] at ej
                      cases ej
                      exact ⟨_, List.getElem?_set_self (List.getElem?_eq_some_iff.mp eg).1, bb⟩
                    · exact ⟨t, by rw [List.getElem?_set_ne hj]; exact ej, bb⟩, R', s', sb.nodup n1, fun c o hc hn => x1 c o hc fun z => by
                      rw [List.mem_singleton] at z
                      subst z
                      exact hn q4, fun c hc => .inl (sb.subset hc)⟩
                  exact go1.then bk e1 w1
                cases ef : f xs zs ys with
                | stuck => rw [ef] at h; exact h
                | exc c zs' => rw [ef] at h; exact fun H' lv' x1 x2 x3 => h H' (fin x1 x2 x3)
                | ok y zs' => rw [ef] at h; exact fun v H' lv' x1 x2 x3 x4 => h v H' (fin x1 x2 x3) x4
        · rw [if_neg hl] at h
          exact h.elim
    · rw [if_neg hm] at h
      exact h.elim
theorem r_callB {k np nq : Nat} {x : Str} {f : BF} {ms : List (M D)} {i : Nat} {mq : M (List D)} {p : Pos} (F : HasB X.prog X.w X.K X.mg X.base k x np nq f) (hr : Room k X.A) (tk : Takes X W) (ha : RB X W (e :: es) ms i mq) (hg : Gl X x := by rfl) (hdb : (x == ("__debug__" : Str)) = false := by decide)
    (he : starEach (e :: es) X.env = (false, eval e X.env) :: starEach es X.env := by rfl) (hpl : (backTo pos (starEach es X.env)).any (·.1) = false := by rfl) : RE X W (.Call (.Name x p) (e :: es) [] pos) (eCB np nq f i mq [] ms) := by
  obtain ⟨fa, fd, ps, F, hm, hk, hb⟩ := F
  exact PE.imp (pe_callS F hr hg hm hk hb (fun σ => passAt tk σ) ha hdb he hpl) fun σ H Q h => cb_of ms [] [] H .nil h
end
end PP

namespace PP
open PySem PySem.Spec L2
open PyProof.Rows hiding St
section
variable {X : Cx} {W : WX} {pins : List (Addr × Obj)} {σ : St} {H : Hp} {s : Shared} {Q : VK}
/-! ### new things -/
theorem ep_list (I : Inv X pins σ H s) {us : List V} {its : List Value} {ds : List D} {t : Nat} (r : Vals us its) (f : FzAll X.K H us ds) (hz : us.length ≤ sizeLine) (q : ∀ b H', Same H H' → Fz X.K H' b (.list ds) → Q b H') :
    EP X pins σ Q (.ref s.heap.objs.size) { s with heap := s.heap.push { cls := .type "list", data := .seq its.toArray }, toks := t } := by
  obtain ⟨od, I2⟩ := (I.lnew (t' := t) r hz).lock upd_same trivial
  obtain ⟨h1, h2⟩ := fz_new (o := od) I.fresh f
  exact ⟨.ref _, _, I2, rfl, q _ _ h1 h2⟩
theorem ep_tup (I : Inv X pins σ H s) {us : List V} {its : List Value} {ds : List D} {t : Nat} (r : Vals us its) (f : FzAll X.K H us ds) (hz : us.length ≤ sizeLine) (q : ∀ b H', Same H H' → Fz X.K H' b (.tuple ds) → Q b H') :
    EP X pins σ Q (.ref s.heap.objs.size) { s with heap := s.heap.push { cls := .type "tuple", data := .seq its.toArray }, toks := t } := by
  have sm := Same.upd (o := tupO { cls := .type "tuple", data := .seq its.toArray } us) I.fresh
  exact ⟨.ref _, _, I.laid (a := s.heap.objs.size) (t' := t) (fun b u e => Heap.get?_push_of_some _ e) (Nat.le_refl _) (tupO_ok (Heap.get?_push_size _ rfl) rfl rfl r hz), rfl, q _ _ sm (.tup (.new rfl) (f.pers (.of_same sm)))⟩
theorem ep_same (I : Inv X pins σ H s) {v : V} {u : Value} {x : D} (r : RelV v u) (f : Fz X.K H v x) (q : ∀ b H', Same H H' → Fz X.K H' b x → Q b H') : EP X pins σ Q u s := ⟨v, H, I, r, q v H (Same.refl _) f⟩
theorem reads_of (I : Inv X pins σ H s) {v : V} {u : Value} {x : D} (r : RelV v u) (f : Fz X.K H v x) (hp : x.plain = true) : ∃ as, Reads s.heap u x as := Dp.reads I x v u (f.dp hp) r
theorem readsAll_of (I : Inv X pins σ H s) {vs : List V} {us : List Value} {xs : List D} (r : Vals vs us) (f : FzAll X.K H vs xs) (hp : PyData.plainAll xs = true) : ∃ as, ReadsAll s.heap us xs as := Dp.readsAll I xs vs us (f.dp hp) r

/-! ### + -/
def addD : D → D → Option D
  | .int i, .int j => some (.int (i + j))
  | .str x, .str y => if x.length + y.length ≤ sizeLine then some (.str (x ++ y)) else none
  | .list xs, .list ys => if xs.length + ys.length ≤ sizeLine then some (.list (xs ++ ys)) else none
  | .tuple xs, .tuple ys => if xs.length + ys.length ≤ sizeLine then some (.tuple (xs ++ ys)) else none
  | _, _ => none
theorem add_listsI {l b : Addr} {vs ws : List Value} {Q : Value → Shared → Prop} {E : Value → Shared → Prop} {prog : Program} {w : World} {A : Around} (hl : s.heap.IsList l vs.toArray) (hb : s.heap.IsList b ws.toArray)
    (h : Q (.ref s.heap.objs.size) { s with heap := s.heap.push { cls := .type "list", data := .seq (vs ++ ws).toArray } }) (hsz : vs.length + ws.length ≤ sizeLine) : wpAny (model prog w) A (binaryOp .Add (.ref l) (.ref b)) Q E s := by
  obtain ⟨⟨cls, dd, data, sl⟩, ho, hc, n, hd⟩ := id hl
  obtain ⟨⟨cls2, dd2, data2, sl2⟩, ho2, hc2, n2, hd2⟩ := id hb
  simp only at hc hd hc2 hd2
  subst hc hd hc2 hd2
  refine concat_meets ⟨_, ho, rfl⟩ ⟨_, ho2, rfl⟩ noFill_list_add seq_list_add PySem.F.slot_list_add PySem.F.entry_list_add (PySem.F.args_list_add_2 _ _) (list_addW l b vs.toArray ws.toArray n n2 dd dd2 sl sl2 (by simpa using hsz)) ⟨ho, ho2, ?_⟩
  rw [show vs.toArray ++ ws.toArray = (vs ++ ws).toArray by simp]
  exact h
theorem o_add : OpR X (binaryOp .Add) (rO2 X.K addD) := by
  intro pins s σ H x y v u Q I rx ry ⟨dx, dy, fx, fy, c, e, q⟩
  cases fx with
  | int i =>
    cases fy with
    | int j => cases e; exact op_add pins s σ H _ _ v u Q I rx ry ⟨i, j, rfl, rfl, q _ _ (Same.refl _) (.int _)⟩
    | _ => cases e
  | str i =>
    cases fy with
    | str j =>
      simp only [addD] at e
      split at e
      · rename_i hz
        cases e
        exact op_add_str pins s σ H _ _ v u Q I rx ry ⟨i, j, rfl, rfl, hz, q _ _ (Same.refl _) (.str _)⟩
      · cases e
    | _ => cases e
  | lst h a =>
    cases fy with
    | lst h2 a2 =>
      simp only [addD] at e
      split at e
      · rename_i hz
        cases e
        cases rx
        cases ry
        obtain ⟨its, r1, p1, _⟩ := I.list h.sq
        obtain ⟨its2, r2, p2, _⟩ := I.list h2.sq
        have l1 := r1.length
        have l2 := r2.length
        have l3 := a.length
        have l4 := a2.length
        exact add_listsI p1.isList p2.isList (ep_list I (r1.append r2) (a.append a2) (by rw [List.length_append]; omega) q) (by omega)
      · cases e
    | _ => cases e
  | tup h a =>
    cases fy with
    | tup h2 a2 =>
      simp only [addD] at e
      split at e
      · rename_i hz
        cases e
        have l3 := a.length
        have l4 := a2.length
        cases rx
        cases ry
        obtain ⟨its, r1, p1, _⟩ := I.tuple h.sq
        obtain ⟨its2, r2, p2, _⟩ := I.tuple h2.sq
        have l1 := r1.length
        have l2 := r2.length
        cases a with
        | nil =>
          cases r1
          exact cat_tup0 p1 p2 ⟨.ref _, H, I, rfl, q _ _ (Same.refl _) (.tup h2 a2)⟩
        | cons b1 b2 =>
          cases a2 with
          | nil =>
            cases r2
            rw [List.append_nil] at q
            refine HT.cat_tup p1 p2 (by cases r1; simp) (fun _ => ⟨.ref _, H, I, rfl, q _ _ (Same.refl _) (.tup h (.cons b1 b2))⟩) (fun z => absurd rfl z) ?_
            simp only [List.length_nil]
            omega
          | cons c1 c2 =>
            refine HT.cat_tup p1 p2 (by cases r1; simp) (fun z => by cases r2; simp at z) (fun _ => ?_) (by omega)
            exact ep_tup (t := s.toks) I (r1.append r2) (FzAll.append (.cons b1 b2) (.cons c1 c2)) (by rw [List.length_append]; omega) q
      · cases e
    | _ => cases e
  | _ => cases e

/-! ### - * // % of ints; a list times an int -/
def subD : D → D → Option D
  | .int i, .int j => some (.int (i - j))
  | _, _ => none
theorem o_sub : OpR X (binaryOp .Sub) (rO2 X.K subD) := by
  intro pins s σ H x y v u Q I rx ry ⟨dx, dy, fx, fy, c, e, q⟩
  cases fx with
  | int i =>
    cases fy with
    | int j => cases e; exact op_sub pins s σ H _ _ v u Q I rx ry ⟨i, j, rfl, rfl, q _ _ (Same.refl _) (.int _)⟩
    | _ => cases e
  | _ => cases e
def mulOk (i j : Int) : Bool := (decide (-(2 ^ 64) < i) && decide (i < 2 ^ 64)) || (decide (-(2 ^ 64) < j) && decide (j < 2 ^ 64))
def mulD : D → D → Option D
  | .int i, .int j => if mulOk i j = true then some (.int (i * j)) else none
  | .list xs, .int k => if (decide (-(2 ^ 63) ≤ k) && decide (k < 2 ^ 63) && decide (xs.length * k.toNat ≤ 2 ^ 24)) = true then some (.list (List.replicate k.toNat xs).flatten) else none
  | _, _ => none
theorem FzAll.rep {K : PySem.W.Frag} {H : Hp} {vs : List V} {ds : List D} (h : FzAll K H vs ds) : ∀ k : Nat, FzAll K H (List.replicate k vs).flatten (List.replicate k ds).flatten
  | 0 => .nil
  | k + 1 => by
    rw [List.replicate_succ, List.replicate_succ, List.flatten_cons, List.flatten_cons]
    exact h.append (FzAll.rep h k)
theorem mul_listI {l : Addr} {vs : List Value} {x : Int} {u : Tok} {Q : Value → Shared → Prop} {E : Value → Shared → Prop} {prog : Program} {w : World} {A : Around} (hl : s.heap.IsList l vs.toArray) (hlo : -(2 ^ 63 : Int) ≤ x) (hhi : x < 2 ^ 63) (hsz : vs.length * x.toNat ≤ 2 ^ 24)
    (h : Q (.ref s.heap.objs.size) { s with heap := s.heap.push { cls := .type "list", data := .seq (List.replicate x.toNat vs).flatten.toArray } }) : wpAny (model prog w) A (binaryOp .Mult (.ref l) (.int x u)) Q E s := by
  obtain ⟨⟨cls, d, data, sl⟩, ho, hcl, k, hd⟩ := id hl
  simp only at hcl hd
  subst hcl hd
  have hsz' : vs.toArray.size * x.toNat ≤ 2 ^ 24 := by simpa using hsz
  refine wpAny_binaryOp_repeat_ref (T := "list") (U := "int") (by decide) ⟨_, ho, rfl⟩ (fun s' => typeIs_int s' x u) noFill_list_mul F.fills_int_mul F.slot_int_rmul repeat_list F.slot_int_index.lookup
    (call_meets F.slot_int_rmul (typeIs_int s x u) F.entry_int_rmul (F.args_int_rmul_2 _ _) (lm_int_rmul_list_any x u l vs.toArray k d sl)
      ⟨ho, rfl, ⟨_, ho, rfl⟩, call_meets F.slot_list_mul ⟨_, ho, rfl⟩ F.entry_list_mul (F.args_list_mul_2 _ _)
        (lm_list_mul_any l vs.toArray k d sl x u (by simp [Builtin.List.listFitsIndex]; omega) (by omega) (by simp [Builtin.List.listTooLong, sizeLine]; omega))
        ⟨ho, ?_⟩⟩)
  rw [listMul_foldl_if]
  exact h
theorem len_rep {α : Type} (xs : List α) : ∀ k : Nat, (List.replicate k xs).flatten.length = xs.length * k
  | 0 => by simp
  | k + 1 => by rw [List.replicate_succ, List.flatten_cons, List.length_append, len_rep xs k, Nat.mul_succ]; omega
theorem o_mul : OpR X (binaryOp .Mult) (rO2 X.K mulD) := by
  intro pins s σ H x y v u Q I rx ry ⟨dx, dy, fx, fy, c, e, q⟩
  cases fx with
  | int i =>
    cases fy with
    | int j =>
      simp only [mulD] at e
      split at e
      · rename_i hm
        cases e
        refine op_mul pins s σ H _ _ v u Q I rx ry ⟨i, j, rfl, rfl, ?_, q _ _ (Same.refl _) (.int _)⟩
        simp only [mulOk, Bool.or_eq_true, Bool.and_eq_true, decide_eq_true_eq] at hm
        exact hm
      · cases e
    | _ => cases e
  | lst h a =>
    cases fy with
    | int k =>
      simp only [mulD] at e
      split at e
      · rename_i hm
        simp only [Bool.and_eq_true, decide_eq_true_eq] at hm
        cases e
        cases rx
        obtain ⟨t, rfl⟩ := ry
        obtain ⟨its, r1, p1, _⟩ := I.list h.sq
        have l1 := r1.length
        have l3 := a.length
        refine mul_listI p1.isList hm.1.1 hm.1.2 (by rw [← l1, l3]; exact hm.2) (ep_list I (r1.rep k.toNat) (a.rep k.toNat) ?_ q)
        rw [len_rep, l3, sizeLine_eq]
        exact hm.2
      · cases e
    | _ => cases e
  | _ => cases e
def fdivD : D → D → Option D
  | .int i, .int j => if (decide (j ≠ 0) && decide (j.natAbs < 1073741824)) = true then some (.int (i.fdiv j)) else none
  | _, _ => none
theorem o_fdiv : OpR X (binaryOp .FloorDiv) (rO2 X.K fdivD) := by
  intro pins s σ H x y v u Q I rx ry ⟨dx, dy, fx, fy, c, e, q⟩
  cases fx with
  | int i =>
    cases fy with
    | int j =>
      simp only [fdivD] at e
      split at e
      · rename_i hm
        simp only [Bool.and_eq_true, decide_eq_true_eq] at hm
        cases e
        exact op_fdivN pins s σ H _ _ v u Q I rx ry ⟨i, j, rfl, rfl, hm, q _ _ (Same.refl _) (.int _)⟩
      · cases e
    | _ => cases e
  | _ => cases e
def modD : D → D → Option D
  | .int i, .int j => if j ≠ 0 then some (.int (i.fmod j)) else none
  | _, _ => none
theorem o_mod : OpR X (binaryOp .Mod) (rO2 X.K modD) := by
  intro pins s σ H x y v u Q I rx ry ⟨dx, dy, fx, fy, c, e, q⟩
  cases fx with
  | int i =>
    cases fy with
    | int j =>
      simp only [modD] at e
      split at e
      · rename_i hm
        cases e
        exact op_modN pins s σ H _ _ v u Q I rx ry ⟨i, j, rfl, rfl, hm, q _ _ (Same.refl _) (.int _)⟩
      · cases e
    | _ => cases e
  | _ => cases e
def negD : D → Option D
  | .int i => some (.int (-i))
  | _ => none
theorem u_neg : UnR X (unaryOp .USub) (rO1 X.K negD) := by
  intro pins s σ H x v Q I rx ⟨dx, fx, c, e, q⟩
  cases fx with
  | int i => cases e; exact un_neg pins s σ H _ v Q I rx ⟨i, rfl, q _ _ (Same.refl _) (.int _)⟩
  | _ => cases e

/-! ### comparisons -/
def cmpOk (x y : D) : Bool := x.plain && (y.plain && decide (x.depth ≤ 60))
def eqD (x y : D) : Option D := if cmpOk x y = true then some (.bool (PyData.eqv x y)) else none
def neD (x y : D) : Option D := if cmpOk x y = true then some (.bool (!PyData.eqv x y)) else none
theorem o_eq (hu : X.A.units + 64 < cLine) : OpR X (compareOp .Eq) (rO2 X.K eqD) := by
  intro pins s σ H x y v u Q I rx ry ⟨dx, dy, fx, fy, c, e, q⟩
  unfold eqD at e
  split at e
  · rename_i hm
    simp only [cmpOk, Bool.and_eq_true, decide_eq_true_eq] at hm
    cases e
    obtain ⟨as, ra⟩ := reads_of I rx fx hm.1
    obtain ⟨bs, rb⟩ := reads_of I ry fy hm.2.1
    exact SeqAt.eq_plain ra rb hm.1 hm.2.1 (by have := Nat.min_le_left dx.depth dy.depth; omega) ⟨.bl _, H, I, rfl, q _ _ (Same.refl _) (.bl _)⟩
  · cases e
theorem o_ne (hu : X.A.units + 64 < cLine) : OpR X (compareOp .NotEq) (rO2 X.K neD) := by
  intro pins s σ H x y v u Q I rx ry ⟨dx, dy, fx, fy, c, e, q⟩
  unfold neD at e
  split at e
  · rename_i hm
    simp only [cmpOk, Bool.and_eq_true, decide_eq_true_eq] at hm
    cases e
    obtain ⟨as, ra⟩ := reads_of I rx fx hm.1
    obtain ⟨bs, rb⟩ := reads_of I ry fy hm.2.1
    exact SeqAt.ne_plain ra rb hm.1 hm.2.1 (by have := Nat.min_le_left dx.depth dy.depth; omega) ⟨.bl _, H, I, rfl, q _ _ (Same.refl _) (.bl _)⟩
  · cases e
def isNo : D → Bool
  | .none => true
  | _ => false
theorem isNo_ne {x : D} (h : isNo x = false) : x ≠ .none := by
  rintro rfl
  cases h
def ordOk (x y : D) : Bool := x.plain && (y.plain && (decide (x.depth ≤ 60) && (PySem.W.alike x y && !isNo x)))
def ltD (x y : D) : Option D := if ordOk x y = true then some (.bool (PySem.W.dataLt x y)) else none
def gtD (x y : D) : Option D := if ordOk x y = true then some (.bool (PySem.W.dataLt y x)) else none
def leD (x y : D) : Option D := if ordOk x y = true then some (.bool (!PySem.W.dataLt y x)) else none
def geD (x y : D) : Option D := if ordOk x y = true then some (.bool (!PySem.W.dataLt x y)) else none
theorem ordOk_inv {x y : D} (h : ordOk x y = true) : x.plain = true ∧ y.plain = true ∧ x.depth ≤ 60 ∧ PySem.W.alike x y = true ∧ x ≠ .none := by
  simp only [ordOk, Bool.and_eq_true, decide_eq_true_eq, Bool.not_eq_true'] at h
  exact ⟨h.1, h.2.1, h.2.2.1, h.2.2.2.1, isNo_ne h.2.2.2.2⟩
theorem o_lt (hu : X.A.units + 64 < cLine) : OpR X (compareOp .Lt) (rO2 X.K ltD) := by
  intro pins s σ H x y v u Q I rx ry ⟨dx, dy, fx, fy, c, e, q⟩
  unfold ltD at e
  split at e
  · rename_i hm
    obtain ⟨m1, m2, m3, m4, m5⟩ := ordOk_inv hm
    cases e
    obtain ⟨as, ra⟩ := reads_of I rx fx m1
    obtain ⟨bs, rb⟩ := reads_of I ry fy m2
    exact PySem.W.lt_data ra rb m4 m5 (by have := Nat.min_le_left dx.depth dy.depth; omega) ⟨.bl _, H, I, rfl, q _ _ (Same.refl _) (.bl _)⟩
  · cases e
theorem o_gt (hu : X.A.units + 64 < cLine) : OpR X (compareOp .Gt) (rO2 X.K gtD) := by
  intro pins s σ H x y v u Q I rx ry ⟨dx, dy, fx, fy, c, e, q⟩
  unfold gtD at e
  split at e
  · rename_i hm
    obtain ⟨m1, m2, m3, m4, m5⟩ := ordOk_inv hm
    cases e
    obtain ⟨as, ra⟩ := reads_of I rx fx m1
    obtain ⟨bs, rb⟩ := reads_of I ry fy m2
    exact PySem.W.gt_data ra rb m4 m5 (by have := Nat.min_le_left dx.depth dy.depth; omega) ⟨.bl _, H, I, rfl, q _ _ (Same.refl _) (.bl _)⟩
  · cases e
theorem o_le (hu : X.A.units + 64 < cLine) : OpR X (compareOp .LtE) (rO2 X.K leD) := by
  intro pins s σ H x y v u Q I rx ry ⟨dx, dy, fx, fy, c, e, q⟩
  unfold leD at e
  split at e
  · rename_i hm
    obtain ⟨m1, m2, m3, m4, m5⟩ := ordOk_inv hm
    cases e
    obtain ⟨as, ra⟩ := reads_of I rx fx m1
    obtain ⟨bs, rb⟩ := reads_of I ry fy m2
    exact PySem.W.le_data ra rb m4 m5 (by have := Nat.min_le_left dx.depth dy.depth; omega) ⟨.bl _, H, I, rfl, q _ _ (Same.refl _) (.bl _)⟩
  · cases e
theorem o_ge (hu : X.A.units + 64 < cLine) : OpR X (compareOp .GtE) (rO2 X.K geD) := by
  intro pins s σ H x y v u Q I rx ry ⟨dx, dy, fx, fy, c, e, q⟩
  unfold geD at e
  split at e
  · rename_i hm
    obtain ⟨m1, m2, m3, m4, m5⟩ := ordOk_inv hm
    cases e
    obtain ⟨as, ra⟩ := reads_of I rx fx m1
    obtain ⟨bs, rb⟩ := reads_of I ry fy m2
    exact PySem.W.ge_data ra rb m4 m5 (by have := Nat.min_le_left dx.depth dy.depth; omega) ⟨.bl _, H, I, rfl, q _ _ (Same.refl _) (.bl _)⟩
  · cases e
def inB (x : D) (xs : List D) : Bool := xs.any fun y => PyData.eqv y x
def inOk (x : D) (xs : List D) : Bool := x.plain && (PyData.plainAll xs && decide (x.depth ≤ 60))
def inD (x y : D) : Option D := match seqD y with
  | some xs => if inOk x xs = true then some (.bool (inB x xs)) else none
  | none => none
def ninD (x y : D) : Option D := match seqD y with
  | some xs => if inOk x xs = true then some (.bool (!inB x xs)) else none
  | none => none
theorem o_in (hu : X.A.units + 64 < cLine) : OpR X (compareOp .In) (rO2 X.K inD) := by
  intro pins s σ H x y v u Q I rx ry ⟨dx, dy, fx, fy, c, e, q⟩
  unfold inD at e
  cases fy with
  | lst h a =>
    simp only [seqD] at e
    split at e
    · rename_i xs _ hm
      simp only [inOk, Bool.and_eq_true, decide_eq_true_eq] at hm
      cases e
      obtain ⟨as, ra⟩ := reads_of I rx fx hm.1
      obtain ⟨bs, rb⟩ := reads_of I ry (.lst h a) (by simp only [PyData.plain]; exact hm.2.1)
      exact SeqAt.in_list_data rb ra hm.2.1 hm.1 (Nat.lt_of_le_of_lt (Nat.add_le_add_left (Nat.min_le_right _ _) _) (by omega)) ⟨.bl _, H, I, rfl, q _ _ (Same.refl _) (.bl _)⟩
    · cases e
  | tup h a =>
    simp only [seqD] at e
    split at e
    · rename_i xs _ hm
      simp only [inOk, Bool.and_eq_true, decide_eq_true_eq] at hm
      cases e
      obtain ⟨as, ra⟩ := reads_of I rx fx hm.1
      obtain ⟨bs, rb⟩ := reads_of I ry (.tup h a) (by simp only [PyData.plain]; exact hm.2.1)
      exact SeqAt.in_tuple_data rb ra hm.2.1 hm.1 (Nat.lt_of_le_of_lt (Nat.add_le_add_left (Nat.min_le_right _ _) _) (by omega)) ⟨.bl _, H, I, rfl, q _ _ (Same.refl _) (.bl _)⟩
    · cases e
  | _ => cases e
theorem o_nin (hu : X.A.units + 64 < cLine) : OpR X (compareOp .NotIn) (rO2 X.K ninD) := by
  intro pins s σ H x y v u Q I rx ry ⟨dx, dy, fx, fy, c, e, q⟩
  unfold ninD at e
  cases fy with
  | lst h a =>
    simp only [seqD] at e
    split at e
    · rename_i xs _ hm
      simp only [inOk, Bool.and_eq_true, decide_eq_true_eq] at hm
      cases e
      obtain ⟨as, ra⟩ := reads_of I rx fx hm.1
      obtain ⟨bs, rb⟩ := reads_of I ry (.lst h a) (by simp only [PyData.plain]; exact hm.2.1)
      exact SeqAt.notIn_list_data rb ra hm.2.1 hm.1 (Nat.lt_of_le_of_lt (Nat.add_le_add_left (Nat.min_le_right _ _) _) (by omega)) ⟨.bl _, H, I, rfl, q _ _ (Same.refl _) (.bl _)⟩
    · cases e
  | tup h a =>
    simp only [seqD] at e
    split at e
    · rename_i xs _ hm
      simp only [inOk, Bool.and_eq_true, decide_eq_true_eq] at hm
      cases e
      obtain ⟨as, ra⟩ := reads_of I rx fx hm.1
      obtain ⟨bs, rb⟩ := reads_of I ry (.tup h a) (by simp only [PyData.plain]; exact hm.2.1)
      exact SeqAt.notIn_tuple_data rb ra hm.2.1 hm.1 (Nat.lt_of_le_of_lt (Nat.add_le_add_left (Nat.min_le_right _ _) _) (by omega)) ⟨.bl _, H, I, rfl, q _ _ (Same.refl _) (.bl _)⟩
    · cases e
  | _ => cases e
end
end PP

namespace PP
open PySem PySem.Spec L2
open PyProof.Rows hiding St
section
variable {X : Cx} {W : WX} {pins : List (Addr × Obj)} {σ : St} {H : Hp} {s : Shared} {Q : VK} {e : Expr} {es : List Expr} {pos p : Pos}
/-! ### a call of a builtin, of a type -/
theorem r_blt {x : Str} {id : String} {f : List D → Option D} {m : M (List D)} (hc : CallR X (.builtin id) (rOA X.K f)) (hm : X.mg x = none) (hv : bootBuiltins x = some (.builtin id)) (ha : RA X W (e :: es) m) (hg : Gl X x := by rfl) (hn : x ≠ "__name__" := by decide) (hdb : (x == ("__debug__" : Str)) = false := by decide)
    (he : starEach (e :: es) X.env = (false, eval e X.env) :: starEach es X.env := by rfl) (hpl : (backTo pos (starEach es X.env)).any (·.1) = false := by rfl) : RE X W (.Call (.Name x p) (e :: es) [] pos) (apA f m) :=
  PE.imp (pe_callB hc hg hm hv ha hn hdb he hpl) fun _ _ _ h => tDA h
theorem r_typ {x : Str} {T : String} {f : List D → Option D} {m : M (List D)} (hc : CallR X (.type T) (rOA X.K f)) (hm : X.mg x = none) (hv : bootBuiltins x = some (.type T)) (ha : RA X W (e :: es) m) (hg : Gl X x := by rfl) (hn : x ≠ "__name__" := by decide) (hdb : (x == ("__debug__" : Str)) = false := by decide)
    (he : starEach (e :: es) X.env = (false, eval e X.env) :: starEach es X.env := by rfl) (hpl : (backTo pos (starEach es X.env)).any (·.1) = false := by rfl) : RE X W (.Call (.Name x p) (e :: es) [] pos) (apA f m) :=
  PE.imp (pe_callTy hc hg hm hv ha hn hdb he hpl) fun _ _ _ h => tDA h

/-! ### len, abs, int, str -/
def lenD : List D → Option D
  | [.list xs] => some (.int xs.length)
  | [.tuple xs] => some (.int xs.length)
  | [.str z] => if z.length ≤ sizeLine then some (.int z.length) else none
  | _ => none
theorem c_len : CallR X (.builtin "len") (rOA X.K lenD) := by
  intro pins s σ H xs us Q I r ⟨ds, fa, c, e, q⟩
  unfold lenD at e
  split at e
  · cases fa with | cons f fa => cases fa; cases f with | lst h a => cases e; rw [← a.length] at q; exact call_len_seq pins s σ H _ us Q I r ⟨_, _, rfl, .inl h.sq, q _ _ (Same.refl _) (.int _)⟩
  · cases fa with | cons f fa => cases fa; cases f with | tup h a => cases e; rw [← a.length] at q; exact call_len_seq pins s σ H _ us Q I r ⟨_, _, rfl, .inr h.sq, q _ _ (Same.refl _) (.int _)⟩
  · split at e
    · rename_i hz
      cases fa with | cons f fa => cases fa; cases f with | str z => cases e; exact call_len_str pins s σ H _ us Q I r ⟨_, rfl, hz, q _ _ (Same.refl _) (.int _)⟩
    · cases e
  · cases e
def absD : List D → Option D
  | [.int i] => some (.int (if i < 0 then -i else i))
  | _ => none
theorem c_abs : CallR X (.builtin "abs") (rOA X.K absD) := by
  intro pins s σ H xs us Q I r ⟨ds, fa, c, e, q⟩
  unfold absD at e
  split at e
  · cases fa with | cons f fa => cases fa; cases f with | int i => cases e; exact call_abs pins s σ H _ us Q I r ⟨_, rfl, q _ _ (Same.refl _) (.int _)⟩
  · cases e
def intD : List D → Option D
  | [.int i] => some (.int i)
  | [.bool k] => some (.int (if k then 1 else 0))
  | _ => none
theorem c_int : CallR X (.type "int") (rOA X.K intD) := by
  intro pins s σ H xs us Q I r ⟨ds, fa, c, e, q⟩
  unfold intD at e
  split at e
  · cases fa with | cons f fa => cases fa; cases f with | int i => cases e; exact call_int1 pins s σ H _ us Q I r (.inl ⟨_, rfl, q _ _ (Same.refl _) (.int _)⟩)
  · cases fa with | cons f fa => cases fa; cases f with | bl i => cases e; exact call_int1 pins s σ H _ us Q I r (.inr ⟨_, rfl, q _ _ (Same.refl _) (.int _)⟩)
  · cases e
def strD : List D → Option D
  | [.int i] => if i.natAbs.log2 < 1920 then some (.str (toString i)) else none
  | _ => none
theorem c_str : CallR X (.type "str") (rOA X.K strD) := by
  intro pins s σ H xs us Q I r ⟨ds, fa, c, e, q⟩
  unfold strD at e
  split at e
  · split at e
    · rename_i hz
      cases fa with | cons f fa => cases fa; cases f with | int i => cases e; exact call_str_int pins s σ H _ us Q I r ⟨_, rfl, hz, q _ _ (Same.refl _) (.str _)⟩
    · cases e
  · cases e
def boolD : List D → Option D
  | [.int i] => some (.bool (i != 0))
  | [.bool k] => some (.bool k)
  | _ => none
theorem c_bool : CallR X (.type "bool") (rOA X.K boolD) := by
  intro pins s σ H xs us Q I r ⟨ds, fa, c, e, q⟩
  unfold boolD at e
  split at e
  · cases fa with | cons f fa => cases fa; cases f with | int i => cases e; exact call_bool1 pins s σ H _ us Q I r (.inl ⟨_, rfl, q _ _ (Same.refl _) (.bl _)⟩)
  · cases fa with | cons f fa => cases fa; cases f with | bl i => cases e; exact call_bool1 pins s σ H _ us Q I r (.inr ⟨_, rfl, q _ _ (Same.refl _) (.bl _)⟩)
  · cases e

/-! ### any, all -/
def fitB : D → Bool
  | .str x => decide (x.length < 9223372036854775808)
  | .list xs => decide (xs.length < 9223372036854775808)
  | .tuple xs => decide (xs.length < 9223372036854775808)
  | _ => true
theorem fitB_ok {x : D} (h : fitB x = true) : x.fits63 := by
  cases x with
  | str x => have h1 : x.length < 9223372036854775808 := of_decide_eq_true h; show ((x.length : Int) < 2 ^ 63); omega
  | list x => have h1 : x.length < 9223372036854775808 := of_decide_eq_true h; show ((x.length : Int) < 2 ^ 63); omega
  | tuple x => have h1 : x.length < 9223372036854775808 := of_decide_eq_true h; show ((x.length : Int) < 2 ^ 63); omega
  | _ => trivial
def anyOk (xs : List D) : Bool := PyData.plainAll xs && xs.all fitB
def anyD : List D → Option D
  | [.list xs] => if anyOk xs = true then some (.bool (xs.any PyData.truthy)) else none
  | [.tuple xs] => if anyOk xs = true then some (.bool (xs.any PyData.truthy)) else none
  | _ => none
def allD : List D → Option D
  | [.list xs] => if anyOk xs = true then some (.bool (xs.all PyData.truthy)) else none
  | [.tuple xs] => if anyOk xs = true then some (.bool (xs.all PyData.truthy)) else none
  | _ => none
theorem anyOk_inv {xs : List D} (h : anyOk xs = true) : PyData.plainAll xs = true ∧ ∀ x ∈ xs, x.fits63 := by
  simp only [anyOk, Bool.and_eq_true, List.all_eq_true] at h
  exact ⟨h.1, fun x hx => fitB_ok (h.2 x hx)⟩
theorem ref1 {a : Addr} {us : List Value} (r : Vals [.ref a] us) : us = [.ref a] := Vals.ref1 r
theorem c_any (hc : X.calm = true) : CallR X (.builtin "any") (rOA X.K anyD) := by
  intro pins s σ H xs us Q I r ⟨ds, fa, c, e, q⟩
  unfold anyD at e
  split at e
  · split at e
    · rename_i hm
      obtain ⟨m1, m2⟩ := anyOk_inv hm
      cases fa with | cons f fa => cases fa; cases f with | lst h a =>
        cases e
        rw [ref1 r]
        obtain ⟨its, rv, pl, _⟩ := I.list h.sq
        obtain ⟨as, ra⟩ := readsAll_of I rv a m1
        exact PySem.W.any_list_data (I.ok.hd hc) pl.isList ra m1 m2 fun h' tk k => ⟨.bl _, H, I.kept k, rfl, q _ _ (Same.refl _) (.bl _)⟩
    · cases e
  · split at e
    · rename_i hm
      obtain ⟨m1, m2⟩ := anyOk_inv hm
      cases fa with | cons f fa => cases fa; cases f with | tup h a =>
        cases e
        rw [ref1 r]
        obtain ⟨its, rv, pl, _⟩ := I.tuple h.sq
        obtain ⟨as, ra⟩ := readsAll_of I rv a m1
        exact PySem.W.any_tuple_data (I.ok.hd hc) pl ra m1 m2 fun h' tk k => ⟨.bl _, H, I.kept k, rfl, q _ _ (Same.refl _) (.bl _)⟩
    · cases e
  · cases e
theorem c_all (hc : X.calm = true) : CallR X (.builtin "all") (rOA X.K allD) := by
  intro pins s σ H xs us Q I r ⟨ds, fa, c, e, q⟩
  unfold allD at e
  split at e
  · split at e
    · rename_i hm
      obtain ⟨m1, m2⟩ := anyOk_inv hm
      cases fa with | cons f fa => cases fa; cases f with | lst h a =>
        cases e
        rw [ref1 r]
        obtain ⟨its, rv, pl, _⟩ := I.list h.sq
        obtain ⟨as, ra⟩ := readsAll_of I rv a m1
        exact PySem.W.all_list_data (I.ok.hd hc) pl.isList ra m1 m2 fun h' tk k => ⟨.bl _, H, I.kept k, rfl, q _ _ (Same.refl _) (.bl _)⟩
    · cases e
  · split at e
    · rename_i hm
      obtain ⟨m1, m2⟩ := anyOk_inv hm
      cases fa with | cons f fa => cases fa; cases f with | tup h a =>
        cases e
        rw [ref1 r]
        obtain ⟨its, rv, pl, _⟩ := I.tuple h.sq
        obtain ⟨as, ra⟩ := readsAll_of I rv a m1
        exact PySem.W.all_tuple_data (I.ok.hd hc) pl ra m1 m2 fun h' tk k => ⟨.bl _, H, I.kept k, rfl, q _ _ (Same.refl _) (.bl _)⟩
    · cases e
  · cases e

/-! ### sum, max, min -/
def intsD : List D → Option (List Int)
  | [] => some []
  | .int i :: xs => (intsD xs).map (i :: ·)
  | _ :: _ => none
theorem intsD_fz {K : PySem.W.Frag} {H : Hp} : ∀ {vs : List V} {ds : List D} {ns : List Int}, FzAll K H vs ds → intsD ds = some ns → vs = ns.map V.int
  | _, _, _, .nil, e => by cases e; rfl
  | _, _, ns, .cons (d := d) f fa, e => by
    cases f with
    | int i =>
      simp only [intsD, Option.map_eq_some_iff] at e
      obtain ⟨ms, e1, e2⟩ := e
      subst e2
      rw [intsD_fz fa e1]
      rfl
    | _ => cases e
def sumD : List D → Option D
  | [.list xs] => (intsD xs).map fun ns => .int ns.sum
  | [.tuple xs] => (intsD xs).map fun ns => .int ns.sum
  | _ => none
theorem sum_tup {prog : Program} {w : World} {A : Around} {E : Value → Shared → Prop} {s : Shared} {l : Addr} {its : List Value} {ns : List Int} {Q : Value → Shared → Prop} (hh : A.handled = none) (hl : s.heap.IsTuple l its.toArray) (hi : IntsAre its ns)
    (h : ∀ h' tk t', (∀ b o, s.heap.get? b = some o → h'.get? b = some o) → Q (.int ns.sum t') { s with heap := h', toks := tk }) : wpAny (model prog w) A (call (.builtin "sum") [.ref l]) Q E s := by
  obtain ⟨xs, e⟩ := hi.allInts.items
  have hn : numsOf (intItems xs).toList = ns := by rw [← e]; exact hi.numsOf
  rw [nums_intItems] at hn
  rw [e] at hl
  refine PySem.W.ktm_sumG hh hl fun h' tk t' hk => ?_
  have := h h' tk t' hk
  rw [preSum_eq, List.take_of_length_le (by simp), hn]; exact this
theorem c_sum (hc : X.calm = true) : CallR X (.builtin "sum") (rOA X.K sumD) := by
  intro pins s σ H xs us Q I r ⟨ds, fa, c, e, q⟩
  unfold sumD at e
  split at e
  · cases fa with | cons f fa => cases fa; cases f with | lst h a =>
      rw [Option.map_eq_some_iff] at e
      obtain ⟨ns, e1, e2⟩ := e
      subst e2
      have ev := intsD_fz a e1
      subst ev
      exact cr_sum hc pins s σ H _ us Q I r ⟨_, ns, rfl, h.sq, q _ _ (Same.refl _) (.int _)⟩
  · cases fa with | cons f fa => cases fa; cases f with | tup h a =>
      rw [Option.map_eq_some_iff] at e
      obtain ⟨ns, e1, e2⟩ := e
      subst e2
      have ev := intsD_fz a e1
      subst ev
      rw [ref1 r]
      obtain ⟨its, rv, pl, _⟩ := I.tuple h.sq
      exact sum_tup (I.ok.hd hc) pl rv.ints fun h' tk t' hk => ⟨.int _, H, I.kept hk, ⟨_, rfl⟩, q _ _ (Same.refl _) (.int _)⟩
  · cases e
theorem intsD_eq : ∀ {ds : List D} {ns : List Int}, intsD ds = some ns → ds = ns.map PyData.int
  | [], ns, e => by cases e; rfl
  | d :: ds, ns, e => by
    cases d with
    | int i =>
      simp only [intsD, Option.map_eq_some_iff] at e
      obtain ⟨ms, e1, e2⟩ := e
      subst e2
      rw [intsD_eq e1]
      rfl
    | _ => cases e
theorem ints_plain : ∀ ns : List Int, PyData.plainAll (ns.map PyData.int) = true
  | [] => rfl
  | n :: ns => by rw [List.map_cons, PyData.plainAll, ints_plain ns]; rfl
theorem ints_depth : ∀ ns : List Int, PyData.depthAll (ns.map PyData.int) ≤ 1
  | [] => by decide
  | n :: ns => by
    rw [List.map_cons, PyData.depthAll]
    have := ints_depth ns
    have e : (PyData.int n).depth ≤ 1 := by rw [PyData.depth]; omega
    omega
theorem ints_alike (ns : List Int) : PySem.W.AlikeAll (ns.map PyData.int) := by
  constructor
  · intro x hx y hy
    obtain ⟨i, _, rfl⟩ := List.mem_map.mp hx
    obtain ⟨j, _, rfl⟩ := List.mem_map.mp hy
    rfl
  · intro x hx
    obtain ⟨i, _, rfl⟩ := List.mem_map.mp hx
    exact fun z => nomatch z
def foldI (f : Int → Int → Int) : List Int → Option D
  | [] => none
  | n :: ns => some (.int (ns.foldl f n))
def maxD : List D → Option D
  | [.list xs] => (intsD xs).bind (foldI max)
  | [.tuple xs] => (intsD xs).bind (foldI max)
  | [.int i, .int j] => some (.int (if j > i then j else i))
  | _ => none
def minD : List D → Option D
  | [.list xs] => (intsD xs).bind (foldI min)
  | [.tuple xs] => (intsD xs).bind (foldI min)
  | [.int i, .int j] => some (.int (if j < i then j else i))
  | _ => none
theorem reads_int {h : Heap} {v : Value} {i : Int} {bs : List Addr} (r : Reads h v (.int i) bs) : ∃ t, v = .int i t := by
  cases r
  exact ⟨_, rfl⟩
theorem foldI_inv {f : Int → Int → Int} {xs : List D} {c : D} (e : (intsD xs).bind (foldI f) = some c) : ∃ (n : Int) (ns : List Int), xs = PyData.int n :: ns.map PyData.int ∧ c = .int (ns.foldl f n) := by
  rw [Option.bind_eq_some_iff] at e
  obtain ⟨ns, e1, e2⟩ := e
  cases ns with
  | nil => cases e2
  | cons n ns =>
    cases e2
    exact ⟨n, ns, intsD_eq e1, rfl⟩
theorem c_max (hc : X.calm = true) (hu : X.A.units + 64 < cLine) : CallR X (.builtin "max") (rOA X.K maxD) := by
  intro pins s σ H xs us Q I r ⟨ds, fa, c, e, q⟩
  unfold maxD at e
  split at e
  · obtain ⟨n, ns, rfl, rfl⟩ := foldI_inv e
    cases fa with | cons f fa => cases fa; cases f with | lst h a =>
      rw [ref1 r]
      obtain ⟨its, rv, pl, _⟩ := I.list h.sq
      obtain ⟨as, ra⟩ := readsAll_of I rv a (ints_plain (n :: ns))
      have hd := ints_depth (n :: ns)
      rw [List.map_cons] at hd
      refine PySem.W.max_list_data (I.ok.hd hc) pl.isList ra (ints_alike (n :: ns)) (by omega) fun i v h' tk bs hv rd k => ?_
      rw [PySem.W.maxD_ints] at rd
      obtain ⟨t, rfl⟩ := reads_int rd
      exact ⟨.int _, H, I.kept k, ⟨_, rfl⟩, q _ _ (Same.refl _) (.int _)⟩
  · obtain ⟨n, ns, rfl, rfl⟩ := foldI_inv e
    cases fa with | cons f fa => cases fa; cases f with | tup h a =>
      rw [ref1 r]
      obtain ⟨its, rv, pl, _⟩ := I.tuple h.sq
      obtain ⟨as, ra⟩ := readsAll_of I rv a (ints_plain (n :: ns))
      have hd := ints_depth (n :: ns)
      rw [List.map_cons] at hd
      refine PySem.W.max_tuple_data (I.ok.hd hc) pl ra (ints_alike (n :: ns)) (by omega) fun i v h' tk bs hv rd k => ?_
      rw [PySem.W.maxD_ints] at rd
      obtain ⟨t, rfl⟩ := reads_int rd
      exact ⟨.int _, H, I.kept k, ⟨_, rfl⟩, q _ _ (Same.refl _) (.int _)⟩
  · cases e
    cases fa with | cons f fa => cases fa with | cons f2 fa => cases fa; cases f; cases f2; exact call_max2 hc pins s σ H _ us Q I r ⟨_, _, rfl, q _ _ (Same.refl _) (.int _)⟩
  · cases e
theorem c_min (hc : X.calm = true) (hu : X.A.units + 64 < cLine) : CallR X (.builtin "min") (rOA X.K minD) := by
  intro pins s σ H xs us Q I r ⟨ds, fa, c, e, q⟩
  unfold minD at e
  split at e
  · obtain ⟨n, ns, rfl, rfl⟩ := foldI_inv e
    cases fa with | cons f fa => cases fa; cases f with | lst h a =>
      rw [ref1 r]
      obtain ⟨its, rv, pl, _⟩ := I.list h.sq
      obtain ⟨as, ra⟩ := readsAll_of I rv a (ints_plain (n :: ns))
      have hd := ints_depth (n :: ns)
      rw [List.map_cons] at hd
      refine PySem.W.min_list_data (I.ok.hd hc) pl.isList ra (ints_alike (n :: ns)) (by omega) fun i v h' tk bs hv rd k => ?_
      rw [PySem.W.minD_ints] at rd
      obtain ⟨t, rfl⟩ := reads_int rd
      exact ⟨.int _, H, I.kept k, ⟨_, rfl⟩, q _ _ (Same.refl _) (.int _)⟩
  · obtain ⟨n, ns, rfl, rfl⟩ := foldI_inv e
    cases fa with | cons f fa => cases fa; cases f with | tup h a =>
      rw [ref1 r]
      obtain ⟨its, rv, pl, _⟩ := I.tuple h.sq
      obtain ⟨as, ra⟩ := readsAll_of I rv a (ints_plain (n :: ns))
      have hd := ints_depth (n :: ns)
      rw [List.map_cons] at hd
      refine PySem.W.min_tuple_data (I.ok.hd hc) pl ra (ints_alike (n :: ns)) (by omega) fun i v h' tk bs hv rd k => ?_
      rw [PySem.W.minD_ints] at rd
      obtain ⟨t, rfl⟩ := reads_int rd
      exact ⟨.int _, H, I.kept k, ⟨_, rfl⟩, q _ _ (Same.refl _) (.int _)⟩
  · cases e
    cases fa with | cons f fa => cases fa with | cons f2 fa => cases fa; cases f; cases f2; exact call_min2 hc pins s σ H _ us Q I r ⟨_, _, rfl, q _ _ (Same.refl _) (.int _)⟩
  · cases e

/-! ### list(x), tuple(x), sorted(x) -/
def seqA : List D → Option (List D)
  | [x] => seqD x
  | _ => none
def tupD : List D → Option D := fun xs => (seqA xs).map .tuple
theorem c_tup : CallR X (.type "tuple") (rOA X.K tupD) := by
  intro pins s σ H xs us Q I r ⟨ds, fa, c, e, q⟩
  unfold tupD at e
  rw [Option.map_eq_some_iff] at e
  obtain ⟨ys, e, rfl⟩ := e
  unfold seqA at e
  split at e
  · cases fa with | cons f fa => cases fa; cases f with
    | lst h a =>
      cases e
      rw [ref1 r]
      obtain ⟨its, r', pl, hz⟩ := I.list h.sq
      have hlen := r'.length
      refine call_tuple_list pl.isList (fun h' kp => ?_) (by simp only [List.size_toArray] <;> omega)
      exact ep_tup (I.kept (t' := s.toks) kp) r' a hz q
    | tup h a =>
      cases e
      exact call_tuple_of pins s σ H _ us Q I r ⟨_, _, rfl, .inr ⟨h.sq, q _ _ (Same.refl _) (.tup h a)⟩⟩
    | _ => cases e
  · cases e
def eList (m : M (List D)) : M (List D) := bnd m fun xs => lift (seqA xs)
theorem r_list {m : M (List D)} (hm : X.mg "list" = none) (ha : RA X W (e :: es) m) (hg : Gl X "list" := by rfl) (he : starEach (e :: es) X.env = (false, eval e X.env) :: starEach es X.env := by rfl) (hpl : (backTo pos (starEach es X.env)).any (·.1) = false := by rfl) :
    RL X W (.Call (.Name "list" p) (e :: es) [] pos) (eList m) := PE.imp (pe_callTy call_list_of hg hm (by rfl) ha (by decide) (by decide) he hpl) fun σ H Q h => by
  obtain ⟨g, R, s, n, h⟩ := h
  refine ⟨g, R, s, n, ?_⟩
  unfold eList bnd at h
  cases em : m g with
  | stuck => rw [em] at h; exact h
  | exc c g' => rw [em] at h; exact h
  | ok ds g1 =>
    rw [em] at h
    dsimp only [lift] at h
    intro vs H1 go fa
    obtain ⟨bk1, R1, s1, n1, e1, w1⟩ := go
    cases es : seqA ds with
    | none => rw [es] at h; exact h.elim
    | some ys =>
      rw [es] at h
      have fin : ∀ {ws : List V} {l : Addr}, FzAll X.K H1 ws ys → H1 l = none → Q (.ref l) (L2.upd H1 l (.lst ws)) := fun {ws l} fw nl => by
        have sm : Same H1 (L2.upd H1 l (.lst ws)) := Same.upd nl
        refine h l ws _ ⟨bk1, upd_same, fw.pers (.of_same sm), R1, s1.same sm, ?_, e1.trans w1 (.of_same sm), ?_⟩
        · exact List.nodup_cons.mpr ⟨fun z => s1.root_some l z nl, n1⟩
        · intro a ha
          rcases List.mem_cons.mp ha with rfl | ha
          · by_cases hr : a ∈ R
            · exact .inl hr
            · exact .inr (e1.none nl hr)
          · exact w1 a ha
      unfold seqA at es
      split at es
      · cases fa with | cons f fa => cases fa; cases f with
        | lst h a => cases es; exact ⟨_, _, rfl, .inl h.sq, fun l nl => fin a nl⟩
        | tup h a => cases es; exact ⟨_, _, rfl, .inr h.sq, fun l nl => fin a nl⟩
        | _ => cases es
      · cases es
end
end PP

namespace PP
open PySem PySem.Spec L2
open PyProof.Rows hiding St
section
variable {X : Cx} {W : WX} {pins : List (Addr × Obj)} {σ : St} {H : Hp} {s : Shared} {Q : VK} {e a b : Expr} {es : List Expr} {pos p : Pos} {ma mb : M D}
/-! ### isinstance -/
def tyD : D → String
  | .none => "NoneType"
  | .bool _ => "bool"
  | .int _ => "int"
  | .str _ => "str"
  | .list _ => "list"
  | .tuple _ => "tuple"
  | .dict _ => "dict"
theorem tyX_of {K : PySem.W.Frag} {v : V} {x : D} (f : Fz K H v x) (hd : ∀ k, x ≠ .dict k) : TyX K H v (.type (tyD x)) := by
  cases f with
  | non => exact .base .non
  | bl b => exact .base (.bl b)
  | int i => exact .base (.int i)
  | str x => exact .base (.str x)
  | lst h a =>
    rcases h with ⟨o, h⟩ | ⟨o, its, n, h, hc, _⟩
    · exact .base (.frz h)
    · exact .kList h hc
  | tup h a =>
    obtain ⟨o, _, h⟩ := h
    unfold tupO at h
    split at h
    · exact .base (.tup h)
    · exact .fTuple h
  | dK h a => exact absurd rfl (hd _)
  | dT h a => exact absurd rfl (hd _)
def isDict : D → Bool
  | .dict _ => true
  | _ => false
def isiD (T : String) (x : D) : Option D := if isDict x = true then none else (kitB (tyD x) T).map .bool
theorem r_isi {T : String} {x : Str} {np : Pos} (hm : X.mg "isinstance" = none) (hmT : X.mg x = none) (hT : bootBuiltins x = some (.type T)) (ha : RE X W a ma) (hg : Gl X "isinstance" := by rfl) (hgT : Gl X x := by rfl) (hn : x ≠ "__name__" := by decide) (hd : (x == ("__debug__" : Str)) = false := by decide)
    (hs1 : starEach [a, .Name x np] X.env = (false, eval a X.env) :: starEach [.Name x np] X.env := by rfl) (hs2 : starEach [.Name x np] X.env = (false, eval (.Name x np) X.env) :: starEach [] X.env := by rfl)
    (hpl : (backTo pos (starEach [.Name x np] X.env)).any (·.1) = false := by rfl) : RE X W (.Call (.Name "isinstance" p) [a, .Name x np] [] pos) (ap1 (isiD T) ma) :=
  PE.imp (pe_callB call_isi hg hm PyProof.Rows.boot_isinstance (pa_cons ha (pa_cons (pe_bltn (v := .ty T) hgT hmT hT rfl hn hd) pa_nil hs2) hs1) (by decide) (by decide) hs1 hpl) fun σ H Q h => by
    refine tG_mono (tD1 h) fun v H1 _ ⟨d, fd, c, e, q⟩ => ?_
    unfold isiD at e
    split at e
    · cases e
    · rename_i hnd
      rw [Option.map_eq_some_iff] at e
      obtain ⟨k, e, rfl⟩ := e
      exact ⟨v, .ty T, .type (tyD d), .type T, k, rfl, .ty T, tyX_of fd (fun z zz => by subst zz; exact hnd rfl), kit_ty e, q _ _ (Same.refl _) (.bl _)⟩

/-! ### freezing what was made -/
theorem ep_lock {u : Value} (h : EP X pins σ (fun v H1 => ∃ p u, v = .ref p ∧ H1 p = some u ∧ Mut (some u) ∧ ∀ o, Q v (L2.upd H1 p (.frz o u))) u s) : EP X pins σ Q u s := by
  obtain ⟨x, H1, I1, r, p, u, e, hu, mu, q⟩ := h
  subst e
  obtain ⟨od, I2⟩ := I1.lock hu mu
  exact ⟨.ref p, _, I2, r, q od⟩
theorem call_lock {f : Value} {r : List V → Hp → VK → Prop} {us : List Value} {vs : List V} (h : CallR X f r) (I : Inv X pins σ H s) (rv : Vals vs us) (q : r vs H (fun v H1 => ∃ p u, v = .ref p ∧ H1 p = some u ∧ Mut (some u) ∧ ∀ o, Q v (L2.upd H1 p (.frz o u)))) :
    wpAny (model X.prog X.w) X.A (call f us) (EP X pins σ Q) X.xe s := wpAny_mono (h pins s σ H vs us _ I rv q) (fun u s' h => ep_lock h) fun _ _ x => x

/-! ### x[i], any plain thing -/
def keyD : D → Option Key
  | .int i => some (.inl i)
  | .str x => some (.inr x)
  | _ => none
def dKey : D → Bool
  | .int _ => true
  | _ => false
def keysD : List D → Option (List Key)
  | [] => some []
  | x :: r => match keyD x, keysD r with
    | some k, some ks => some (k :: ks)
    | _, _ => none
/-- a tuple of keys; one of ints -/
def tkD : D → Option (List Key)
  | .tuple xs => keysD xs
  | _ => none
def tkI : D → Option (List Key)
  | .tuple xs => if xs.all dKey = true then keysD xs else none
  | _ => none
def tGet (kvs : List (D × D)) (ks : List Key) : Option D := (kvs.find? fun p => decide (tkD p.1 = some ks)).map (·.2)
def dGet (kvs : List (D × D)) (k : D) : Option D := match keyD k with
  | some kk => (kvs.find? fun p => decide (keyD p.1 = some kk)).map (·.2)
  | none => match tkI k with
    | some ks => tGet kvs ks
    | none => none
def ixD : D → D → Option D
  | .list xs, .int i => atI xs i
  | .tuple xs, .int i => atI xs i
  | .str z, .int i => if z.length ≤ sizeLine then (atI z.cps.toList i).map fun c => .str ⟨#[c]⟩ else none
  | .dict kvs, k => dGet kvs k
  | _, _ => none
theorem keyD_kD (k : Key) : keyD (kD k) = some k := by cases k <;> rfl
theorem kV_of {K : PySem.W.Frag} {v : V} {x : D} {k : Key} (f : Fz K H v x) (e : keyD x = some k) : v = kV k := by
  cases f <;> first | (cases e; rfl) | cases e
theorem dget_fz {K : PySem.W.Frag} {k : Key} : ∀ {kvs : List (Key × V)} {ds : List D} {y : D}, FzAll K H (kvs.map (·.2)) ds → (((kvs.map fun p => kD p.1).zip ds).find? fun p => decide (keyD p.1 = some k)).map (·.2) = some y → ∃ v, valV kvs k = some v ∧ Fz K H v y
  | [], _, y, _, e => by simp at e
  | (k1, v1) :: kvs, _, y, .cons (ds := ds) f fa, e => by
    rw [List.map_cons, List.zip_cons_cons, List.find?_cons] at e
    by_cases h : k1 = k
    · subst h
      simp only [keyD_kD, decide_true] at e
      cases e
      exact ⟨v1, valV_pos rfl, f⟩
    · have h2 : decide (keyD (kD k1) = some k) = false := by
        rw [keyD_kD]
        exact decide_eq_false fun z => h (Option.some.inj z)
      simp only [h2] at e
      obtain ⟨v, e1, e2⟩ := dget_fz fa e
      exact ⟨v, by rw [valV_neg h]; exact e1, e2⟩
theorem keyD_tuple (xs : List D) : keyD (.tuple xs) = none := rfl
theorem find_tups {k : Key} : ∀ (kvs : List (List Key × V)) (ds : List D), (((kvs.map fun p => PyData.tuple (p.1.map kD)).zip ds).find? fun p => decide (keyD p.1 = some k)) = none
  | [], _ => rfl
  | _ :: _, [] => rfl
  | p :: kvs, d :: ds => by
    rw [List.map_cons, List.zip_cons_cons, List.find?_cons]
    simp only [keyD_tuple]
    exact find_tups kvs ds
theorem keysD_map : ∀ k : List Key, keysD (k.map kD) = some k
  | [] => rfl
  | a :: k => by rw [List.map_cons, keysD, keyD_kD, keysD_map k]
theorem key_all {K : PySem.W.Frag} {H : Hp} : ∀ {vs : List V} {ds : List D}, FzAll K H vs ds → vs.all vKey = ds.all dKey
  | _, _, .nil => rfl
  | _, _, .cons h a => by
    rw [List.all_cons, List.all_cons, key_all a]
    cases h <;> rfl
theorem keys_fz {K : PySem.W.Frag} {H : Hp} : ∀ {vs : List V} {ds : List D} {ks : List Key}, FzAll K H vs ds → keysD ds = some ks → vs = ks.map kV
  | _, _, ks, .nil, e => by cases e; rfl
  | _, _, ks, .cons (d := d) (ds := ds) h a, e => by
    rw [keysD] at e
    cases e1 : keyD d with
    | none => rw [e1] at e; cases e
    | some k =>
      cases e2 : keysD ds with
      | none => rw [e1, e2] at e; cases e
      | some ks' =>
        rw [e1, e2] at e
        cases e
        rw [List.map_cons, kV_of h e1, keys_fz a e2]
/-- a tuple of ints as a key -/
theorem tkI_fz {K : PySem.W.Frag} {H : Hp} {v : V} {y : D} {ks : List Key} (f : Fz K H v y) (e : tkI y = some ks) : ∃ b, v = .ref b ∧ H b = some (.tup (ks.map kV)) := by
  cases f with
  | tup h a =>
    unfold tkI at e
    dsimp only at e
    split at e
    · rename_i ha
      have hv : _ = true := (key_all a).trans ha
      rw [← keys_fz a e]
      exact ⟨_, rfl, h.key hv⟩
    · cases e
  | _ => cases e
theorem find_keys {ks : List Key} : ∀ (kvs : List (Key × V)) (ds : List D), (((kvs.map fun p => kD p.1).zip ds).find? fun p => decide (tkD p.1 = some ks)) = none
  | [], _ => rfl
  | _ :: _, [] => rfl
  | (k, v) :: kvs, d :: ds => by
    rw [List.map_cons, List.zip_cons_cons, List.find?_cons]
    have : tkD (kD k) = none := by cases k <;> rfl
    simp only [this]
    exact find_keys kvs ds
theorem dgetT_fz {K : PySem.W.Frag} {ks : List Key} : ∀ {kvs : List (List Key × V)} {ds : List D} {y : D}, FzAll K H (kvs.map (·.2)) ds → tGet ((kvs.map fun p => PyData.tuple (p.1.map kD)).zip ds) ks = some y → ∃ v, valV kvs ks = some v ∧ Fz K H v y
  | [], _, y, _, e => by simp [tGet] at e
  | (k1, v1) :: kvs, _, y, .cons (ds := ds) f fa, e => by
    unfold tGet at e
    rw [List.map_cons, List.zip_cons_cons, List.find?_cons] at e
    have kk : tkD (.tuple (k1.map kD)) = some k1 := keysD_map k1
    by_cases h : k1 = ks
    · subst h
      simp only [kk, decide_true] at e
      cases e
      exact ⟨v1, valV_pos rfl, f⟩
    · have h2 : decide (tkD (.tuple (k1.map kD)) = some ks) = false := by
        rw [kk]
        exact decide_eq_false fun z => h (Option.some.inj z)
      simp only [h2] at e
      obtain ⟨v, e1, e2⟩ := dgetT_fz fa e
      exact ⟨v, by rw [valV_neg h]; exact e1, e2⟩
theorem i_ix (hu : X.A.units + 64 < cLine) : IxR X (rO2 X.K ixD) := by
  intro value slice pins s σ H x y v u Q I rx ry ⟨dx, dy, fx, fy, c, e, q⟩ hs
  cases fx with
  | lst h a =>
    cases fy with
    | int i =>
      obtain ⟨w, e1, fw⟩ := atI_fz a e
      exact ix_list value slice pins s σ H _ _ v u Q I rx ry ⟨_, _, _, w, rfl, rfl, h.sq, e1, q _ _ (Same.refl _) fw⟩ hs
    | _ => cases e
  | tup h a =>
    cases fy with
    | int i =>
      obtain ⟨w, e1, fw⟩ := atI_fz a e
      exact ix_tup value slice pins s σ H _ _ v u Q I rx ry ⟨_, _, _, w, rfl, rfl, h.sq, e1, q _ _ (Same.refl _) fw⟩ hs
    | _ => cases e
  | str z =>
    cases fy with
    | int i =>
      simp only [ixD] at e
      split at e
      · rename_i hz
        rw [Option.map_eq_some_iff] at e
        obtain ⟨k, e1, rfl⟩ := e
        exact ix_str value slice pins s σ H _ _ v u Q I rx ry ⟨_, _, k, rfl, rfl, hz, e1, q _ _ (Same.refl _) (.str _)⟩ hs
      · cases e
    | _ => cases e
  | dK h a =>
    simp only [ixD, dGet] at e
    split at e
    · rename_i kk ek
      obtain ⟨w, e1, fw⟩ := dget_fz a e
      have ey := kV_of fy ek
      subst ey
      have g : DGet H _ (kV kk) (some w) := .inl ⟨_, kk, .inr ⟨_, h⟩, rfl, e1.symm⟩
      cases rx
      exact tail_any (dict_typeIs I g) PySem.F.slot_dict_getitem.lookup (d_getItem (by omega) I g ry fun w' s3 I3 rw' => ⟨w, H, I3, rw', q _ _ (Same.refl _) fw⟩) hs
    · split at e
      · unfold tGet at e
        rw [find_keys] at e
        cases e
      · cases e
  | dT h a =>
    simp only [ixD, dGet] at e
    split at e
    · rw [find_tups] at e
      cases e
    · split at e
      · rename_i ks ek
        obtain ⟨w, e1, fw⟩ := dgetT_fz a e
        obtain ⟨b, eb, hb⟩ := tkI_fz fy ek
        subst eb
        have g : DGet H _ (.ref b) (some w) := .inr ⟨_, ks, b, .inr ⟨_, h⟩, rfl, hb, e1.symm⟩
        cases rx
        exact tail_any (dict_typeIs I g) PySem.F.slot_dict_getitem.lookup (d_getItem (by omega) I g ry fun w' s3 I3 rw' => ⟨w, H, I3, rw', q _ _ (Same.refl _) fw⟩) hs
      · cases e
  | _ => cases e
theorem r_ix (hu : X.A.units + 64 < cLine) (ha : RE X W a ma) (hb : RE X W b mb) (hs : PlainIx b := by exact fun _ _ => rfl) : RE X W (.Subscript a b pos) (ap2 ixD ma mb) := PE.imp (pe_ix (i_ix hu) ha hb hs) fun _ _ _ h => tD2 h

/-! ### slices -/
def RP (X : Cx) (W : WX) (e : Option Expr) (m : M (Option Int)) : Prop := PO X e (tG (fun _ b a => b = a) X.K W m)
theorem PO.imp {e : Option Expr} {t t' : TO} (h : PO X e t) (k : ∀ σ H Q, t' σ H Q → t σ H Q) : PO X e t' := ⟨fun pins s σ H Q I q => h.run pins s σ H Q I (k σ H Q q)⟩
def pN : M (Option Int) := fun g => .ok none g
def partD : D → Option (Option Int)
  | .int i => some (some i)
  | _ => none
def pS (m : M D) : M (Option Int) := ap1 partD m
theorem r_pn : RP X W none pN := PO.imp po_none fun σ H Q h => tG_ret h rfl
theorem r_ps (h : RE X W a ma) : RP X W (some a) (pS ma) := PO.imp (po_some h) fun σ H Q h => tG_mono (tD1 h) fun v H1 _ ⟨d, fd, c, e, q⟩ => by
  cases fd with
  | int i => cases e; exact ⟨i, rfl, q _ _ (Same.refl _) rfl⟩
  | _ => cases e
def cutD {α : Type} (xs : List α) (lo hi : Option Int) : List α := (xs.drop (HT.sIx xs.length 0 lo)).take (HT.sIx xs.length xs.length hi - HT.sIx xs.length 0 lo)
def slD (x : D) (lo hi : Option Int) : Option D := match x with
  | .list xs => some (.list (cutD xs lo hi))
  | .tuple xs => some (.tuple (cutD xs lo hi))
  | .str z => if z.length ≤ sizeLine then some (.str (cutS z lo hi)) else none
  | _ => none
theorem cut_fz {K : PySem.W.Frag} {vs : List V} {ds : List D} {lo hi : Option Int} (f : FzAll K H vs ds) : FzAll K H (cutV vs lo hi) (cutD ds lo hi) := by
  unfold cutV cutD
  rw [f.length]
  exact (f.drop _).take _
theorem cut_all {α : Type} {xs : List α} {lo hi : Option Int} (h : HT.sIx xs.length 0 lo = 0 ∧ HT.sIx xs.length xs.length hi = xs.length) : cutD xs lo hi = xs := by
  unfold cutD
  rw [h.1, h.2]
  simp
def rSlD (K : PySem.W.Frag) : V → Option Int → Option Int → Hp → VK → Prop := fun v lo hi H Q => ∃ x, Fz K H v x ∧ ∃ c, slD x lo hi = some c ∧ ∀ b H', Same H H' → Fz K H' b c → Q b H'
theorem i_sl : SlR X (rSlD X.K) := by
  intro pins s σ H x v vl vu lo hi sl Q I rx hs pl pu ⟨dx, fx, c, e, q⟩
  cases fx with
  | lst h a =>
    cases e
    obtain ⟨T, id, h1, h2, h3⟩ := sl_list pins s σ H _ v vl vu lo hi sl (fun v H1 => ∃ p u, v = .ref p ∧ H1 p = some u ∧ Mut (some u) ∧ ∀ o, Q v (L2.upd H1 p (.frz o u))) I rx hs pl pu ⟨_, _, rfl, h.sq, fun p np => ⟨p, _, rfl, upd_same, trivial, fun o => by
      obtain ⟨h1, h2⟩ := fz_new (o := o) np (cut_fz a (lo := lo) (hi := hi))
      exact q _ _ h1 h2⟩⟩
    exact ⟨T, id, h1, h2, wpAny_mono h3 (fun u s' h => ep_lock h) fun _ _ x => x⟩
  | tup h a =>
    cases e
    cases rx
    obtain ⟨its, r, ht, hz⟩ := I.tuple h.sq
    have hlen := (show its.toArray.size = its.length from List.size_toArray).trans r.length.symm
    refine ⟨"tuple", _, PyProof.Rows.slot_tuple_getitem.lookup, ht.typeIs, ?_⟩
    by_cases hw : HT.sIx its.toArray.size 0 lo = 0 ∧ HT.sIx its.toArray.size its.toArray.size hi = its.toArray.size
    · refine getItem_tuple_whole ht hs pl pu hw ⟨.ref _, H, I, rfl, ?_⟩
      rw [hlen, a.length] at hw
      rw [cut_all hw] at q
      exact q _ _ (Same.refl _) (.tup h a)
    · refine HT.getItem_tuple_cut ht hs pl pu hw ?_ (by rw [hlen]; exact hz)
      rw [hlen]
      exact ep_tup (t := s.toks) I ((r.drop _).take _) (cut_fz a (lo := lo) (hi := hi)) (Nat.le_trans (cutV_length _ lo hi) hz) q
  | str z =>
    simp only [slD] at e
    split at e
    · rename_i hz
      cases e
      exact sl_str pins s σ H _ v vl vu lo hi sl Q I rx hs pl pu ⟨_, rfl, hz, q _ _ (Same.refl _) (.str _)⟩
    · cases e
  | _ => cases e
def eSl (m : M D) (l h : M (Option Int)) : M D := bnd m fun x => bnd l fun lo => bnd h fun hi => lift (slD x lo hi)
theorem r_sl {lo hi : Option Expr} {ml mh : M (Option Int)} {p2 : Pos} (ha : RE X W a ma) (hl : RP X W lo ml) (hh : RP X W hi mh) : RE X W (.Subscript a (.Slice lo hi none p2) pos) (eSl ma ml mh) := PE.imp (pe_slice i_sl ha hl hh) fun σ H Q h =>
  tG_mono (tG_bind h) fun v H1 _ ⟨x, r, q⟩ => tG_mono (tG_bind q) fun l H2 p2 ⟨lo, e2, q2⟩ => tG_mono (tG_bind q2) fun u H3 p3 ⟨hi, e3, q3⟩ => by
    subst e2 e3
    obtain ⟨c, e, q⟩ := tG_lift q3
    exact ⟨x, (r.pers p2).pers p3, c, e, q⟩

/-! ### sorted -/
def alkB (xs : List D) : Bool := xs.all fun x => xs.all fun y => PySem.W.alike x y
def tup1 : D → Bool
  | .tuple (_ :: _) => true
  | _ => false
def noTN : D → Bool
  | .none => false
  | .tuple _ => false
  | _ => true
def srtOk (xs : List D) : Bool := PyData.plainAll xs && (alkB xs && (decide (PyData.depthAll xs ≤ 60) && (xs.all tup1 || xs.all noTN)))
def sortD (xs : List D) : List D := xs.mergeSort fun a b => !PySem.W.dataLt b a
def sorted1 : D → Option (List D)
  | .list xs => if srtOk xs = true then some (sortD xs) else none
  | _ => none
def sortedD : List D → Option D
  | [x] => (sorted1 x).map .list
  | _ => none
theorem depth_mem : ∀ {xs : List D} {x : D}, x ∈ xs → x.depth ≤ PyData.depthAll xs
  | y :: ys, x, h => by
    rw [PyData.depthAll]
    rcases List.mem_cons.mp h with rfl | h
    · omega
    · have := depth_mem h
      omega
theorem each_of {K : PySem.W.Frag} : ∀ {vs : List V} {us : List Value} {ds : List D}, Vals vs us → FzAll K H vs ds → PySem.W.EachIs (fun u (b : V × D) => RelV b.1 u ∧ Fz K H b.1 b.2) us (vs.zip ds) ∧ (vs.zip ds).map (·.2) = ds ∧ (vs.zip ds).length = ds.length
  | _, _, _, .nil, .nil => ⟨.nil, rfl, rfl⟩
  | _, _, _, .cons r rs, .cons f fs => by
    obtain ⟨h1, h2, h3⟩ := each_of rs fs
    exact ⟨.cons ⟨r, f⟩ h1, by rw [List.zip_cons_cons, List.map_cons, h2], by rw [List.zip_cons_cons, List.length_cons, h3, List.length_cons]⟩
theorem of_each {K : PySem.W.Frag} : ∀ {us : List Value} {bs : List (V × D)}, PySem.W.EachIs (fun u (b : V × D) => RelV b.1 u ∧ Fz K H b.1 b.2) us bs → Vals (bs.map (·.1)) us ∧ FzAll K H (bs.map (·.1)) (bs.map (·.2))
  | _, _, .nil => ⟨.nil, .nil⟩
  | _, _, .cons ⟨r, f⟩ t => by
    obtain ⟨h1, h2⟩ := of_each t
    exact ⟨.cons r h1, .cons f h2⟩
theorem sorted_list (hu : X.A.units + 64 < cLine) {l : Addr} {its : List Value} {vs : List V} {xs : List D} (I : Inv X pins σ H s) (pl : s.heap.IsList l its.toArray) (rv : Vals vs its) (a : FzAll X.K H vs xs) (hm : srtOk xs = true) (hz : vs.length ≤ sizeLine)
    (q : ∀ b H', Same H H' → Fz X.K H' b (.list (sortD xs)) → Q b H') : wpAny (model X.prog X.w) X.A (call (.builtin "sorted") [.ref l]) (EP X pins σ Q) X.xe s := by
  simp only [srtOk, Bool.and_eq_true, decide_eq_true_eq, Bool.or_eq_true, List.all_eq_true] at hm
  obtain ⟨m1, m2, m3, m4⟩ := hm
  obtain ⟨h1, h2, h3⟩ := each_of rv a
  have hz' : xs.length ≤ sizeLine := by rw [← a.length]; exact hz
  obtain ⟨as, ra⟩ := readsAll_of I rv a m1
  have er : PySem.W.EachIs (fun v (b : V × D) => ∃ as, Reads s.heap v b.2 as) its (vs.zip xs) := by
    clear h2 h3 m2 m3 m4 q hz hz' pl h1 hu
    induction rv generalizing xs as with
    | nil => cases a; exact .nil
    | cons r t ih =>
      cases a with | cons f fs =>
        cases ra with | cons r1 rs =>
          rw [PyData.plainAll, Bool.and_eq_true] at m1
          exact .cons ⟨_, r1⟩ (ih fs m1.2 _ rs)
  refine PySem.W.sorted_data (R := fun u (b : V × D) => RelV b.1 u ∧ Fz X.K H b.1 b.2) (enc := fun b : V × D => b.2) pl h1 er ?_ ?_ (by rw [h3]; exact hz') ?_ fun out ho eo => ?_
  · rw [h2]
    intro d hd d' hd'
    simp only [alkB, List.all_eq_true] at m2
    exact m2 d hd d' hd'
  · rw [h2]
    rcases m4 with m4 | m4
    · refine .inl fun d hd => ?_
      have := m4 d hd
      unfold tup1 at this
      split at this
      · exact ⟨_, _, rfl⟩
      · cases this
    · refine .inr fun d hd => ?_
      have := m4 d hd
      unfold noTN at this
      split at this
      · cases this
      · cases this
      · rename_i n1 n2
        exact ⟨n1, n2⟩
  · intro b hb
    have : b.2 ∈ xs := by rw [← h2]; exact List.mem_map_of_mem hb
    have := depth_mem this
    omega
  · obtain ⟨ep, he'⟩ := PyProof.Rows.sortedAll_at s.heap its out.toArray
    obtain ⟨o1, o2⟩ := of_each eo
    have e2 : ((vs.zip xs).mergeSort (PySem.W.dataLe false fun b : V × D => b.2)).map (·.2) = sortD xs := by
      refine (PySem.W.sort_maps (s := fun a b : D => !PySem.W.dataLt b a) (fun b : V × D => b.2) (fun _ _ _ _ => rfl)).trans ?_
      rw [h2]
      rfl
    rw [e2] at o2
    have hlen := o2.length
    have hl2 : (sortD xs).length = xs.length := List.length_mergeSort _
    have I2 := I.laid (a := s.heap.objs.size + 1) (o := .lst _) (t' := s.toks) (fun _ _ => PyProof.Rows.sortedAll_old) (Nat.le_succ _) ⟨by rw [hlen, hl2]; exact hz', out, ep, o1, he'⟩
    have np : H (s.heap.objs.size + 1) = none := I.hok.fresh (Nat.le_succ _)
    refine ep_lock ⟨.ref _, _, I2, rfl, _, _, rfl, upd_same, trivial, fun o => ?_⟩
    obtain ⟨z1, z2⟩ := fz_new (o := o) np o2
    exact q _ _ z1 z2
theorem c_sorted (hu : X.A.units + 64 < cLine) : CallR X (.builtin "sorted") (rOA X.K sortedD) := by
  intro pins s σ H xs us Q I r ⟨ds, fa, c, e, q⟩
  unfold sortedD at e
  split at e
  · rw [Option.map_eq_some_iff] at e
    obtain ⟨ys, e, rfl⟩ := e
    unfold sorted1 at e
    split at e
    · split at e
      · rename_i hm
        cases e
        cases fa with | cons f fa => cases fa; cases f with | lst h a =>
          obtain ⟨its, rv, pl, hz⟩ := I.list h.sq
          rw [ref1 r]
          exact sorted_list hu I pl.isList rv a hm hz q
      · cases e
    · cases e
  · cases e
end
end PP

namespace PP
open PySem PySem.Spec L2
open PyProof.Rows hiding St
section
variable {X : Cx} {W : WX} {pins : List (Addr × Obj)} {σ : St} {H : Hp} {s : Shared} {Q : VK} {e a b : Expr} {es : List Expr} {pos p : Pos} {ma mb : M D}
/-! ### name op= e -/
def sAug (i : Nat) (f : D → D → Option D) (m : M D) : M Fl := fun g => match g[i]? with
  | some (some (.d x)) => (match m g with
    | .ok y g1 => (match f x y with
      | some z => if freeAt g1 i = true then .ok .nx (g1.set i (some (.d z))) else .stuck
      | none => .stuck)
    | .exc c g1 => .exc c g1
    | .stuck => .stuck)
  | _ => .stuck
theorem r_aug {i : Nat} {x : Str} {m : M D} {op : Operator} {f : D → D → Option D} {pos' : Pos} (ho : OpR X (inplaceOp op) (rO2 X.K f)) (hN : X.N.Nodup) (he : RE X W e m) (hi : X.N[i]? = some x := by rfl) (hx : Loc X.env.scope x := by first | exact Or.inl rfl | exact Or.inr rfl)
    (hf : X.fn x = true ∨ X.env.scope.names.lookup x = some .local := by first | exact .inl rfl | exact .inr rfl) : RS X W (.AugAssign (.Name x pos') op e pos) (sAug i f m) :=
  PS.imp (ps_aug hN hi hx he (fun pins s σ H x y v u Q I rx ry q => ho pins s σ H x y v u Q I rx ry q) hf) fun D σ H h => by
    obtain ⟨g, R, s, n, h⟩ := h
    unfold sAug at h
    cases eg : g[i]? with
    | none => rw [eg] at h; exact h.elim
    | some o =>
      cases o with
      | none => rw [eg] at h; exact h.elim
      | some t =>
        cases t with
        | ml b xs => rw [eg] at h; exact h.elim
        | md _ _ _ => rw [eg] at h; exact h.elim
        | d x =>
          rw [eg] at h
          obtain ⟨v, rt, h1, h2, h3⟩ := s.get eg
          cases h2 with
          | d fx =>
            refine ⟨v, h1, g, R, s, n, ?_⟩
            dsimp only at h
            cases em : m g with
            | stuck => rw [em] at h; exact h
            | exc c g1 => rw [em] at h; exact fun H' go => h σ H' go.s
            | ok y g1 =>
              rw [em] at h
              dsimp only at h
              intro u H1 go fy
              have pe : Pers H H1 := by
                obtain ⟨_, R1, s1, n1, e1, w1⟩ := go
                exact e1.pers s.live
              obtain ⟨bk, R1, s1, n1, e1, w1⟩ := go
              cases ef : f x y with
              | none => rw [ef] at h; exact h.elim
              | some z =>
                rw [ef] at h
                dsimp only at h
                by_cases hfr : freeAt g1 i = true
                · rw [if_pos hfr] at h
                  refine ⟨x, y, fx.pers pe, fy, z, ef, fun w H2 sm fz => ?_⟩
                  obtain ⟨R2, s2, n2, w2⟩ := (s1.same sm).set (.d fz) i (by simpa using n1)
                  exact h _ H2 ⟨bk.trans (borK_set hfr), (Kp.refl g σ).trans bk (kp_set hfr), R2, s2, n2, e1.trans w1 (.of_same sm), fun a ha => w1 a (by simpa using w2 a ha)⟩
                · rw [if_neg hfr] at h
                  exact h.elim
def iopI (op : Int → Int → Int) : D → D → Option D
  | .int i, .int j => some (.int (op i j))
  | _, _ => none
theorem io_add : OpR X (inplaceOp .Add) (rO2 X.K (iopI (· + ·))) := by
  intro pins s σ H x y v u Q I rx ry ⟨dx, dy, fx, fy, c, e, q⟩
  cases fx with
  | int i =>
    cases fy with
    | int j => cases e; exact iop_add pins s σ H _ _ v u Q I rx ry ⟨i, j, rfl, rfl, q _ _ (Same.refl _) (.int _)⟩
    | _ => cases e
  | _ => cases e
theorem io_sub : OpR X (inplaceOp .Sub) (rO2 X.K (iopI (· - ·))) := by
  intro pins s σ H x y v u Q I rx ry ⟨dx, dy, fx, fy, c, e, q⟩
  cases fx with
  | int i =>
    cases fy with
    | int j => cases e; exact iop_sub pins s σ H _ _ v u Q I rx ry ⟨i, j, rfl, rfl, q _ _ (Same.refl _) (.int _)⟩
    | _ => cases e
  | _ => cases e
def imulD : D → D → Option D
  | .int i, .int j => if mulOk i j = true then some (.int (i * j)) else none
  | _, _ => none
theorem io_mul : OpR X (inplaceOp .Mult) (rO2 X.K imulD) := by
  intro pins s σ H x y v u Q I rx ry ⟨dx, dy, fx, fy, c, e, q⟩
  cases fx with
  | int i =>
    cases fy with
    | int j =>
      simp only [imulD] at e
      split at e
      · rename_i hm
        cases e
        refine iop_mul pins s σ H _ _ v u Q I rx ry ⟨i, j, rfl, rfl, ?_, q _ _ (Same.refl _) (.int _)⟩
        simp only [mulOk, Bool.or_eq_true, Bool.and_eq_true, decide_eq_true_eq] at hm
        exact hm
      · cases e
    | _ => cases e
  | _ => cases e

/-! ### several values at once, new lists among them -/
inductive TReps (K : PySem.W.Frag) (H : Hp) : List V → List Tv → List Addr → Prop
  | nil : TReps K H [] [] []
  | cons {v : V} {t : Tv} {rt : List Addr} {vs : List V} {ts : List Tv} {R : List Addr} : TRep K H v t rt → TReps K H vs ts R → TReps K H (v :: vs) (t :: ts) (rt ++ R)
def GoM (K : PySem.W.Frag) (σ : St) (R : List Addr) (H : Hp) (g g' : Ga) (vs : List V) (ts : List Tv) (H' : Hp) : Prop :=
  BorK g g' ∧ ∃ Rt R', TReps K H' vs ts Rt ∧ SRep K H' σ g' R' ∧ (Rt ++ R').Nodup ∧ Ext R H H' ∧ New R H (Rt ++ R')
def tM (K : PySem.W.Frag) (W : WX) (m : M (List Tv)) : TA := fun σ H Q => ∃ g R, SRep K H σ g R ∧ R.Nodup ∧ match m g with
  | .ok ts g' => ∀ vs H', GoM K σ R H g g' vs ts H' → Q vs H'
  | .exc c g' => ∀ H', Go K σ R H g g' H' → W (.ref (He.ga K c)) none σ H'
  | .stuck => False
def RM (X : Cx) (W : WX) (es : List Expr) (m : M (List Tv)) : Prop := PA X es (tM X.K W m)
theorem m_nil : RM X W [] (fun g => .ok [] g) := PA.imp pa_nil fun σ H Q h => by
  obtain ⟨g, R, s, n, h⟩ := h
  exact h [] H ⟨BorK.refl g, [], R, .nil, s, by simpa using n, Ext.refl R H, by simpa using New.refl R H⟩
def mConsD (a : M D) (b : M (List Tv)) : M (List Tv) := bnd a fun x => bnd b fun xs g => .ok (.d x :: xs) g
def mConsL (a : M (List D)) (b : M (List Tv)) : M (List Tv) := bnd a fun x => bnd b fun xs g => .ok (.ml false x :: xs) g
theorem m_consD {es : List Expr} {m : M (List Tv)} (ha : RE X W a ma) (hr : RM X W es m) (hs : starEach (a :: es) X.env = (false, eval a X.env) :: starEach es X.env := by rfl) : RM X W (a :: es) (mConsD ma m) :=
  PA.imp (pa_cons ha hr hs) fun σ H Q h => by
    obtain ⟨g, R, s, n, h⟩ := h
    refine ⟨g, R, s, n, ?_⟩
    unfold mConsD bnd at h
    cases e1 : ma g with
    | stuck => rw [e1] at h; exact h
    | exc c g' => rw [e1] at h; exact h
    | ok x g1 =>
      rw [e1] at h
      dsimp only at h
      intro v H1 go fx
      obtain ⟨bk1, R1, s1, n1, x1, w1⟩ := go
      refine ⟨g1, R1, s1, n1, ?_⟩
      cases e2 : m g1 with
      | stuck => rw [e2] at h; exact h
      | exc c g' =>
        rw [e2] at h
        exact fun H' go => h H' (go.then bk1 x1 w1)
      | ok xs g2 =>
        rw [e2] at h
        dsimp only at h
        intro vs H2 go
        obtain ⟨bk2, Rt, R2, t2, s2, n2, x2, w2⟩ := go
        exact h (v :: vs) H2 ⟨bk1.trans bk2, Rt, R2, .cons (rt := []) (.d (fx.pers (x2.pers s1.live))) t2, s2, n2, x1.trans w1 x2, New.trans x1 w1 w2⟩
theorem m_consL {es : List Expr} {ma : M (List D)} {m : M (List Tv)} (ha : RL X W a ma) (hr : RM X W es m) (hs : starEach (a :: es) X.env = (false, eval a X.env) :: starEach es X.env := by rfl) : RM X W (a :: es) (mConsL ma m) :=
  PA.imp (pa_cons ha hr hs) fun σ H Q h => by
    obtain ⟨g, R, s, n, h⟩ := h
    refine ⟨g, R, s, n, ?_⟩
    unfold mConsL bnd at h
    cases e1 : ma g with
    | stuck => rw [e1] at h; exact h
    | exc c g' => rw [e1] at h; exact h
    | ok x g1 =>
      rw [e1] at h
      dsimp only at h
      intro p ws H1 go
      obtain ⟨bk1, hp, fx, R1, s1, n1, x1, w1⟩ := go
      obtain ⟨np, n1'⟩ := List.nodup_cons.mp n1
      have w1' : New R H R1 := w1.sub fun a ha => List.mem_cons_of_mem _ ha
      refine ⟨g1, R1, s1, n1', ?_⟩
      cases e2 : m g1 with
      | stuck => rw [e2] at h; exact h
      | exc c g' =>
        rw [e2] at h
        exact fun H' go => h H' (go.then bk1 x1 w1')
      | ok xs g2 =>
        rw [e2] at h
        dsimp only at h
        intro vs H2 go
        obtain ⟨bk2, Rt, R2, t2, s2, n2, x2, w2⟩ := go
        have hp2 : H2 p = some (.lst ws) := x2 p _ hp np
        have npp : p ∉ Rt ++ R2 := fun z => by
          rcases w2 p z with q | q
          · exact np q
          · rw [hp] at q; cases q
        refine h (.ref p :: vs) H2 ⟨bk1.trans bk2, [p] ++ Rt, R2, .cons (.ml hp2 (fx.pers (x2.pers s1.live))) t2, s2, ?_, x1.trans w1' x2, ?_⟩
        · rw [List.append_assoc, List.singleton_append]
          exact List.nodup_cons.mpr ⟨npp, n2⟩
        · intro c hc
          rw [List.append_assoc, List.singleton_append] at hc
          rcases List.mem_cons.mp hc with rfl | hc
          · exact w1 _ List.mem_cons_self
          · exact New.trans x1 w1' w2 c hc
/-- stored one after the other -/
def setAll : List Nat → List Tv → Ga → Option Ga
  | [], [], g => some g
  | i :: is, t :: ts, g => if freeAt g i = true then setAll is ts (g.set i (some t)) else none
  | _, _, _ => none
def sPar (is : List Nat) (m : M (List Tv)) : M Fl := bnd m fun ts g => match setAll is ts g with
  | some g' => .ok .nx g'
  | none => .stuck
def setVs : List Nat → List V → St → St
  | i :: is, v :: vs, σ => setVs is vs (σ.set i (some v))
  | _, _, σ => σ
theorem setAll_rep {K : PySem.W.Frag} {H : Hp} : ∀ {is : List Nat} {vs : List V} {ts : List Tv} {Rt R : List Addr} {σ : St} {g g' : Ga}, TReps K H vs ts Rt → SRep K H σ g R → (Rt ++ R).Nodup → setAll is ts g = some g' →
    BorK g g' ∧ Kp g σ (setVs is vs σ) ∧ vs.length = is.length ∧ ∃ R', SRep K H (setVs is vs σ) g' R' ∧ R'.Nodup ∧ ∀ a ∈ R', a ∈ Rt ++ R
  | [], _, _, _, R, σ, g, g', .nil, s, n, e => by
    cases e
    exact ⟨BorK.refl _, Kp.refl _ _, rfl, R, s, by simpa using n, fun a h => by simpa using h⟩
  | i :: is, _, _, _, R, σ, g, g', .cons (rt := rt) (R := Rt) t ts, s, n, e => by
    unfold setAll at e
    split at e
    · rename_i hfr
      rw [List.append_assoc] at n
      have n0 : (Rt ++ R).Nodup := (List.nodup_append.mp n).2.1
      have n1 : (rt ++ R).Nodup := n.sublist (List.Sublist.append_left (List.sublist_append_right _ _) _)
      obtain ⟨R1, s1, m1, w1⟩ := s.set t i n1
      have n2 : (Rt ++ R1).Nodup := by
        rw [List.nodup_append]
        refine ⟨(List.nodup_append.mp n0).1, m1, fun a ha b hb hab => ?_⟩
        subst hab
        rcases List.mem_append.mp (w1 a hb) with z | z
        · exact (List.nodup_append.mp n).2.2 a z a (List.mem_append_left _ ha) rfl
        · exact (List.nodup_append.mp n0).2.2 a ha a z rfl
      obtain ⟨b2, k2, l2, R2, s2, m2, w2⟩ := setAll_rep ts s1 n2 e
      refine ⟨(borK_set hfr).trans b2, (kp_set hfr).trans (borK_set hfr) k2, by rw [List.length_cons, List.length_cons, l2], R2, s2, m2, fun a ha => ?_⟩
      rcases List.mem_append.mp (w2 a ha) with z | z
      · exact List.mem_append_left _ (List.mem_append_right _ z)
      · rcases List.mem_append.mp (w1 a z) with z | z
        · exact List.mem_append_left _ (List.mem_append_left _ z)
        · exact List.mem_append_right _ z
    · cases e
  | [], _, _, _, _, _, _, _, .cons _ _, _, _, e => by cases e
  | _ :: _, _, _, _, _, _, _, _, .nil, _, _, e => by cases e
theorem par_of {is : List Nat} {m : M (List Tv)} {D : Ends} {σ : St} {H : Hp} (h : tS X.K W (sPar is m) D σ H) : tM X.K W m σ H fun vs H1 => vs.length = is.length ∧ D.nx (setVs is vs σ) H1 := by
  obtain ⟨g, R, s, n, h⟩ := h
  refine ⟨g, R, s, n, ?_⟩
  unfold sPar bnd at h
  cases e1 : m g with
  | stuck => rw [e1] at h; exact h
  | exc c g' => rw [e1] at h; exact fun H' go => h σ H' go.s
  | ok ts g1 =>
    rw [e1] at h
    dsimp only at h
    intro vs H1 go
    obtain ⟨bk1, Rt, R1, t1, s1, n1, x1, w1⟩ := go
    cases es : setAll is ts g1 with
    | none => rw [es] at h; exact h.elim
    | some g' =>
      rw [es] at h
      obtain ⟨b2, k2, l2, R2, s2, n2, w2⟩ := setAll_rep t1 s1 n1 es
      exact ⟨l2, h _ H1 ⟨bk1.trans b2, (Kp.refl g σ).trans bk1 k2, R2, s2, n2, x1, w1.sub w2⟩⟩
theorem tM_mono {m : M (List Tv)} {σ : St} {H : Hp} {Q Q' : List V → Hp → Prop} (h : tM X.K W m σ H Q) (k : ∀ vs H', Q vs H' → Q' vs H') : tM X.K W m σ H Q' := by
  obtain ⟨g, R, s, n, h⟩ := h
  refine ⟨g, R, s, n, ?_⟩
  cases e1 : m g with
  | stuck => rw [e1] at h; exact h
  | exc c g' => rw [e1] at h; exact h
  | ok ts g1 => rw [e1] at h; exact fun vs H' go => k vs H' (h vs H' go)
theorem r_par2 {i j : Nat} {x y : Str} {m : M (List Tv)} {px py pt : Pos} {kt k2 pt2} (hc : X.calm = true) (hN : X.N.Nodup) (ha : RM X W [a, b] m) (hij : i ≠ j := by decide) (hi : X.N[i]? = some x := by rfl) (hj : X.N[j]? = some y := by rfl)
    (hx : X.env.scope.names.lookup x = some .local := by rfl) (hy : X.env.scope.names.lookup y = some .local := by rfl)
    (hw : swappedStores [.Tuple [.Name x px, .Name y py] kt pt] (.Tuple [a, b] k2 pt2) X.env = pure (some [x, y]) := by rfl)
    (hs : swapsWithSole [.Tuple [.Name x px, .Name y py] kt pt] (.Tuple [a, b] k2 pt2) pos.line X.env = pure false := by rfl) : RS X W (.Assign [.Tuple [.Name x px, .Name y py] kt pt] (.Tuple [a, b] k2 pt2) pos) (sPar [i, j] m) :=
  PS.imp (ps_par hc hN hi hj hij hx hy ha hw hs) fun D σ H h => tM_mono (par_of h) fun vs H1 ⟨l, q⟩ => by
    match vs, l with
    | [v, w], _ => exact ⟨v, w, rfl, q⟩
theorem r_par3 {i j l : Nat} {x y z : Str} {c : Expr} {m : M (List Tv)} {px py pz pt : Pos} {kt k2 pt2} (hc : X.calm = true) (hN : X.N.Nodup) (ha : RM X W [a, b, c] m) (hij : i ≠ j := by decide) (hil : i ≠ l := by decide) (hjl : j ≠ l := by decide) (hi : X.N[i]? = some x := by rfl) (hj : X.N[j]? = some y := by rfl) (hl : X.N[l]? = some z := by rfl)
    (hx : X.env.scope.names.lookup x = some .local := by rfl) (hy : X.env.scope.names.lookup y = some .local := by rfl) (hz : X.env.scope.names.lookup z = some .local := by rfl)
    (hw : swappedStores [.Tuple [.Name x px, .Name y py, .Name z pz] kt pt] (.Tuple [a, b, c] k2 pt2) X.env = pure (some [x, y, z]) := by rfl)
    (hs : swapsWithSole [.Tuple [.Name x px, .Name y py, .Name z pz] kt pt] (.Tuple [a, b, c] k2 pt2) pos.line X.env = pure false := by rfl) : RS X W (.Assign [.Tuple [.Name x px, .Name y py, .Name z pz] kt pt] (.Tuple [a, b, c] k2 pt2) pos) (sPar [i, j, l] m) :=
  PS.imp (ps_par3 hc hN hi hj hl hij hil hjl hx hy hz ha hw hs) fun D σ H h => tM_mono (par_of h) fun vs H1 ⟨l, q⟩ => by
    match vs, l with
    | [v, w, u], _ => exact ⟨v, w, u, rfl, q⟩

/-! ### raise X() -/
structure ExcOk (X : Cx) (x : Str) : Prop where
  mg : X.mg x = some (.ref (He.ga X.K x))
  kp : PySem.W.keepIn X.K (.ref (He.ga X.K x)) = true
  rs : Raises X (.ref (He.ga X.K x))
  ex : ∃ bmB B newId initId, ExcBaseFacts B newId initId bmB ∧ PySem.W.excIn X.K (He.ga X.K x) bmB newId = true
theorem pmk_own0 {C : Addr} {bmB : List Value} {B newId initId : String} {x : Str} {p : Pos} (F : ExcBaseFacts B newId initId bmB) (q : PySem.W.excIn X.K C bmB newId = true) (gC : X.mg x = some (.ref C))
    (kC : PySem.W.keepIn X.K (.ref C) = true) (r : Raises X (.ref C)) (hg : Gl X x) (hdb : (x == ("__debug__" : Str)) = false := by decide) :
    PMk X (.Call (.Name x p) [] [] pos) (fun σ H Q => Q (.ref C) none H) := by
  intro pins s σ H Q I h
  refine wpAny_Call_Name_kw (ld_glob I hg gC ?_ hdb)
  refine PySem.W.callWith_K0 I.kIn kC ?_
  show wpAny _ _ (call (.ref C) []) _ _ _
  obtain ⟨bm, N, nm, qn, bs, hdct, sn, sub, ab, col, dd, k0, k1, k2, k3, k5, mN, hC, hN, hni, T⟩ := exc_obj I.kIn q
  refine wpAny_call_exc_subT F T hC hN hni (fun h' e hm => ?_) (by show 0 ≤ sizeLine; omega)
  exact mk_of I hm r h (I.hok.gone hm.new)
def sRaise (x : Str) : M Fl := fun g => .exc x g
theorem r_raise {x : Str} {p p2 : Pos} (hc : X.calm = true) (tk : Takes X W) (h : ExcOk X x) (hg : Gl X x := by rfl) (hdb : (x == ("__debug__" : Str)) = false := by decide) : RS X W (.Raise (some (.Call (.Name x p) [] [] p2)) none pos) (sRaise x) := by
  obtain ⟨h1, h2, h3, bmB, B, ni, ii, h4, h5⟩ := h
  exact PS.imp (ps_raise hc tk (pmk_own0 h4 h5 h1 h2 h3 hg hdb)) fun D σ H h => by
    obtain ⟨g, R, s, n, h⟩ := h
    exact h σ H (Go.refl s n).s

/-! ### try: .. except X: return 'text' .. -/
/-- the clauses: the class's name, which exceptions it takes, the text -/
abbrev Hd := Str × List (Str × Bool) × Str
def hRun (c : Str) (g : Ga) : List Hd → Rs Fl
  | [] => .exc c g
  | (_, tb, z) :: r => match tb.lookup c with
    | some true => .ok (.ret (.str z)) g
    | some false => hRun c g r
    | none => .stuck
def sTry (hs : List Hd) (m : M Fl) : M Fl := fun g => match m g with
  | .exc c g1 => hRun c g1 hs
  | r => r
def tRetS (z : Str) : Addr → Value → Option Addr → TS := fun _ _ _ D _ H => D.rt (.str z) H
inductive HdsR (X : Cx) : List ExceptHandler → List Hd → Prop
  | nil : HdsR X [] []
  | cons {x z : Str} {tb : List (Str × Bool)} {hds : List ExceptHandler} {l : List Hd} {np pos' p1 p2 : Pos} {k : Nat} (hm : X.mg x = some (.ref (He.ga X.K x))) (ht : ∀ q ∈ tb, PySem.W.exmOne X.K (.ref (He.ga X.K q.1)) (.ref (He.ga X.K x)) = some q.2) (r : HdsR X hds l) (hg : Gl X x := by rfl) (hdb : (x == ("__debug__" : Str)) = false := by decide) :
      HdsR X (.ExceptHandler (some (.Name x np)) none [.Return (some (.Constant (.str z) k p1)) p2] pos' :: hds) ((x, tb, z) :: l)
def hdT (K : PySem.W.Frag) (l : List Hd) : List (Value × (Addr → Value → Option Addr → TS)) := l.map fun h => (.ref (He.ga K h.1), tRetS h.2.2)
theorem HdsR.ok : ∀ {hds : List ExceptHandler} {l : List Hd}, HdsR X hds l → HdsOk X hds (hdT X.K l)
  | _, _, .nil => .nil
  | _, _, .cons hm ht r hg hdb => .cons ⟨hg, hdb, .inl hm⟩ (fun a oe cls d pn _ _ => pss_one (ps_ret pe_str)) (HdsR.ok r)
theorem HdsR.many {Wout : WX} {D : Ends} {c : Str} {g : Ga} {σ : St} {H : Hp} {R : List Addr} {K' : PySem.W.Frag} (s : SRep X.K H σ g R) (n : R.Nodup) : ∀ {hds : List ExceptHandler} {l : List Hd}, HdsR X hds l →
    (match hRun c g l with
      | .ok f g' => ∀ σ' H', GoS X.K g σ R H g' σ' H' → f.end X.K D σ' H'
      | .exc c g' => ∀ σ' H', GoS X.K g σ R H g' σ' H' → Wout (.ref (He.ga X.K c)) none σ' H'
      | .stuck => False) → wMany X.K Wout D (hdT X.K l) (.ref (He.ga X.K c)) none σ H
  | _, _, .nil, h => h σ H (Go.refl s n).s
  | _, _, .cons (x := x) (z := z) (tb := tb) (l := l) hm ht r hg hdb, h => by
    unfold hRun at h
    cases e : tb.lookup c with
    | none => rw [e] at h; exact h.elim
    | some b =>
      rw [e] at h
      have hmem : (c, b) ∈ tb := by
        clear ht h
        induction tb with
        | nil => cases e
        | cons p ps ih =>
          rw [List.lookup_cons] at e
          split at e
          · rename_i h
            cases e
            rw [beq_iff_eq] at h
            rw [h]
            exact List.mem_cons_self
          · exact List.mem_cons_of_mem _ (ih e)
      refine ⟨b, ht _ hmem, fun hb a na => ?_, fun hb => ?_⟩
      · subst hb
        exact h σ H (Go.refl s n).s _ (.str z)
      · subst hb
        exact HdsR.many (K' := K') s n r h
theorem r_try {body : List Stmt} {h₀ : ExceptHandler} {hds : List ExceptHandler} {l : List Hd} {m : M Fl} (hst : X.stack = X.env :: X.outer) (hf : X.env.frame = some X.env.locals) (tk : Takes X W)
    (hb : ∀ (W : WX) (pn : List (Addr × Obj)) (xe : Value → Shared → Prop), Takes (X.tr pn xe) W → PassesOwn (model X.prog X.w) X.A X.env xe → RSs (X.tr pn xe) W body m) (hh : HdsR X (h₀ :: hds) l) : RS X W (.Try body (h₀ :: hds) [] [] pos) (sTry l m) :=
  PS.imp (ps_try_many (tb := fun W => tS X.K W m) hst hf tk hb hh.ok) fun D σ H h => by
    obtain ⟨g, R, s, n, h⟩ := h
    refine ⟨g, R, s, n, ?_⟩
    unfold sTry at h
    cases e : m g with
    | stuck => rw [e] at h; exact h
    | ok f g' => rw [e] at h; exact h
    | exc c g1 =>
      rw [e] at h
      dsimp only at h
      intro σ1 H1 go
      obtain ⟨b1, k1, R1, s1, n1, x1, w1⟩ := go
      refine HdsR.many (K' := X.K) s1 n1 hh ?_
      cases e2 : hRun c g1 l with
      | stuck => rw [e2] at h; exact h
      | exc c' g' => rw [e2] at h; exact fun σ' H' go => h σ' H' (go.then b1 k1 x1 w1)
      | ok f g' => rw [e2] at h; exact fun σ' H' go => h σ' H' (go.then b1 k1 x1 w1)

/-! ### is None -/
def isD : D → D → Option D
  | x, .none => some (.bool (isNo x))
  | .bool a, .bool b => some (.bool (a == b))
  | .none, .bool _ => some (.bool false)
  | _, _ => none
end
end PP

namespace PP
open PySem PySem.Spec L2
open PyProof.Rows hiding St
section
variable {X : Cx} {W : WX} {pins : List (Addr × Obj)} {σ : St} {H : Hp} {s : Shared} {Q : VK} {e a b : Expr} {es : List Expr} {pos p : Pos} {ma mb : M D}
/-! ### dict(pairs) -/
def pairD : D → Option (Key × D)
  | .tuple [k, v] => (keyD k).map fun kk => (kk, v)
  | _ => none
def pairsD : List D → Option (List (Key × D))
  | [] => some []
  | x :: xs => match pairD x, pairsD xs with
    | some p, some ps => some (p :: ps)
    | _, _ => none
def putA {α : Type} (kvs : List (Key × α)) (k : Key) (v : α) : List (Key × α) :=
  if (kvs.any fun kv => decide (kv.1 = k)) = true then kvs.map (fun kv => if kv.1 = k then (kv.1, v) else kv) else kvs ++ [(k, v)]
def mergeA {α : Type} (kvs more : List (Key × α)) : List (Key × α) := more.foldl (fun acc kv => putA acc kv.1 kv.2) kvs
def toDict (kvs : List (Key × D)) : D := .dict (kvs.map fun p => (kD p.1, p.2))
inductive KR (K : PySem.W.Frag) (H : Hp) : List (Key × V) → List (Key × D) → Prop
  | nil : KR K H [] []
  | cons {k : Key} {v : V} {d : D} {vs : List (Key × V)} {ds : List (Key × D)} : Fz K H v d → KR K H vs ds → KR K H ((k, v) :: vs) ((k, d) :: ds)
theorem KR.pers {K : PySem.W.Frag} {H H' : Hp} {vs : List (Key × V)} {ds : List (Key × D)} (h : KR K H vs ds) (p : Pers H H') : KR K H' vs ds := by
  induction h with
  | nil => exact .nil
  | cons f _ ih => exact .cons (f.pers p) ih
theorem KR.append {K : PySem.W.Frag} {vs ws : List (Key × V)} {ds es : List (Key × D)} (h : KR K H vs ds) (h2 : KR K H ws es) : KR K H (vs ++ ws) (ds ++ es) := by
  induction h with
  | nil => exact h2
  | cons f _ ih => exact .cons f ih
theorem KR.any {K : PySem.W.Frag} {k : Key} {vs : List (Key × V)} {ds : List (Key × D)} (h : KR K H vs ds) : (vs.any fun kv => decide (kv.1 = k)) = ds.any fun kv => decide (kv.1 = k) := by
  induction h with
  | nil => rfl
  | cons f _ ih => rw [List.any_cons, List.any_cons, ih]
theorem KR.put {K : PySem.W.Frag} {k : Key} {v : V} {d : D} {vs : List (Key × V)} {ds : List (Key × D)} (h : KR K H vs ds) (f : Fz K H v d) : KR K H (putK vs k v) (putA ds k d) := by
  unfold putK putA
  rw [h.any]
  split
  · rename_i hh
    clear hh
    induction h with
    | nil => exact .nil
    | @cons k1 v1 d1 vs ds f1 _ ih =>
      rw [List.map_cons, List.map_cons]
      by_cases hk : k1 = k
      · rw [if_pos hk, if_pos hk]
        exact .cons f ih
      · rw [if_neg hk, if_neg hk]
        exact .cons f1 ih
  · exact h.append (.cons f .nil)
theorem KR.merge {K : PySem.W.Frag} {ws : List (Key × V)} {es : List (Key × D)} (h2 : KR K H ws es) : ∀ {vs : List (Key × V)} {ds : List (Key × D)}, KR K H vs ds → KR K H (mergeK vs ws) (mergeA ds es) := by
  induction h2 with
  | nil => exact fun h => h
  | cons f _ ih => exact fun h => ih (h.put f)
theorem KR.fz {K : PySem.W.Frag} {a : Addr} {o : Obj} {vs : List (Key × V)} {ds : List (Key × D)} (h : KR K H vs ds) (e : H a = some (.frz o (.dK vs))) : Fz K H (.ref a) (toDict ds) := by
  have h1 : FzAll K H (vs.map (·.2)) (ds.map (·.2)) := by
    clear e
    induction h with
    | nil => exact .nil
    | cons f _ ih => exact .cons f ih
  have h2 : (vs.map fun p => kD p.1).zip (ds.map (·.2)) = ds.map fun p => (kD p.1, p.2) := by
    clear e h1
    induction h with
    | nil => rfl
    | cons f _ ih => rw [List.map_cons, List.map_cons, List.zip_cons_cons, ih, List.map_cons]
  have := Fz.dK (K := K) e h1
  rw [h2] at this
  exact this
/-- the pairs, as the heap has them -/
theorem pairs_fz (I : Inv X pins σ H s) : ∀ {vs : List V} {ds : List D} {ks : List (Key × D)}, FzAll X.K H vs ds → pairsD ds = some ks →
    ∃ (ts : List Addr) (kvs : List (Key × V)) (prs : List (Key × Value)) (ps : List (Value × Value)), vs = ts.map V.ref ∧ KR X.K H kvs ks ∧ KV kvs prs ∧ prs.length = ts.length ∧ ps.length = ts.length ∧
      ∀ (j : Nat) (k v : Value), ps[j]? = some (k, v) → ∃ (b : Addr) (kk : Key), ts[j]? = some b ∧ PySem.PairAt s.heap b k v ∧ prs[j]? = some (kk, v) ∧ (mixKind X.prog X.w).is kk k = true
  | _, _, ks, .nil, e => by
    cases e
    exact ⟨[], [], [], [], rfl, .nil, .nil, rfl, rfl, fun j k v q => by simp at q⟩
  | _, _, ks, .cons (d := d) (ds := ds) f fa, e => by
    unfold pairsD at e
    split at e
    · rename_i p ps e1 e2
      cases e
      obtain ⟨ts, kvs, prs, pvs, rfl, h2, h3, h4, h5, h6⟩ := pairs_fz I fa e2
      unfold pairD at e1
      split at e1
      · rw [Option.map_eq_some_iff] at e1
        obtain ⟨kk, ek, rfl⟩ := e1
        cases f with
        | tup h a =>
          cases a with | cons fk a => cases a with | cons fv a =>
            cases a
            have := kV_of fk ek
            subst this
            obtain ⟨its, rv, ht, _⟩ := I.tuple h.sq
            obtain ⟨u, y, ei, ru, ry⟩ := vals2 rv
            subst ei
            refine ⟨_ :: ts, (kk, _) :: kvs, (kk, y) :: prs, (u, y) :: pvs, rfl, .cons fv h2, .cons ⟨rfl, ry⟩ h3, by rw [List.length_cons, List.length_cons, h4], by rw [List.length_cons, List.length_cons, h5], fun j k v q => ?_⟩
            cases j with
            | zero =>
              have q' : (u, y) = (k, v) := Option.some.inj q
              cases q'
              exact ⟨_, kk, rfl, .inl ht, rfl, kV_is ru⟩
            | succ j =>
              obtain ⟨b, k2, q1, q2, q3, q4⟩ := h6 j k v (by simpa using q)
              exact ⟨b, k2, by simpa using q1, q2, by simpa using q3, q4⟩
      · cases e1
    · cases e
def dictD : List D → Option D
  | [.list xs] => (pairsD xs).map fun ks => toDict (mergeA [] ks)
  | [.tuple (x :: xs)] => (pairsD (x :: xs)).map fun ks => toDict (mergeA [] ks)
  | _ => none
theorem dict_fin {T : String} {l : Addr} {items : List Value} {vs : List V} {ds : List D} {ks : List (Key × D)} {n : Nat} {o : Obj} (hc : X.calm = true) (I : Inv X pins σ H s) (fa : FzAll X.K H vs ds) (ek : pairsD ds = some ks) (rv : Vals vs items) (hz : vs.length ≤ sizeLine)
    (ho : s.heap.get? l = some o) (hcl : o.cls = .type T) (hd : o.dict = none) (hdat : o.data = .seq items.toArray n) (hT : T = "list" ∨ T = "tuple")
    (q : ∀ b H', Same H H' → Fz X.K H' b (toDict (mergeA [] ks)) → Q b H') : wpAny (model X.prog X.w) X.A (call (.type "dict") [.ref l]) (EP X pins σ Q) X.xe s := by
  obtain ⟨ts, kvs, prs, ps, rfl, h2, h3, h4, h5, h6⟩ := pairs_fz I fa ek
  have ei := refs_at rv
  subst ei
  rw [List.length_map] at hz
  have items_ok : PySem.PairItems s.heap (ts.map Value.ref).toArray (fun j => ts.getD j 0) ps := by
    refine ⟨by simp [h5], fun j k v e => ?_⟩
    obtain ⟨b, kk, q1, q2, q3, q4⟩ := h6 j k v e
    have e1 : ts.getD j 0 = b := by rw [List.getD_eq_getElem?_getD, q1]; rfl
    exact ⟨by simp [q1, e1], by show PairAt s.heap (ts.getD j 0) k v; rw [e1]; exact q2⟩
  have have_ok : PySem.PairsHave (mixKind X.prog X.w) ps.length (PySem.PairRel ps) prs := by
    refine ⟨by rw [h4, h5], fun i key v e => ?_⟩
    obtain ⟨b, kk, q1, q2, q3, q4⟩ := h6 i key v e
    exact ⟨kk, q3, q4⟩
  have pl : PySem.PlainSeq T s.heap l (ts.map Value.ref).toArray := ⟨o, n, ho, hcl, hd, hdat⟩
  have fin : ∀ h' tk, h'.DictOf (mixKind X.prog X.w) s.heap.objs.size (merged [] prs) → (∀ b o, b ∉ ([] : List Addr) → s.heap.get? b = some o → h'.get? b = some o) → EP X pins σ Q (.ref s.heap.objs.size) { s with heap := h', toks := tk } := fun h' tk hd' k => by
    have hm : (s.heap.objs.size == sysModules) = false := beq_eq_false_iff_ne.mpr (Nat.ne_of_gt I.big)
    have hlen : (mergeK [] kvs).length ≤ sizeLine := by
      refine Nat.le_trans (length_mergeK kvs []) ?_
      rw [List.length_nil, Nat.zero_add, h3.length, h4]
      exact hz
    have np : H s.heap.objs.size = none := I.hok.fresh (Nat.le_refl _)
    have I2 := I.laid (a := s.heap.objs.size) (t' := tk) (fun b o => k b o (by simp)) (Nat.le_refl _) (show ObjOk X.prog X.w _ _ _ (.dK (mergeK [] kvs)) from ⟨hlen, hm, merged [] prs, KV.merge h3 .nil, hd'⟩)
    refine ep_lock ⟨.ref s.heap.objs.size, _, I2, rfl, _, _, rfl, upd_same, trivial, fun od => ?_⟩
    rw [upd_upd]
    have sm : Same H (L2.upd H s.heap.objs.size (.frz od (.dK (mergeK [] kvs)))) := Same.upd np
    exact q _ _ sm (KR.fz ((KR.merge h2 .nil).pers (.of_same sm)) upd_same)
  rcases hT with rfl | rfl
  · exact PySem.call_dict_pairs (PySem.PairArg.list l _ _ ps) (I.ok.hd hc) ⟨pl, items_ok⟩ have_ok (by rw [h5]; exact hz) fin
  · exact PySem.call_dict_pairs (PySem.PairArg.tuple l _ _ ps) (I.ok.hd hc) ⟨pl, items_ok⟩ have_ok (by rw [h5]; exact hz) fin
theorem c_dict (hc : X.calm = true) : CallR X (.type "dict") (rOA X.K dictD) := by
  intro pins s σ H xs us Q I r ⟨ds, fa, c, e, q⟩
  unfold dictD at e
  split at e
  · rw [Option.map_eq_some_iff] at e
    obtain ⟨ks, e, rfl⟩ := e
    cases fa with | cons f fa => cases fa; cases f with | lst h a =>
      rw [ref1 r]
      obtain ⟨its, rv, pl, hz⟩ := I.list h.sq
      obtain ⟨o, n, ho, hcl, hd, hdat⟩ := pl
      exact dict_fin hc I a e rv hz ho hcl hd hdat (.inl rfl) q
  · rw [Option.map_eq_some_iff] at e
    obtain ⟨ks, e, rfl⟩ := e
    cases fa with | cons f fa => cases fa; cases f with | tup h a =>
      rw [ref1 r]
      obtain ⟨its, rv, pl, hz⟩ := I.tuple h.sq
      have nk : ∀ {vs : List V} {x : D} {xs : List D}, FzAll X.K H vs (x :: xs) → pairsD (x :: xs) = some ks → vs.all vKey = false := fun {vs x xs} a e => by
        cases a with | cons f a =>
          unfold pairsD at e
          split at e
          · rename_i p ps e1 e2
            unfold pairD at e1
            split at e1
            · cases f
              rfl
            · cases e1
          · cases e
      obtain ⟨o, od, ho⟩ := h.exact (nk a e)
      obtain ⟨ho, _⟩ := I.hok _ _ ho
      obtain ⟨o2, ho2, hcl, n, hdat⟩ := pl
      rw [ho] at ho2
      cases ho2
      exact dict_fin hc I a e rv hz ho hcl od hdat (.inr rfl) q
  · cases e
end
end PP

namespace PP
open PySem PySem.Spec L2
open PyProof.Rows hiding St
theorem takesF {X : Cx} : Takes X WF := fun u s' ⟨a, B, sI, pins, σ, H, cls, d, e, I, nb, up, sky, na, os, ag, w⟩ => w.elim
def blkB (N : List Str) (sc scope : Scope) (own : List (Str × Nat)) : Bool :=
  (match scope.kind with | .function => true | _ => false) && (scope.names.all (fun y => decide (scope.names.lookup y.1 = some y.2)) && (own.all (fun p => decide (N[p.2]? = some p.1)) &&
  (scope.names.all (fun y => !decide (y.2 = .free) || (decide (sc.names.lookup y.1 = some .cell) || decide (sc.names.lookup y.1 = some .free))) &&
  scope.names.all (fun y => !(decide (y.2 = .local) || decide (y.2 = .cell)) || ((own.map (·.1)).contains y.1 || !N.contains y.1)))))
theorem blk_of {N : List Str} {sc scope : Scope} {own : List (Str × Nat)} (h : blkB N sc scope own = true) : BlkOk N sc scope own := by
  simp only [blkB, Bool.and_eq_true, List.all_eq_true, decide_eq_true_eq, Bool.or_eq_true, Bool.not_eq_true', decide_eq_false_iff_not] at h
  obtain ⟨h1, h2, h3, h4, h5⟩ := h
  refine ⟨?_, h2, h3, fun y hy e => ?_, fun y hy e => ?_⟩
  · split at h1
    · assumption
    · cases h1
  · rcases h4 y hy with q | q
    · exact absurd e q
    · exact q
  · rcases h5 y hy with q | q
    · simp only [Bool.or_eq_false_iff, decide_eq_false_iff_not] at q
      rcases e with e | e
      · exact absurd e q.1
      · exact absurd e q.2
    · rcases q with q | q
      · exact .inl (by simpa using q)
      · exact .inr (by simpa using q)
abbrev nilA : M (List D) := fun g => .ok [] g
def fuelL (i : Nat) : Ga → Nat := fun g => match g[i]? with
  | some (some (.ml _ xs)) => xs.length + 1
  | _ => 0
/-! ### own exceptions -/
structure ExcK (K : PySem.W.Frag) (mg : Str → Option Value) (x : Str) : Prop where
  mg : mg x = some (.ref (He.ga K x))
  kp : PySem.W.keepIn K (.ref (He.ga K x)) = true
  su : PySem.W.subIn K (.ref (He.ga K x)) (.type "BaseException") = some true
  ty : PySem.W.typeIn K (.ref (He.ga K x)) = some (.type "type")
  ex : ∃ bmB B newId initId, ExcBaseFacts B newId initId bmB ∧ PySem.W.excIn K (He.ga K x) bmB newId = true
theorem exc_ok {X : Cx} {x : Str} (h : ExcK X.K X.mg x) : ExcOk X x := ⟨h.mg, h.kp, raises_own h.su h.ty, h.ex⟩
def ExcF (K : PySem.W.Frag) (mg : Str → Option Value) (l : List Str) : Prop := ∀ x, l.contains x = true → ExcK K mg x
def tabE (l : List Str) (x : Str) : List (Str × Bool) := l.map fun c => (c, decide (c = x))
def ExcM (K : PySem.W.Frag) (l : List Str) : Prop := ∀ x, l.contains x = true → ∀ tb, tabE l x = tb → ∀ q ∈ tb, PySem.W.exmOne K (.ref (He.ga K q.1)) (.ref (He.ga K x)) = some q.2
theorem ExcK.of {K : PySem.W.Frag} {mg : Str → Option Value} {h : Heap} {x : Str} (KX : K.In h) (G : h.Ns mainGlobals mg) (a : (He.Fa.glo x).ok K = true) (b : (He.Fa.exc x).ok K = true) : ExcK K mg x := by
  obtain ⟨b1, b2, b3, b4⟩ := He.exc_ok b
  exact ⟨He.glo_ok KX G a, b2, b3, b4, _, _, _, _, PySem.F.excBase_ValueError, b1⟩
theorem ExcF.nil {K : PySem.W.Frag} {mg : Str → Option Value} : ExcF K mg [] := fun x h => by simp at h
theorem ExcF.cons {K : PySem.W.Frag} {mg : Str → Option Value} {x : Str} {l : List Str} (a : ExcK K mg x) (b : ExcF K mg l) : ExcF K mg (x :: l) := fun y h => by
  rw [List.contains_cons, Bool.or_eq_true, beq_iff_eq] at h
  rcases h with rfl | h
  · exact a
  · exact b y h
def ExmR (K : PySem.W.Frag) (x : Str) (l : List Str) : Prop := ∀ c ∈ l, PySem.W.exmOne K (.ref (He.ga K c)) (.ref (He.ga K x)) = some (decide (c = x))
theorem ExmR.nil {K : PySem.W.Frag} {x : Str} : ExmR K x [] := fun x h => by simp at h
theorem ExmR.cons {K : PySem.W.Frag} {x y : Str} {b : Bool} {l : List Str} (a : (He.Fa.exm y x b).ok K = true) (r : ExmR K x l) (e : decide (y = x) = b := by decide +kernel) : ExmR K x (y :: l) := fun c h => by
  rcases List.mem_cons.mp h with rfl | h
  · rw [e]; exact He.exm_ok a
  · exact r c h
def ExmA (K : PySem.W.Frag) (l : List Str) : List Str → Prop
  | [] => True
  | x :: r => ExmR K x l ∧ ExmA K l r
theorem ExmA.get {K : PySem.W.Frag} {l : List Str} : ∀ {r : List Str}, ExmA K l r → ∀ x ∈ r, ExmR K x l
  | y :: r, h, x, hx => by
    rcases List.mem_cons.mp hx with rfl | hx
    · exact h.1
    · exact ExmA.get h.2 x hx
theorem ExcM.of {K : PySem.W.Frag} {l : List Str} (h : ExmA K l l) : ExcM K l := fun x hx tb e q hq => by
  subst e
  obtain ⟨c, hc, rfl⟩ := List.mem_map.mp hq
  exact h.get x (by simpa using hx) c hc
/-! ### law(script) -/
def spLaw (K : PySem.W.Frag) : Sp := fun vs H Q _ => ∃ (a : Addr) (ns : List Int), vs = [.ref a] ∧ ns.length ≤ 63 ∧ SqL K H a (ns.map V.int) ∧ ∀ H', Q (.bl true) H'
theorem ints_fz {K : PySem.W.Frag} {H : Hp} : ∀ ns : List Int, FzAll K H (ns.map V.int) (ns.map PyData.int)
  | [] => .nil
  | n :: ns => .cons (.int n) (ints_fz ns)
theorem fn_law {P : Program} {w : World} {K : PySem.W.Frag} {mg : Str → Option Value} {base : Heap} {x qual : Str} {params : Arguments} {body : List Stmt} {scope : Scope} {f : Addr} {fd : FuncData} {N : List Str} {y : Str} {k : Nat} {m : M Fl} (F : FunD K x qual params body scope [] [] f fd) (S : FnScope N [y] scope)
    (hb : ∀ (X : Cx) (E : XK), X.prog = P → X.w = w → X.K = K → X.mg = mg → X.base = base → X.N = N → X.env.scope = scope → X.calm = true → X.fn = (fun _ => true) → X.stack = X.env :: X.outer → X.env.frame = some X.env.locals → Room k X.A → Takes X (WD E) → PassesOwn (model X.prog X.w) X.A X.env X.xe → RSs X (WD E) body m)
    (hm : ∀ ns : List Int, ns.length ≤ 63 → runP N.length m [.list (ns.map PyData.int)] = .ok (.bool true)) :
    FnOk P w K mg base (L2.CX P w) (k + 1) f fd [y] (spLaw K) := by
  have hpos : 0 < N.length := by
    have := S.pre
    cases N with
    | nil => simp at this
    | cons _ _ => simp
  refine F.ok S (fun vs H Q E h => ?_) fun cdv A outer s H vs Q E hr h => ?_
  · obtain ⟨a, ns, rfl, _⟩ := h
    rfl
  · obtain ⟨a, ns, rfl, hl, hs, q⟩ := h
    have hm' := hm ns hl
    have fin : ∀ {g g' : Ga} {σ σ' : St} {R : List Addr} {H0 H' : Hp}, (match m (dsG [.list (ns.map PyData.int)] N.length) with
        | .ok f g' => ∀ σ' H', GoS K (dsG [.list (ns.map PyData.int)] N.length) σ R H0 g' σ' H' → f.end K { nx := fun _ H' => Q .non H', rt := Q } σ' H'
        | .exc c g' => ∀ σ' H', GoS K (dsG [.list (ns.map PyData.int)] N.length) σ R H0 g' σ' H' → E (.ref (He.ga K c)) none H'
        | .stuck => False) := by
      intro g g' σ σ' R H0 H'
      unfold runP at hm'
      split at hm' <;> rename_i em
      · cases hm'
        rw [em]
        intro σ1 H1 _ v fv
        cases fv
        exact q H1
      · cases hm'
      · cases hm'
      · cases hm'
      · cases hm'
    by_cases hfz : FzL K H a (ns.map V.int)
    · exact ⟨_, (hb _ E rfl rfl rfl rfl rfl rfl rfl rfl rfl rfl rfl hr (takes_of rfl rfl rfl rfl) (passes_of rfl)), dsG _ N.length, [], start_ds (.cons (.lst hfz (ints_fz ns)) .nil), List.nodup_nil, fin (g := []) (g' := []) (σ' := []) (H' := H)⟩
    · have hlst : H a = some (.lst (ns.map V.int)) := by
        rcases hs with (hs | ⟨o, hs⟩) | hs
        · exact hs
        · exact absurd (.inl ⟨o, hs⟩) hfz
        · exact absurd (.inr hs) hfz
      refine ⟨_, r_frz (i := 0) (hb _ E rfl rfl rfl rfl rfl rfl rfl rfl rfl rfl rfl hr (takes_of rfl rfl rfl rfl) (passes_of rfl)), some (.ml false (ns.map PyData.int)) :: List.replicate (N.length - 1) none, [a], ?_, by simp, ?_⟩
      · unfold L2.start
        exact .cons (rt := [a]) (R := []) (.ml hlst (ints_fz ns)) (SRep.nones _)
      · have e1 : sSeq (sFrz 0) m (some (.ml false (ns.map PyData.int)) :: List.replicate (N.length - 1) none) = m (dsG [.list (ns.map PyData.int)] N.length) := rfl
        rw [e1]
        unfold runP at hm'
        split at hm' <;> rename_i em
        · cases hm'
          rw [em]
          intro σ1 H1 _ v fv
          cases fv
          exact q H1
        · cases hm'
        · cases hm'
        · cases hm'
        · cases hm'
end PP

namespace PP
open PySem PySem.Spec L2
open PyProof.Rows hiding St
/-! ### the mirrors, run on slots -/
def Rs.bind {α β : Type} (r : Rs α) (f : α → M β) : Rs β := match r with
  | .ok a g => f a g
  | .exc c g => .exc c g
  | .stuck => .stuck
section
variable {α β : Type} {g g' : Ga}
@[simp] theorem bind_ok (a : α) (f : α → M β) : (Rs.ok a g).bind f = f a g := rfl
@[simp] theorem bind_exc (c : Str) (f : α → M β) : (Rs.exc c g).bind f = .exc c g := rfl
@[simp] theorem bind_stuck (f : α → M β) : Rs.stuck.bind f = .stuck := rfl
@[simp] theorem bnd_app (m : M α) (f : α → M β) : bnd m f g = (m g).bind f := rfl
@[simp] theorem lift_some (a : α) : lift (some a) g = .ok a g := rfl
@[simp] theorem eC_app (x : D) : eC x g = .ok x g := rfl
theorem eVar_app {i : Nat} : eVar i g = match g[i]? with
  | some (some (.d x)) => .ok x g
  | _ => .stuck := rfl
theorem eVar_ok {i : Nat} {x : D} (h : g[i]? = some (some (.d x))) : eVar i g = .ok x g := by unfold eVar; rw [h]
@[simp] theorem eVar_0 {x : D} {r : Ga} : eVar 0 (some (.d x) :: r) = .ok x (some (.d x) :: r) := rfl
@[simp] theorem eVar_1 {a : Option Tv} {x : D} {r : Ga} : eVar 1 (a :: some (.d x) :: r) = .ok x (a :: some (.d x) :: r) := rfl
@[simp] theorem eVar_2 {a b : Option Tv} {x : D} {r : Ga} : eVar 2 (a :: b :: some (.d x) :: r) = .ok x (a :: b :: some (.d x) :: r) := rfl
@[simp] theorem eVar_3 {a b c : Option Tv} {x : D} {r : Ga} : eVar 3 (a :: b :: c :: some (.d x) :: r) = .ok x (a :: b :: c :: some (.d x) :: r) := rfl
@[simp] theorem eVar_4 {a b c d : Option Tv} {x : D} {r : Ga} : eVar 4 (a :: b :: c :: d :: some (.d x) :: r) = .ok x (a :: b :: c :: d :: some (.d x) :: r) := rfl
@[simp] theorem eVar_5 {a b c d e : Option Tv} {x : D} {r : Ga} : eVar 5 (a :: b :: c :: d :: e :: some (.d x) :: r) = .ok x (a :: b :: c :: d :: e :: some (.d x) :: r) := rfl
@[simp] theorem eVar_6 {a b c d e f : Option Tv} {x : D} {r : Ga} : eVar 6 (a :: b :: c :: d :: e :: f :: some (.d x) :: r) = .ok x (a :: b :: c :: d :: e :: f :: some (.d x) :: r) := rfl
@[simp] theorem eVar_7 {a b c d e f h : Option Tv} {x : D} {r : Ga} : eVar 7 (a :: b :: c :: d :: e :: f :: h :: some (.d x) :: r) = .ok x (a :: b :: c :: d :: e :: f :: h :: some (.d x) :: r) := rfl
@[simp] theorem eVar_8 {a b c d e f h i : Option Tv} {x : D} {r : Ga} : eVar 8 (a :: b :: c :: d :: e :: f :: h :: i :: some (.d x) :: r) = .ok x (a :: b :: c :: d :: e :: f :: h :: i :: some (.d x) :: r) := rfl
@[simp] theorem eVar_9 {a b c d e f h i j : Option Tv} {x : D} {r : Ga} : eVar 9 (a :: b :: c :: d :: e :: f :: h :: i :: j :: some (.d x) :: r) = .ok x (a :: b :: c :: d :: e :: f :: h :: i :: j :: some (.d x) :: r) := rfl
@[simp] theorem eVar_10 {a b c d e f h i j k : Option Tv} {x : D} {r : Ga} : eVar 10 (a :: b :: c :: d :: e :: f :: h :: i :: j :: k :: some (.d x) :: r) = .ok x (a :: b :: c :: d :: e :: f :: h :: i :: j :: k :: some (.d x) :: r) := rfl
@[simp] theorem ap1_app (f : D → Option α) (a : M D) : ap1 f a g = (a g).bind fun x => lift (f x) := rfl
@[simp] theorem ap2_app (f : D → D → Option α) (a b : M D) : ap2 f a b g = (a g).bind fun x => bnd b fun y => lift (f x y) := rfl
@[simp] theorem apA_app (f : List D → Option α) (a : M (List D)) : apA f a g = (a g).bind fun x => lift (f x) := rfl
@[simp] theorem aCons_app (a : M D) (b : M (List D)) : aCons a b g = (a g).bind fun x => bnd b fun xs g => .ok (x :: xs) g := rfl
@[simp] theorem nilA_app : nilA g = .ok [] g := rfl
@[simp] theorem tru_app (m : M D) : tru m g = (m g).bind fun x => lift (truD x) := rfl
@[simp] theorem tst_app (m : M D) : tst m g = (m g).bind fun x => lift (asB x) := rfl
@[simp] theorem asB_bool (b : Bool) : asB (.bool b) = some b := rfl
@[simp] theorem truD_bool (b : Bool) : truD (.bool b) = some b := rfl
@[simp] theorem truD_list (xs : List D) : truD (.list xs) = some (!xs.isEmpty) := rfl
@[simp] theorem truD_tuple (xs : List D) : truD (.tuple xs) = some (!xs.isEmpty) := rfl
@[simp] theorem mNot_app (t : M Bool) : mNot t g = (t g).bind fun k g => .ok (!k) g := rfl
@[simp] theorem mAnd_app (t u : M Bool) : mAnd t u g = (t g).bind fun k => if k = true then u else fun g => .ok false g := rfl
@[simp] theorem mOr_app (t u : M Bool) : mOr t u g = (t g).bind fun k => if k = true then fun g => .ok true g else u := rfl
@[simp] theorem eNot_app (m : M D) : eNot m g = (m g).bind fun x => lift ((truD x).map fun k => .bool (!k)) := rfl
theorem ite_app {c : Bool} {a b : M α} : (if c = true then a else b) g = if c = true then a g else b g := by cases c <;> rfl
theorem eAnd_b {m u : M D} {b : Bool} (h : m g = .ok (.bool b) g') : eAnd m u g = if b = true then u g' else .ok (.bool false) g' := by
  unfold eAnd
  rw [bnd_app, h, bind_ok, truD_bool]
  cases b <;> rfl
theorem eOr_b {m u : M D} {b : Bool} (h : m g = .ok (.bool b) g') : eOr m u g = if b = true then .ok (.bool true) g' else u g' := by
  unfold eOr
  rw [bnd_app, h, bind_ok, truD_bool]
  cases b <;> rfl
def andK (x : D) (u : M D) : M D := match truD x with
  | some true => u
  | some false => fun g => .ok x g
  | none => fun _ => .stuck
def orK (x : D) (u : M D) : M D := match truD x with
  | some true => fun g => .ok x g
  | some false => u
  | none => fun _ => .stuck
@[simp] theorem eAnd_app (m u : M D) : eAnd m u g = (m g).bind fun x => andK x u := rfl
@[simp] theorem eOr_app (m u : M D) : eOr m u g = (m g).bind fun x => orK x u := rfl
@[simp] theorem andK_b (b : Bool) (u : M D) : andK (.bool b) u g = if b = true then u g else .ok (.bool false) g := by cases b <;> rfl
@[simp] theorem orK_b (b : Bool) (u : M D) : orK (.bool b) u g = if b = true then .ok (.bool true) g else u g := by cases b <;> rfl
@[simp] theorem eIf_app (t : M Bool) (a b : M α) : eIf t a b g = (t g).bind fun k => if k = true then a else b := rfl
@[simp] theorem eTup_app (m : M (List D)) : eTup m g = (m g).bind fun xs => lift (if xs.length ≤ sizeLine then some (.tuple xs) else none) := rfl
@[simp] theorem eLst_app (m : M (List D)) : eLst m g = (m g).bind fun xs => lift (if xs.length ≤ sizeLine then some (.list xs) else none) := rfl
@[simp] theorem lLst_app (m : M (List D)) : lLst m g = (m g).bind fun xs g => if xs.length ≤ sizeLine then .ok xs g else .stuck := rfl
@[simp] theorem frzL_app (m : M (List D)) : frzL m g = (m g).bind fun ys g => .ok (.list ys) g := rfl
@[simp] theorem eList_app (m : M (List D)) : eList m g = (m g).bind fun xs => lift (seqA xs) := rfl
@[simp] theorem eSl_app (m : M D) (l h : M (Option Int)) : eSl m l h g = (m g).bind fun x => bnd l fun lo => bnd h fun hi => lift (slD x lo hi) := rfl
@[simp] theorem pN_app : pN g = .ok none g := rfl
@[simp] theorem pS_app (m : M D) : pS m g = (m g).bind fun x => lift (partD x) := rfl
@[simp] theorem partD_int (i : Int) : partD (.int i) = some (some i) := rfl
def chn (r : Option D) (k : M D) : M D := match r with
  | some (.bool true) => k
  | some (.bool false) => fun g => .ok (.bool false) g
  | _ => fun _ => .stuck
@[simp] theorem chn_b (b : Bool) (k : M D) : chn (some (.bool b)) k g = if b = true then k g else .ok (.bool false) g := by cases b <;> rfl
@[simp] theorem eChain_app (f f' : D → D → Option D) (a b c : M D) : eChain f f' a b c g = (a g).bind fun x => bnd b fun y => chn (f x y) (bnd c fun z => lift (f' y z)) := by
  unfold eChain
  rfl
def Rs.seq (r : Rs Fl) (k : M Fl) : Rs Fl := match r with
  | .ok .nx g' => k g'
  | r => r
@[simp] theorem seq_nx (k : M Fl) : (Rs.ok .nx g).seq k = k g := rfl
@[simp] theorem seq_ret (x : D) (k : M Fl) : (Rs.ok (.ret x) g).seq k = .ok (.ret x) g := rfl
@[simp] theorem seq_brk (k : M Fl) : (Rs.ok .brk g).seq k = .ok .brk g := rfl
@[simp] theorem seq_cnt (k : M Fl) : (Rs.ok .cnt g).seq k = .ok .cnt g := rfl
@[simp] theorem seq_exc (c : Str) (k : M Fl) : (Rs.exc c g).seq k = .exc c g := rfl
theorem seq_ite {c : Prop} [Decidable c] (a b : Rs Fl) (k : M Fl) : (if c then a else b).seq k = if c then a.seq k else b.seq k := by split <;> rfl
theorem bind_ite {c : Prop} [Decidable c] (a b : Rs α) (f : α → M β) : (if c then a else b).bind f = if c then a.bind f else b.bind f := by split <;> rfl
theorem app_ite {c : Prop} [Decidable c] (a b : M α) : (if c then a else b) g = if c then a g else b g := by split <;> rfl
@[simp] theorem sSeq_app (m k : M Fl) : sSeq m k g = (m g).seq k := rfl
@[simp] theorem sRet_app (m : M D) : sRet m g = (m g).bind fun x g => .ok (.ret x) g := rfl
@[simp] theorem sDrop_app (m : M D) : sDrop m g = (m g).bind fun _ g => .ok .nx g := rfl
@[simp] theorem sIf_app (t : M Bool) (a b : M Fl) : sIf t a b g = (t g).bind fun k => if k = true then a else b := rfl
@[simp] theorem sRaise_app (x : Str) : sRaise x g = .exc x g := rfl
@[simp] theorem sAsg_name (i : Nat) (m : M D) : sAsg (bName i) m g = (m g).bind fun x g => if freeAt g i = true then .ok .nx (g.set i (some (.d x))) else .stuck := by
  show (m g).bind _ = (m g).bind _
  congr 1
  funext x g
  unfold bName
  by_cases h : freeAt g i = true
  · rw [if_pos h, if_pos h]
  · rw [if_neg h, if_neg h]
@[simp] theorem sSetL_app (i : Nat) (m : M (List D)) : sSetL i m g = (m g).bind fun ys g1 => if freeAt g1 i = true then .ok .nx (g1.set i (some (.ml false ys))) else .stuck := rfl
theorem sAsg_app (b : Bd) (m : M D) : sAsg b m g = (m g).bind fun x g => match b x g with
  | some g' => .ok .nx g'
  | none => .stuck := rfl
@[simp] theorem rxM_ok (x : D) : rxM (.ok x) g = .ok x g := rfl
@[simp] theorem rxM_exc (c : Str) : rxM (.exc c) g = .exc c g := rfl
@[simp] theorem eCall_app (n : Nat) (f : PF) (m : M (List D)) : eCall n f m g = (m g).bind fun ds => if ds.length = n then rxM (f ds) else fun _ => .stuck := rfl
theorem sFor_app (b : Bd) (mi : M (List D)) (body : M Fl) : sFor b mi body g = (mi g).bind fun items => loop b body items := rfl
theorem runP_ok {k : Nat} {m : M Fl} {ds : List D} {x : D} {g' : Ga} (h : m (dsG ds k) = .ok (.ret x) g') : runP k m ds = .ok x := by unfold runP; rw [h]
theorem runP_nx {k : Nat} {m : M Fl} {ds : List D} {g' : Ga} (h : m (dsG ds k) = .ok .nx g') : runP k m ds = .ok .none := by unfold runP; rw [h]
theorem runP_exc {k : Nat} {m : M Fl} {ds : List D} {c : Str} {g' : Ga} (h : m (dsG ds k) = .exc c g') : runP k m ds = .exc c := by unfold runP; rw [h]
/-- the result of a def's body -/
def outP : Rs Fl → Rx
  | .ok (.ret x) _ => .ok x
  | .ok .nx _ => .ok .none
  | .ok _ _ => .stuck
  | .exc c _ => .exc c
  | .stuck => .stuck
theorem runP_out (k : Nat) (m : M Fl) (ds : List D) : runP k m ds = outP (m (dsG ds k)) := by
  unfold runP outP
  rfl
@[simp] theorem outP_ret (x : D) : outP (.ok (.ret x) g) = .ok x := rfl
@[simp] theorem outP_nx : outP (.ok .nx g) = .ok .none := rfl
@[simp] theorem outP_exc (c : Str) : outP (.exc c g) = .exc c := rfl
theorem outP_ite {c : Prop} [Decidable c] {a b : Rs Fl} : outP (if c then a else b) = if c then outP a else outP b := by split <;> rfl
/-! ### for -/
theorem loop_nil {b : Bd} {body : M Fl} : loop b body [] g = .ok .nx g := rfl
theorem loop_cons {b : Bd} {body : M Fl} {x : D} {r : List D} : loop b body (x :: r) g = match b x g with
  | none => .stuck
  | some g1 => match body g1 with
    | .ok .nx g2 => loop b body r g2
    | .ok .cnt g2 => loop b body r g2
    | .ok .brk g2 => .ok .nx g2
    | .ok (.ret v) g2 => .ok (.ret v) g2
    | .exc c g2 => .exc c g2
    | .stuck => .stuck := by
  rw [loop] <;> rfl
/-- an invariant: after i items -/
theorem loop_inv {b : Bd} {body : M Fl} (I : List D → Ga → Prop) (r : List D) : ∀ (p : List D) (g : Ga), I p g → (∀ q x s g, p ++ r = q ++ x :: s → I q g → ∃ g1 g2, b x g = some g1 ∧ (body g1 = .ok .nx g2 ∨ body g1 = .ok .cnt g2) ∧ I (q ++ [x]) g2) → ∃ g', loop b body r g = .ok .nx g' ∧ I (p ++ r) g' := by
  induction r with
  | nil => exact fun p g h _ => ⟨g, rfl, by simpa using h⟩
  | cons x r ih =>
    intro p g h st
    obtain ⟨g1, g2, e1, e2, h2⟩ := st p x r g rfl h
    obtain ⟨g', e3, h3⟩ := ih (p ++ [x]) g2 h2 (fun q y s g e hq => st q y s g (by rw [← e, List.append_assoc]; rfl) hq)
    refine ⟨g', ?_, by simpa using h3⟩
    rw [loop_cons, e1]
    rcases e2 with e2 | e2 <;> (dsimp only; rw [e2]; exact e3)
/-! ### comprehensions -/
theorem cl_eq {vs : List Nat} {b : Bd} {t : M Bool} {e : M D} {p : D → Bool} {f : D → D} {g : Ga} : ∀ (items acc : List D), (∀ x ∈ items, ∃ g1, b x g = some g1 ∧ t g1 = .ok (p x) g1 ∧ (p x = true → e g1 = .ok (f x) g1) ∧ vs.all (fun i => freeAt g1 i) = true ∧ wipeG g1 vs = g) →
    cl vs b t e items acc g = .ok (acc ++ (items.filter p).map f) g
  | [], acc, _ => by rw [cl]; simp
  | x :: r, acc, h => by
    obtain ⟨g1, e1, e2, e3, e4, e5⟩ := h x List.mem_cons_self
    have ih := fun acc => cl_eq r acc (fun y hy => h y (List.mem_cons_of_mem _ hy))
    rw [cl, e1]
    dsimp only
    rw [e2]
    cases hp : p x with
    | false =>
      dsimp only
      rw [if_pos e4, e5, ih, List.filter_cons_of_neg (by rw [hp]; decide)]
    | true =>
      dsimp only
      rw [e3 hp]
      dsimp only
      rw [if_pos e4, e5, ih, List.filter_cons_of_pos hp, List.map_cons, List.append_assoc]
      rfl
theorem lc_eq {vs : List Nat} {b : Bd} {t : M Bool} {e : M D} {mi : M (List D)} {items : List D} {g : Ga} (p : D → Bool) (f : D → D) (hi : mi g = .ok items g) (hw : wipeG g vs = g) (hf : vs.all (fun i => freeAt g i) = true) (hl : items.length ≤ sizeLine)
    (h : ∀ x ∈ items, ∃ g1, b x g = some g1 ∧ t g1 = .ok (p x) g1 ∧ (p x = true → e g1 = .ok (f x) g1) ∧ vs.all (fun i => freeAt g1 i) = true ∧ wipeG g1 vs = g) : eLc vs b t e mi g = .ok ((items.filter p).map f) g := by
  unfold eLc
  rw [bnd_app, hi, bind_ok, if_pos ⟨hf, hl⟩, hw, cl_eq items [] h]
  rfl
/-- no condition -/
theorem lc_map {vs : List Nat} {b : Bd} {e : M D} {mi : M (List D)} {items : List D} {g : Ga} (f : D → D) (hi : mi g = .ok items g) (hw : wipeG g vs = g) (hf : vs.all (fun i => freeAt g i) = true) (hl : items.length ≤ sizeLine)
    (h : ∀ x ∈ items, ∃ g1, b x g = some g1 ∧ e g1 = .ok (f x) g1 ∧ vs.all (fun i => freeAt g1 i) = true ∧ wipeG g1 vs = g) : eLc vs b tAll e mi g = .ok (items.map f) g := by
  rw [lc_eq (fun _ => true) f hi hw hf hl (fun x hx => by
    obtain ⟨g1, h1, h2, h3, h4⟩ := h x hx
    exact ⟨g1, h1, rfl, fun _ => h2, h3, h4⟩), List.filter_eq_self.mpr (fun _ _ => rfl)]
theorem cl_src {γ : Type} {vs : List Nat} {b : Bd} {t : M Bool} {e : M D} {mk : γ → D} {p : γ → Bool} {f : γ → D} {g : Ga} : ∀ (src : List γ) (acc : List D), (∀ x ∈ src, ∃ g1, b (mk x) g = some g1 ∧ t g1 = .ok (p x) g1 ∧ (p x = true → e g1 = .ok (f x) g1) ∧ vs.all (fun i => freeAt g1 i) = true ∧ wipeG g1 vs = g) →
    cl vs b t e (src.map mk) acc g = .ok (acc ++ (src.filter p).map f) g
  | [], acc, _ => by rw [List.map_nil, cl]; simp
  | x :: r, acc, h => by
    obtain ⟨g1, e1, e2, e3, e4, e5⟩ := h x List.mem_cons_self
    have ih := fun acc => cl_src r acc (fun y hy => h y (List.mem_cons_of_mem _ hy))
    rw [List.map_cons, cl, e1]
    dsimp only
    rw [e2]
    cases hp : p x with
    | false =>
      dsimp only
      rw [if_pos e4, e5, ih, List.filter_cons_of_neg (by rw [hp]; decide)]
    | true =>
      dsimp only
      rw [e3 hp]
      dsimp only
      rw [if_pos e4, e5, ih, List.filter_cons_of_pos hp, List.map_cons, List.append_assoc]
      rfl
/-- from a list of anything: what it is as data, the condition, the item -/
theorem lcF {γ : Type} {vs : List Nat} {b : Bd} {t : M Bool} {e : M D} {mi : M (List D)} {g : Ga} (src : List γ) (mk : γ → D) (p : γ → Bool) (f : γ → D) (hi : mi g = .ok (src.map mk) g) (hl : src.length ≤ sizeLine)
    (h : ∀ x ∈ src, ∃ g1, b (mk x) g = some g1 ∧ t g1 = .ok (p x) g1 ∧ (p x = true → e g1 = .ok (f x) g1) ∧ vs.all (fun i => freeAt g1 i) = true ∧ wipeG g1 vs = g) (hw : wipeG g vs = g := by rfl) (hf : vs.all (fun i => freeAt g i) = true := by rfl) : eLc vs b t e mi g = .ok ((src.filter p).map f) g := by
  unfold eLc
  rw [bnd_app, hi, bind_ok, if_pos ⟨hf, by rw [List.length_map]; exact hl⟩, hw, cl_src src [] h]
  rfl
theorem lcM {γ : Type} {vs : List Nat} {b : Bd} {e : M D} {mi : M (List D)} {g : Ga} (src : List γ) (mk : γ → D) (f : γ → D) (hi : mi g = .ok (src.map mk) g) (hl : src.length ≤ sizeLine)
    (h : ∀ x ∈ src, ∃ g1, b (mk x) g = some g1 ∧ e g1 = .ok (f x) g1 ∧ vs.all (fun i => freeAt g1 i) = true ∧ wipeG g1 vs = g) (hw : wipeG g vs = g := by rfl) (hf : vs.all (fun i => freeAt g i) = true := by rfl) : eLc vs b tAll e mi g = .ok (src.map f) g := by
  rw [lcF src mk (fun _ => true) f hi hl (fun x hx => by
    obtain ⟨g1, h1, h2, h3, h4⟩ := h x hx
    exact ⟨g1, h1, rfl, fun _ => h2, h3, h4⟩) hw hf, List.filter_eq_self.mpr (fun _ _ => rfl)]
/-- a loop that may return v at an item -/
theorem loop_any {γ : Type} {b : Bd} {body : M Fl} {P : Ga → Prop} {mk : γ → D} {c : γ → Bool} {v : D} : ∀ (src : List γ), (∀ x ∈ src, ∀ g, P g → ∃ g1 g2, b (mk x) g = some g1 ∧ body g1 = (if c x = true then .ok (.ret v) g2 else .ok .nx g2) ∧ P g2) →
    ∀ g, P g → ∃ g', P g' ∧ loop b body (src.map mk) g = if src.any c = true then .ok (.ret v) g' else .ok .nx g'
  | [], _, g, h => ⟨g, h, rfl⟩
  | x :: r, st, g, h => by
    obtain ⟨g1, g2, e1, e2, h2⟩ := st x List.mem_cons_self g h
    rw [List.map_cons, loop_cons, e1]
    dsimp only
    rw [e2, List.any_cons]
    cases hc : c x with
    | true => exact ⟨g2, h2, rfl⟩
    | false =>
      obtain ⟨g', h', e'⟩ := loop_any r (fun y hy => st y (List.mem_cons_of_mem _ hy)) g2 h2
      exact ⟨g', h', by simpa using e'⟩
/-- a comprehension whose parts forget slots -/
theorem cl_inv {γ : Type} {vs : List Nat} {b : Bd} {t : M Bool} {e : M D} {mk : γ → D} {p : γ → Bool} {f : γ → D} {P : Ga → Prop} : ∀ (src : List γ) (acc : List D), (∀ x ∈ src, ∀ g, P g → ∃ g1 g2 g3, b (mk x) g = some g1 ∧ t g1 = .ok (p x) g2 ∧ (p x = true → e g2 = .ok (f x) g3) ∧ (p x = false → g3 = g2) ∧ vs.all (fun i => freeAt g3 i) = true ∧ P (wipeG g3 vs)) →
    ∀ g, P g → ∃ g', P g' ∧ cl vs b t e (src.map mk) acc g = .ok (acc ++ (src.filter p).map f) g'
  | [], acc, _, g, h => ⟨g, h, by rw [List.map_nil, cl]; simp⟩
  | x :: r, acc, h, g, hg => by
    obtain ⟨g1, g2, g3, e1, e2, e3, e4, e5, e6⟩ := h x List.mem_cons_self g hg
    have ih := fun acc => cl_inv r acc (fun y hy => h y (List.mem_cons_of_mem _ hy)) _ e6
    rw [List.map_cons, cl, e1]
    dsimp only
    rw [e2]
    cases hp : p x with
    | false =>
      dsimp only
      rw [← e4 hp, if_pos e5, List.filter_cons_of_neg (by rw [hp]; decide)]
      exact ih acc
    | true =>
      dsimp only
      rw [e3 hp]
      dsimp only
      rw [if_pos e5, List.filter_cons_of_pos hp, List.map_cons]
      obtain ⟨g', h1, h2⟩ := ih (acc ++ [f x])
      exact ⟨g', h1, by rw [h2, List.append_assoc]; rfl⟩
theorem lcI {γ : Type} {vs : List Nat} {b : Bd} {t : M Bool} {e : M D} {mi : M (List D)} {g g1 : Ga} (src : List γ) (mk : γ → D) (p : γ → Bool) (f : γ → D) (P : Ga → Prop) (hi : mi g = .ok (src.map mk) g1) (hl : src.length ≤ sizeLine) (hP : P (wipeG g1 vs))
    (h : ∀ x ∈ src, ∀ g, P g → ∃ g1 g2 g3, b (mk x) g = some g1 ∧ t g1 = .ok (p x) g2 ∧ (p x = true → e g2 = .ok (f x) g3) ∧ (p x = false → g3 = g2) ∧ vs.all (fun i => freeAt g3 i) = true ∧ P (wipeG g3 vs)) (hf : vs.all (fun i => freeAt g1 i) = true := by rfl) : ∃ g', P g' ∧ eLc vs b t e mi g = .ok ((src.filter p).map f) g' := by
  obtain ⟨g', h1, h2⟩ := cl_inv src [] h _ hP
  refine ⟨g', h1, ?_⟩
  unfold eLc
  rw [bnd_app, hi, bind_ok, if_pos ⟨hf, by rw [List.length_map]; exact hl⟩, h2]
  rfl
/-- the own slots may be in use -/
theorem lcW {γ : Type} {vs : List Nat} {b : Bd} {e : M D} {mi : M (List D)} {g : Ga} (src : List γ) (mk : γ → D) (f : γ → D) (hi : mi g = .ok (src.map mk) g) (hl : src.length ≤ sizeLine) (hf : vs.all (fun i => freeAt g i) = true)
    (h : ∀ x ∈ src, ∃ g1, b (mk x) (wipeG g vs) = some g1 ∧ e g1 = .ok (f x) g1 ∧ vs.all (fun i => freeAt g1 i) = true ∧ wipeG g1 vs = wipeG g vs) : eLc vs b tAll e mi g = .ok (src.map f) (wipeG g vs) := by
  unfold eLc
  rw [bnd_app, hi, bind_ok, if_pos ⟨hf, by rw [List.length_map]; exact hl⟩, cl_src (p := fun _ => true) (f := f) src [] (fun x hx => by
    obtain ⟨g1, h1, h2, h3, h4⟩ := h x hx
    exact ⟨g1, h1, rfl, fun _ => h2, h3, h4⟩), List.filter_eq_self.mpr (fun _ _ => rfl)]
  rfl
/-- a slot that holds no list -/
def dat : Option Tv → Bool
  | none => true
  | some (.d _) => true
  | _ => false
theorem dat_free {o : Option Tv} (h : dat o = true) : (match o with | none => true | some t => !t.bor) = true := by
  cases o with
  | none => rfl
  | some t => cases t with
    | d _ => rfl
    | ml _ _ => cases h
    | md _ _ _ => cases h
@[simp] theorem freeAt_s (a : Option Tv) (r : Ga) (n : Nat) : freeAt (a :: r) (n + 1) = freeAt r n := rfl
@[simp] theorem freeAt_n (r : Ga) : freeAt (none :: r) 0 = true := rfl
@[simp] theorem freeAt_d (x : D) (r : Ga) : freeAt (some (.d x) :: r) 0 = true := rfl
@[simp] theorem freeAt_m (b : Bool) (xs : List D) (r : Ga) : freeAt (some (.ml b xs) :: r) 0 = !b := rfl
def frzK (o : Option (Option Tv)) (i : Nat) : M Fl := fun g => match o with
  | some (some t) => (match frzT t with
    | some x => .ok .nx (g.set i (some (.d x)))
    | none => .stuck)
  | _ => .stuck
@[simp] theorem sFrz_app (i : Nat) : sFrz i g = frzK (g[i]?) i g := by
  unfold sFrz frzK
  rfl
@[simp] theorem frzK_md (t : Bool) (kvs : List (D × D)) (i : Nat) : frzK (some (some (.md false t kvs))) i g = .ok .nx (g.set i (some (.d (.dict kvs)))) := rfl
@[simp] theorem frzK_ml (xs : List D) (i : Nat) : frzK (some (some (.ml false xs))) i g = .ok .nx (g.set i (some (.d (.list xs)))) := rfl
theorem bTup_app (bs : List Bd) (xs : List D) : bTup bs (.tuple xs) g = bAll bs xs g := rfl
theorem bAll_nil : bAll [] [] g = some g := rfl
theorem bAll_cons (b : Bd) (bs : List Bd) (x : D) (xs : List D) : bAll (b :: bs) (x :: xs) g = (b x g).bind fun g1 => bAll bs xs g1 := by rw [bAll]
theorem bName_app (i : Nat) (x : D) : bName i x g = if freeAt g i = true then some (g.set i (some (.d x))) else none := rfl
def asgK (o : Option Ga) : Rs Fl := match o with
  | some g' => .ok .nx g'
  | none => .stuck
@[simp] theorem sAsg_tup (bs : List Bd) (m : M D) : sAsg (bTup bs) m g = (m g).bind fun x g => asgK (bTup bs x g) := rfl
@[simp] theorem asgK_some : asgK (some g') = .ok .nx g' := rfl
end
end PP

namespace PP
open PySem PySem.Spec L2
open PyProof.Rows hiding St
section
variable {α β : Type} {g g' : Ga}
theorem len1 (a : D) : [a].length = 1 := rfl
theorem len2 (a b : D) : [a, b].length = 2 := rfl
theorem len3 (a b c : D) : [a, b, c].length = 3 := rfl
theorem len4 (a b c d : D) : [a, b, c, d].length = 4 := rfl
theorem len5 (a b c d e : D) : [a, b, c, d, e].length = 5 := rfl
theorem len0 : ([] : List D).length = 0 := rfl
theorem sz0 : (0 ≤ sizeLine) = True := eq_true (by decide)
theorem sz1 : (1 ≤ sizeLine) = True := eq_true (by decide)
theorem sz2 : (2 ≤ sizeLine) = True := eq_true (by decide)
theorem sz3 : (3 ≤ sizeLine) = True := eq_true (by decide)
theorem sz4 : (4 ≤ sizeLine) = True := eq_true (by decide)
theorem sz5 : (5 ≤ sizeLine) = True := eq_true (by decide)
theorem sz6 : (6 ≤ sizeLine) = True := eq_true (by decide)
theorem sz7 : (7 ≤ sizeLine) = True := eq_true (by decide)
theorem sz8 : (8 ≤ sizeLine) = True := eq_true (by decide)
theorem sz9 : (9 ≤ sizeLine) = True := eq_true (by decide)
theorem sz10 : (10 ≤ sizeLine) = True := eq_true (by decide)
theorem sz11 : (11 ≤ sizeLine) = True := eq_true (by decide)
theorem len6 (a b c d e f : D) : [a, b, c, d, e, f].length = 6 := rfl
theorem len7 (a b c d e f h : D) : [a, b, c, d, e, f, h].length = 7 := rfl
theorem len8 (a b c d e f h i : D) : [a, b, c, d, e, f, h, i].length = 8 := rfl
/-! ### lists of one's own -/
@[simp] theorem isMl_s (a : Option Tv) (r : Ga) (n : Nat) : isMl (a :: r) (n + 1) = isMl r n := rfl
@[simp] theorem isMl_m (b : Bool) (xs : List D) (r : Ga) : isMl (some (.ml b xs) :: r) 0 = true := rfl
def resK (o : Option (α × List D)) (b : Bool) (i : Nat) : M α := fun g => match o with
  | some (y, ys) => .ok y (g.set i (some (.ml b ys)))
  | none => .stuck
@[simp] theorem resK_some (y : α) (ys : List D) (b : Bool) (i : Nat) : resK (some (y, ys)) b i g = .ok y (g.set i (some (.ml b ys))) := rfl
def onK (o : Option (Option Tv)) (i : Nat) (f : List D → β → Option (α × List D)) (x : β) : M α := match o with
  | some (some (.ml b xs)) => resK (f xs x) b i
  | _ => fun _ => .stuck
@[simp] theorem onK_ml (b : Bool) (xs : List D) (i : Nat) (f : List D → β → Option (α × List D)) (x : β) : onK (some (some (.ml b xs))) i f x = resK (f xs x) b i := rfl
theorem onL_app (i : Nat) (m : M β) (f : List D → β → Option (α × List D)) : onL i m f g = if isMl g i = true then (m g).bind fun x g1 => onK (g1[i]?) i f x g1 else .stuck := by
  unfold onL
  by_cases h : isMl g i = true
  · rw [if_pos h, if_pos h]
    cases m g with
    | stuck => rfl
    | exc c g1 => rfl
    | ok x g1 =>
      show _ = onK (g1[i]?) i f x g1
      dsimp only
      cases e : g1[i]? with
      | none => rfl
      | some o =>
        cases o with
        | none => rfl
        | some t =>
          cases t with
          | d _ => rfl
          | md _ _ _ => rfl
          | ml b xs =>
            show _ = resK (f xs x) b i g1
            dsimp only
            cases f xs x with
            | none => rfl
            | some p => rfl
  · rw [if_neg h, if_neg h]
theorem eApp_app (i : Nat) (m : M D) : eApp i m g = if isMl g i = true then (m g).bind fun x g1 => onK (g1[i]?) i fApp x g1 else .stuck := onL_app i m fApp
theorem ePop_app (i : Nat) (m : M D) : ePop i m g = if isMl g i = true then (m g).bind fun x g1 => onK (g1[i]?) i fPop x g1 else .stuck := onL_app i m fPop
theorem eIdxV_app (i : Nat) (m : M D) : eIdxV i m g = if isMl g i = true then (m g).bind fun x g1 => onK (g1[i]?) i fIdx x g1 else .stuck := onL_app i m fIdx
def fLen (xs : List D) (_ : Unit) : Option (D × List D) := some (.int xs.length, xs)
def fTru (xs : List D) (_ : Unit) : Option (Bool × List D) := some (!xs.isEmpty, xs)
theorem eLenV_app (i : Nat) : eLenV i g = if isMl g i = true then onK (g[i]?) i fLen () g else .stuck := onL_app i mU fLen
theorem tTruV_app (i : Nat) : tTruV i g = if isMl g i = true then onK (g[i]?) i fTru () g else .stuck := onL_app i mU fTru
theorem sSetI_app (i : Nat) (mk mv : M D) : sSetI i mk mv g = (mv g).bind fun y => bnd (onL i mk (fSetI y)) fun _ g => .ok .nx g := rfl
theorem fApp_ok {xs : List D} {x : D} (h : xs.length < sizeLine) : fApp xs x = some (.none, xs ++ [x]) := by rw [fApp, if_pos h]
theorem fLen_ok (xs : List D) : fLen xs () = some (.int xs.length, xs) := rfl
theorem fTru_ok (xs : List D) : fTru xs () = some (!xs.isEmpty, xs) := rfl
/-! ### calls by reference -/
def rbK (r : Rb) (b : Bool) (i : Nat) : M D := fun g => match r with
  | .ok y zs => .ok y (g.set i (some (.ml b zs)))
  | .exc c zs => .exc c (g.set i (some (.ml b zs)))
  | .stuck => .stuck
@[simp] theorem rbK_ok (y : D) (zs : List D) (b : Bool) (i : Nat) : rbK (.ok y zs) b i g = .ok y (g.set i (some (.ml b zs))) := rfl
def cbK (o : Option (Option Tv)) (i : Nat) (f : List D → Rb) : M D := match o with
  | some (some (.ml b zs)) => rbK (f zs) b i
  | _ => fun _ => .stuck
@[simp] theorem cbK_ml (b : Bool) (zs : List D) (i : Nat) (f : List D → Rb) : cbK (some (some (.ml b zs))) i f = rbK (f zs) b i := rfl
theorem eCB_cons (np nq : Nat) (f : BF) (i : Nat) (mq : M (List D)) (xs : List D) (m : M D) (ms : List (M D)) : eCB np nq f i mq xs (m :: ms) g = (m g).bind fun x => eCB np nq f i mq (xs ++ [x]) ms := by rw [eCB]; rfl
theorem eCB_nil (np nq : Nat) (f : BF) (i : Nat) (mq : M (List D)) (xs : List D) : eCB np nq f i mq xs [] g = if isMl g i = true ∧ xs.length = np then (mq g).bind fun ys g1 => if ys.length = nq then cbK (g1[i]?) i (fun zs => f xs zs ys) g1 else .stuck else .stuck := by
  rw [eCB]
  dsimp only
  by_cases h : isMl g i = true ∧ xs.length = np
  · rw [if_pos h, if_pos h]
    cases mq g with
    | stuck => rfl
    | exc c g1 => rfl
    | ok ys g1 =>
      show _ = if ys.length = nq then cbK (g1[i]?) i (fun zs => f xs zs ys) g1 else .stuck
      dsimp only
      by_cases h2 : ys.length = nq
      · rw [if_pos h2, if_pos h2]
        cases e : g1[i]? with
        | none => rfl
        | some o =>
          cases o with
          | none => rfl
          | some t =>
            cases t with
            | d _ => rfl
            | md _ _ _ => rfl
            | ml b zs =>
              show _ = rbK (f xs zs ys) b i g1
              dsimp only
              cases f xs zs ys <;> rfl
      · rw [if_neg h2, if_neg h2]
  · rw [if_neg h, if_neg h]
def outK (o : Option (List D)) (f : List D → Rb) : Rb := match o with
  | some zs => f zs
  | none => .stuck
@[simp] theorem outK_some (zs : List D) (f : List D → Rb) : outK (some zs) f = f zs := rfl
def outR (np : Nat) (r : Rs Fl) : Rb := match r with
  | .ok (.ret x) g => outK (outB np g) fun zs => .ok x zs
  | .ok .nx g => outK (outB np g) fun zs => .ok .none zs
  | .ok _ _ => .stuck
  | .exc c g => outK (outB np g) fun zs => .exc c zs
  | .stuck => .stuck
theorem runB_out (np k : Nat) (m : M Fl) (xs zs ys : List D) : runB np k m xs zs ys = outR np (m (bG xs zs ys k)) := by
  unfold runB outR
  cases m (bG xs zs ys k) with
  | stuck => rfl
  | exc c g => cases h : outB np g <;> simp [h, outK]
  | ok f g => cases f <;> first | rfl | (cases h : outB np g <;> simp [h, outK])
@[simp] theorem outR_ret (np : Nat) (x : D) : outR np (.ok (.ret x) g) = outK (outB np g) fun zs => .ok x zs := rfl
@[simp] theorem outR_nx (np : Nat) : outR np (.ok .nx g) = outK (outB np g) fun zs => .ok .none zs := rfl
@[simp] theorem outB_s (a : Option Tv) (r : Ga) (n : Nat) : outB (n + 1) (a :: r) = outB n r := rfl
@[simp] theorem outB_m (zs : List D) (r : Ga) : outB 0 (some (.ml true zs) :: r) = some zs := rfl
theorem bG_app (xs zs ys : List D) (k : Nat) : bG xs zs ys k = xs.map (fun x => some (.d x)) ++ some (.ml true zs) :: (ys.map (fun x => some (.d x)) ++ List.replicate (k - (xs.length + (ys.length + 1))) none) := rfl
/-! ### several at once -/
@[simp] theorem mConsD_app (a : M D) (b : M (List Tv)) : mConsD a b g = (a g).bind fun x => bnd b fun xs g => .ok (.d x :: xs) g := rfl
@[simp] theorem mConsL_app (a : M (List D)) (b : M (List Tv)) : mConsL a b g = (a g).bind fun x => bnd b fun xs g => .ok (.ml false x :: xs) g := rfl
@[simp] theorem sPar_app (is : List Nat) (m : M (List Tv)) : sPar is m g = (m g).bind fun ts g => asgK (setAll is ts g) := rfl
theorem setAll_nil : setAll [] [] g = some g := rfl
theorem setAll_cons (i : Nat) (is : List Nat) (t : Tv) (ts : List Tv) : setAll (i :: is) (t :: ts) g = if freeAt g i = true then setAll is ts (g.set i (some t)) else none := rfl
/-! ### a comprehension over a list of one's own -/
theorem lcVF {γ : Type} {vs : List Nat} {b : Bd} {t : M Bool} {e : M D} {j : Nat} {g : Ga} {bb : Bool} (src : List γ) (mk : γ → D) (p : γ → Bool) (f : γ → D) (hj : g[j]? = some (some (.ml bb (src.map mk)))) (hl : src.length ≤ sizeLine) (hv : j ∉ vs)
    (h : ∀ x ∈ src, ∃ g1, b (mk x) (g.set j none) = some g1 ∧ t g1 = .ok (p x) g1 ∧ (p x = true → e g1 = .ok (f x) g1) ∧ vs.all (fun i => freeAt g1 i) = true ∧ wipeG g1 vs = g.set j none) (hw : wipeG (g.set j none) vs = g.set j none) (hf : vs.all (fun i => freeAt (g.set j none) i) = true) :
    eLcV vs b t e j g = .ok ((src.filter p).map f) g := by
  unfold eLcV
  rw [hj]
  dsimp only
  have hlt : j < g.length := (List.getElem?_eq_some_iff.mp hj).1
  rw [if_pos ⟨hf, by rw [List.length_map]; exact hl, hv⟩, hw, cl_src src [] h]
  dsimp only
  rw [List.getElem?_set_self hlt]
  dsimp only
  rw [List.set_set]
  congr 1
  apply List.ext_getElem?
  intro i
  by_cases hi : j = i
  · subst hi
    rw [List.getElem?_set_self hlt, hj]
  · rw [List.getElem?_set_ne hi]
end
end PP

namespace PP
open PySem PySem.Spec L2
open PyProof.Rows hiding St
theorem walk_ofW {l : PySem.W.OpenLaw} {n k : Nat} {q : Program} {loose : List Str} {XP : (Str → Option Value) → Heap → Prop} {YP : World → Heap → Prop} {d : DefRec} {x : Str}
    (hn : l.most = some n) (hn2 : n ≤ sizeLine) (hdf : d.params.defaults = []) (hr : Room k callerA)
    (F : ∀ (w : World) (mg : Str → Option Value) (fa : Addr) (h : Heap), YP w h → h.Ns mainGlobals mg → mg d.name = some (.ref fa) →
      ∃ (K : PySem.W.Frag) (fd : FuncData) (sp : Sp), K.In h ∧ (∀ (s : Shared) (u : Value), BindsTo s fd ⟨[u], []⟩ [(x, u)]) ∧
        (∀ (H : Hp) (a : Addr) (ns : List Int), ns.length ≤ n → Only H → SqL K H a (ns.map V.int) → sp [.ref a] H (fun v _ => v = .bl true) fun _ _ _ => False) ∧
        ∀ base : Heap, K.In base → base.Ns mainGlobals mg → FnOk l.prog w K mg base (L2.CX l.prog w) k fa fd [x] sp) :
    PySem.W.WalkO q loose XP YP l.row.toRowW d [] (fun f vs => PySem.call f vs) := by
  refine Att.attach_call hn hdf fun w s₀ s₁ mg mb fa o pm cd doc a vs ns G Y ho hd hcd hmg hobj hints hlen hg => ?_
  obtain ⟨K, fd, sp, KX, hb, hsp, hF⟩ := F w mg fa _ Y G.T.g hmg
  refine law_call KX G.T.g G.T.b G.T.builtins G.T.nolimit hg hobj hints (Nat.le_trans hlen hn2) hr hF hb (fun H hO hS => hsp H a ns hlen hO hS) fun H e s' h => ?_
  obtain ⟨a, B, H', cls, d, h1, h2, h3, h4, h5, h6, h7, h8, h9⟩ := h
  first | exact h9 | exact h9.elim | skip
end PP

namespace PP
open PySem PySem.Spec L2
open PyProof.Rows hiding St
section
variable {X : Cx} {W : WX}
/-! ### a ghost step: slots are forgotten -/
def sWipe (vs : List Nat) : M Fl := fun g => if vs.all (fun i => freeAt g i) = true then .ok .nx (wipeG g vs) else .stuck
theorem r_wipe {vs : List Nat} {ss : List Stmt} {m : M Fl} (h : RSs X W ss m) : RSs X W ss (sSeq (sWipe vs) m) := by
  refine ⟨fun pins s σ H D I q => ?_⟩
  obtain ⟨g, R, sr, n, q⟩ := q
  unfold sSeq sWipe at q
  by_cases hf : vs.all (fun i => freeAt g i) = true
  · rw [if_pos hf] at q
    obtain ⟨R1, s1, n1, m1⟩ := wipe_rep sr n vs
    have s2 := unwipe s1
    refine h.run pins s σ H D I ⟨_, R1, s2, n1, ?_⟩
    dsimp only at q
    have b1 := borK_wipe hf
    cases e2 : m (wipeG g vs) with
    | stuck => rw [e2] at q; exact q
    | exc c g' => rw [e2] at q; exact fun σ' H' go => q σ' H' (go.then b1 (Kp.refl g σ) (Ext.refl R H) (fun a ha => .inl (m1 a ha)))
    | ok a g' => rw [e2] at q; exact fun σ' H' go => q σ' H' (go.then b1 (Kp.refl g σ) (Ext.refl R H) (fun a ha => .inl (m1 a ha)))
  · rw [if_neg hf] at q
    exact q.elim
end
/-! ### comprehensions of two clauses -/
def clI (vs : List Nat) (b : Bd) (t : M Bool) (e : M D) : List D → List D → M (List D)
  | [], acc, g => .ok acc g
  | x :: r, acc, g => match b x g with
    | none => .stuck
    | some g1 => match t g1 with
      | .ok true g2 => (match e g2 with
        | .ok y g3 => if vs.all (fun i => freeAt g3 i) = true ∧ acc.length < sizeLine then clI vs b t e r (acc ++ [y]) (wipeG g3 vs) else .stuck
        | _ => .stuck)
      | .ok false g2 => if vs.all (fun i => freeAt g2 i) = true then clI vs b t e r acc (wipeG g2 vs) else .stuck
      | _ => .stuck
def cl2 (vs vs1 : List Nat) (b : Bd) (t : M Bool) (mi1 : M (List D)) (b1 : Bd) (t1 : M Bool) (e : M D) : List D → List D → M (List D)
  | [], acc, g => .ok acc g
  | x :: r, acc, g => match b x g with
    | none => .stuck
    | some g1 => match t g1 with
      | .ok true g2 => (match mi1 g2 with
        | .ok items1 g3 => if vs1.all (fun i => freeAt g3 i) = true then (match clI vs1 b1 t1 e items1 acc (wipeG g3 vs1) with
          | .ok acc' g4 => if vs.all (fun i => freeAt g4 i) = true then cl2 vs vs1 b t mi1 b1 t1 e r acc' (wipeG g4 vs) else .stuck
          | _ => .stuck) else .stuck
        | _ => .stuck)
      | .ok false g2 => if vs.all (fun i => freeAt g2 i) = true then cl2 vs vs1 b t mi1 b1 t1 e r acc (wipeG g2 vs) else .stuck
      | _ => .stuck
def eLc2 (vs vs1 : List Nat) (b : Bd) (t : M Bool) (mi1 : M (List D)) (b1 : Bd) (t1 : M Bool) (e : M D) (mi : M (List D)) : M (List D) := bnd mi fun items g1 => if vs.all (fun i => freeAt g1 i) = true then (match cl2 vs vs1 b t mi1 b1 t1 e items [] (wipeG g1 vs) with
  | .ok ys g2 => .ok ys g2
  | _ => .stuck) else .stuck
def InPost (K : PySem.W.Frag) (σ : St) (Dd : Addr) (R : List Addr) (H : Hp) (g : Ga) (Nx : Hp → Prop) : Rs (List D) → Prop
  | .ok acc g' => ∀ H' accV R', SRep K H' σ g' R' → (Dd :: R').Nodup → H' Dd = some (.lst accV) → FzAll K H' accV acc → Ext (Dd :: R) H H' → New (Dd :: R) H (Dd :: R') → Pers H H' → BorK g g' → Nx H'
  | _ => False
set_option maxHeartbeats 1000000 in
theorem in_gen {K : PySem.W.Frag} {b : Bd} {us vs : List Nat} {t : M Bool} {e : M D} {items : List D} {σ : St} {H1 : Hp} {g1 : Ga} {R1 : List Addr} {J : It} {G : Hp → Prop} {FR : Rs (List D)} {Dd : Addr} {accV0 : List V} {acc0 : List D} {Nx : Hp → Prop} (hus : ∀ i ∈ us, i ∈ vs)
    (s1 : SRep K H1 σ g1 R1) (n1 : (Dd :: R1).Nodup) (hD0 : H1 Dd = some (.lst accV0)) (fa0 : FzAll K H1 accV0 acc0) (wk : Wk K J items G) (g0 : G H1) (cf : (vs.all fun i => freeAt g1 i) = true) (hfr : clI vs b t e items acc0 (wipeG g1 vs) = FR)
    (h : InPost K σ Dd R1 H1 g1 Nx FR) : ∃ W1 : Nat → Nat → Hp → Prop, (∃ m, W1 0 m H1) ∧ ∀ j k H, W1 j k H →
      (J.stop j H ∧ Nx H) ∨ (J.go j H ∧ ∃ Nx1 : Hp → Prop, (∀ H', Nx1 H' → ∃ k', k' < k ∧ W1 (j + 1) k' H') ∧ ∀ x H', J.yld j H x H' → tBd K us b x (L2.wipe σ vs) H' fun σ3 H5 => L2.wipe σ3 vs = L2.wipe σ vs ∧ tTD K WF t σ3 H5 fun b H6 =>
        if b = true then tD K WF e σ3 H6 fun y H7 => ∃ acc, H7 Dd = some (.lst acc) ∧ acc.length < sizeLine ∧ Nx1 (L2.upd H7 Dd (.lst (acc ++ [y]))) else Nx1 H6) := by
  obtain ⟨nD0, nR⟩ := List.nodup_cons.mp n1
  obtain ⟨Rw, sw, nw, mw⟩ := wipe_rep s1 nR vs
  refine ⟨fun i m Hi => i + m = items.length ∧ G Hi ∧ ∃ gx Ri accV acc, SRep K Hi (L2.wipe σ vs) (wipeG gx vs) Ri ∧ (Dd :: Ri).Nodup ∧ Hi Dd = some (.lst accV) ∧ FzAll K Hi accV acc ∧ Ext (Dd :: R1) H1 Hi ∧ New (Dd :: R1) H1 (Dd :: Ri) ∧ Pers H1 Hi ∧
    BorK (wipeG g1 vs) (wipeG gx vs) ∧ clI vs b t e (items.drop i) acc (wipeG gx vs) = FR, ⟨items.length, by omega, g0, g1, Rw, accV0, acc0, sw, List.nodup_cons.mpr ⟨fun z => nD0 (mw _ z), nw⟩, hD0, fa0, Ext.refl _ _, ?_, Pers.refl _, BorK.refl _, by simpa using hfr⟩, ?_⟩
  · intro a ha
    rcases List.mem_cons.mp ha with z | z
    · rw [z]; exact .inl List.mem_cons_self
    · exact .inl (List.mem_cons_of_mem _ (mw a z))
  · rintro i m Hi ⟨eim, gH, gx, Ri, accV, acc, si, ni, hD, fa, ei, wi, pi, bi, ec⟩
    obtain ⟨nD1, nD2⟩ := List.nodup_cons.mp ni
    by_cases hi : i < items.length
    · right
      have ed : items.drop i = items[i] :: items.drop (i + 1) := (List.getElem_cons_drop hi).symm
      rw [ed] at ec
      obtain ⟨jg, yld⟩ := wk.go i Hi _ gH (List.getElem?_eq_getElem hi)
      refine ⟨jg, fun H' => G H' ∧ ∃ gx Ri accV acc, SRep K H' (L2.wipe σ vs) (wipeG gx vs) Ri ∧ (Dd :: Ri).Nodup ∧ H' Dd = some (.lst accV) ∧ FzAll K H' accV acc ∧ Ext (Dd :: R1) H1 H' ∧ New (Dd :: R1) H1 (Dd :: Ri) ∧ Pers H1 H' ∧
        BorK (wipeG g1 vs) (wipeG gx vs) ∧ clI vs b t e (items.drop (i + 1)) acc (wipeG gx vs) = FR, fun H' hN => ⟨m - 1, by omega, by omega, hN⟩, fun x H3 y => ?_⟩
      obtain ⟨sm, fx⟩ := yld x H3 y
      have s3 := si.same sm
      have hD3 : H3 Dd = some (.lst accV) := sm _ _ hD
      unfold clI at ec
      cases eb : b items[i] (wipeG gx vs) with
      | none =>
        rw [eb] at ec
        dsimp only at ec
        rw [← ec] at h
        exact h.elim
      | some ga =>
        rw [eb] at ec
        dsimp only at ec
        refine ⟨_, Ri, _, ga, s3, nD2, fx, eb, fun σ2 ch b2 k2 ⟨R2, s4, n4, m4⟩ => ⟨?_, ?_⟩⟩
        · rw [(ch.mono hus).wipe, wipe_idem]
        · have nD4 : Dd ∉ R2 := fun z => nD1 (m4 _ z)
          refine ⟨ga, R2, s4, n4, ?_⟩
          have fin : ∀ {H5 : Hp} {gz : Ga} {R5 : List Addr} {accV' : List V} {acc' : List D}, SRep K H5 σ2 gz R5 → R5.Nodup → Dd ∉ R5 → H5 Dd = some (.lst accV') → FzAll K H5 accV' acc' → Ext (Dd :: Ri) Hi H5 → New (Dd :: Ri) Hi R5 → Pers Hi H5 →
              BorK ga gz → vs.all (fun i => freeAt gz i) = true → clI vs b t e (items.drop (i + 1)) acc' (wipeG gz vs) = FR →
              G H5 ∧ ∃ gx Ri accV acc, SRep K H5 (L2.wipe σ vs) (wipeG gx vs) Ri ∧ (Dd :: Ri).Nodup ∧ H5 Dd = some (.lst accV) ∧ FzAll K H5 accV acc ∧ Ext (Dd :: R1) H1 H5 ∧ New (Dd :: R1) H1 (Dd :: Ri) ∧ Pers H1 H5 ∧
                BorK (wipeG g1 vs) (wipeG gx vs) ∧ clI vs b t e (items.drop (i + 1)) acc (wipeG gx vs) = FR := by
            intro H5 gz R5 accV' acc' s5 n5 nD5 hD5 fa5 e5 w5 p5 b5 f5 c5
            obtain ⟨R6, s6, n6, m6⟩ := wipe_rep s5 n5 vs
            rw [(ch.mono hus).wipe, wipe_idem] at s6
            refine ⟨wk.st Hi H5 gH p5 (fun a ha => nomatch ha), gz, R6, accV', acc', s6, List.nodup_cons.mpr ⟨fun z => nD5 (m6 _ z), n6⟩, hD5, fa5, ei.trans wi e5, ?_, pi.trans p5, (bi.trans (b2.trans b5)).trans (borK_wipe f5), c5⟩
            have : New (Dd :: R1) H1 R5 := New.trans ei wi w5
            intro a ha
            rcases List.mem_cons.mp ha with z | z
            · rw [z]; exact wi Dd List.mem_cons_self
            · exact this a (m6 a z)
          have x3 : Ext (Dd :: Ri) Hi H3 := Ext.of_same sm
          have w3 : New (Dd :: Ri) Hi R2 := fun a ha => .inl (List.mem_cons_of_mem _ (m4 a ha))
          cases et : t ga with
          | stuck => rw [et] at ec; dsimp only at ec; rw [← ec] at h; exact h.elim
          | exc c g' => rw [et] at ec; dsimp only at ec; rw [← ec] at h; exact h.elim
          | ok bt gb =>
            rw [et] at ec
            intro bt' H4 go4 ebt
            subst ebt
            obtain ⟨b4, R4, s5, n5, x4, w4⟩ := go4
            have hD4 : H4 Dd = some (.lst accV) := x4 _ _ hD3 nD4
            have nD5 : Dd ∉ R4 := fun z => by
              rcases w4 Dd z with q | q
              · exact nD4 q
              · rw [hD3] at q; cases q
            have p4 : Pers Hi H4 := (Pers.of_same sm).trans (x4.pers s4.live)
            cases bt' with
            | false =>
              dsimp only at ec
              rw [if_neg Bool.false_ne_true]
              split at ec
              · rename_i cf2
                exact fin s5 n5 nD5 hD4 (fa.pers p4) (x3.trans w3 x4) (New.trans x3 w3 w4) p4 b4 cf2 ec
              · rw [← ec] at h; exact h.elim
            | true =>
              dsimp only at ec
              rw [if_pos rfl]
              refine ⟨gb, R4, s5, n5, ?_⟩
              cases ee : e gb with
              | stuck => rw [ee] at ec; dsimp only at ec; rw [← ec] at h; exact h.elim
              | exc c g' => rw [ee] at ec; dsimp only at ec; rw [← ec] at h; exact h.elim
              | ok yd gc =>
                rw [ee] at ec
                dsimp only at ec
                intro yv H5 go5 fy
                obtain ⟨b5, R5, s6, n6, x5, w5⟩ := go5
                have hD5 : H5 Dd = some (.lst accV) := x5 _ _ hD4 nD5
                have nD6 : Dd ∉ R5 := fun z => by
                  rcases w5 Dd z with q | q
                  · exact nD5 q
                  · rw [hD4] at q; cases q
                have p5 : Pers Hi H5 := p4.trans (x5.pers s5.live)
                split at ec
                · rename_i cf2
                  refine ⟨accV, hD5, by rw [fa.length]; exact cf2.2, ?_⟩
                  have p6 : Pers H5 (L2.upd H5 Dd (.lst (accV ++ [yv]))) := fun a u hu hf => by
                    rw [upd_ne]
                    · exact hu
                    · rintro rfl
                      rw [hD5] at hu
                      cases hu
                      cases hf
                  refine fin (s6.keep p6 fun a ha => upd_ne (fun z => nD6 (z ▸ ha))) n6 nD6 upd_same (((fa.pers p5).append (.cons fy .nil)).pers p6) ?_ ?_ (p5.trans p6) (b4.trans b5) cf2.1 ec
                  · intro a u hu ha
                    rw [upd_ne]
                    · exact ((x3.trans w3 x4).trans (New.trans x3 w3 w4) x5) a u hu ha
                    · rintro rfl
                      exact ha List.mem_cons_self
                  · exact New.trans (x3.trans w3 x4) (New.trans x3 w3 w4) w5
                · rw [← ec] at h; exact h.elim
    · left
      have e2 : i = items.length := by omega
      subst e2
      rw [List.drop_length] at ec
      have ec' : Rs.ok acc (wipeG gx vs) = FR := ec
      rw [← ec'] at h
      exact ⟨wk.stop Hi gH, h Hi accV Ri (unwipe si) ni hD fa ei wi pi ((borK_wipe cf).trans bi)⟩
set_option maxHeartbeats 1000000 in
theorem lc2_gen {K : PySem.W.Frag} {b b1 : Bd} {us vs us1 vs1 : List Nat} {t t1 : M Bool} {mi1 : M (List D)} {e : M D} {items : List D} {σ : St} {H1 : Hp} {Q : VK} {g1 : Ga} {R1 : List Addr} {J : It} {G : Hp → Prop} {FR : Rs (List D)} (hus : ∀ i ∈ us, i ∈ vs) (hus1 : ∀ i ∈ us1, i ∈ vs1)
    (s1 : SRep K H1 σ g1 R1) (n1 : R1.Nodup) (wk : Wk K J items G) (g0 : G H1) (cf : (vs.all fun i => freeAt g1 i) = true) (hfr : cl2 vs vs1 b t mi1 b1 t1 e items [] (wipeG g1 vs) = FR)
    (h : LPost K σ R1 H1 g1 Q FR) (Dd : Addr) (nD : H1 Dd = none) : ∃ W : Nat → Nat → Hp → Prop, (∃ m, W 0 m (L2.upd H1 Dd (.lst []))) ∧ ∀ i m H, W i m H →
  (J.stop i H ∧ Q (.ref Dd) H) ∨ (J.go i H ∧ ∃ Nx : Hp → Prop, (∀ H', Nx H' → ∃ m', m' < m ∧ W (i + 1) m' H') ∧ ∀ x H', J.yld i H x H' → tBd K us b x (L2.wipe σ vs) H' fun σ2 H2 => L2.wipe σ2 vs = L2.wipe σ vs ∧ tTD K WF t σ2 H2 fun b H3 =>
    if b = true then tG (repI K) K WF mi1 σ2 H3 fun J1 H4 => ∃ W1 : Nat → Nat → Hp → Prop, (∃ m, W1 0 m H4) ∧ ∀ j k H, W1 j k H →
      (J1.stop j H ∧ Nx H) ∨ (J1.go j H ∧ ∃ Nx1 : Hp → Prop, (∀ H', Nx1 H' → ∃ k', k' < k ∧ W1 (j + 1) k' H') ∧ ∀ x H', J1.yld j H x H' → tBd K us1 b1 x (L2.wipe σ2 vs1) H' fun σ3 H5 => L2.wipe σ3 vs1 = L2.wipe σ2 vs1 ∧ tTD K WF t1 σ3 H5 fun b H6 =>
        if b = true then tD K WF e σ3 H6 fun y H7 => ∃ acc, H7 Dd = some (.lst acc) ∧ acc.length < sizeLine ∧ Nx1 (L2.upd H7 Dd (.lst (acc ++ [y]))) else Nx1 H6)
    else Nx H3) := by
  have smD : Same H1 (L2.upd H1 Dd (.lst [])) := Same.upd nD
  obtain ⟨Rw, sw, nw, mw⟩ := wipe_rep s1 n1 vs
  have nDw : ∀ {R' : List Addr}, (∀ a ∈ R', a ∈ R1) → Dd ∉ R' := fun hm hd => s1.root_some Dd (hm Dd hd) nD
  refine ⟨fun i m Hi => i + m = items.length ∧ G Hi ∧ ∃ gx Ri accV acc, SRep K Hi (L2.wipe σ vs) (wipeG gx vs) Ri ∧ (Dd :: Ri).Nodup ∧ Hi Dd = some (.lst accV) ∧ FzAll K Hi accV acc ∧ Ext R1 H1 Hi ∧ New R1 H1 (Dd :: Ri) ∧
    BorK (wipeG g1 vs) (wipeG gx vs) ∧ cl2 vs vs1 b t mi1 b1 t1 e (items.drop i) acc (wipeG gx vs) = FR, ⟨items.length, by omega, wk.st H1 _ g0 (Pers.of_same smD) (fun a ha => nomatch ha), g1, Rw, [], [], sw.same smD, ?_, upd_same, .nil, Ext.of_same smD, ?_, BorK.refl _, by simpa using hfr⟩, ?_⟩
  · exact List.nodup_cons.mpr ⟨nDw mw, nw⟩
  · intro a ha
    rcases List.mem_cons.mp ha with z | z
    · rw [z]; exact .inr nD
    · exact .inl (mw a z)
  · rintro i m Hi ⟨eim, gH, gx, Ri, accV, acc, si, ni, hD, fa, ei, wi, bi, ec⟩
    obtain ⟨nD1, nD2⟩ := List.nodup_cons.mp ni
    by_cases hi : i < items.length
    · right
      have ed : items.drop i = items[i] :: items.drop (i + 1) := (List.getElem_cons_drop hi).symm
      rw [ed] at ec
      obtain ⟨jg, yld⟩ := wk.go i Hi _ gH (List.getElem?_eq_getElem hi)
      refine ⟨jg, fun H' => G H' ∧ ∃ gx Ri accV acc, SRep K H' (L2.wipe σ vs) (wipeG gx vs) Ri ∧ (Dd :: Ri).Nodup ∧ H' Dd = some (.lst accV) ∧ FzAll K H' accV acc ∧ Ext R1 H1 H' ∧ New R1 H1 (Dd :: Ri) ∧
        BorK (wipeG g1 vs) (wipeG gx vs) ∧ cl2 vs vs1 b t mi1 b1 t1 e (items.drop (i + 1)) acc (wipeG gx vs) = FR, fun H' hN => ⟨m - 1, by omega, by omega, hN⟩, fun x H3 y => ?_⟩
      obtain ⟨sm, fx⟩ := yld x H3 y
      have s3 := si.same sm
      have hD3 : H3 Dd = some (.lst accV) := sm _ _ hD
      unfold cl2 at ec
      cases eb : b items[i] (wipeG gx vs) with
      | none =>
        rw [eb] at ec
        dsimp only at ec
        rw [← ec] at h
        exact h.elim
      | some ga =>
        rw [eb] at ec
        dsimp only at ec
        refine ⟨_, Ri, _, ga, s3, nD2, fx, eb, fun σ2 ch b2 k2 ⟨R2, s4, n4, m4⟩ => ⟨?_, ?_⟩⟩
        · rw [(ch.mono hus).wipe, wipe_idem]
        · have nD4 : Dd ∉ R2 := fun z => nD1 (m4 _ z)
          refine ⟨ga, R2, s4, n4, ?_⟩
          have fin : ∀ {H5 : Hp} {gz : Ga} {R5 : List Addr} {accV' : List V} {acc' : List D}, SRep K H5 σ2 gz R5 → R5.Nodup → Dd ∉ R5 → H5 Dd = some (.lst accV') → FzAll K H5 accV' acc' → Ext (Dd :: Ri) Hi H5 → New (Dd :: Ri) Hi R5 → Pers Hi H5 →
              BorK ga gz → vs.all (fun i => freeAt gz i) = true → cl2 vs vs1 b t mi1 b1 t1 e (items.drop (i + 1)) acc' (wipeG gz vs) = FR →
              G H5 ∧ ∃ gx Ri accV acc, SRep K H5 (L2.wipe σ vs) (wipeG gx vs) Ri ∧ (Dd :: Ri).Nodup ∧ H5 Dd = some (.lst accV) ∧ FzAll K H5 accV acc ∧ Ext R1 H1 H5 ∧ New R1 H1 (Dd :: Ri) ∧
                BorK (wipeG g1 vs) (wipeG gx vs) ∧ cl2 vs vs1 b t mi1 b1 t1 e (items.drop (i + 1)) acc (wipeG gx vs) = FR := by
            intro H5 gz R5 accV' acc' s5 n5 nD5 hD5 fa5 e5 w5 p5 b5 f5 c5
            obtain ⟨R6, s6, n6, m6⟩ := wipe_rep s5 n5 vs
            rw [(ch.mono hus).wipe, wipe_idem] at s6
            refine ⟨wk.st Hi H5 gH p5 (fun a ha => nomatch ha), gz, R6, accV', acc', s6, List.nodup_cons.mpr ⟨fun z => nD5 (m6 _ z), n6⟩, hD5, fa5, ei.trans wi e5, ?_, (bi.trans (b2.trans b5)).trans (borK_wipe f5), c5⟩
            have : New R1 H1 R5 := New.trans ei wi w5
            intro a ha
            rcases List.mem_cons.mp ha with z | z
            · rw [z]; exact wi Dd List.mem_cons_self
            · exact this a (m6 a z)
          have x3 : Ext (Dd :: Ri) Hi H3 := Ext.of_same sm
          have w3 : New (Dd :: Ri) Hi R2 := fun a ha => .inl (List.mem_cons_of_mem _ (m4 a ha))
          cases et : t ga with
          | stuck => rw [et] at ec; dsimp only at ec; rw [← ec] at h; exact h.elim
          | exc c g' => rw [et] at ec; dsimp only at ec; rw [← ec] at h; exact h.elim
          | ok bt gb =>
            rw [et] at ec
            intro bt' H4 go4 ebt
            subst ebt
            obtain ⟨b4, R4, s5, n5, x4, w4⟩ := go4
            have hD4 : H4 Dd = some (.lst accV) := x4 _ _ hD3 nD4
            have nD5 : Dd ∉ R4 := fun z => by
              rcases w4 Dd z with q | q
              · exact nD4 q
              · rw [hD3] at q; cases q
            have p4 : Pers Hi H4 := (Pers.of_same sm).trans (x4.pers s4.live)
            cases bt' with
            | false =>
              dsimp only at ec
              rw [if_neg Bool.false_ne_true]
              split at ec
              · rename_i cf2
                exact fin s5 n5 nD5 hD4 (fa.pers p4) (x3.trans w3 x4) (New.trans x3 w3 w4) p4 b4 cf2 ec
              · rw [← ec] at h; exact h.elim
            | true =>
              dsimp only at ec
              rw [if_pos rfl]
              refine ⟨gb, R4, s5, n5, ?_⟩
              cases ee : mi1 gb with
              | stuck => rw [ee] at ec; dsimp only at ec; rw [← ec] at h; exact h.elim
              | exc c g' => rw [ee] at ec; dsimp only at ec; rw [← ec] at h; exact h.elim
              | ok items1 gc =>
                rw [ee] at ec
                dsimp only at ec
                intro J1 H5 go5 ⟨G1, wk1, g01⟩
                obtain ⟨b5, R5, s6, n6, x5, w5⟩ := go5
                have hD5 : H5 Dd = some (.lst accV) := x5 _ _ hD4 nD5
                have nD6 : Dd ∉ R5 := fun z => by
                  rcases w5 Dd z with q | q
                  · exact nD5 q
                  · rw [hD4] at q; cases q
                have p5 : Pers Hi H5 := p4.trans (x5.pers s5.live)
                split at ec
                · rename_i cf1
                  refine in_gen hus1 s6 (List.nodup_cons.mpr ⟨nD6, n6⟩) hD5 (fa.pers p5) wk1 g01 cf1 rfl ?_
                  cases ei1 : clI vs1 b1 t1 e items1 acc (wipeG gc vs1) with
                  | stuck => rw [ei1] at ec; dsimp only at ec; rw [← ec] at h; exact h.elim
                  | exc c g' => rw [ei1] at ec; dsimp only at ec; rw [← ec] at h; exact h.elim
                  | ok acc' gd =>
                    rw [ei1] at ec
                    dsimp only at ec
                    intro H7 accV' R7 s7 n7 hD7 fa7 e7 w7 p7 b7
                    obtain ⟨nD7, n7'⟩ := List.nodup_cons.mp n7
                    split at ec
                    · rename_i cf2
                      have xx : Ext (Dd :: Ri) Hi H5 := (x3.trans w3 x4).trans (New.trans x3 w3 w4) x5
                      have ww : New (Dd :: Ri) Hi (Dd :: R5) := fun a ha => by
                        rcases List.mem_cons.mp ha with z | z
                        · rw [z]; exact .inl List.mem_cons_self
                        · exact New.trans (x3.trans w3 x4) (New.trans x3 w3 w4) w5 a z
                      exact fin s7 n7' nD7 hD7 fa7 (xx.trans ww e7) (fun a ha => New.trans xx ww w7 a (List.mem_cons_of_mem _ ha)) (p5.trans p7) ((b4.trans b5).trans b7) cf2 ec
                    · rw [← ec] at h; exact h.elim
                · rw [← ec] at h; exact h.elim
    · left
      have e2 : i = items.length := by omega
      subst e2
      rw [List.drop_length] at ec
      have ec' : Rs.ok acc (wipeG gx vs) = FR := ec
      rw [← ec'] at h
      refine ⟨wk.stop Hi gH, h Dd accV Hi ⟨(borK_wipe cf).trans bi, hD, fa, Ri, unwipe si, ni, ei, wi⟩⟩
theorem lc2_of {K : PySem.W.Frag} {W : WX} {b b1 : Bd} {us vs us1 vs1 : List Nat} {t t1 : M Bool} {mi1 : M (List D)} {e : M D} {mi : M (List D)} {σ : St} {H : Hp} {Q : VK} (hus : ∀ i ∈ us, i ∈ vs) (hus1 : ∀ i ∈ us1, i ∈ vs1) (h : tL K W (eLc2 vs vs1 b t mi1 b1 t1 e mi) σ H Q) :
    tLc2 (tG (repI K) K W mi) (tBd K us b) (tTD K WF t) (tG (repI K) K WF mi1) (tBd K us1 b1) (tTD K WF t1) (tD K WF e) vs vs1 σ H Q := by
  obtain ⟨g, R, s, n, h⟩ := h
  refine ⟨g, R, s, n, ?_⟩
  unfold eLc2 bnd at h
  cases em : mi g with
  | stuck => rw [em] at h; exact h
  | exc c g' => rw [em] at h; exact h
  | ok items g1 =>
    rw [em] at h
    dsimp only at h
    intro J H1 go ⟨G, wk, g0⟩ Dd nD
    obtain ⟨bk1, R1, s1, n1, e1, w1⟩ := go
    by_cases cf : (vs.all fun i => freeAt g1 i) = true
    · rw [if_pos cf] at h
      refine lc2_gen hus hus1 s1 n1 wk g0 cf rfl ?_ Dd nD
      cases ec : cl2 vs vs1 b t mi1 b1 t1 e items [] (wipeG g1 vs) with
      | stuck => rw [ec] at h; exact h
      | exc c g' => rw [ec] at h; exact h
      | ok ys g2 =>
        rw [ec] at h
        exact fun p vs H' go => h p vs H' (go.then bk1 e1 w1)
    · rw [if_neg cf] at h
      exact h.elim
section
variable {X : Cx} {W : WX} {tg e a : Expr} {pos : Pos}
theorem r_lc2 {elt iter tg1 iter1 : Expr} {ifs ifs1 : List Expr} {scope : Scope} {own : List (Str × Nat)} {us us1 vs1 : List Nat} {mi mi1 : M (List D)} {b b1 : Bd} {t t1 : M Bool} {m : M D} (hc : X.calm = true) (hN : X.N.Nodup) (hi : RI X W tg iter mi) (ok : BlkOk X.N X.env.scope scope own) (hus : ∀ i ∈ us, i ∈ own.map (·.2)) (hus1 : ∀ i ∈ us1, i ∈ vs1) (hv : ∀ i ∈ vs1, i ∈ own.map (·.2))
    (hg : ∀ (s : Shared) (H : Hp) (C : Addr) (cl : List (Str × Addr)) (fp : List Addr), RG (X.blk s H scope (compEnvC scope cl C X.env) fp) tg us b) (ht : ∀ (s : Shared) (H : Hp) (C : Addr) (cl : List (Str × Addr)) (fp : List Addr), RTs (X.blk s H scope (compEnvC scope cl C X.env) fp) WF ifs t)
    (hi1 : ∀ (s : Shared) (H : Hp) (C : Addr) (cl : List (Str × Addr)) (fp : List Addr), RI (X.blk s H scope (compEnvC scope cl C X.env) fp) WF tg1 iter1 mi1)
    (hg1 : ∀ (s : Shared) (H : Hp) (C : Addr) (cl : List (Str × Addr)) (fp : List Addr), RG (X.blk s H scope (compEnvC scope cl C X.env) fp) tg1 us1 b1) (ht1 : ∀ (s : Shared) (H : Hp) (C : Addr) (cl : List (Str × Addr)) (fp : List Addr), RTs (X.blk s H scope (compEnvC scope cl C X.env) fp) WF ifs1 t1)
    (he : ∀ (s : Shared) (H : Hp) (C : Addr) (cl : List (Str × Addr)) (fp : List Addr), RE (X.blk s H scope (compEnvC scope cl C X.env) fp) WF elt m) (hs : ∀ x, foldedSetIterable iter X.env x = pure x := by intro _; rfl) (hs1 : ∀ env x, foldedSetIterable iter1 env x = pure x := by intro _ _; rfl) :
    RL X W (.ListComp elt [⟨tg, iter, ifs, 0⟩, ⟨tg1, iter1, ifs1, 0⟩] scope pos) (eLc2 (own.map (·.2)) vs1 b t mi1 b1 t1 m mi) := PE.imp (pe_lc2 (g := tBd X.K us b) (tt := tTD X.K WF t) (wi1 := tG (repI X.K) X.K WF mi1) (g1 := tBd X.K us1 b1) (tt1 := tTD X.K WF t1) (te := tD X.K WF m) hc hN hi ok hv hg ht hi1 hg1 ht1 he hs hs1) fun σ H Q h => lc2_of hus hus1 h
theorem r_setLc2 {i : Nat} {y : Str} {py spos : Pos} {elt iter tg1 iter1 : Expr} {ifs ifs1 : List Expr} {scope : Scope} {own : List (Str × Nat)} {us us1 vs1 : List Nat} {mi mi1 : M (List D)} {b b1 : Bd} {t t1 : M Bool} {m : M D} (hc : X.calm = true) (hN : X.N.Nodup) (hi : RI X W tg iter mi) (ok : BlkOk X.N X.env.scope scope own) (hus : ∀ i ∈ us, i ∈ own.map (·.2)) (hus1 : ∀ i ∈ us1, i ∈ vs1) (hv : ∀ i ∈ vs1, i ∈ own.map (·.2))
    (hg : ∀ (s : Shared) (H : Hp) (C : Addr) (cl : List (Str × Addr)) (fp : List Addr), RG (X.blk s H scope (compEnvC scope cl C X.env) fp) tg us b) (ht : ∀ (s : Shared) (H : Hp) (C : Addr) (cl : List (Str × Addr)) (fp : List Addr), RTs (X.blk s H scope (compEnvC scope cl C X.env) fp) WF ifs t)
    (hi1 : ∀ (s : Shared) (H : Hp) (C : Addr) (cl : List (Str × Addr)) (fp : List Addr), RI (X.blk s H scope (compEnvC scope cl C X.env) fp) WF tg1 iter1 mi1)
    (hg1 : ∀ (s : Shared) (H : Hp) (C : Addr) (cl : List (Str × Addr)) (fp : List Addr), RG (X.blk s H scope (compEnvC scope cl C X.env) fp) tg1 us1 b1) (ht1 : ∀ (s : Shared) (H : Hp) (C : Addr) (cl : List (Str × Addr)) (fp : List Addr), RTs (X.blk s H scope (compEnvC scope cl C X.env) fp) WF ifs1 t1)
    (he : ∀ (s : Shared) (H : Hp) (C : Addr) (cl : List (Str × Addr)) (fp : List Addr), RE (X.blk s H scope (compEnvC scope cl C X.env) fp) WF elt m)
    (hsw : swapsWith (.ListComp elt [⟨tg, iter, ifs, 0⟩, ⟨tg1, iter1, ifs1, 0⟩] scope pos) (some (.Name y py)) spos.line X.env = pure true) (hy : X.N[i]? = some y := by rfl) (hyl : X.env.scope.names.lookup y = some .local := by rfl) (hs : ∀ x, foldedSetIterable iter X.env x = pure x := by intro _; rfl) (hs1 : ∀ env x, foldedSetIterable iter1 env x = pure x := by intro _ _; rfl) :
    RS X W (.Assign [.Name y py] (.ListComp elt [⟨tg, iter, ifs, 0⟩, ⟨tg1, iter1, ifs1, 0⟩] scope pos) spos) (sSetL i (eLc2 (own.map (·.2)) vs1 b t mi1 b1 t1 m mi)) := PS.imp (ps_setLc2 (g := tBd X.K us b) (tt := tTD X.K WF t) (wi1 := tG (repI X.K) X.K WF mi1) (g1 := tBd X.K us1 b1) (tt1 := tTD X.K WF t1) (te := tD X.K WF m) hc hN hy hyl hsw hi ok hv hg ht hi1 hg1 ht1 he hs hs1) fun D σ H h => lc2_of hus hus1 (setL_of h)
end
end PP

namespace PP
open PySem PySem.Spec L2
open PyProof.Rows hiding St
section
variable {X : Cx} {W : WX} {pins : List (Addr × Obj)} {σ : St} {H : Hp} {s : Shared} {Q : VK} {e a b : Expr} {pos : Pos} {ma mb : M D}
/-! ### the same in a heap with new things -/
theorem tG_same {α β : Type} {rep : Hp → β → α → Prop} {K : PySem.W.Frag} {m : M α} {σ : St} {H H' : Hp} {Q : β → Hp → Prop} (h : tG rep K W m σ H Q) (sm : Same H H') : tG rep K W m σ H' Q := by
  obtain ⟨g, R, s, n, h⟩ := h
  refine ⟨g, R, s.same sm, n, ?_⟩
  cases e : m g with
  | stuck => rw [e] at h; exact h
  | exc c g' =>
    rw [e] at h
    intro H2 ⟨bk, R2, s2, n2, x2, w2⟩
    exact h H2 ⟨bk, R2, s2, n2, (Ext.of_same sm).trans (New.refl _ _) x2, New.trans (Ext.of_same sm) (New.refl _ _) w2⟩
  | ok c g' =>
    rw [e] at h
    intro b2 H2 ⟨bk, R2, s2, n2, x2, w2⟩ r2
    exact h b2 H2 ⟨bk, R2, s2, n2, (Ext.of_same sm).trans (New.refl _ _) x2, New.trans (Ext.of_same sm) (New.refl _ _) w2⟩ r2
theorem tS_same {K : PySem.W.Frag} {m : M Fl} {D : Ends} {σ : St} {H H' : Hp} (h : tS K W m D σ H) (sm : Same H H') : tS K W m D σ H' := by
  obtain ⟨g, R, s, n, h⟩ := h
  refine ⟨g, R, s.same sm, n, ?_⟩
  cases e : m g with
  | stuck => rw [e] at h; exact h
  | exc c g' => rw [e] at h; exact fun σ2 H2 go => h σ2 H2 (go.then (BorK.refl g) (Kp.refl g σ) (Ext.of_same sm) (New.refl _ _))
  | ok c g' => rw [e] at h; exact fun σ2 H2 go => h σ2 H2 (go.then (BorK.refl g) (Kp.refl g σ) (Ext.of_same sm) (New.refl _ _))
/-! ### a + b, a * k as lists of one's own -/
def rOL2 (K : PySem.W.Frag) (f : D → D → Option (List D)) : R2 := fun v u H Q => ∃ x y, Fz K H v x ∧ Fz K H u y ∧ ∃ c, f x y = some c ∧ ∀ p vs, H p = none → FzAll K H vs c → Q (.ref p) (L2.upd H p (.lst vs))
def ap2L (f : D → D → Option (List D)) (a b : M D) : M (List D) := bnd a fun x => bnd b fun y => lift (f x y)
theorem r_binL {o : Operator} {f : D → D → Option (List D)} (ho : OpR X (binaryOp o) (rOL2 X.K f)) (ha : RE X W a ma) (hb : RE X W b mb) : RL X W (.BinOp a o b pos) (ap2L f ma mb) := PE.imp (pe_op ho ha hb) fun σ H Q h =>
  tG_mono (tG_bind (rep1 := Fz X.K) (tL_new h)) fun v H1 _ ⟨x, r, q⟩ => tG_mono (tG_bind (rep1 := Fz X.K) q) fun u H2 p ⟨y, r2, q2⟩ => by
    obtain ⟨c, e, q3⟩ := tG_lift q2
    exact ⟨x, y, r.pers p, r2, c, e, fun p vs hp f => q3 vs H2 (Same.refl _) f p hp⟩
theorem ep_listL (I : Inv X pins σ H s) {us : List V} {its : List Value} {t : Nat} (r : Vals us its) (hz : us.length ≤ sizeLine) (q : ∀ p, H p = none → Q (.ref p) (L2.upd H p (.lst us))) :
    EP X pins σ Q (.ref s.heap.objs.size) { s with heap := s.heap.push { cls := .type "list", data := .seq its.toArray }, toks := t } := ⟨.ref _, _, I.lnew (t' := t) r hz, rfl, q _ I.fresh⟩
def addLD : D → D → Option (List D)
  | .list xs, .list ys => if xs.length + ys.length ≤ sizeLine then some (xs ++ ys) else none
  | _, _ => none
theorem o_addL : OpR X (binaryOp .Add) (rOL2 X.K addLD) := by
  intro pins s σ H x y v u Q I rx ry ⟨dx, dy, fx, fy, c, e, q⟩
  cases fx with
  | lst h a =>
    cases fy with
    | lst h2 a2 =>
      simp only [addLD] at e
      split at e
      · rename_i hz
        cases e
        cases rx
        cases ry
        obtain ⟨its, r1, p1, _⟩ := I.list h.sq
        obtain ⟨its2, r2, p2, _⟩ := I.list h2.sq
        have l1 := r1.length
        have l2 := r2.length
        have l3 := a.length
        have l4 := a2.length
        exact add_listsI p1.isList p2.isList (ep_listL I (r1.append r2) (by rw [List.length_append]; omega) fun p hp => q p _ hp (a.append a2)) (by omega)
      · cases e
    | _ => cases e
  | _ => cases e
def mulLD : D → D → Option (List D)
  | .list xs, .int k => if (decide (-(2 ^ 63) ≤ k) && decide (k < 2 ^ 63) && decide (xs.length * k.toNat ≤ 2 ^ 24)) = true then some (List.replicate k.toNat xs).flatten else none
  | _, _ => none
theorem o_mulL : OpR X (binaryOp .Mult) (rOL2 X.K mulLD) := by
  intro pins s σ H x y v u Q I rx ry ⟨dx, dy, fx, fy, c, e, q⟩
  cases fx with
  | lst h a =>
    cases fy with
    | int k =>
      simp only [mulLD] at e
      split at e
      · rename_i hm
        simp only [Bool.and_eq_true, decide_eq_true_eq] at hm
        cases e
        cases rx
        obtain ⟨t, rfl⟩ := ry
        obtain ⟨its, r1, p1, _⟩ := I.list h.sq
        have l1 := r1.length
        have l3 := a.length
        refine mul_listI p1.isList hm.1.1 hm.1.2 (by rw [← l1, l3]; exact hm.2) (ep_listL I (r1.rep k.toNat) ?_ fun p hp => q p _ hp (a.rep k.toNat))
        rw [len_rep, l3, sizeLine_eq]
        exact hm.2
      · cases e
    | _ => cases e
  | _ => cases e
/-! ### x.index(y) -/
def idxOk : D → Bool
  | .list _ => true
  | .tuple xs => !(xs.all dKey)
  | _ => false
def itsD : D → List D
  | .list xs => xs
  | .tuple xs => xs
  | _ => []
def idxL (xs : List D) (y : D) : Option D := if inOk y xs = true then (xs.findIdx? fun z => PyData.eqv z y).map fun j => .int (j : Nat) else none
def eIdx (mo me : M D) : M D := bnd mo fun x => if idxOk x = true then bnd me fun y => lift (idxL (itsD x) y) else fun _ => .stuck
theorem idx_at {its : List Value} {ds : List D} {as : List Addr} {h : Heap} {d : D} {j : Nat} (rs : ReadsAll h its ds as) (hp : PyData.plainAll ds = true) (ej : ds.findIdx? (fun z => PyData.eqv z d) = some j) :
    ∃ hj : j < its.toArray.size, PyData.eqv (SeqAt.readOf h its.toArray[j]) d = true ∧ ∀ m (hm : m < its.toArray.size), m < j → PyData.eqv (SeqAt.readOf h its.toArray[m]) d = false := by
  have hmap : its.map (SeqAt.readOf h) = ds := SeqAt.readsAll_map_plain ds its as hp rs
  have hn : its.length = ds.length := SeqAt.ReadsAll.length ds its as rs
  obtain ⟨hj, h1, h2⟩ := List.findIdx?_eq_some_iff_getElem.mp ej
  subst hmap
  simp only [List.getElem_map] at h1 h2
  have hj' : j < its.toArray.size := by simpa using hj
  refine ⟨hj', by simpa using h1, fun m hm hlt => ?_⟩
  have := h2 m hlt
  simpa using this
theorem pe_idx {o e : Expr} {apos cpos : Pos} {mo me : M D} (hu : X.A.units + 64 < cLine) (ho : RE X W o mo) (he : RE X W e me)
    (hbase : attributeBase o "index" X.env (eval o X.env) = eval o X.env := by rfl)
    (hfew : ((backTo cpos (starEach [e] X.env)).all (fun x => !x.1) && (backToKw cpos (keywordEach [] X.env)).all (fun x => x.1.isSome)
      && decide ([e].length + ([] : List Keyword).length + (if ([] : List Keyword).isEmpty then 0 else 1) < 30)) = true := by rfl)
    (hline : (apos.endLine == cpos.line) = true := by rfl) (hs : starEach [e] X.env = (false, eval e X.env) :: starEach [] X.env := by rfl) (hplain : (backTo cpos (starEach [] X.env)).any (·.1) = false := by rfl) :
    RE X W (.Call (.Attribute o "index" apos) [e] [] cpos) (eIdx mo me) := by
  refine ⟨fun pins s σ H Q I h => ?_⟩
  have h' := tG_bind (rep1 := Fz X.K) h
  refine wpAny_Call_method_late hbase hfew hline rfl (thn (ho.run pins s σ H _ I h') fun v s1 ⟨x, H1, I1, r1, dx, fx, q⟩ => ?_)
  by_cases hk : idxOk dx = true
  · rw [if_pos hk] at q
    have q' := tG_bind (rep1 := Fz X.K) q
    have fin : ∀ {T id : String} (pa : PlainAttrs T) (slot : Slot T "index" id) (hty : typeOf (.builtin id) = pure (.type "method_descriptor")), s1.TypeIs v T → (∀ a, v = .ref a → ∃ ob, s1.heap.get? a = some ob ∧ ob.dict = none) →
        (∀ (s2 : Shared) (u : Value) (y : D) (H2 : Hp) (uv : V), Inv X pins σ H2 s2 → RelV uv u → Fz X.K H2 uv y → Fz X.K H2 x dx → (∃ c, idxL (itsD dx) y = some c ∧ ∀ b H', Same H2 H' → Fz X.K H' b c → Q b H') → wpAny (model X.prog X.w) X.A (call (.builtin id) [v, u]) (EP X pins σ Q) X.xe s2) →
        MethodOn X.prog X.w X.A "index" cpos v (backTo cpos (starEach [e] X.env)) (EP X pins σ Q) X.xe s1 := by
      intro T id pa slot hty t1 t2 hc
      refine ⟨T, id, pa, slot, hty, t1, t2, ?_⟩
      have hA := (pa_cons he pa_nil hs).run cpos pins s1 σ H1 _ I1 (show tCons _ _ σ H1 (fun vs H2 => ∃ u y, vs = [u] ∧ Fz X.K H2 u y ∧ Pers H1 H2 ∧ tD X.K W (lift (idxL (itsD dx) y)) σ H2 Q) from tG_mono q' fun u H2 pe ⟨y, fy, q2⟩ => ⟨u, y, rfl, fy, pe, q2⟩)
      rw [hs] at hA ⊢
      refine Calls.callWith_builtin (by show (false || (backTo cpos (starEach [] X.env)).any (·.1)) = false; rw [hplain] <;> rfl) (Calls.evalArgs_plain ?_)
      refine thn hA fun us s2 ⟨vs, H2, I2, r2, uv, y, ev, fy, pe, q2⟩ => ?_
      subst ev
      obtain ⟨u, rfl, ru⟩ := r2.one
      exact hc s2 u y H2 uv I2 ru fy (fx.pers pe) (tG_lift q2)
    cases fx with
    | lst h0 a0 =>
      rename_i aL xs ds
      cases r1
      obtain ⟨t1, t2⟩ := tyV_is (T := "list") I1 (show RelV (.ref aL) (.ref aL) from rfl) (.inl ⟨rfl, _, h0.sq⟩)
      refine fin PySem.F.plainAttrs_list PySem.F.slot_list_index PySem.F.type_list_index t1 t2 fun s2 u y H2 uv I2 ru fy fx2 ⟨c, ec, q2⟩ => ?_
      unfold idxL at ec
      split at ec
      · rename_i hm
        simp only [inOk, Bool.and_eq_true, decide_eq_true_eq] at hm
        cases ej : ds.findIdx? (fun z => PyData.eqv z y) with
        | none => rw [show itsD (PyData.list ds) = ds from rfl, ej] at ec; cases ec
        | some j =>
          rw [show itsD (PyData.list ds) = ds from rfl, ej] at ec
          cases ec
          obtain ⟨bs, rb⟩ := reads_of I2 ru fy hm.1
          cases fx2 with
          | lst h2 a2 =>
            obtain ⟨its, rv, ⟨⟨cls, dd, data, sls⟩, n, hob, hcl, hdn, hdt⟩, hlen⟩ := I2.list h2.sq
            simp only at hcl hdt
            subst hcl hdt
            obtain ⟨as, h4⟩ := readsAll_of I2 rv a2 hm.2.1
            obtain ⟨hj, e1, e2⟩ := idx_at h4 hm.2.1 ej
            have l1 := rv.length
            have hsl := sizeLine_eq
            refine call_meets PySem.F.slot_list_index ⟨_, hob, rfl⟩ PySem.F.entry_list_index (PySem.F.args_list_index_2 _ _)
              (SeqAt.list_indexAt aL its.toArray n dd sls u (fun v => PyData.eqv (SeqAt.readOf s2.heap v) y) j hj (by rw [List.size_toArray] at hj; omega) e1 e2)
              ⟨hob, SeqAt.items_plain (vs := its.toArray) (show ReadsAll s2.heap its.toArray.toList ds as from h4) rb hm.2.1 hm.1 (Nat.lt_of_le_of_lt (Nat.add_le_add_left (Nat.min_le_right _ _) _) (by omega)), ?_⟩
            exact ⟨.int (j : Nat), H2, I2.tok _, ⟨_, rfl⟩, q2 _ _ (Same.refl _) (.int _)⟩
      · cases ec
    | tup h0 a0 =>
      rename_i aL xs ds
      cases r1
      have hkk : xs.all vKey = false := by
        rw [key_all a0]
        simpa [idxOk] using hk
      obtain ⟨ob, od, eo⟩ := h0.exact hkk
      have ox := I1.hok aL _ eo
      obtain ⟨its0, r0, p0, _⟩ := I1.tuple h0.sq
      refine fin PySem.F.plainAttrs_tuple PySem.F.slot_tuple_index PySem.F.type_tuple_index p0.typeIs (fun a ea => ⟨ob, ?_, od⟩) fun s2 u y H2 uv I2 ru fy fx2 ⟨c, ec, q2⟩ => ?_
      · cases ea
        exact ox.1
      unfold idxL at ec
      split at ec
      · rename_i hm
        simp only [inOk, Bool.and_eq_true, decide_eq_true_eq] at hm
        cases ej : ds.findIdx? (fun z => PyData.eqv z y) with
        | none => rw [show itsD (PyData.tuple ds) = ds from rfl, ej] at ec; cases ec
        | some j =>
          rw [show itsD (PyData.tuple ds) = ds from rfl, ej] at ec
          cases ec
          obtain ⟨bs, rb⟩ := reads_of I2 ru fy hm.1
          cases fx2 with
          | tup h2 a2 =>
            obtain ⟨its, rv, ⟨⟨cls, dd, data, sls⟩, hob, hcl, n, hdt⟩, hlen⟩ := I2.tuple h2.sq
            simp only at hcl hdt
            subst hcl hdt
            obtain ⟨as, h4⟩ := readsAll_of I2 rv a2 hm.2.1
            obtain ⟨hj, e1, e2⟩ := idx_at h4 hm.2.1 ej
            refine call_meets PySem.F.slot_tuple_index ⟨_, hob, rfl⟩ PySem.F.entry_tuple_index (PySem.F.args_tuple_index_2 _ _)
              (TI.tuple_indexAt aL its.toArray n dd sls u (fun v => PyData.eqv (SeqAt.readOf s2.heap v) y) j hj e1 e2)
              ⟨hob, SeqAt.items_plain (vs := its.toArray) (show ReadsAll s2.heap its.toArray.toList ds as from h4) rb hm.2.1 hm.1 (Nat.lt_of_le_of_lt (Nat.add_le_add_left (Nat.min_le_right _ _) _) (by omega)), ?_⟩
            exact ⟨.int (j : Nat), H2, I2.tok _, ⟨_, rfl⟩, q2 _ _ (Same.refl _) (.int _)⟩
      · cases ec
    | _ => cases hk
  · rw [if_neg hk] at q
    obtain ⟨_, _, _, _, q⟩ := q
    exact q.elim
end
end PP

namespace PP
open PySem PySem.Spec L2
open PyProof.Rows hiding St
section
variable {X : Cx} {W : WX} {pins : List (Addr × Obj)} {σ : St} {H : Hp} {s : Shared} {Q : VK} {e a b : Expr} {pos : Pos} {ma mb : M D}
/-! ### is, is not -/
def isE : D → D → Option D
  | x, .none => some (.bool (isNo x))
  | .bool a, .bool b => some (.bool (a == b))
  | _, _ => none
def nisE : D → D → Option D
  | x, .none => some (.bool (!isNo x))
  | .bool a, .bool b => some (.bool (!(a == b)))
  | _, _ => none
theorem isNo_fz {K : PySem.W.Frag} {v : V} {x : D} (f : Fz K H v x) : decide (v = .non) = isNo x := by cases f <;> rfl
theorem dec_beq (a b : Bool) : decide (a = b) = (a == b) := by cases a <;> cases b <;> rfl
theorem o_is : OpR X (compareOp .Is) (rO2 X.K isE) := by
  intro pins s σ H x y v u Q I rx ry ⟨dx, dy, fx, fy, c, e, q⟩
  cases fy with
  | non =>
    have e' : some (PyData.bool (isNo dx)) = some c := by cases dx <;> exact e
    cases e'
    exact op_isN pins s σ H _ _ v u Q I rx ry ⟨rfl, by rw [isNo_fz fx]; exact q _ _ (Same.refl _) (.bl _)⟩
  | bl k =>
    cases fx with
    | bl j =>
      cases e
      exact op_isBl pins s σ H _ _ v u Q I rx ry ⟨j, k, rfl, rfl, by rw [dec_beq]; exact q _ _ (Same.refl _) (.bl _)⟩
    | _ => cases e
  | _ => cases dx <;> cases e
theorem o_isnot : OpR X (compareOp .IsNot) (rO2 X.K nisE) := by
  intro pins s σ H x y v u Q I rx ry ⟨dx, dy, fx, fy, c, e, q⟩
  cases fy with
  | non =>
    have e' : some (PyData.bool (!isNo dx)) = some c := by cases dx <;> exact e
    cases e'
    exact op_notN pins s σ H _ _ v u Q I rx ry ⟨rfl, by rw [isNo_fz fx]; exact q _ _ (Same.refl _) (.bl _)⟩
  | bl k =>
    cases fx with
    | bl j =>
      cases e
      exact op_notBl pins s σ H _ _ v u Q I rx ry ⟨j, k, rfl, rfl, by rw [dec_beq]; exact q _ _ (Same.refl _) (.bl _)⟩
    | _ => cases e
  | _ => cases dx <;> cases e
/-! ### x.extend(new list) -/
def repL (K : PySem.W.Frag) (H : Hp) (v : V) (ys : List D) : Prop := ∃ p vs, v = .ref p ∧ H p = some (.lst vs) ∧ FzAll K H vs ys
theorem tL_ofG {K : PySem.W.Frag} {m : M (List D)} {σ : St} {H : Hp} {Q : VK} (h : tG (repL K) K W m σ H Q) : tL K W m σ H Q := by
  obtain ⟨g, R, s, n, h⟩ := h
  refine ⟨g, R, s, n, ?_⟩
  cases e : m g with
  | stuck => rw [e] at h; exact h
  | exc c g' => rw [e] at h; exact h
  | ok ys g' =>
    rw [e] at h
    intro p vs H' ⟨bk, hp, fa, R', s', n', e', w'⟩
    exact h _ H' ⟨bk, R', s', (List.nodup_cons.mp n').2, e', fun a ha => w' a (List.mem_cons_of_mem _ ha)⟩ ⟨p, vs, rfl, hp, fa⟩
def fExt (xs ys : List D) : Option (D × List D) := if xs.length + ys.length ≤ sizeLine then some (.none, xs ++ ys) else none
def eExt (i : Nat) (m : M (List D)) : M D := onL i m fExt
theorem r_ext {x : Str} {i : Nat} {m : M (List D)} {np apos cpos : Pos} (he : RL X W e m) (hN : X.N[i]? = some x := by rfl) (hv : Vis X.env.scope x := by first | exact Or.inl rfl | exact Or.inr (Or.inl rfl) | exact Or.inr (Or.inr rfl)) (hd : (x == ("__debug__" : Str)) = false := by decide)
    (hcd : (x == ("__classdict__" : Str)) = false := by decide) (hbase : attributeBase (.Name x np) "extend" X.env (eval (.Name x np) X.env) = eval (.Name x np) X.env := by rfl)
    (hfew : ((backTo cpos (starEach [e] X.env)).all (fun x => !x.1) && (backToKw cpos (keywordEach [] X.env)).all (fun x => x.1.isSome)
      && decide ([e].length + ([] : List Keyword).length + (if ([] : List Keyword).isEmpty then 0 else 1) < 30)) = true := by rfl)
    (hline : (apos.endLine == cpos.line) = true := by rfl) (hs : starEach [e] X.env = (false, eval e X.env) :: starEach [] X.env := by rfl) (hplain : (backTo cpos (starEach [] X.env)).any (·.1) = false := by rfl) :
    RE X W (.Call (.Attribute (.Name x np) "extend" apos) [e] [] cpos) (eExt i m) :=
  PE.imp (pe_bm PySem.F.plainAttrs_list PySem.F.slot_list_extend PySem.F.type_list_extend mt_extend (pe_var hN hv hd hcd) (pa_cons he pa_nil hs) hbase hfew hline hs hplain) fun σ H Q h => by
    obtain ⟨p, vs, h1, h2, q⟩ := onL_of (rep := repL X.K) h
    refine ⟨.ref p, h1, .inl ⟨rfl, _, SqL.of h2⟩, tL_ofG (tG_mono q fun u H1 _ ⟨vs1, xs, x, y, ys, q1, q2, ⟨b, zv, eb, hb, fb⟩, q4, q5⟩ => ?_)⟩
    unfold fExt at q4
    split at q4
    · rename_i hl
      cases q4
      subst eb
      exact ⟨p, b, vs1, zv, rfl, rfl, q1, hb, by rw [q2.length, fb.length]; exact hl, q5 _ _ (q2.append fb) fun _ => .non⟩
    · cases q4
/-! ### x[k] op= e, x a list of one's own -/
def rGetL : V → V → Hp → VK → Prop := fun o i H Q => ∃ p xs k v, o = .ref p ∧ i = .int k ∧ H p = some (.lst xs) ∧ atI xs k = some v ∧ Q v H
theorem get_list : PGet X rGetL := by
  intro pins s σ H o i ov iv Q I ro ri ⟨p, xs, k, z, eo, ei, hp, he, q⟩
  subst eo
  subst ei
  cases ro
  obtain ⟨t, rfl⟩ := ri
  obtain ⟨its, r, pl, hz⟩ := I.list (SqL.of hp)
  obtain ⟨j, h1, h2, h3, h4, h5⟩ := atI_get he
  obtain ⟨w, ew, rw'⟩ := r.get h2
  have hl := r.length
  have hn := line63
  by_cases h0 : 0 ≤ k
  · have hj : k.toNat = j := by
      rw [seqIndex_of h0 h5] at h1
      exact Option.some.inj h1
    exact wpAny_getItem_list pl.isList h0 (by omega) (by rw [hj]; simpa using ew) ⟨z, H, I, rw', q⟩
  · have hj : (k + (its.toArray.size : Int)).toNat = j := by
      rw [seqIndex_neg (by omega) h4] at h1
      rw [List.size_toArray, ← hl]
      exact Option.some.inj h1
    exact wpAny_getItem_list_neg pl.isList (by omega) (by rw [List.size_toArray] <;> omega) (by omega) (by rw [hj]; simpa using ew) ⟨z, H, I, rw', q⟩
def fIdxP (xs : List D) (k : D) : Option ((D × D) × List D) := match k with
  | .int j => (atI xs j).map fun y => ((.int j, y), xs)
  | _ => none
def augK (i : Nat) (k z : D) : M Fl := bnd (onL i (eC k) (fSetI z)) fun _ g => .ok .nx g
def sAugI (i : Nat) (f : D → D → Option D) (mk me : M D) : M Fl := bnd (onL i mk fIdxP) fun kx => bnd me fun y => bnd (lift (f kx.2 y)) fun z => augK i kx.1 z
theorem r_augI {x : Str} {i : Nat} {ek : Expr} {op : Operator} {f : D → D → Option D} {mk me : M D} {np tpos : Pos} (ho : OpR X (inplaceOp op) (rO2 X.K f)) (hk : RE X W ek mk) (he : RE X W e me) (hN : X.N[i]? = some x := by rfl) (hv : Vis X.env.scope x := by first | exact Or.inl rfl | exact Or.inr (Or.inl rfl) | exact Or.inr (Or.inr rfl)) (hd : (x == ("__debug__" : Str)) = false := by decide)
    (hcd : (x == ("__classdict__" : Str)) = false := by decide) (ha : ∀ ov iv new, augStore ek ov iv new = (do holding [new, ov, iv] (setItem ov iv new); release [new, ov, iv] []; pure .next) := by intros; rfl) :
    RS X W (.AugAssign (.Subscript (.Name x np) ek tpos) op e pos) (sAugI i f mk me) :=
  PS.imp (ps_augS (pe_var hN hv hd hcd) hk get_list he (show PIp X op (rO2 X.K f) from ho) set_list ha) fun D σ H h => by
    obtain ⟨p, vs, h1, h2, q⟩ := onL_of (rep := Fz X.K) (tS_bind (rep := fun H (d : V × V) (a : PyData × PyData) => Fz X.K H d.1 a.1 ∧ Fz X.K H d.2 a.2) h)
    refine ⟨.ref p, h1, tG_mono q fun u H1 _ ⟨vs1, xs, k, y, ys, q1, q2, q3, q4, q5⟩ => ?_⟩
    unfold fIdxP at q4
    cases q3 with
    | int j =>
      dsimp only at q4
      cases ea : atI xs j with
      | none => rw [ea] at q4; cases q4
      | some z =>
        rw [ea] at q4
        cases q4
        obtain ⟨v, e1, fv⟩ := atI_fz q2 ea
        have := q5 vs1 (.int j, v) q2 fun pe => ⟨.int j, fv.pers pe⟩
        rw [upd_self q1] at this
        obtain ⟨kx, ⟨f1, f2⟩, q6⟩ := this
        refine ⟨p, vs1, j, v, rfl, rfl, q1, e1, tG_mono (tS_bind (rep := Fz X.K) q6) fun w H2 pe ⟨yw, fw, q7⟩ => ?_⟩
        have q8 := tS_bind (rep := Fz X.K) q7
        obtain ⟨c, ec, q9⟩ := tG_lift q8
        refine ⟨kx.2, yw, f2.pers pe, fw, c, ec, fun zb H3 sm fz => ?_⟩
        obtain ⟨z', fz', q10⟩ := q9 zb H3 sm fz
        obtain ⟨p', vs', h1', h2', q11⟩ := onL_of (rep := Fz X.K) (tS_bind (rep := Fz X.K) q10)
        rw [h1] at h1'
        cases h1'
        have q12 := tG_ret (b := V.int j) q11 (f1.pers (pe.trans (.of_same sm)))
        obtain ⟨vs3, xs3, k3, y3, ys3, r1, r2, r3, r4, r5⟩ := q12
        cases r3
        unfold fSetI at r4
        dsimp only at r4
        cases ei : ixN xs3.length j with
        | none => rw [ei] at r4; cases r4
        | some jj =>
          rw [ei] at r4
          cases r4
          obtain ⟨_, _, q13⟩ := r5 (vs3.set jj zb) .non (r2.set fz' jj) fun _ => .non
          exact ⟨p, vs3, j, jj, rfl, rfl, r1, by rw [r2.length]; exact ei, tS_ok q13⟩
    | _ => cases q4
end
end PP

namespace PP
open PySem PySem.Spec L2
open PyProof.Rows hiding St
/-! ### {k: v for ..} whose keys are tuples of ints -/
theorem dictSetT {X : Cx} {pins : List (Addr × Obj)} {σ : St} {H : Hp} {s : Shared} {E : Value → Shared → Prop} {D b : Addr} {kvs : List (List Key × V)} {k : List Key} {v : V} {r : Value} {Q : Unit → Shared → Prop} (hu : X.A.units < cLine) (I : Inv X pins σ H s) (hD : H D = some (.dT kvs)) (hz : kvs.length < sizeLine)
    (eb : H b = some (.tup (k.map kV))) (rv : RelV v r) (h : ∀ s', Inv X pins σ (L2.upd H D (.dT (putK kvs k v))) s' → Q () s') : wpAny (model X.prog X.w) X.A (dictSet D (.ref b) r) Q E s := by
  obtain ⟨z, hd, xs, rel, dd⟩ := dt_of I.hok hD
  have hx : xs.length ≤ sizeLine := by rw [← Paired.length rel]; exact z
  have hp : (putK kvs k v).length ≤ sizeLine := by have := length_putK kvs k v; omega
  refine wpAny_dictSet_heap (hsz := hx) (knd := tupleKind (mixKind X.prog X.w)) hu (key_of I.hok eb) dd fun h1 d1 sb => h _ ?_
  obtain ⟨q, es, ep, hq, h2, h3, h4, _, h5⟩ := d1
  refine d_write I (by rw [hD]; trivial) sb ⟨q, hq⟩ ⟨hp, hd, _, (rel.put k eb rv).keeps fun c ys ec => ?_, q, es, ep, hq, h2, h3, h4, h5⟩
  rw [upd_ne (ne_of ec hD (fun z => nomatch z))]
  exact ec
section
variable {X : Cx}
def tDcT (wi : TI) (g : TG) (tt : TT) (tk tv : TE) (vs : List Nat) : TE := fun σ H Q => wi σ H fun J H1 => ∀ Dd, H1 Dd = none → ∃ W : Nat → Nat → Hp → Prop, (∃ m, W 0 m (L2.upd H1 Dd (.dT []))) ∧ ∀ i m Hi, W i m Hi →
  (J.stop i Hi ∧ Q (.ref Dd) Hi) ∨ (J.go i Hi ∧ ∃ Nx : Hp → Prop, (∀ Hn, Nx Hn → ∃ m', m' < m ∧ W (i + 1) m' Hn) ∧ ∀ x Hx, J.yld i Hi x Hx → g x (L2.wipe σ vs) Hx fun σ2 H2 => L2.wipe σ2 vs = L2.wipe σ vs ∧ tt σ2 H2 fun b H3 =>
    if b = true then tk σ2 H3 fun y H4 => tv σ2 H4 fun z H5 => ∃ kvs k bk, y = .ref bk ∧ H5 bk = some (.tup (k.map kV)) ∧ H5 Dd = some (.dT kvs) ∧ kvs.length < sizeLine ∧ Nx (L2.upd H5 Dd (.dT (putK kvs k z))) else Nx H3)
set_option maxHeartbeats 2000000 in
theorem pe_dcT {kx vx tg iter : Expr} {ifs : List Expr} {scope : Scope} {own : List (Str × Nat)} {pos : Pos} {wi : TI} {g : TG} {tt : TT} {tk tv : TE} (hu : X.A.units < cLine) (hc : X.calm = true) (hN : X.N.Nodup) (hi : PI X tg iter wi) (ok : BlkOk X.N X.env.scope scope own)
    (hg : ∀ (s : Shared) (H : Hp) (C : Addr) (cl : List (Str × Addr)) (fp : List Addr), PG (X.blk s H scope (compEnvC scope cl C X.env) fp) tg g)
    (ht : ∀ (s : Shared) (H : Hp) (C : Addr) (cl : List (Str × Addr)) (fp : List Addr), PTs (X.blk s H scope (compEnvC scope cl C X.env) fp) ifs tt)
    (hkk : ∀ (s : Shared) (H : Hp) (C : Addr) (cl : List (Str × Addr)) (fp : List Addr), PE (X.blk s H scope (compEnvC scope cl C X.env) fp) kx tk)
    (hvv : ∀ (s : Shared) (H : Hp) (C : Addr) (cl : List (Str × Addr)) (fp : List Addr), PE (X.blk s H scope (compEnvC scope cl C X.env) fp) vx tv) (hs : ∀ x, foldedSetIterable iter X.env x = pure x := by intro _; rfl) :
    PE X (.DictComp kx vx [⟨tg, iter, ifs, 0⟩] scope pos) (tDcT wi g tt tk tv (own.map (·.2))) := by
  refine ⟨fun pins s σ H Q I hh => ?_⟩
  rw [arm_eval_DictComp]
  have cellsOk : ∀ y ∈ scope.names, y.2 = .free → ∃ c, X.env.cells.lookup y.1 = some c := fun y hy e => (ok.free y hy e).elim (fun k => I.ok.has _ (.inl k)) (fun k => I.ok.has _ (.inr k))
  refine wpAny_comprehension_free (use := none) rfl hs (closure_ok cellsOk) ok.kind (fun y hy e => by rw [ok.uniq y hy, e]) (thn (hi.run pins s σ H _ I hh) fun xv s1 hx => thn hx fun itv s2 ⟨it, fp, tn, J, HA, eit, IA, T, stA, fA, q⟩ => ?_)
  subst eit
  refine wpAny_newObj_type (newEnv_comp ?_)
  generalize hDd : s2.heap.objs.size = Dd
  obtain ⟨W, ⟨mm, w0⟩, turn⟩ := q Dd (IA.hok.fresh (Nat.le_of_eq hDd))
  generalize hsB : ({ s2 with heap := s2.heap.push { cls := .type "dict", data := .dict #[] } } : Shared) = sB
  have IB : Inv X pins σ (L2.upd HA Dd (.dT [])) sB := by
    rw [← hsB]
    refine IA.laid (t' := s2.toks) (fun _ _ e => Heap.get?_push_of_some _ e) (Nat.le_of_eq hDd) ?_
    rw [← hDd]
    exact dt_empty s2.heap IA.big
  have hB : sB.heap = s2.heap.push { cls := .type "dict", data := .dict #[] } := by rw [← hsB]
  have fB : ∀ b ∈ fp, FpOk X pins (L2.upd HA Dd (.dT [])) b ∧ b < sB.heap.objs.size := fun b hb => by
    obtain ⟨o, eo, _⟩ := T.obj _ _ stA b hb
    have hlt := Heap.lt_size eo
    refine ⟨⟨?_, (fA b hb).2⟩, by rw [hB, Heap.size_push]; exact Nat.lt_succ_of_lt hlt⟩
    rw [upd_ne (by rw [← hDd]; exact Nat.ne_of_lt hlt)]
    exact (fA b hb).1
  have stB : tn 0 sB.heap := T.keep _ _ _ stA fun b _ o e => by rw [hB]; exact Heap.get?_push_of_some _ e
  have IC := block_start IB ok hN fB
  have rg := hg sB (L2.upd HA Dd (.dT [])) sB.heap.objs.size (cellsFrom (sB.heap.objs.size + 1) scope.names (cloFrom X.env.cells scope.names [])) fp
  have rt := ht sB (L2.upd HA Dd (.dT [])) sB.heap.objs.size (cellsFrom (sB.heap.objs.size + 1) scope.names (cloFrom X.env.cells scope.names [])) fp
  have rk := hkk sB (L2.upd HA Dd (.dT [])) sB.heap.objs.size (cellsFrom (sB.heap.objs.size + 1) scope.names (cloFrom X.env.cells scope.names [])) fp
  have rv := hvv sB (L2.upd HA Dd (.dT [])) sB.heap.objs.size (cellsFrom (sB.heap.objs.size + 1) scope.names (cloFrom X.env.cells scope.names [])) fp
  show codeAny _ _ (.compStart (.DictComp kx vx [⟨tg, iter, ifs, 0⟩] scope pos) 0 (.ref it) (.ref Dd) (compEnvC scope (cellsFrom (sB.heap.objs.size + 1) scope.names (cloFrom X.env.cells scope.names [])) sB.heap.objs.size X.env)) (compPost (model X.prog X.w) X.A X.xe none (EP X pins σ Q) (.ref Dd) sB.heap.objs.size) { sB with heap := pushCells (sB.heap.push { cls := .type "dict", data := .dict #[] }) scope.names }
  have none0 : ∀ b ∈ fp, (L2.upd HA Dd (.dT [])) b = none := fun b hb => (fB b hb).1.1
  generalize hce : compEnvC scope (cellsFrom (sB.heap.objs.size + 1) scope.names (cloFrom X.env.cells scope.names [])) sB.heap.objs.size X.env = ce at IC rg rt rk rv ⊢
  have locE : ce.locals = sB.heap.objs.size := by subst hce; rfl
  generalize hHB : L2.upd HA Dd (.dT []) = HB at IB IC rg rt rk rv w0 none0 fB
  generalize hsC : ({ sB with heap := pushCells (sB.heap.push { cls := .type "dict", data := .dict #[] }) scope.names } : Shared) = sC at IC ⊢
  have stC : tn 0 sC.heap := T.keep _ _ _ stB fun b _ o e => by rw [← hsC]; exact pushCells_keeps _ _ _ _ (Heap.get?_push_of_some _ e)
  have pinned : ∀ {σ' : St} {H' : Hp} {s' : Shared}, Inv (X.blk sB HB scope ce fp) [] σ' H' s' → (∀ b ∈ fp, H' b = none) → ∀ b ∈ fp, FpOk (X.blk sB HB scope ce fp) [] H' b := fun {_ _ _} I' hn b hb =>
    ⟨hn b hb, (I'.ok.exf b hb).1, I'.ok.exfs b hb, .inl hb, fun x c e => (I'.ok.exf b hb).2 x c e, fun p hp => absurd (show p ∈ ([] : List (Addr × Obj)) ++ [] from hp) (by simp)⟩
  have lp : codeAny (model X.prog X.w) X.A (.compLoop (.DictComp kx vx [⟨tg, iter, ifs, 0⟩] scope pos) 0 (.ref it) (.ref Dd) ce) (compPost (model X.prog X.w) X.A X.xe none (EP X pins σ Q) (.ref Dd) sB.heap.objs.size) sC := by
    refine compLoop_anyD (fun n s' => ∃ i H', Inv (X.blk sB HB scope ce fp) [] (L2.wipe σ (own.map (·.2))) H' s' ∧ tn i s'.heap ∧ (∀ b ∈ fp, H' b = none) ∧ W i n H') ?_ mm ⟨0, HB, IC, stC, none0, w0⟩
    rintro n sa ⟨i, Ha, Ia, sta, na, wa⟩
    rcases turn i n Ha wa with ⟨stop, qq⟩ | ⟨go, Nx, hNx, step⟩
    · refine thnF (T.done (X.blk sB HB scope ce fp) rfl rfl rfl hc i [] sa _ Ha (fun _ _ => False) Ia (pinned Ia na) sta stop) fun r sb ⟨hr, Ib⟩ => ?_
      subst hr
      have Ic : Inv X pins σ Ha sb := IB.call' (ch := fp) Ib.os Ib.base Ib.hok Ib.bare fun b hb => ⟨(fB b hb).1.2.2.2.1, (fB b hb).1.2.1, (fB b hb).1.2.2.2.2.1, (fB b hb).1.2.2.2.2.2⟩
      have nC : Ha sB.heap.objs.size = none := by rw [← locE]; exact Ib.free
      obtain ⟨m, hn, _⟩ := Ib.loc
      have hn : sb.heap.Ns ce.locals m := hn
      rw [locE] at hn
      obtain ⟨f0, f1, f2, f3, f4, f5⟩ := IB.fpOk (Nat.le_refl _) nC
      exact ⟨m, hn, fun h'' same => ⟨.ref Dd, Ha, Ic.turned (t' := sb.toks) (fun b o hb e => (same.2 b hb).trans e) f0 f1 f3 f4 f5, rfl, qq⟩⟩
    · refine thnF (T.item (X.blk sB HB scope ce fp) rfl rfl rfl hc i [] sa _ Ha (fun _ _ => False) Ia (pinned Ia na) sta go) fun r sb ⟨u, hr, hsb⟩ => ?_
      subst hr
      refine thnF hsb fun _ sc ⟨x, Hc, Ic, rc, yc, stc, nc⟩ => ?_
      refine thnF (rg.run _ sc _ Hc x u _ (Ic.pinned (pinned Ic nc) (T.obj _ _ stc)) rc (step x Hc yc)) fun _ sd ⟨σd, Hd, Id, hwd, qd⟩ => ?_
      refine thnF (rt.run _ sd σd Hd _ Id qd) fun bb se ⟨He, Ie, qe⟩ => ?_
      have fin : ∀ {s' : Shared} {H' : Hp}, Inv (X.blk sB HB scope ce fp) ([] ++ pinsAt fp sc.heap) σd H' s' → Nx H' → ∃ m, m < n ∧ ∃ i H', Inv (X.blk sB HB scope ce fp) [] (L2.wipe σ (own.map (·.2))) H' s' ∧ tn i s'.heap ∧ (∀ b ∈ fp, H' b = none) ∧ W i m H' := fun {s' H'} I' nx => by
        obtain ⟨m', hm, w'⟩ := hNx H' nx
        have kept : ∀ b ∈ fp, ∀ o, sc.heap.get? b = some o → s'.heap.get? b = some o ∧ H' b = none := fun b hb o e =>
          let z := I'.pin (b, o) (List.mem_append_right _ (List.mem_append_right _ (mem_pinsAt hb e)))
          ⟨z.1, z.2.1⟩
        refine ⟨m', hm, i + 1, H', (I'.unpinned (pins := [])).weak (by rw [← hwd, wipe_length]) (fun j v e => ?_), T.keep _ _ _ stc fun b hb o e => (kept b hb o e).1, fun b hb => ?_, w'⟩
        · rw [← hwd] at e
          exact (wipe_some e).1
        · obtain ⟨o, e, _⟩ := T.obj _ _ stc b hb
          exact (kept b hb o e).2
      cases bb with
      | false =>
        simp only [Bool.false_eq_true, if_false] at qe ⊢
        exact fin Ie qe
      | true =>
        simp only [if_true] at qe ⊢
        refine thnF (rk.run _ se σd He _ Ie qe) fun z1 sf ⟨yk, Hf, If', rf, qf⟩ => ?_
        refine thnF (rv.run _ sf σd Hf _ If' qf) fun z2 sg ⟨yv, Hg, Ig, rgv, kvs, k, bk, ek, hbk, hDg, hzg, nx⟩ => ?_
        subst ek
        cases rf
        exact dictSetT (X := X.blk sB HB scope ce fp) hu Ig hDg hzg hbk rgv fun sh Ih => fin Ih nx
  exact codeAny_compStart_dict lp (T.self X.A 0 _ _ _ stC lp)
end
end PP

namespace PP
open PySem PySem.Spec L2
open PyProof.Rows hiding St
/-! ### dicts of one's own, keys tuples of ints -/
inductive DKT (K : PySem.W.Frag) (H : Hp) : List (List Key × V) → List (D × D) → Prop
  | nil : DKT K H [] []
  | cons {k : List Key} {v : V} {d : D} {vs : List (List Key × V)} {ds : List (D × D)} : Fz K H v d → DKT K H vs ds → DKT K H ((k, v) :: vs) ((.tuple (k.map kD), d) :: ds)
def putT (kvs : List (D × D)) (ks : List Key) (y : D) : List (D × D) :=
  if (kvs.any fun p => decide (tkD p.1 = some ks)) = true then kvs.map (fun p => if tkD p.1 = some ks then (p.1, y) else p) else kvs ++ [(.tuple (ks.map kD), y)]
section
variable {K : PySem.W.Frag} {H H' : Hp}
theorem DKT.pers {vs : List (List Key × V)} {ds : List (D × D)} (h : DKT K H vs ds) (p : Pers H H') : DKT K H' vs ds := by
  induction h with
  | nil => exact .nil
  | cons f _ ih => exact .cons (f.pers p) ih
theorem DKT.append {vs ws : List (List Key × V)} {ds es : List (D × D)} (h : DKT K H vs ds) (h2 : DKT K H ws es) : DKT K H (vs ++ ws) (ds ++ es) := by
  induction h with
  | nil => exact h2
  | cons f _ ih => exact .cons f ih
theorem DKT.length {vs : List (List Key × V)} {ds : List (D × D)} (h : DKT K H vs ds) : vs.length = ds.length := by
  induction h with
  | nil => rfl
  | cons f _ ih => rw [List.length_cons, List.length_cons, ih]
theorem tk_tup (k : List Key) : tkD (.tuple (k.map kD)) = some k := keysD_map k
theorem tk_dec (k ks : List Key) : decide (tkD (.tuple (k.map kD)) = some ks) = decide (k = ks) := by
  rw [tk_tup]
  by_cases h : k = ks
  · rw [decide_eq_true h, decide_eq_true (by rw [h])]
  · rw [decide_eq_false h, decide_eq_false (fun z => h (Option.some.inj z))]
theorem DKT.any {ks : List Key} {vs : List (List Key × V)} {ds : List (D × D)} (h : DKT K H vs ds) : (vs.any fun kv => decide (kv.1 = ks)) = ds.any fun p => decide (tkD p.1 = some ks) := by
  induction h with
  | nil => rfl
  | cons f _ ih => rw [List.any_cons, List.any_cons, ih, tk_dec]
theorem DKT.put {ks : List Key} {v : V} {d : D} {vs : List (List Key × V)} {ds : List (D × D)} (h : DKT K H vs ds) (f : Fz K H v d) : DKT K H (putK vs ks v) (putT ds ks d) := by
  unfold putK putT
  rw [h.any]
  split
  · rename_i hh
    clear hh
    induction h with
    | nil => exact .nil
    | @cons k1 v1 d1 vs ds f1 _ ih =>
      rw [List.map_cons, List.map_cons]
      by_cases hk : k1 = ks
      · rw [if_pos hk, if_pos (by rw [tk_tup, hk])]
        exact .cons f ih
      · rw [if_neg hk, if_neg (by rw [tk_tup]; exact fun z => hk (Option.some.inj z))]
        exact .cons f1 ih
  · exact h.append (.cons f .nil)
theorem DKT.get {ks : List Key} {y : D} {vs : List (List Key × V)} {ds : List (D × D)} (h : DKT K H vs ds) : tGet ds ks = some y → ∃ v, valV vs ks = some v ∧ Fz K H v y := by
  induction h with
  | nil => intro e; simp [tGet] at e
  | @cons k1 v1 d1 vs ds f1 _ ih =>
    intro e
    unfold tGet at e
    rw [List.find?_cons, tk_dec] at e
    by_cases hk : k1 = ks
    · subst hk
      simp only [decide_true] at e
      cases e
      exact ⟨v1, valV_pos rfl, f1⟩
    · rw [decide_eq_false hk] at e
      obtain ⟨v, e1, e2⟩ := ih e
      exact ⟨v, by rw [valV_neg hk]; exact e1, e2⟩
theorem DKT.of {kvs : List (List Key × V)} : ∀ {ds : List D}, FzAll K H (kvs.map (·.2)) ds → DKT K H kvs ((kvs.map fun p => PyData.tuple (p.1.map kD)).zip ds) := by
  induction kvs with
  | nil => intro ds h; exact .nil
  | cons p r ih =>
    intro ds h
    cases h with
    | cons f fa => exact .cons f (ih fa)
theorem DKT.to {kvs : List (List Key × V)} {L : List (D × D)} (h : DKT K H kvs L) : ∃ ds, FzAll K H (kvs.map (·.2)) ds ∧ L = (kvs.map fun p => PyData.tuple (p.1.map kD)).zip ds := by
  induction h with
  | nil => exact ⟨[], .nil, rfl⟩
  | cons f _ ih =>
    obtain ⟨ds, h1, h2⟩ := ih
    exact ⟨_ :: ds, .cons f h1, by rw [List.map_cons, List.zip_cons_cons, h2]⟩
theorem TRep.toT {a : Addr} {b : Bool} {L : List (D × D)} {rt : List Addr} (h : TRep K H (.ref a) (.md b true L) rt) : ∃ kv, H a = some (.dT kv) ∧ DKT K H kv L := by
  cases h with
  | mt e f => exact ⟨_, e, .of f⟩
theorem TRep.ofT {a : Addr} {b : Bool} {kv : List (List Key × V)} {L : List (D × D)} (e : H a = some (.dT kv)) (h : DKT K H kv L) : TRep K H (.ref a) (.md b true L) [a] := by
  obtain ⟨ds, h1, rfl⟩ := h.to
  exact .mt e h1
/-- rewritten in place -/
theorem putT_go {g : Ga} {σ : St} {R : List Addr} {i : Nat} {b : Bool} {L : List (D × D)} (s : SRep K H σ g R) (n : R.Nodup) (e : g[i]? = some (some (.md b true L))) :
    ∃ p kv, σ[i]? = some (some (.ref p)) ∧ H p = some (.dT kv) ∧ DKT K H kv L ∧ ∀ (kv' : List (List Key × V)) (L' : List (D × D)), DKT K H kv' L' → Go K σ R H g (g.set i (some (.md b true L'))) (L2.upd H p (.dT kv')) ∧ Pers H (L2.upd H p (.dT kv')) := by
  obtain ⟨p, h1, h2, h4, h5⟩ := s.putG n e rfl
  obtain ⟨kv, hp, dk⟩ := h2.toT
  refine ⟨p, kv, h1, hp, dk, fun kv' L' fa => ?_⟩
  have pe : Pers H (L2.upd H p (.dT kv')) := fun c u hu hf => by
    rw [upd_ne]
    · exact hu
    · rintro rfl
      rw [hp] at hu
      cases hu
      cases hf
  obtain ⟨R', s', sb⟩ := h5 (L2.upd H p (.dT kv')) (.md b true L') [p] pe (fun c _ hc => upd_ne hc) (.ofT upd_same (fa.pers pe)) (List.Sublist.refl _)
  refine ⟨⟨fun j t ej bb => ?_, R', s', sb.nodup n, fun c u hu hc => ?_, fun c hc => .inl (sb.subset hc)⟩, pe⟩
  · by_cases hj : i = j
    · subst hj
      rw [e] at ej
      cases ej
      have hl : i < g.length := (List.getElem?_eq_some_iff.mp e).1
      exact ⟨_, List.getElem?_set_self hl, bb⟩
    · exact ⟨t, by rw [List.getElem?_set_ne hj]; exact ej, bb⟩
  · rw [upd_ne]
    · exact hu
    · rintro rfl
      exact hc h4
end
def isMt (g : Ga) (i : Nat) : Bool := match g[i]? with
  | some (some (.md _ true _)) => true
  | _ => false
theorem isMt_get {g : Ga} {i : Nat} (h : isMt g i = true) : ∃ b L, g[i]? = some (some (.md b true L)) := by
  unfold isMt at h
  split at h
  · rename_i b L e
    exact ⟨b, L, e⟩
  · cases h
def onT {α β : Type} (i : Nat) (m : M β) (f : List (D × D) → β → Option (α × List (D × D))) : M α := fun g => if isMt g i = true then (match m g with
  | .ok x g1 => (match g1[i]? with
    | some (some (.md b true L)) => (match f L x with
      | some (y, L') => .ok y (g1.set i (some (.md b true L')))
      | none => .stuck)
    | _ => .stuck)
  | .exc c g1 => .exc c g1
  | .stuck => .stuck) else .stuck
section
variable {X : Cx} {W : WX} {e a b : Expr} {pos : Pos} {ma mb : M D}
theorem onT_of {α β γ δ : Type} {i : Nat} {m : M β} {f : List (D × D) → β → Option (α × List (D × D))} {rep : Hp → γ → β → Prop} {rep2 : Hp → δ → α → Prop} {σ : St} {H : Hp} {Q : δ → Hp → Prop} (h : tG rep2 X.K W (onT i m f) σ H Q) :
    ∃ p kv, σ[i]? = some (some (.ref p)) ∧ H p = some (.dT kv) ∧ tG rep X.K W m σ H fun u H1 => ∃ kv1 L x y L', H1 p = some (.dT kv1) ∧ DKT X.K H1 kv1 L ∧ rep H1 u x ∧ f L x = some (y, L') ∧
      ∀ kv2 d, DKT X.K H1 kv2 L' → (Pers H1 (L2.upd H1 p (.dT kv2)) → rep2 (L2.upd H1 p (.dT kv2)) d y) → Q d (L2.upd H1 p (.dT kv2)) := by
  obtain ⟨g, R, s, n, h⟩ := h
  unfold onT at h
  by_cases hm : isMt g i = true
  · rw [if_pos hm] at h
    obtain ⟨b0, L0, e0⟩ := isMt_get hm
    obtain ⟨p, kv, h1, h2, _⟩ := putT_go s n e0
    refine ⟨p, kv, h1, h2, g, R, s, n, ?_⟩
    cases e : m g with
    | stuck => rw [e] at h; exact h
    | exc c g' => rw [e] at h; exact h
    | ok x g1 =>
      rw [e] at h
      dsimp only at h
      intro u H1 go ru
      obtain ⟨bk, R1, s1, n1, e1, w1⟩ := go
      cases eg : g1[i]? with
      | none => rw [eg] at h; exact h.elim
      | some o =>
        cases o with
        | none => rw [eg] at h; exact h.elim
        | some t =>
          cases t with
          | d z => rw [eg] at h; exact h.elim
          | ml _ _ => rw [eg] at h; exact h.elim
          | md b tt L =>
            cases tt with
            | false => rw [eg] at h; exact h.elim
            | true =>
              rw [eg] at h
              dsimp only at h
              cases ef : f L x with
              | none => rw [ef] at h; exact h.elim
              | some yy =>
                obtain ⟨y, L'⟩ := yy
                rw [ef] at h
                obtain ⟨p', kv1, q1, q2, q3, q4⟩ := putT_go s1 n1 eg
                rw [h1] at q1
                cases q1
                refine ⟨kv1, L, x, y, L', q2, q3, ru, ef, fun kv2 d fu rd => ?_⟩
                obtain ⟨go2, pe⟩ := q4 kv2 L' fu
                exact h d _ (go2.then bk e1 w1) (rd pe)
  · rw [if_neg hm] at h
    exact h.elim
def fGetT (L : List (D × D)) (k : D) : Option ((D × D) × List (D × D)) := match tkI k with
  | some ks => (tGet L ks).map fun y => ((k, y), L)
  | none => none
def fPutT (z : D) (L : List (D × D)) (k : D) : Option (D × List (D × D)) := match tkI k with
  | some ks => if L.length < sizeLine then some (.none, putT L ks z) else none
  | none => none
def augKT (i : Nat) (k z : D) : M Fl := bnd (onT i (eC k) (fPutT z)) fun _ g => .ok .nx g
def sAugT (i : Nat) (f : D → D → Option D) (mk me : M D) : M Fl := bnd (onT i mk fGetT) fun kx => bnd me fun y => bnd (lift (f kx.2 y)) fun z => augKT i kx.1 z
theorem upd_selfT {H : Hp} {a : Addr} {o : HO} (h : H a = some o) : L2.upd H a o = H := upd_self h
/-- x[k] op= e, x a dict of one's own with keys tuples of ints -/
theorem r_augT {x : Str} {i : Nat} {ek : Expr} {op : Operator} {f : D → D → Option D} {mk me : M D} {np tpos : Pos} (hu : X.A.units + 64 < cLine) (ho : OpR X (inplaceOp op) (rO2 X.K f)) (hk : RE X W ek mk) (he : RE X W e me) (hN : X.N[i]? = some x := by rfl) (hv : Vis X.env.scope x := by first | exact Or.inl rfl | exact Or.inr (Or.inl rfl) | exact Or.inr (Or.inr rfl)) (hd : (x == ("__debug__" : Str)) = false := by decide)
    (hcd : (x == ("__classdict__" : Str)) = false := by decide) (ha : ∀ ov iv new, augStore ek ov iv new = (do holding [new, ov, iv] (setItem ov iv new); release [new, ov, iv] []; pure .next) := by intros; rfl) :
    RS X W (.AugAssign (.Subscript (.Name x np) ek tpos) op e pos) (sAugT i f mk me) :=
  PS.imp (ps_daug (by omega) (pe_var hN hv hd hcd) hk he (show InOp X op (rO2 X.K f) from ho) ha) fun D σ H h => by
    obtain ⟨p, kv, h1, h2, q⟩ := onT_of (rep := Fz X.K) (tS_bind (rep := fun H (d : V × V) (a : PyData × PyData) => Fz X.K H d.1 a.1 ∧ Fz X.K H d.2 a.2) h)
    refine ⟨.ref p, h1, tG_mono q fun u H1 _ ⟨kv1, L, k, y, L', q1, q2, q3, q4, q5⟩ => ?_⟩
    unfold fGetT at q4
    cases ek : tkI k with
    | none => rw [ek] at q4; cases q4
    | some ks =>
      rw [ek] at q4
      dsimp only at q4
      cases ea : tGet L ks with
      | none => rw [ea] at q4; cases q4
      | some z =>
        rw [ea] at q4
        cases q4
        obtain ⟨v, e1, fv⟩ := q2.get ea
        have := q5 kv1 (u, v) q2 fun pe => ⟨q3.pers pe, fv.pers pe⟩
        rw [upd_self q1] at this
        obtain ⟨kx, ⟨f1, f2⟩, q6⟩ := this
        obtain ⟨bb, eu, hb⟩ := tkI_fz q3 ek
        subst eu
        refine ⟨p, v, rfl, .inr ⟨kv1, ks, bb, .inl q1, rfl, hb, e1.symm⟩, tG_mono (tS_bind (rep := Fz X.K) q6) fun w H2 pe ⟨yw, fw, q7⟩ => ?_⟩
        have q8 := tS_bind (rep := Fz X.K) q7
        obtain ⟨c, ec, q9⟩ := tG_lift q8
        refine ⟨kx.2, yw, f2.pers pe, fw, c, ec, fun zb H3 sm fz => ?_⟩
        obtain ⟨z', fz', q10⟩ := q9 zb H3 sm fz
        obtain ⟨p', kv', h1', h2', q11⟩ := onT_of (rep := Fz X.K) (tS_bind (rep := Fz X.K) q10)
        rw [h1] at h1'
        cases h1'
        have q12 := tG_ret (b := V.ref bb) q11 (f1.pers (pe.trans (.of_same sm)))
        obtain ⟨kv3, L3, k3, y3, L3', r1, r2, r3, r4, r5⟩ := q12
        unfold fPutT at r4
        cases ek3 : tkI k3 with
        | none => rw [ek3] at r4; cases r4
        | some ks3 =>
          rw [ek3] at r4
          dsimp only at r4
          split at r4
          · rename_i hl
            cases r4
            obtain ⟨b3, eb3, hb3⟩ := tkI_fz r3 ek3
            cases eb3
            obtain ⟨_, _, q13⟩ := r5 _ .non (r2.put (ks := ks3) fz') fun _ => .non
            exact ⟨_, .inr ⟨kv3, ks3, bb, r1, rfl, hb3, by rw [r2.length]; exact hl, rfl⟩, tS_ok q13⟩
          · cases r4
end
end PP

namespace PP
open PySem PySem.Spec L2
open PyProof.Rows hiding St
/-! ### expressions that make a thing of one's own -/
def GoO (K : PySem.W.Frag) (σ : St) (R : List Addr) (H : Hp) (g g' : Ga) (p : Addr) (t : Tv) (H' : Hp) : Prop :=
  BorK g g' ∧ TRep K H' (.ref p) t [p] ∧ ∃ R', SRep K H' σ g' R' ∧ (p :: R').Nodup ∧ Ext R H H' ∧ New R H (p :: R')
def tO (K : PySem.W.Frag) (W : WX) (m : M Tv) : TE := fun σ H Q => ∃ g R, SRep K H σ g R ∧ R.Nodup ∧ match m g with
  | .ok t g' => ∀ p H', GoO K σ R H g g' p t H' → Q (.ref p) H'
  | .exc c g' => ∀ H', Go K σ R H g g' H' → W (.ref (He.ga K c)) none σ H'
  | .stuck => False
def RO (X : Cx) (W : WX) (e : Expr) (m : M Tv) : Prop := PE X e (tO X.K W m)
theorem GoO.then {K : PySem.W.Frag} {g g1 g2 : Ga} {σ : St} {R R1 : List Addr} {H H1 H2 : Hp} {p : Addr} {t : Tv} (b1 : BorK g g1) (e1 : Ext R H H1) (w1 : New R H R1) (h : GoO K σ R1 H1 g1 g2 p t H2) : GoO K σ R H g g2 p t H2 := by
  obtain ⟨b2, tr, R2, s2, n2, e2, w2⟩ := h
  exact ⟨b1.trans b2, tr, R2, s2, n2, e1.trans w1 e2, New.trans e1 w1 w2⟩
def sSetO (i : Nat) (m : M Tv) : M Fl := bnd m fun t g1 => if freeAt g1 i = true then .ok .nx (g1.set i (some t)) else .stuck
section
variable {X : Cx} {W : WX} {tg e a : Expr} {pos : Pos}
theorem setO_of {i : Nat} {m : M Tv} {D : Ends} {σ : St} {H : Hp} (h : tS X.K W (sSetO i m) D σ H) : tO X.K W m σ H (fun x H1 => gName i x σ H1 D.nx) := by
  obtain ⟨g, R, s, n, h⟩ := h
  refine ⟨g, R, s, n, ?_⟩
  unfold sSetO bnd at h
  cases e : m g with
  | stuck => rw [e] at h; exact h
  | exc c g' => rw [e] at h; exact fun H' go => h σ H' go.s
  | ok t g1 =>
    rw [e] at h
    dsimp only at h
    intro p H' go
    obtain ⟨bk, tr, R', s', n', e', w'⟩ := go
    by_cases hf : freeAt g1 i = true
    · rw [if_pos hf] at h
      obtain ⟨R2, s2, n2, m2⟩ := SRep.set tr i s' (by simpa using n')
      refine h _ _ ⟨bk.trans (borK_set hf), (Kp.refl g σ).trans bk (kp_set hf), R2, s2, n2, e', fun c hc => w' c ?_⟩
      simpa using m2 c hc
    · rw [if_neg hf] at h
      exact h.elim
theorem r_setO {i : Nat} {x : Str} {m : M Tv} {pos' : Pos} (hN : X.N.Nodup) (he : RO X W e m) (hi : X.N[i]? = some x := by rfl) (hx : Loc X.env.scope x := by first | exact Or.inl rfl | exact Or.inr rfl) (hs : swapsWith e (some (.Name x pos')) pos.line X.env = pure false := by rfl)
    (hf : X.fn x = true ∨ X.env.scope.names.lookup x = some .local := by first | exact .inl rfl | exact .inr rfl) : RS X W (.Assign [.Name x pos'] e pos) (sSetO i m) :=
  PS.imp (ps_set hN hi hx he hs hf) fun D σ H h => setO_of h
/-- {} -/
def eNewT : M Tv := fun g => .ok (.md false true []) g
theorem r_dnewT : RO X W (.Dict [] [] pos) eNewT := PE.imp pe_dnewT fun σ H Q ⟨g, R, s, n, h⟩ p hp => by
  have sm := Same.upd (o := .dT []) hp
  refine h p _ ⟨BorK.refl g, .ofT upd_same .nil, R, s.same sm, List.nodup_cons.mpr ⟨fun z => s.root_some p z hp, n⟩, Ext.of_same sm, fun a ha => ?_⟩
  rcases List.mem_cons.mp ha with z | z
  · rw [z]; exact .inr hp
  · exact .inl z
end
/-! ### {k: v for ..} -/
def cld (vs : List Nat) (b : Bd) (t : M Bool) (ek ev : M D) : List D → List (D × D) → M (List (D × D))
  | [], L, g => .ok L g
  | x :: r, L, g => match b x g with
    | none => .stuck
    | some g1 => match t g1 with
      | .ok true g2 => (match ek g2 with
        | .ok k g3 => (match ev g3 with
          | .ok y g4 => (match fPutT y L k with
            | some (_, L') => if vs.all (fun i => freeAt g4 i) = true then cld vs b t ek ev r L' (wipeG g4 vs) else .stuck
            | none => .stuck)
          | _ => .stuck)
        | _ => .stuck)
      | .ok false g2 => if vs.all (fun i => freeAt g2 i) = true then cld vs b t ek ev r L (wipeG g2 vs) else .stuck
      | _ => .stuck
def eDcT (vs : List Nat) (b : Bd) (t : M Bool) (ek ev : M D) (mi : M (List D)) : M Tv := bnd mi fun items g1 => if vs.all (fun i => freeAt g1 i) = true then (match cld vs b t ek ev items [] (wipeG g1 vs) with
  | .ok L g2 => .ok (.md false true L) g2
  | _ => .stuck) else .stuck
def DPost (K : PySem.W.Frag) (σ : St) (R : List Addr) (H : Hp) (g : Ga) (Q : VK) : Rs (List (D × D)) → Prop
  | .ok L g' => ∀ p H', GoO K σ R H g g' p (.md false true L) H' → Q (.ref p) H'
  | _ => False
set_option maxHeartbeats 1000000 in
theorem dc_gen {K : PySem.W.Frag} {b : Bd} {us vs : List Nat} {t : M Bool} {ek ev : M D} {items : List D} {σ : St} {H1 : Hp} {Q : VK} {g1 : Ga} {R1 : List Addr} {J : It} {G : Hp → Prop} {FR : Rs (List (D × D))} (hus : ∀ i ∈ us, i ∈ vs)
    (s1 : SRep K H1 σ g1 R1) (n1 : R1.Nodup) (wk : Wk K J items G) (g0 : G H1) (cf : (vs.all fun i => freeAt g1 i) = true) (hfr : cld vs b t ek ev items [] (wipeG g1 vs) = FR)
    (h : DPost K σ R1 H1 g1 Q FR) (Dd : Addr) (nD : H1 Dd = none) : ∃ W : Nat → Nat → Hp → Prop, (∃ m, W 0 m (L2.upd H1 Dd (.dT []))) ∧ ∀ i m Hi, W i m Hi →
  (J.stop i Hi ∧ Q (.ref Dd) Hi) ∨ (J.go i Hi ∧ ∃ Nx : Hp → Prop, (∀ Hn, Nx Hn → ∃ m', m' < m ∧ W (i + 1) m' Hn) ∧ ∀ x Hx, J.yld i Hi x Hx → tBd K us b x (L2.wipe σ vs) Hx fun σ2 H2 => L2.wipe σ2 vs = L2.wipe σ vs ∧ tTD K WF t σ2 H2 fun b H3 =>
    if b = true then tD K WF ek σ2 H3 fun y H4 => tD K WF ev σ2 H4 fun z H5 => ∃ kvs k bk, y = .ref bk ∧ H5 bk = some (.tup (k.map kV)) ∧ H5 Dd = some (.dT kvs) ∧ kvs.length < sizeLine ∧ Nx (L2.upd H5 Dd (.dT (putK kvs k z))) else Nx H3) := by
  have smD : Same H1 (L2.upd H1 Dd (.dT [])) := Same.upd nD
  obtain ⟨Rw, sw, nw, mw⟩ := wipe_rep s1 n1 vs
  have nDw : ∀ {R' : List Addr}, (∀ a ∈ R', a ∈ R1) → Dd ∉ R' := fun hm hd => s1.root_some Dd (hm Dd hd) nD
  refine ⟨fun i m Hi => i + m = items.length ∧ G Hi ∧ ∃ gx Ri kv L, SRep K Hi (L2.wipe σ vs) (wipeG gx vs) Ri ∧ (Dd :: Ri).Nodup ∧ Hi Dd = some (.dT kv) ∧ DKT K Hi kv L ∧ Ext R1 H1 Hi ∧ New R1 H1 (Dd :: Ri) ∧
    BorK (wipeG g1 vs) (wipeG gx vs) ∧ cld vs b t ek ev (items.drop i) L (wipeG gx vs) = FR, ⟨items.length, by omega, wk.st H1 _ g0 (Pers.of_same smD) (fun a ha => nomatch ha), g1, Rw, [], [], sw.same smD, ?_, upd_same, .nil, Ext.of_same smD, ?_, BorK.refl _, by simpa using hfr⟩, ?_⟩
  · exact List.nodup_cons.mpr ⟨nDw mw, nw⟩
  · intro a ha
    rcases List.mem_cons.mp ha with z | z
    · rw [z]; exact .inr nD
    · exact .inl (mw a z)
  · rintro i m Hi ⟨eim, gH, gx, Ri, kv, L, si, ni, hD, fa, ei, wi, bi, ec⟩
    obtain ⟨nD1, nD2⟩ := List.nodup_cons.mp ni
    by_cases hi : i < items.length
    · right
      have ed : items.drop i = items[i] :: items.drop (i + 1) := (List.getElem_cons_drop hi).symm
      rw [ed] at ec
      obtain ⟨jg, yld⟩ := wk.go i Hi _ gH (List.getElem?_eq_getElem hi)
      refine ⟨jg, fun H' => G H' ∧ ∃ gx Ri kv L, SRep K H' (L2.wipe σ vs) (wipeG gx vs) Ri ∧ (Dd :: Ri).Nodup ∧ H' Dd = some (.dT kv) ∧ DKT K H' kv L ∧ Ext R1 H1 H' ∧ New R1 H1 (Dd :: Ri) ∧
        BorK (wipeG g1 vs) (wipeG gx vs) ∧ cld vs b t ek ev (items.drop (i + 1)) L (wipeG gx vs) = FR, fun H' hN => ⟨m - 1, by omega, by omega, hN⟩, fun x H3 y => ?_⟩
      obtain ⟨sm, fx⟩ := yld x H3 y
      have s3 := si.same sm
      have hD3 : H3 Dd = some (.dT kv) := sm _ _ hD
      unfold cld at ec
      cases eb : b items[i] (wipeG gx vs) with
      | none =>
        rw [eb] at ec
        dsimp only at ec
        rw [← ec] at h
        exact h.elim
      | some ga =>
        rw [eb] at ec
        dsimp only at ec
        refine ⟨_, Ri, _, ga, s3, nD2, fx, eb, fun σ2 ch b2 k2 ⟨R2, s4, n4, m4⟩ => ⟨?_, ?_⟩⟩
        · rw [(ch.mono hus).wipe, wipe_idem]
        · have nD4 : Dd ∉ R2 := fun z => nD1 (m4 _ z)
          refine ⟨ga, R2, s4, n4, ?_⟩
          have fin : ∀ {H5 : Hp} {gz : Ga} {R5 : List Addr} {kv' : List (List Key × V)} {L' : List (D × D)}, SRep K H5 σ2 gz R5 → R5.Nodup → Dd ∉ R5 → H5 Dd = some (.dT kv') → DKT K H5 kv' L' → Ext (Dd :: Ri) Hi H5 → New (Dd :: Ri) Hi R5 → Pers Hi H5 →
              BorK ga gz → vs.all (fun i => freeAt gz i) = true → cld vs b t ek ev (items.drop (i + 1)) L' (wipeG gz vs) = FR →
              G H5 ∧ ∃ gx Ri kv L, SRep K H5 (L2.wipe σ vs) (wipeG gx vs) Ri ∧ (Dd :: Ri).Nodup ∧ H5 Dd = some (.dT kv) ∧ DKT K H5 kv L ∧ Ext R1 H1 H5 ∧ New R1 H1 (Dd :: Ri) ∧
                BorK (wipeG g1 vs) (wipeG gx vs) ∧ cld vs b t ek ev (items.drop (i + 1)) L (wipeG gx vs) = FR := by
            intro H5 gz R5 kv' L' s5 n5 nD5 hD5 fa5 e5 w5 p5 b5 f5 c5
            obtain ⟨R6, s6, n6, m6⟩ := wipe_rep s5 n5 vs
            rw [(ch.mono hus).wipe, wipe_idem] at s6
            refine ⟨wk.st Hi H5 gH p5 (fun a ha => nomatch ha), gz, R6, kv', L', s6, List.nodup_cons.mpr ⟨fun z => nD5 (m6 _ z), n6⟩, hD5, fa5, ei.trans wi e5, ?_, (bi.trans (b2.trans b5)).trans (borK_wipe f5), c5⟩
            have : New R1 H1 R5 := New.trans ei wi w5
            intro a ha
            rcases List.mem_cons.mp ha with z | z
            · rw [z]; exact wi Dd List.mem_cons_self
            · exact this a (m6 a z)
          have x3 : Ext (Dd :: Ri) Hi H3 := Ext.of_same sm
          have w3 : New (Dd :: Ri) Hi R2 := fun a ha => .inl (List.mem_cons_of_mem _ (m4 a ha))
          cases et : t ga with
          | stuck => rw [et] at ec; dsimp only at ec; rw [← ec] at h; exact h.elim
          | exc c g' => rw [et] at ec; dsimp only at ec; rw [← ec] at h; exact h.elim
          | ok bt gb =>
            rw [et] at ec
            intro bt' H4 go4 ebt
            subst ebt
            obtain ⟨b4, R4, s5, n5, x4, w4⟩ := go4
            have hD4 : H4 Dd = some (.dT kv) := x4 _ _ hD3 nD4
            have nD5 : Dd ∉ R4 := fun z => by
              rcases w4 Dd z with q | q
              · exact nD4 q
              · rw [hD3] at q; cases q
            have p4 : Pers Hi H4 := (Pers.of_same sm).trans (x4.pers s4.live)
            cases bt' with
            | false =>
              dsimp only at ec
              rw [if_neg Bool.false_ne_true]
              split at ec
              · rename_i cf2
                exact fin s5 n5 nD5 hD4 (fa.pers p4) (x3.trans w3 x4) (New.trans x3 w3 w4) p4 b4 cf2 ec
              · rw [← ec] at h; exact h.elim
            | true =>
              dsimp only at ec
              rw [if_pos rfl]
              refine ⟨gb, R4, s5, n5, ?_⟩
              cases ee : ek gb with
              | stuck => rw [ee] at ec; dsimp only at ec; rw [← ec] at h; exact h.elim
              | exc c g' => rw [ee] at ec; dsimp only at ec; rw [← ec] at h; exact h.elim
              | ok kd gc =>
                rw [ee] at ec
                dsimp only at ec
                intro yk H5 go5 fk
                obtain ⟨b5, R5, s6, n6, x5, w5⟩ := go5
                have hD5 : H5 Dd = some (.dT kv) := x5 _ _ hD4 nD5
                have nD6 : Dd ∉ R5 := fun z => by
                  rcases w5 Dd z with q | q
                  · exact nD5 q
                  · rw [hD4] at q; cases q
                have p5 : Pers Hi H5 := p4.trans (x5.pers s5.live)
                refine ⟨gc, R5, s6, n6, ?_⟩
                cases ev' : ev gc with
                | stuck => rw [ev'] at ec; dsimp only at ec; rw [← ec] at h; exact h.elim
                | exc c g' => rw [ev'] at ec; dsimp only at ec; rw [← ec] at h; exact h.elim
                | ok yd gd =>
                  rw [ev'] at ec
                  dsimp only at ec
                  intro yv H6 go6 fy
                  obtain ⟨b6, R6, s7, n7, x6, w6⟩ := go6
                  have hD6 : H6 Dd = some (.dT kv) := x6 _ _ hD5 nD6
                  have nD7 : Dd ∉ R6 := fun z => by
                    rcases w6 Dd z with q | q
                    · exact nD6 q
                    · rw [hD5] at q; cases q
                  have pq : Pers H5 H6 := x6.pers s6.live
                  have p6 : Pers Hi H6 := p5.trans pq
                  cases ep : fPutT yd L kd with
                  | none => rw [ep] at ec; dsimp only at ec; rw [← ec] at h; exact h.elim
                  | some rr =>
                    obtain ⟨r0, L'⟩ := rr
                    rw [ep] at ec
                    dsimp only at ec
                    unfold fPutT at ep
                    cases etk : tkI kd with
                    | none => rw [etk] at ep; cases ep
                    | some ks =>
                      rw [etk] at ep
                      dsimp only at ep
                      split at ep
                      · rename_i hl
                        cases ep
                        obtain ⟨bk, ebk, hbk⟩ := tkI_fz (fk.pers pq) etk
                        refine ⟨kv, ks, bk, ebk, hbk, hD6, by rw [fa.length]; exact hl, ?_⟩
                        have p7 : Pers H6 (L2.upd H6 Dd (.dT (putK kv ks yv))) := fun a u hu hf => by
                          rw [upd_ne]
                          · exact hu
                          · rintro rfl
                            rw [hD6] at hu
                            cases hu
                            cases hf
                        split at ec
                        · rename_i cf2
                          have xx : Ext (Dd :: Ri) Hi H5 := (x3.trans w3 x4).trans (New.trans x3 w3 w4) x5
                          have ww : New (Dd :: Ri) Hi R5 := New.trans (x3.trans w3 x4) (New.trans x3 w3 w4) w5
                          refine fin (s7.keep p7 fun a ha => upd_ne (fun z => nD7 (z ▸ ha))) n7 nD7 upd_same (((fa.pers p6).put fy).pers p7) ?_ ?_ (p6.trans p7) ((b4.trans b5).trans b6) cf2 ec
                          · intro a u hu ha
                            rw [upd_ne]
                            · exact (xx.trans ww x6) a u hu ha
                            · rintro rfl
                              exact ha List.mem_cons_self
                          · exact New.trans xx ww w6
                        · rw [← ec] at h; exact h.elim
                      · cases ep
    · left
      have e2 : i = items.length := by omega
      subst e2
      rw [List.drop_length] at ec
      have ec' : Rs.ok L (wipeG gx vs) = FR := ec
      rw [← ec'] at h
      exact ⟨wk.stop Hi gH, h Dd Hi ⟨(borK_wipe cf).trans bi, .ofT hD fa, Ri, unwipe si, ni, ei, wi⟩⟩
theorem dcT_of {K : PySem.W.Frag} {W : WX} {b : Bd} {us vs : List Nat} {t : M Bool} {ek ev : M D} {mi : M (List D)} {σ : St} {H : Hp} {Q : VK} (hus : ∀ i ∈ us, i ∈ vs) (h : tO K W (eDcT vs b t ek ev mi) σ H Q) :
    tDcT (tG (repI K) K W mi) (tBd K us b) (tTD K WF t) (tD K WF ek) (tD K WF ev) vs σ H Q := by
  obtain ⟨g, R, s, n, h⟩ := h
  refine ⟨g, R, s, n, ?_⟩
  unfold eDcT bnd at h
  cases em : mi g with
  | stuck => rw [em] at h; exact h
  | exc c g' => rw [em] at h; exact h
  | ok items g1 =>
    rw [em] at h
    dsimp only at h
    intro J H1 go ⟨G, wk, g0⟩ Dd nD
    obtain ⟨bk1, R1, s1, n1, e1, w1⟩ := go
    by_cases cf : (vs.all fun i => freeAt g1 i) = true
    · rw [if_pos cf] at h
      refine dc_gen hus s1 n1 wk g0 cf rfl ?_ Dd nD
      cases ec : cld vs b t ek ev items [] (wipeG g1 vs) with
      | stuck => rw [ec] at h; exact h
      | exc c g' => rw [ec] at h; exact h
      | ok L g2 =>
        rw [ec] at h
        exact fun p H' go => h p H' (go.then bk1 e1 w1)
    · rw [if_neg cf] at h
      exact h.elim
section
variable {X : Cx} {W : WX} {tg e a : Expr} {pos : Pos}
theorem r_dcT {kx vx iter : Expr} {ifs : List Expr} {scope : Scope} {own : List (Str × Nat)} {us : List Nat} {mi : M (List D)} {b : Bd} {t : M Bool} {mk mv : M D} (hu : X.A.units + 64 < cLine) (hc : X.calm = true) (hN : X.N.Nodup) (hi : RI X W tg iter mi) (ok : BlkOk X.N X.env.scope scope own) (hus : ∀ i ∈ us, i ∈ own.map (·.2))
    (hg : ∀ (s : Shared) (H : Hp) (C : Addr) (cl : List (Str × Addr)) (fp : List Addr), RG (X.blk s H scope (compEnvC scope cl C X.env) fp) tg us b) (ht : ∀ (s : Shared) (H : Hp) (C : Addr) (cl : List (Str × Addr)) (fp : List Addr), RTs (X.blk s H scope (compEnvC scope cl C X.env) fp) WF ifs t)
    (hk : ∀ (s : Shared) (H : Hp) (C : Addr) (cl : List (Str × Addr)) (fp : List Addr), RE (X.blk s H scope (compEnvC scope cl C X.env) fp) WF kx mk)
    (hv : ∀ (s : Shared) (H : Hp) (C : Addr) (cl : List (Str × Addr)) (fp : List Addr), RE (X.blk s H scope (compEnvC scope cl C X.env) fp) WF vx mv) (hs : ∀ x, foldedSetIterable iter X.env x = pure x := by intro _; rfl) :
    RO X W (.DictComp kx vx [⟨tg, iter, ifs, 0⟩] scope pos) (eDcT (own.map (·.2)) b t mk mv mi) := PE.imp (pe_dcT (wi := tG (repI X.K) X.K W mi) (g := tBd X.K us b) (tt := tTD X.K WF t) (tk := tD X.K WF mk) (tv := tD X.K WF mv) (by omega) hc hN hi ok hg ht hk hv hs) fun σ H Q h => dcT_of hus h
end
end PP

namespace PP
open PySem PySem.Spec L2
open PyProof.Rows hiding St
section
variable {X : Cx} {W : WX} {tg e a b c d : Expr} {pos : Pos}
/-! ### several targets, cells among them: by a tuple -/
theorem TReps.same {K : PySem.W.Frag} {H H' : Hp} (sm : Same H H') : ∀ {vs : List V} {ts : List Tv} {R : List Addr}, TReps K H vs ts R → TReps K H' vs ts R
  | _, _, _, .nil => .nil
  | _, _, _, .cons t r => .cons (t.keep (.of_same sm) fun a ha => by
      cases q : H a with
      | none => exact absurd q (t.root_some a ha)
      | some o => exact sm a o q) (TReps.same sm r)
theorem par_ofT {is : List Nat} {m : M (List Tv)} {D : Ends} {σ : St} {H : Hp} (h : tS X.K W (sPar is m) D σ H) : tM X.K W m σ H fun vs H1 => vs.length = is.length ∧ ∀ H2, Same H1 H2 → D.nx (setVs is vs σ) H2 := by
  obtain ⟨g, R, s, n, h⟩ := h
  refine ⟨g, R, s, n, ?_⟩
  unfold sPar bnd at h
  cases e1 : m g with
  | stuck => rw [e1] at h; exact h
  | exc c g' => rw [e1] at h; exact fun H' go => h σ H' go.s
  | ok ts g1 =>
    rw [e1] at h
    dsimp only at h
    intro vs H1 go
    obtain ⟨bk1, Rt, R1, t1, s1, n1, x1, w1⟩ := go
    cases es : setAll is ts g1 with
    | none => rw [es] at h; exact h.elim
    | some g' =>
      rw [es] at h
      obtain ⟨_, _, l2, _⟩ := setAll_rep t1 s1 n1 es
      refine ⟨l2, fun H2 sm => ?_⟩
      obtain ⟨b2, k2, _, R2, s2, n2, w2⟩ := setAll_rep (t1.same sm) (s1.same sm) n1 es
      refine h _ H2 ⟨bk1.trans b2, (Kp.refl g σ).trans bk1 k2, R2, s2, n2, fun a o ho hn => sm a o (x1 a o ho hn), fun z hz => w1 z (w2 z hz)⟩
theorem tup_sq {K : PySem.W.Frag} {H : Hp} {p : Addr} {o : Obj} {vs : List V} (hd : o.dict = none) : SqT K (L2.upd H p (tupO o vs)) p vs := FT.sq (FT.new hd)
theorem r_parT2 {i j : Nat} {x y : Str} {m : M (List Tv)} {px py pt : Pos} {kt k2 pt2} (hc : X.calm = true) (hN : X.N.Nodup) (ha : RM X W [a, b] m) (hi : X.N[i]? = some x := by rfl) (hj : X.N[j]? = some y := by rfl)
    (hx : Loc X.env.scope x := by first | exact Or.inl rfl | exact Or.inr rfl) (hy : Loc X.env.scope y := by first | exact Or.inl rfl | exact Or.inr rfl)
    (fx : X.fn x = true ∨ X.env.scope.names.lookup x = some .local := by first | exact .inl rfl | exact .inr rfl) (fy : X.fn y = true ∨ X.env.scope.names.lookup y = some .local := by first | exact .inl rfl | exact .inr rfl)
    (hw : swappedStores [.Tuple [.Name x px, .Name y py] kt pt] (.Tuple [a, b] k2 pt2) X.env = pure none := by rfl)
    (hs : swapsWithSole [.Tuple [.Name x px, .Name y py] kt pt] (.Tuple [a, b] k2 pt2) pos.line X.env = pure false := by rfl) : RS X W (.Assign [.Tuple [.Name x px, .Name y py] kt pt] (.Tuple [a, b] k2 pt2) pos) (sPar [i, j] m) :=
  PS.imp (ps_asg (pe_tupX ha) (pg_tup hc (pgs_cons (pg_name hN hi hx fx) (pgs_cons (pg_name hN hj hy fy) pgs_nil))) hs hw) fun D σ H h => tM_mono (par_ofT h) fun vs H1 ⟨l, q⟩ => by
    match vs, l with
    | [v, w], _ => exact ⟨by show 2 ≤ sizeLine; decide, fun p o hp hd => ⟨p, [v, w], rfl, tup_sq hd, rfl, v, [w], rfl, w, [], rfl, rfl, q _ (Same.upd hp)⟩⟩
theorem r_parT3 {i j k : Nat} {x y z : Str} {m : M (List Tv)} {px py pz pt : Pos} {kt k2 pt2} (hc : X.calm = true) (hN : X.N.Nodup) (ha : RM X W [a, b, c] m) (hi : X.N[i]? = some x := by rfl) (hj : X.N[j]? = some y := by rfl) (hk : X.N[k]? = some z := by rfl)
    (hx : Loc X.env.scope x := by first | exact Or.inl rfl | exact Or.inr rfl) (hy : Loc X.env.scope y := by first | exact Or.inl rfl | exact Or.inr rfl) (hz : Loc X.env.scope z := by first | exact Or.inl rfl | exact Or.inr rfl)
    (fx : X.fn x = true ∨ X.env.scope.names.lookup x = some .local := by first | exact .inl rfl | exact .inr rfl) (fy : X.fn y = true ∨ X.env.scope.names.lookup y = some .local := by first | exact .inl rfl | exact .inr rfl) (fz : X.fn z = true ∨ X.env.scope.names.lookup z = some .local := by first | exact .inl rfl | exact .inr rfl)
    (hw : swappedStores [.Tuple [.Name x px, .Name y py, .Name z pz] kt pt] (.Tuple [a, b, c] k2 pt2) X.env = pure none := by rfl)
    (hs : swapsWithSole [.Tuple [.Name x px, .Name y py, .Name z pz] kt pt] (.Tuple [a, b, c] k2 pt2) pos.line X.env = pure false := by rfl) : RS X W (.Assign [.Tuple [.Name x px, .Name y py, .Name z pz] kt pt] (.Tuple [a, b, c] k2 pt2) pos) (sPar [i, j, k] m) :=
  PS.imp (ps_asg (pe_tupX ha) (pg_tup hc (pgs_cons (pg_name hN hi hx fx) (pgs_cons (pg_name hN hj hy fy) (pgs_cons (pg_name hN hk hz fz) pgs_nil)))) hs hw) fun D σ H h => tM_mono (par_ofT h) fun vs H1 ⟨l, q⟩ => by
    match vs, l with
    | [v, w, u], _ => exact ⟨by show 3 ≤ sizeLine; decide, fun p o hp hd => ⟨p, [v, w, u], rfl, tup_sq hd, rfl, v, [w, u], rfl, w, [u], rfl, u, [], rfl, rfl, q _ (Same.upd hp)⟩⟩
theorem r_parT4 {i j k n : Nat} {x y z r : Str} {m : M (List Tv)} {px py pz pr pt : Pos} {kt k2 pt2} (hc : X.calm = true) (hN : X.N.Nodup) (ha : RM X W [a, b, c, d] m) (hi : X.N[i]? = some x := by rfl) (hj : X.N[j]? = some y := by rfl) (hk : X.N[k]? = some z := by rfl) (hn : X.N[n]? = some r := by rfl)
    (hx : Loc X.env.scope x := by first | exact Or.inl rfl | exact Or.inr rfl) (hy : Loc X.env.scope y := by first | exact Or.inl rfl | exact Or.inr rfl) (hz : Loc X.env.scope z := by first | exact Or.inl rfl | exact Or.inr rfl) (hr : Loc X.env.scope r := by first | exact Or.inl rfl | exact Or.inr rfl)
    (fx : X.fn x = true ∨ X.env.scope.names.lookup x = some .local := by first | exact .inl rfl | exact .inr rfl) (fy : X.fn y = true ∨ X.env.scope.names.lookup y = some .local := by first | exact .inl rfl | exact .inr rfl) (fz : X.fn z = true ∨ X.env.scope.names.lookup z = some .local := by first | exact .inl rfl | exact .inr rfl) (fr : X.fn r = true ∨ X.env.scope.names.lookup r = some .local := by first | exact .inl rfl | exact .inr rfl)
    (hw : swappedStores [.Tuple [.Name x px, .Name y py, .Name z pz, .Name r pr] kt pt] (.Tuple [a, b, c, d] k2 pt2) X.env = pure none := by rfl)
    (hs : swapsWithSole [.Tuple [.Name x px, .Name y py, .Name z pz, .Name r pr] kt pt] (.Tuple [a, b, c, d] k2 pt2) pos.line X.env = pure false := by rfl) : RS X W (.Assign [.Tuple [.Name x px, .Name y py, .Name z pz, .Name r pr] kt pt] (.Tuple [a, b, c, d] k2 pt2) pos) (sPar [i, j, k, n] m) :=
  PS.imp (ps_asg (pe_tupX ha) (pg_tup hc (pgs_cons (pg_name hN hi hx fx) (pgs_cons (pg_name hN hj hy fy) (pgs_cons (pg_name hN hk hz fz) (pgs_cons (pg_name hN hn hr fr) pgs_nil))))) hs hw) fun D σ H h => tM_mono (par_ofT h) fun vs H1 ⟨l, q⟩ => by
    match vs, l with
    | [v, w, u, s], _ => exact ⟨by show 4 ≤ sizeLine; decide, fun p o hp hd => ⟨p, [v, w, u, s], rfl, tup_sq hd, rfl, v, [w, u, s], rfl, w, [u, s], rfl, u, [s], rfl, s, [], rfl, rfl, q _ (Same.upd hp)⟩⟩
/-- a block that is never run -/
theorem r_stuck {ss : List Stmt} : RSs X W ss (fun _ => .stuck) := ⟨fun pins s σ H D I q => by
  obtain ⟨_, _, _, _, q⟩ := q
  exact q.elim⟩
/-- a new thing of any kind among the values -/
def mConsO (a : M Tv) (b : M (List Tv)) : M (List Tv) := bnd a fun t => bnd b fun xs g => .ok (t :: xs) g
theorem m_consO {es : List Expr} {ma : M Tv} {m : M (List Tv)} (ha : RO X W a ma) (hr : RM X W es m) (hs : starEach (a :: es) X.env = (false, eval a X.env) :: starEach es X.env := by rfl) : RM X W (a :: es) (mConsO ma m) :=
  PA.imp (pa_cons ha hr hs) fun σ H Q h => by
    obtain ⟨g, R, s, n, h⟩ := h
    refine ⟨g, R, s, n, ?_⟩
    unfold mConsO bnd at h
    cases e1 : ma g with
    | stuck => rw [e1] at h; exact h
    | exc c g' => rw [e1] at h; exact h
    | ok t g1 =>
      rw [e1] at h
      dsimp only at h
      intro p H1 ⟨bk1, tr, R1, s1, n1, x1, w1⟩
      obtain ⟨nn, n1'⟩ := List.nodup_cons.mp n1
      refine ⟨g1, R1, s1, n1', ?_⟩
      cases e2 : m g1 with
      | stuck => rw [e2] at h; exact h
      | exc c g' =>
        rw [e2] at h
        intro H2 ⟨bk2, R2, s2, n2, x2, w2⟩
        have w1' : New R H R1 := fun z hz => w1 z (List.mem_cons_of_mem _ hz)
        exact h H2 ⟨bk1.trans bk2, R2, s2, n2, x1.trans w1' x2, New.trans x1 w1' w2⟩
      | ok ts g2 =>
        rw [e2] at h
        intro vs H2 ⟨bk2, Rt, R2, t2, s2, n2, x2, w2⟩
        have w1' : New R H R1 := fun z hz => w1 z (List.mem_cons_of_mem _ hz)
        have pe := x2.pers s1.live
        have hp1 : H1 p ≠ none := tr.root_some p (List.mem_singleton.mpr rfl)
        have np : p ∉ Rt ++ R2 := fun z => by
          rcases w2 p z with y | y
          · exact nn y
          · exact hp1 y
        have tr2 : TRep X.K H2 (.ref p) t [p] := tr.keep pe fun z hz => by
          rw [List.mem_singleton] at hz
          subst hz
          cases q : H1 z with
          | none => exact absurd q hp1
          | some o => exact x2 z o q nn
        refine h (.ref p :: vs) H2 ⟨bk1.trans bk2, [p] ++ Rt, R2, .cons tr2 t2, s2, ?_, x1.trans w1' x2, ?_⟩
        · rw [List.append_assoc]
          exact List.nodup_cons.mpr ⟨np, n2⟩
        · rw [List.append_assoc]
          intro z hz
          rcases List.mem_cons.mp hz with y | y
          · rw [y]; exact w1 p List.mem_cons_self
          · exact New.trans x1 w1' w2 z y
end
end PP

namespace PP
open PySem PySem.Spec L2
open PyProof.Rows hiding St
/-! ### x[::-1] -/
theorem places_rev (n : Nat) : Builtin.Slice.slicePlaces ((n : Int) - 1) (-1) (-1) = n := by
  unfold Builtin.Slice.slicePlaces
  rw [if_neg (by decide)]
  split
  · have : ((n : Int) - 1 - -1 - 1) / (- -1) + 1 = n := by
      rw [show (- -1 : Int) = 1 from rfl, Int.ediv_one]
      omega
    omega
  · omega
theorem sliceApplied_rev {prog : Program} {w : World} {A : Around} {E : Value → Shared → Prop} {s : Shared} {sl : Addr} {vl vu vs : Value} {n : Nat} {Q : Int × Int × Nat → Shared → Prop} (hs : s.heap.IsSliceOf sl vl vu vs) (pl : IsPart vl none) (pu : IsPart vu none) (ps : IsPart vs (some (-1)))
    (h : Q ((n : Int) - 1, -1, n) s) : wpAny (model prog w) A (Builtin.Slice.sliceApplied (.ref sl) (pure (n : Int))) Q E s := by
  obtain ⟨os, hos, hcs, hds⟩ := id hs
  unfold Builtin.Slice.sliceApplied Builtin.Slice.sliceFields
  refine wpAny_bind (wpAny_bind (wpAny_field hos hds (x := vl) rfl (wpAny_bind (wpAny_field hos hds (x := vu) rfl (wpAny_bind (wpAny_field hos hds (x := vs) rfl (wpAny_pure ?_)))))))
  refine wpAny_bind (HT.slicePart_ ps ?_)
  show wpAny _ _ (if ((-1 : Int) == 0) = true then _ else _) _ _ s
  rw [if_neg (by decide)]
  refine wpAny_bind (HT.slicePart_ pl (wpAny_bind (HT.slicePart_ pu (wpAny_bind (wpAny_pure ?_)))))
  show wpAny _ _ (pure ((n : Int) - 1, (-1 : Int), Builtin.Slice.slicePlaces ((n : Int) - 1) (-1) (-1))) _ _ s
  rw [places_rev]
  exact wpAny_pure h
theorem fm_congr {α β : Type} {f g : α → Option β} : ∀ {l : List α}, (∀ a ∈ l, f a = g a) → l.filterMap f = l.filterMap g
  | [], _ => rfl
  | a :: l, h => by rw [List.filterMap_cons, List.filterMap_cons, h a List.mem_cons_self, fm_congr fun b hb => h b (List.mem_cons_of_mem _ hb)]
theorem pick_rev (xs : Array Value) : ((List.range xs.size).filterMap fun (m : Nat) => xs[(((xs.size : Int) - 1) + (m : Int) * (-1)).toNat]?).toArray = xs.toList.reverse.toArray := by
  congr 1
  have e : ∀ m ∈ List.range xs.size, xs[(((xs.size : Int) - 1) + (m : Int) * (-1)).toNat]? = xs[xs.size - 1 - m]? := fun m hm => by
    have : (((xs.size : Int) - 1) + (m : Int) * (-1)).toNat = xs.size - 1 - m := by
      have := List.mem_range.mp hm
      omega
    rw [this]
  rw [fm_congr e]
  have h2 : (List.range xs.size).filterMap (fun m => xs[xs.size - 1 - m]?) = ((List.range xs.size).map fun k => xs.size - 1 - k).filterMap fun j => xs[j]? := by
    rw [List.filterMap_map]
    rfl
  rw [h2, PySem.W.krv_range, List.filterMap_reverse, PySem.W.krv_all]
theorem getItem_tuple_rev {prog : Program} {w : World} {A : Around} {E : Value → Shared → Prop} {s : Shared} {t sl : Addr} {items : Array Value} {vl vu vs : Value} {Q : Value → Shared → Prop} (ht : IsTup s.heap t items) (hs : s.heap.IsSliceOf sl vl vu vs) (pl : IsPart vl none) (pu : IsPart vu none) (ps : IsPart vs (some (-1)))
    (h : Q (.ref s.heap.objs.size) { s with heap := s.heap.push { cls := .type "tuple", data := .seq items.toList.reverse.toArray } }) (hsz : items.size ≤ sizeLine) : wpAny (model prog w) A (getItem (.ref t) (.ref sl)) Q E s := by
  have hok : sizeOk (.seq items.toList.reverse.toArray) := by
    show items.toList.reverse.toArray.size ≤ sizeLine
    rw [List.size_toArray, List.length_reverse, Array.length_toList]
    exact hsz
  obtain ⟨os, hos, hcs, hds⟩ := id hs
  have hTs : s.TypeIs (.ref sl) "slice" := ⟨os, hos, hcs⟩
  unfold getItem
  try with_reducible refine wpAny_holding ?_
  first | refine wpAny_bind (wpAny_pure ?_) | skip
  refine wpAny_bind (wpAny_sequenceKey ht.typeIs (by decide) ?_)
  refine wpAny_bind (wpAny_callSpecial?_slot (name := Str.ofString "__getitem__") ht.typeIs PyProof.Rows.slot_tuple_getitem (wpAny_call_entry PyProof.Rows.slot_tuple_getitem ht.typeIs entry_tuple_getitem ?_ (args_tuple_getitem _ _)))
  show wpAny _ _ (Builtin.Tuple.tupleItemsOf (.ref t) >>= _) _ _ s
  refine wpAny_bind (tupleItemsOf_ ht (wpAny_bind (wpAny_typeOf hTs ?_)))
  rw [if_pos (by decide)]
  refine wpAny_bind (sliceApplied_rev hs pl pu ps ?_)
  show wpAny _ _ (if (((items.size : Int) - 1) == 0 && (-1 : Int) == 1 && items.size == items.size) = true then _ else _) _ _ s
  rw [if_neg (by rw [show ((-1 : Int) == 1) = false from rfl, Bool.and_false, Bool.false_and]; decide), pick_rev]
  first
    | exact wpAny_bind (m := Builtin.Tuple.tupleExact _) (wpAny_newObj_type (wpAny_pure ⟨_, rfl, wpAny_pure h⟩) hok)
    | exact wpAny_bind (m := Builtin.Tuple.tupleExact _) (wpAny_newObj_type (wpAny_bind (wpAny_pure (wpAny_pure ⟨_, rfl, wpAny_pure h⟩))) hok)
    | exact wpAny_bind (wpAny_bind (m := Builtin.Tuple.tupleExact _) (wpAny_newObj_type (wpAny_pure (wpAny_pure ⟨_, rfl, wpAny_pure h⟩)) hok))
    | exact wpAny_bind (wpAny_bind (m := Builtin.Tuple.tupleExact _) (wpAny_newObj_type (wpAny_pure ⟨_, rfl, wpAny_pure h⟩) hok))
def revD : D → Option D
  | .list xs => some (.list xs.reverse)
  | .tuple xs => some (.tuple xs.reverse)
  | _ => none
theorem FzAll.rev {K : PySem.W.Frag} {H : Hp} : ∀ {vs : List V} {ds : List D}, FzAll K H vs ds → FzAll K H vs.reverse ds.reverse
  | _, _, .nil => .nil
  | _, _, .cons h a => by
    rw [List.reverse_cons, List.reverse_cons]
    exact (FzAll.rev a).append (.cons h .nil)
section
variable {X : Cx} {W : WX} {e : Expr} {m : M D} {pos : Pos}
theorem r_rev {k : Nat} {p1 p2 p3 : Pos} (he : RE X W e m) : RE X W (.Subscript e (.Slice none none (some (.UnaryOp .USub (.Constant (.int 1) k p1) p2)) p3) pos) (ap1 revD m) := by
  refine ⟨fun pins s σ H Q I h => ?_⟩
  refine Subscript_ (thn (he.run pins s σ H _ I (tD1 h)) fun v s1 ⟨x, H1, I1, r1, dx, fx, c, ec, q⟩ => ?_)
  have hst : PO X (some (.UnaryOp .USub (.Constant (.int 1) k p1) p2)) (tPart (tUn (rU fun i => .int (-i)) (tC (.int 1)))) := po_some (pe_un un_neg pe_int)
  refine wpAny_Slice (thn (po_none.run pins s1 σ H1 (fun o H2 => o = none ∧ H2 = H1) I1 ⟨rfl, rfl⟩) fun vl s2 ⟨l, H2, I2, pl, el, e2⟩ => ?_)
  subst el e2
  refine thn (po_none.run pins s2 σ H2 (fun o H3 => o = none ∧ H3 = H2) I2 ⟨rfl, rfl⟩) fun vu s3 ⟨u, H3, I3, pu, eu, e3⟩ => ?_
  subst eu e3
  refine thn (hst.run pins s3 σ H3 (fun o H4 => o = some (-1) ∧ H4 = H3) I3 ⟨1, rfl, -1, rfl, rfl, rfl⟩) fun vs s4 ⟨o, H4, I4, ps, eo, e4⟩ => ?_
  subst eo e4
  have I5 : Inv X pins σ H4 { s4 with heap := s4.heap.push { cls := .type "slice", data := .fields #[vl, vu, vs] } } := I4.kept (t' := s4.toks) fun b ob q => Heap.get?_push_of_some _ q
  show wpAny (model X.prog X.w) X.A (subscriptTail e (.Slice none none (some (.UnaryOp .USub (.Constant (.int 1) k p1) p2)) p3) v (.ref s4.heap.objs.size)) (EP X pins σ Q) X.xe { s4 with heap := s4.heap.push { cls := .type "slice", data := .fields #[vl, vu, vs] } }
  cases fx with
  | lst hx fa =>
    cases ec
    cases r1
    obtain ⟨its, r, ht, hz⟩ := I5.list hx.sq
    refine tail_any (ops := [_, .ref s4.heap.objs.size]) ht.isList.typeIs (PySem.slot_list_getitem.lookup) ?_ (by with_unfolding_all rfl)
    refine wpAny_getItem_list_slice ht.isList (Heap.IsSliceOf.new _ vl vu vs) pl pu ps (by decide) ?_ (by rw [List.size_toArray, ← r.length]; exact hz)
    rw [PySem.W.krv_pick]
    exact ep_list (t := s4.toks) I5 r.reverse fa.rev (by rw [List.length_reverse]; exact hz) q
  | tup hx fa =>
    cases ec
    cases r1
    obtain ⟨its, r, ht, hz⟩ := I5.tuple hx.sq
    refine tail_any (ops := [_, .ref s4.heap.objs.size]) ht.typeIs (PyProof.Rows.slot_tuple_getitem.lookup) ?_ (by with_unfolding_all rfl)
    refine getItem_tuple_rev ht (Heap.IsSliceOf.new _ vl vu vs) pl pu ps ?_ (by rw [List.size_toArray, ← r.length]; exact hz)
    exact ep_tup (t := s4.toks) I5 r.reverse fa.rev (by rw [List.length_reverse]; exact hz) q
  | _ => cases ec
end
end PP

namespace PP
open PySem PySem.Spec L2
open PyProof.Rows hiding St
/-! ### the newer mirrors, run on slots -/
section
variable {α β : Type} {g g' : Ga}
theorem eVar_11 {a0 a1 a2 a3 a4 a5 a6 a7 a8 a9 a10 : Option Tv} {x : D} {r : Ga} : eVar 11 (a0 :: a1 :: a2 :: a3 :: a4 :: a5 :: a6 :: a7 :: a8 :: a9 :: a10 :: some (.d x) :: r) = .ok x (a0 :: a1 :: a2 :: a3 :: a4 :: a5 :: a6 :: a7 :: a8 :: a9 :: a10 :: some (.d x) :: r) := rfl
theorem eVar_12 {a0 a1 a2 a3 a4 a5 a6 a7 a8 a9 a10 a11 : Option Tv} {x : D} {r : Ga} : eVar 12 (a0 :: a1 :: a2 :: a3 :: a4 :: a5 :: a6 :: a7 :: a8 :: a9 :: a10 :: a11 :: some (.d x) :: r) = .ok x (a0 :: a1 :: a2 :: a3 :: a4 :: a5 :: a6 :: a7 :: a8 :: a9 :: a10 :: a11 :: some (.d x) :: r) := rfl
theorem eVar_13 {a0 a1 a2 a3 a4 a5 a6 a7 a8 a9 a10 a11 a12 : Option Tv} {x : D} {r : Ga} : eVar 13 (a0 :: a1 :: a2 :: a3 :: a4 :: a5 :: a6 :: a7 :: a8 :: a9 :: a10 :: a11 :: a12 :: some (.d x) :: r) = .ok x (a0 :: a1 :: a2 :: a3 :: a4 :: a5 :: a6 :: a7 :: a8 :: a9 :: a10 :: a11 :: a12 :: some (.d x) :: r) := rfl
theorem eVar_14 {a0 a1 a2 a3 a4 a5 a6 a7 a8 a9 a10 a11 a12 a13 : Option Tv} {x : D} {r : Ga} : eVar 14 (a0 :: a1 :: a2 :: a3 :: a4 :: a5 :: a6 :: a7 :: a8 :: a9 :: a10 :: a11 :: a12 :: a13 :: some (.d x) :: r) = .ok x (a0 :: a1 :: a2 :: a3 :: a4 :: a5 :: a6 :: a7 :: a8 :: a9 :: a10 :: a11 :: a12 :: a13 :: some (.d x) :: r) := rfl
theorem eVar_15 {a0 a1 a2 a3 a4 a5 a6 a7 a8 a9 a10 a11 a12 a13 a14 : Option Tv} {x : D} {r : Ga} : eVar 15 (a0 :: a1 :: a2 :: a3 :: a4 :: a5 :: a6 :: a7 :: a8 :: a9 :: a10 :: a11 :: a12 :: a13 :: a14 :: some (.d x) :: r) = .ok x (a0 :: a1 :: a2 :: a3 :: a4 :: a5 :: a6 :: a7 :: a8 :: a9 :: a10 :: a11 :: a12 :: a13 :: a14 :: some (.d x) :: r) := rfl
theorem eVar_16 {a0 a1 a2 a3 a4 a5 a6 a7 a8 a9 a10 a11 a12 a13 a14 a15 : Option Tv} {x : D} {r : Ga} : eVar 16 (a0 :: a1 :: a2 :: a3 :: a4 :: a5 :: a6 :: a7 :: a8 :: a9 :: a10 :: a11 :: a12 :: a13 :: a14 :: a15 :: some (.d x) :: r) = .ok x (a0 :: a1 :: a2 :: a3 :: a4 :: a5 :: a6 :: a7 :: a8 :: a9 :: a10 :: a11 :: a12 :: a13 :: a14 :: a15 :: some (.d x) :: r) := rfl
theorem eVar_17 {a0 a1 a2 a3 a4 a5 a6 a7 a8 a9 a10 a11 a12 a13 a14 a15 a16 : Option Tv} {x : D} {r : Ga} : eVar 17 (a0 :: a1 :: a2 :: a3 :: a4 :: a5 :: a6 :: a7 :: a8 :: a9 :: a10 :: a11 :: a12 :: a13 :: a14 :: a15 :: a16 :: some (.d x) :: r) = .ok x (a0 :: a1 :: a2 :: a3 :: a4 :: a5 :: a6 :: a7 :: a8 :: a9 :: a10 :: a11 :: a12 :: a13 :: a14 :: a15 :: a16 :: some (.d x) :: r) := rfl
theorem eVar_18 {a0 a1 a2 a3 a4 a5 a6 a7 a8 a9 a10 a11 a12 a13 a14 a15 a16 a17 : Option Tv} {x : D} {r : Ga} : eVar 18 (a0 :: a1 :: a2 :: a3 :: a4 :: a5 :: a6 :: a7 :: a8 :: a9 :: a10 :: a11 :: a12 :: a13 :: a14 :: a15 :: a16 :: a17 :: some (.d x) :: r) = .ok x (a0 :: a1 :: a2 :: a3 :: a4 :: a5 :: a6 :: a7 :: a8 :: a9 :: a10 :: a11 :: a12 :: a13 :: a14 :: a15 :: a16 :: a17 :: some (.d x) :: r) := rfl
theorem eVar_19 {a0 a1 a2 a3 a4 a5 a6 a7 a8 a9 a10 a11 a12 a13 a14 a15 a16 a17 a18 : Option Tv} {x : D} {r : Ga} : eVar 19 (a0 :: a1 :: a2 :: a3 :: a4 :: a5 :: a6 :: a7 :: a8 :: a9 :: a10 :: a11 :: a12 :: a13 :: a14 :: a15 :: a16 :: a17 :: a18 :: some (.d x) :: r) = .ok x (a0 :: a1 :: a2 :: a3 :: a4 :: a5 :: a6 :: a7 :: a8 :: a9 :: a10 :: a11 :: a12 :: a13 :: a14 :: a15 :: a16 :: a17 :: a18 :: some (.d x) :: r) := rfl
theorem eVar_20 {a0 a1 a2 a3 a4 a5 a6 a7 a8 a9 a10 a11 a12 a13 a14 a15 a16 a17 a18 a19 : Option Tv} {x : D} {r : Ga} : eVar 20 (a0 :: a1 :: a2 :: a3 :: a4 :: a5 :: a6 :: a7 :: a8 :: a9 :: a10 :: a11 :: a12 :: a13 :: a14 :: a15 :: a16 :: a17 :: a18 :: a19 :: some (.d x) :: r) = .ok x (a0 :: a1 :: a2 :: a3 :: a4 :: a5 :: a6 :: a7 :: a8 :: a9 :: a10 :: a11 :: a12 :: a13 :: a14 :: a15 :: a16 :: a17 :: a18 :: a19 :: some (.d x) :: r) := rfl
theorem eVar_21 {a0 a1 a2 a3 a4 a5 a6 a7 a8 a9 a10 a11 a12 a13 a14 a15 a16 a17 a18 a19 a20 : Option Tv} {x : D} {r : Ga} : eVar 21 (a0 :: a1 :: a2 :: a3 :: a4 :: a5 :: a6 :: a7 :: a8 :: a9 :: a10 :: a11 :: a12 :: a13 :: a14 :: a15 :: a16 :: a17 :: a18 :: a19 :: a20 :: some (.d x) :: r) = .ok x (a0 :: a1 :: a2 :: a3 :: a4 :: a5 :: a6 :: a7 :: a8 :: a9 :: a10 :: a11 :: a12 :: a13 :: a14 :: a15 :: a16 :: a17 :: a18 :: a19 :: a20 :: some (.d x) :: r) := rfl
theorem eVar_22 {a0 a1 a2 a3 a4 a5 a6 a7 a8 a9 a10 a11 a12 a13 a14 a15 a16 a17 a18 a19 a20 a21 : Option Tv} {x : D} {r : Ga} : eVar 22 (a0 :: a1 :: a2 :: a3 :: a4 :: a5 :: a6 :: a7 :: a8 :: a9 :: a10 :: a11 :: a12 :: a13 :: a14 :: a15 :: a16 :: a17 :: a18 :: a19 :: a20 :: a21 :: some (.d x) :: r) = .ok x (a0 :: a1 :: a2 :: a3 :: a4 :: a5 :: a6 :: a7 :: a8 :: a9 :: a10 :: a11 :: a12 :: a13 :: a14 :: a15 :: a16 :: a17 :: a18 :: a19 :: a20 :: a21 :: some (.d x) :: r) := rfl
theorem eVar_23 {a0 a1 a2 a3 a4 a5 a6 a7 a8 a9 a10 a11 a12 a13 a14 a15 a16 a17 a18 a19 a20 a21 a22 : Option Tv} {x : D} {r : Ga} : eVar 23 (a0 :: a1 :: a2 :: a3 :: a4 :: a5 :: a6 :: a7 :: a8 :: a9 :: a10 :: a11 :: a12 :: a13 :: a14 :: a15 :: a16 :: a17 :: a18 :: a19 :: a20 :: a21 :: a22 :: some (.d x) :: r) = .ok x (a0 :: a1 :: a2 :: a3 :: a4 :: a5 :: a6 :: a7 :: a8 :: a9 :: a10 :: a11 :: a12 :: a13 :: a14 :: a15 :: a16 :: a17 :: a18 :: a19 :: a20 :: a21 :: a22 :: some (.d x) :: r) := rfl
theorem eVar_24 {a0 a1 a2 a3 a4 a5 a6 a7 a8 a9 a10 a11 a12 a13 a14 a15 a16 a17 a18 a19 a20 a21 a22 a23 : Option Tv} {x : D} {r : Ga} : eVar 24 (a0 :: a1 :: a2 :: a3 :: a4 :: a5 :: a6 :: a7 :: a8 :: a9 :: a10 :: a11 :: a12 :: a13 :: a14 :: a15 :: a16 :: a17 :: a18 :: a19 :: a20 :: a21 :: a22 :: a23 :: some (.d x) :: r) = .ok x (a0 :: a1 :: a2 :: a3 :: a4 :: a5 :: a6 :: a7 :: a8 :: a9 :: a10 :: a11 :: a12 :: a13 :: a14 :: a15 :: a16 :: a17 :: a18 :: a19 :: a20 :: a21 :: a22 :: a23 :: some (.d x) :: r) := rfl
theorem eVar_25 {a0 a1 a2 a3 a4 a5 a6 a7 a8 a9 a10 a11 a12 a13 a14 a15 a16 a17 a18 a19 a20 a21 a22 a23 a24 : Option Tv} {x : D} {r : Ga} : eVar 25 (a0 :: a1 :: a2 :: a3 :: a4 :: a5 :: a6 :: a7 :: a8 :: a9 :: a10 :: a11 :: a12 :: a13 :: a14 :: a15 :: a16 :: a17 :: a18 :: a19 :: a20 :: a21 :: a22 :: a23 :: a24 :: some (.d x) :: r) = .ok x (a0 :: a1 :: a2 :: a3 :: a4 :: a5 :: a6 :: a7 :: a8 :: a9 :: a10 :: a11 :: a12 :: a13 :: a14 :: a15 :: a16 :: a17 :: a18 :: a19 :: a20 :: a21 :: a22 :: a23 :: a24 :: some (.d x) :: r) := rfl
theorem sWipe_app (vs : List Nat) : sWipe vs g = if vs.all (fun i => freeAt g i) = true then .ok .nx (wipeG g vs) else .stuck := rfl
theorem wipeG_nil : wipeG g [] = g := rfl
theorem wipeG_cons (v : Nat) (vs : List Nat) : wipeG g (v :: vs) = (wipeG g vs).set v none := rfl
theorem sSetO_app (i : Nat) (m : M Tv) : sSetO i m g = (m g).bind fun t g1 => if freeAt g1 i = true then .ok .nx (g1.set i (some t)) else .stuck := rfl
theorem mConsO_app (a : M Tv) (b : M (List Tv)) : mConsO a b g = (a g).bind fun t => bnd b fun xs g => .ok (t :: xs) g := rfl
theorem ap2L_app (f : D → D → Option (List D)) (a b : M D) : ap2L f a b g = (a g).bind fun x => bnd b fun y => lift (f x y) := rfl
theorem eIdx_app (mo me : M D) : eIdx mo me g = (mo g).bind fun x => if idxOk x = true then bnd me fun y => lift (idxL (itsD x) y) else fun _ => .stuck := rfl
theorem eExt_app (i : Nat) (m : M (List D)) : eExt i m g = if isMl g i = true then (m g).bind fun x g1 => onK (g1[i]?) i fExt x g1 else .stuck := onL_app i m fExt
theorem fExt_ok {xs ys : List D} (h : xs.length + ys.length ≤ sizeLine) : fExt xs ys = some (.none, xs ++ ys) := by rw [fExt, if_pos h]
theorem eNewT_app : eNewT g = .ok (.md false true []) g := rfl
/-- x[k] op= e on a list of one's own -/
theorem sAugI_app (i : Nat) (f : D → D → Option D) (mk me : M D) : sAugI i f mk me g = if isMl g i = true then ((mk g).bind fun x g1 => onK (g1[i]?) i fIdxP x g1).bind fun kx => bnd me fun y => bnd (lift (f kx.2 y)) fun z => augK i kx.1 z else .stuck := by
  show (onL i mk fIdxP g).bind _ = _
  rw [onL_app]
  by_cases h : isMl g i = true
  · rw [if_pos h, if_pos h]
  · rw [if_neg h, if_neg h]
    rfl
theorem augK_app (i : Nat) (k z : D) : augK i k z g = if isMl g i = true then (onK (g[i]?) i (fSetI z) k g).bind fun _ g => .ok .nx g else .stuck := by
  show (onL i (eC k) (fSetI z) g).bind _ = _
  rw [onL_app]
  by_cases h : isMl g i = true
  · rw [if_pos h, if_pos h]
    rfl
  · rw [if_neg h, if_neg h]
    rfl
theorem fIdxP_ok {xs : List D} {k : Nat} {y : D} (h : xs[k]? = some y) : fIdxP xs (.int (k : Int)) = some ((.int (k : Int), y), xs) := by
  have hk := (List.getElem?_eq_some_iff.mp h).1
  show (L2.atI xs (k : Int)).map _ = _
  rw [L2.atI, L2.ixN, if_pos (by omega), if_pos (by omega)]
  have : xs[(k : Int).toNat]? = some y := by simpa using h
  show (xs[(k : Int).toNat]?).map _ = _
  rw [this]
  rfl
theorem fSetI_ok {xs : List D} {k : Nat} {y : D} (h : k < xs.length) : fSetI y xs (.int (k : Int)) = some (.none, xs.set k y) := by
  show (L2.ixN _ _).map _ = _
  rw [L2.ixN, if_pos (by omega), if_pos (by omega)]
  rfl
/-- one step over slots with an own dict -/
def onKT (o : Option (Option Tv)) (i : Nat) (f : List (D × D) → β → Option (α × List (D × D))) (x : β) : M α := fun g => match o with
  | some (some (.md b true L)) => (match f L x with
    | some (y, L') => .ok y (g.set i (some (.md b true L')))
    | none => .stuck)
  | _ => .stuck
theorem onKT_md (b : Bool) (L L' : List (D × D)) (i : Nat) (f : List (D × D) → β → Option (α × List (D × D))) (x : β) (y : α) (h : f L x = some (y, L')) : onKT (some (some (.md b true L))) i f x g = .ok y (g.set i (some (.md b true L'))) := by
  unfold onKT
  dsimp only
  rw [h]
theorem onT_app (i : Nat) (m : M β) (f : List (D × D) → β → Option (α × List (D × D))) : onT i m f g = if isMt g i = true then (m g).bind fun x g1 => onKT (g1[i]?) i f x g1 else .stuck := by
  unfold onT
  by_cases h : isMt g i = true
  · rw [if_pos h, if_pos h]
    cases m g <;> rfl
  · rw [if_neg h, if_neg h]
theorem isMt_s (a : Option Tv) (r : Ga) (n : Nat) : isMt (a :: r) (n + 1) = isMt r n := rfl
theorem isMt_m (b : Bool) (L : List (D × D)) (r : Ga) : isMt (some (.md b true L) :: r) 0 = true := rfl
theorem sAugT_app (i : Nat) (f : D → D → Option D) (mk me : M D) : sAugT i f mk me g = if isMt g i = true then ((mk g).bind fun x g1 => onKT (g1[i]?) i fGetT x g1).bind fun kx => bnd me fun y => bnd (lift (f kx.2 y)) fun z => augKT i kx.1 z else .stuck := by
  show (onT i mk fGetT g).bind _ = _
  rw [onT_app]
  by_cases h : isMt g i = true
  · rw [if_pos h, if_pos h]
  · rw [if_neg h, if_neg h]
    rfl
theorem augKT_app (i : Nat) (k z : D) : augKT i k z g = if isMt g i = true then (onKT (g[i]?) i (fPutT z) k g).bind fun _ g => .ok .nx g else .stuck := by
  show (onT i (eC k) (fPutT z) g).bind _ = _
  rw [onT_app]
  by_cases h : isMt g i = true
  · rw [if_pos h, if_pos h]
    rfl
  · rw [if_neg h, if_neg h]
    rfl
theorem freeAt_t (b t : Bool) (L : List (D × D)) (r : Ga) : freeAt (some (.md b t L) :: r) 0 = !b := rfl
/-! ### comprehensions of two clauses -/
theorem clI_src {γ : Type} {vs : List Nat} {b : Bd} {t : M Bool} {e : M D} {mk : γ → D} {p : γ → Bool} {f : γ → D} {g : Ga} : ∀ (src : List γ) (acc : List D), acc.length + src.length ≤ sizeLine → (∀ x ∈ src, ∃ g1, b (mk x) g = some g1 ∧ t g1 = .ok (p x) g1 ∧ (p x = true → e g1 = .ok (f x) g1) ∧ vs.all (fun i => freeAt g1 i) = true ∧ wipeG g1 vs = g) →
    clI vs b t e (src.map mk) acc g = .ok (acc ++ (src.filter p).map f) g
  | [], acc, _, _ => by rw [List.map_nil, clI]; simp
  | x :: r, acc, hl, h => by
    obtain ⟨g1, e1, e2, e3, e4, e5⟩ := h x List.mem_cons_self
    rw [List.length_cons] at hl
    have ih := fun acc hl => clI_src r acc hl (fun y hy => h y (List.mem_cons_of_mem _ hy))
    rw [List.map_cons, clI, e1]
    dsimp only
    rw [e2]
    cases hp : p x with
    | false =>
      dsimp only
      rw [if_pos e4, e5, ih _ (by omega), List.filter_cons_of_neg (by rw [hp]; decide)]
    | true =>
      dsimp only
      rw [e3 hp]
      dsimp only
      rw [if_pos ⟨e4, by omega⟩, e5, ih _ (by rw [List.length_append, List.length_singleton]; omega), List.filter_cons_of_pos hp, List.map_cons, List.append_assoc]
      rfl
theorem cl2_src {γ δ : Type} {vs vs1 : List Nat} {b b1 : Bd} {t t1 : M Bool} {mi1 : M (List D)} {e : M D} {mk : γ → D} {mk1 : γ → δ → D} {p : γ → Bool} {src1 : γ → List δ} {p1 : γ → δ → Bool} {f : γ → δ → D} {g : Ga} : ∀ (src : List γ) (acc : List D), acc.length + (src.map fun x => (src1 x).length).sum ≤ sizeLine →
    (∀ x ∈ src, ∃ g1, b (mk x) g = some g1 ∧ t g1 = .ok (p x) g1 ∧ vs.all (fun i => freeAt g1 i) = true ∧ wipeG g1 vs = g ∧ (p x = true → mi1 g1 = .ok ((src1 x).map (mk1 x)) g1 ∧ vs1.all (fun i => freeAt g1 i) = true ∧ wipeG g1 vs1 = g1 ∧
      ∀ y ∈ src1 x, ∃ g2, b1 (mk1 x y) g1 = some g2 ∧ t1 g2 = .ok (p1 x y) g2 ∧ (p1 x y = true → e g2 = .ok (f x y) g2) ∧ vs1.all (fun i => freeAt g2 i) = true ∧ wipeG g2 vs1 = g1)) →
    cl2 vs vs1 b t mi1 b1 t1 e (src.map mk) acc g = .ok (acc ++ (src.filter p).flatMap fun x => ((src1 x).filter (p1 x)).map (f x)) g
  | [], acc, _, _ => by rw [List.map_nil, cl2]; simp
  | x :: r, acc, hl, h => by
    obtain ⟨g1, e1, e2, e4, e5, e6⟩ := h x List.mem_cons_self
    rw [List.map_cons, List.sum_cons] at hl
    have ih := fun acc hl => cl2_src (mk1 := mk1) (p := p) (src1 := src1) (p1 := p1) (f := f) r acc hl (fun y hy => h y (List.mem_cons_of_mem _ hy))
    rw [List.map_cons, cl2, e1]
    dsimp only
    rw [e2]
    cases hp : p x with
    | false =>
      dsimp only
      rw [if_pos e4, e5, ih _ (by omega), List.filter_cons_of_neg (by rw [hp]; decide)]
    | true =>
      obtain ⟨e7, e8, e9, e10⟩ := e6 hp
      dsimp only
      rw [e7]
      dsimp only
      have hf : ((src1 x).filter (p1 x)).length ≤ (src1 x).length := List.length_filter_le _ _
      rw [if_pos e8, e9, clI_src (src1 x) acc (by omega) e10]
      dsimp only
      rw [if_pos e4, e5, ih _ (by rw [List.length_append, List.length_map]; omega), List.filter_cons_of_pos hp, List.flatMap_cons, List.append_assoc]
theorem lc2 {γ δ : Type} {vs vs1 : List Nat} {b b1 : Bd} {t t1 : M Bool} {mi mi1 : M (List D)} {e : M D} {g : Ga} (src : List γ) (mk : γ → D) (p : γ → Bool) (src1 : γ → List δ) (mk1 : γ → δ → D) (p1 : γ → δ → Bool) (f : γ → δ → D)
    (hi : mi g = .ok (src.map mk) g) (hl : (src.map fun x => (src1 x).length).sum ≤ sizeLine)
    (h : ∀ x ∈ src, ∃ g1, b (mk x) g = some g1 ∧ t g1 = .ok (p x) g1 ∧ vs.all (fun i => freeAt g1 i) = true ∧ wipeG g1 vs = g ∧ (p x = true → mi1 g1 = .ok ((src1 x).map (mk1 x)) g1 ∧ vs1.all (fun i => freeAt g1 i) = true ∧ wipeG g1 vs1 = g1 ∧
      ∀ y ∈ src1 x, ∃ g2, b1 (mk1 x y) g1 = some g2 ∧ t1 g2 = .ok (p1 x y) g2 ∧ (p1 x y = true → e g2 = .ok (f x y) g2) ∧ vs1.all (fun i => freeAt g2 i) = true ∧ wipeG g2 vs1 = g1))
    (hw : wipeG g vs = g := by rfl) (hf : vs.all (fun i => freeAt g i) = true := by rfl) : eLc2 vs vs1 b t mi1 b1 t1 e mi g = .ok ((src.filter p).flatMap fun x => ((src1 x).filter (p1 x)).map (f x)) g := by
  unfold eLc2
  rw [bnd_app, hi, bind_ok, if_pos hf, hw, cl2_src src [] (by simpa using hl) h]
  rfl
/-! ### dict comprehensions -/
theorem cld_src {γ : Type} {vs : List Nat} {b : Bd} {t : M Bool} {ek ev : M D} {mk : γ → D} {p : γ → Bool} {kf vf : γ → D} {ksf : γ → List Key} {g : Ga} : ∀ (src : List γ) (acc : List (D × D)), acc.length + src.length ≤ sizeLine →
    (∀ x ∈ src, ∃ g1, b (mk x) g = some g1 ∧ t g1 = .ok (p x) g1 ∧ (p x = true → ek g1 = .ok (kf x) g1 ∧ ev g1 = .ok (vf x) g1 ∧ tkI (kf x) = some (ksf x)) ∧ vs.all (fun i => freeAt g1 i) = true ∧ wipeG g1 vs = g) →
    cld vs b t ek ev (src.map mk) acc g = .ok ((src.filter p).foldl (fun L x => putT L (ksf x) (vf x)) acc) g
  | [], acc, _, _ => by rw [List.map_nil, cld]; simp
  | x :: r, acc, hl, h => by
    obtain ⟨g1, e1, e2, e3, e4, e5⟩ := h x List.mem_cons_self
    rw [List.length_cons] at hl
    have ih := fun acc hl => cld_src (kf := kf) r acc hl (fun y hy => h y (List.mem_cons_of_mem _ hy))
    rw [List.map_cons, cld, e1]
    dsimp only
    rw [e2]
    cases hp : p x with
    | false =>
      dsimp only
      rw [if_pos e4, e5, ih _ (by omega), List.filter_cons_of_neg (by rw [hp]; decide)]
    | true =>
      obtain ⟨h1, h2, h3⟩ := e3 hp
      dsimp only
      rw [h1]
      dsimp only
      rw [h2]
      dsimp only
      have hput : fPutT (vf x) acc (kf x) = some (.none, putT acc (ksf x) (vf x)) := by
        unfold fPutT
        rw [h3]
        dsimp only
        rw [if_pos (by omega)]
      rw [hput]
      dsimp only
      have hlen : (putT acc (ksf x) (vf x)).length ≤ acc.length + 1 := by
        unfold putT
        split
        · rw [List.length_map]; omega
        · rw [List.length_append, List.length_singleton]; omega
      rw [if_pos e4, e5, ih _ (by omega), List.filter_cons_of_pos hp, List.foldl_cons]
theorem dcT {γ : Type} {vs : List Nat} {b : Bd} {t : M Bool} {ek ev : M D} {mi : M (List D)} {g : Ga} (src : List γ) (mk : γ → D) (p : γ → Bool) (kf vf : γ → D) (ksf : γ → List Key) (hi : mi g = .ok (src.map mk) g) (hl : src.length ≤ sizeLine)
    (h : ∀ x ∈ src, ∃ g1, b (mk x) g = some g1 ∧ t g1 = .ok (p x) g1 ∧ (p x = true → ek g1 = .ok (kf x) g1 ∧ ev g1 = .ok (vf x) g1 ∧ tkI (kf x) = some (ksf x)) ∧ vs.all (fun i => freeAt g1 i) = true ∧ wipeG g1 vs = g)
    (hw : wipeG g vs = g := by rfl) (hf : vs.all (fun i => freeAt g i) = true := by rfl) : eDcT vs b t ek ev mi g = .ok (.md false true ((src.filter p).foldl (fun L x => putT L (ksf x) (vf x)) [])) g := by
  unfold eDcT
  rw [bnd_app, hi, bind_ok, if_pos hf, hw, cld_src (kf := kf) src [] (by simpa using hl) h]
/-! ### loops that keep a shape -/
theorem loop_fold {S γ : Type} {b : Bd} {body : M Fl} {emb : S → Ga} {mk : γ → D} {I : S → Prop} {step : S → γ → S} : ∀ (src : List γ) (s : S), I s → (∀ s x, I s → x ∈ src → I (step s x) ∧ ∃ g1, b (mk x) (emb s) = some g1 ∧ (body g1 = .ok .nx (emb (step s x)) ∨ body g1 = .ok .cnt (emb (step s x)))) →
    loop b body (src.map mk) (emb s) = .ok .nx (emb (src.foldl step s)) ∧ I (src.foldl step s)
  | [], s, hI, _ => ⟨rfl, hI⟩
  | x :: r, s, hI, h => by
    obtain ⟨h1, g1, e1, e2⟩ := h s x hI List.mem_cons_self
    have ih := loop_fold r (step s x) h1 (fun s y hs hy => h s y hs (List.mem_cons_of_mem _ hy))
    rw [List.map_cons, loop_cons, e1]
    rcases e2 with e2 | e2 <;> (dsimp only; rw [e2]; exact ih)
/-- with an outcome that is only bounded -/
theorem loop_rel {S γ : Type} {b : Bd} {body : M Fl} {emb : S → Ga} {mk : γ → D} {I : Nat → S → Prop} : ∀ (src : List γ) (n : Nat) (s : S), I n s → (∀ n s x, I n s → x ∈ src → ∃ s', I (n + 1) s' ∧ ∃ g1, b (mk x) (emb s) = some g1 ∧ (body g1 = .ok .nx (emb s') ∨ body g1 = .ok .cnt (emb s'))) →
    ∃ s', I (n + src.length) s' ∧ loop b body (src.map mk) (emb s) = .ok .nx (emb s')
  | [], n, s, hI, _ => ⟨s, hI, rfl⟩
  | x :: r, n, s, hI, h => by
    obtain ⟨s1, h1, g1, e1, e2⟩ := h n s x hI List.mem_cons_self
    obtain ⟨s', h2, e3⟩ := loop_rel r (n + 1) s1 h1 (fun n s y hs hy => h n s y hs (List.mem_cons_of_mem _ hy))
    refine ⟨s', by rw [List.length_cons, show n + (r.length + 1) = n + 1 + r.length by omega]; exact h2, ?_⟩
    rw [List.map_cons, loop_cons, e1]
    rcases e2 with e2 | e2 <;> (dsimp only; rw [e2]; exact e3)
/-- a loop that may return v at an item, the shape kept -/
theorem loop_find {γ : Type} {b : Bd} {body : M Fl} {mk : γ → D} {c : γ → Bool} {v : D} {g : Ga} : ∀ (src : List γ), (∀ x ∈ src, ∃ g1 g2, b (mk x) g = some g1 ∧ body g1 = if c x = true then .ok (.ret v) g2 else .ok .nx g) →
    ∃ g2, loop b body (src.map mk) g = if src.any c = true then .ok (.ret v) g2 else .ok .nx g
  | [], _ => ⟨g, rfl⟩
  | x :: r, h => by
    obtain ⟨g1, g2, e1, e2⟩ := h x List.mem_cons_self
    rw [List.map_cons, loop_cons, e1]
    dsimp only
    rw [e2, List.any_cons]
    cases hc : c x with
    | true => exact ⟨g2, rfl⟩
    | false =>
      obtain ⟨g', e'⟩ := loop_find r (fun y hy => h y (List.mem_cons_of_mem _ hy))
      exact ⟨g', by simpa using e'⟩
end
end PP

namespace PP
open PySem
def m_is_integer : M Fl := sRet (eAnd (ap1 (isiD "int") (eVar 0)) (eNot (ap1 (isiD "bool") (eVar 0))))
def p_is_integer : PF := runP 1 m_is_integer
def m_is_index : M Fl := sRet (eAnd (eCall 1 p_is_integer (aCons (eVar 0) (nilA))) (eChain leD ltD (eC (.int 0)) (eVar 0) (eVar 1)))
def p_is_index : PF := runP 2 m_is_index
def m_is_ascending : M Fl := sRet (apA allD (aCons (frzL (eLc [1, 2] (bTup [bName 1, bName 2]) (tAll) (ap2 ltD (eVar 1) (eVar 2)) (apA zip2 (aCons (eVar 0) (aCons (eSl (eVar 0) (pS (eC (.int 1))) (pN)) (nilA)))))) (nilA)))
def p_is_ascending : PF := runP 3 m_is_ascending
def m_is_name : M Fl := sRet (eAnd (ap1 (isiD "str") (eVar 0)) (eAnd (eChain leD leD (eC (.int 1)) (apA lenD (aCons (eVar 0) (nilA))) (eC (.int 3))) (apA allD (aCons (frzL (eLc [1] (bName 1) (tAll) (eChain leD leD (eC (.str "a")) (eVar 1) (eC (.str "z"))) (ap1 itemsD (eVar 0)))) (nilA)))))
def p_is_name : PF := runP 2 m_is_name
def m_is_question : M Fl := sSeq (sIf (mOr (mNot (tru (ap1 (isiD "tuple") (eVar 0)))) (mOr (tst (ap2 neD (apA lenD (aCons (eVar 0) (nilA))) (eC (.int 2)))) (mNot (tru (eCall 1 p_is_name (aCons (ap2 ixD (eVar 0) (eC (.int 0))) (nilA))))))) (sRet (eC (.bool false))) ((fun g => .ok .nx g))) (sRet (eAnd (eCall 1 p_is_integer (aCons (ap2 ixD (eVar 0) (eC (.int 1))) (nilA))) (eChain leD leD (eC (.int 2)) (ap2 ixD (eVar 0) (eC (.int 1))) (eC (.int 3)))))
def p_is_question : PF := runP 1 m_is_question
def m_product : M Fl := sSeq (sAsg (bName 1) (eC (.int 1))) (sSeq (sFor (bName 2) (ap1 itemsD (eVar 0)) (sAug 1 imulD (eVar 2))) (sRet (eVar 1)))
def p_product : PF := runP 3 m_product
def m_are_questions : M Fl := sSeq (sIf (mOr (mNot (tru (ap1 (isiD "tuple") (eVar 0)))) (mNot (tst (eChain leD leD (eC (.int 1)) (apA lenD (aCons (eVar 0) (nilA))) (eC (.int 5)))))) (sRet (eC (.bool false))) ((fun g => .ok .nx g))) (sSeq (sIf (mNot (tru (apA allD (aCons (frzL (eLc [1] (bName 1) (tAll) (eCall 1 p_is_question (aCons (eVar 1) (nilA))) (ap1 itemsD (eVar 0)))) (nilA))))) (sRet (eC (.bool false))) ((fun g => .ok .nx g))) (sRet (eAnd (eCall 1 p_is_ascending (aCons (frzL (eLc [1] (bName 1) (tAll) (ap2 ixD (eVar 1) (eC (.int 0))) (ap1 itemsD (eVar 0)))) (nilA))) (ap2 leD (eCall 1 p_product (aCons (frzL (eLc [1] (bName 1) (tAll) (ap2 ixD (eVar 1) (eC (.int 1))) (ap1 itemsD (eVar 0)))) (nilA))) (eC (.int 32))))))
def p_are_questions : PF := runP 2 m_are_questions
def m_is_name_tuple : M Fl := sSeq (sIf (mOr (mNot (tru (ap1 (isiD "tuple") (eVar 1)))) (mOr (tst (ap2 eqD (eVar 1) (eTup (nilA)))) (mNot (tru (apA allD (aCons (frzL (eLc [2] (bName 2) (tAll) (ap1 (isiD "str") (eVar 2)) (ap1 itemsD (eVar 1)))) (nilA))))))) (sRet (eC (.bool false))) ((fun g => .ok .nx g))) (sRet (eAnd (eCall 1 p_is_ascending (aCons (eVar 1) (nilA))) (apA allD (aCons (frzL (eLc [2] (bName 2) (tAll) (ap2 inD (eVar 2) (eVar 0)) (ap1 itemsD (eVar 1)))) (nilA)))))
def p_is_name_tuple : PF := runP 3 m_is_name_tuple
def m_contains : M Fl := sRet (apA allD (aCons (frzL (eLc [2] (bName 2) (tAll) (ap2 inD (eVar 2) (eVar 0)) (ap1 itemsD (eVar 1)))) (nilA)))
def p_contains : PF := runP 3 m_contains
def m_cell_count : M Fl := sSeq (sAsg (bName 2) (apA dictD (aCons (eVar 0) (nilA)))) (sRet (apA sumD (aCons (frzL (eLc [3] (bName 3) (tAll) (eCall 1 p_product (aCons (frzL (eLc [4] (bName 4) (tAll) (ap2 ixD (eVar 2) (eVar 4)) (ap1 itemsD (eVar 3)))) (nilA))) (ap1 itemsD (eVar 1)))) (nilA))))
def p_cell_count : PF := runP 5 m_cell_count
def m_is_scenario : M Fl := sSeq (sIf (mOr (mNot (tru (ap1 (isiD "tuple") (eVar 0)))) (mOr (tst (ap2 neD (apA lenD (aCons (eVar 0) (nilA))) (eC (.int 2)))) (mNot (tru (eCall 1 p_are_questions (aCons (ap2 ixD (eVar 0) (eC (.int 0))) (nilA))))))) (sRet (eC (.bool false))) ((fun g => .ok .nx g))) (sSeq (sAsg (bTup [bName 1, bName 2]) (eVar 0)) (sSeq (sSetL 3 (eLc [6] (bName 6) (tAll) (ap2 ixD (eVar 6) (eC (.int 0))) (ap1 itemsD (eVar 1)))) (sSeq (sFrz 3) (sSeq (sIf (mOr (mNot (tru (ap1 (isiD "tuple") (eVar 2)))) (mNot (tst (eChain leD leD (eC (.int 1)) (apA lenD (aCons (eVar 2) (nilA))) (eC (.int 10)))))) (sRet (eC (.bool false))) ((fun g => .ok .nx g))) (sSeq (sIf (mOr (mNot (tru (apA allD (aCons (frzL (eLc [5] (bName 5) (tAll) (eCall 2 p_is_name_tuple (aCons (eVar 3) (aCons (eVar 5) (nilA)))) (ap1 itemsD (eVar 2)))) (nilA))))) (mNot (tru (eCall 1 p_is_ascending (aCons (eVar 2) (nilA)))))) (sRet (eC (.bool false))) ((fun g => .ok .nx g))) (sSeq (sFor (bTup [bName 4, bName 5]) (apA enum1 (aCons (eVar 2) (nilA))) (sIf (tru (apA anyD (aCons (frzL (eLc [7] (bName 7) (tAll) (eCall 2 p_contains (aCons (eVar 7) (aCons (eVar 5) (nilA)))) (ap1 itemsD (ap2 addD (eSl (eVar 2) (pN) (pS (eVar 4))) (eSl (eVar 2) (pS (ap2 addD (eVar 4) (eC (.int 1)))) (pN)))))) (nilA)))) (sRet (eC (.bool false))) ((fun g => .ok .nx g)))) (sSeq (sIf (mNot (tru (apA allD (aCons (frzL (eLc [8] (bName 8) (tAll) (apA anyD (aCons (frzL (eLc [5] (bName 5) (tAll) (ap2 inD (eVar 8) (eVar 5)) (ap1 itemsD (eVar 2)))) (nilA))) (ap1 itemsD (eVar 3)))) (nilA))))) (sRet (eC (.bool false))) ((fun g => .ok .nx g))) (sRet (ap2 leD (eCall 2 p_cell_count (aCons (eVar 1) (aCons (eVar 2) (nilA)))) (eC (.int 40)))))))))))
def p_is_scenario : PF := runP 9 m_is_scenario
def m_require_scenario : M Fl := sIf (mNot (tru (eCall 1 p_is_scenario (aCons (eVar 0) (nilA))))) (sRaise "InvalidScenario") ((fun g => .ok .nx g))
def p_require_scenario : PF := runP 1 m_require_scenario
def m_known_names : M Fl := sRet (apA tupD (aCons (frzL (eLc [1] (bName 1) (tAll) (ap2 ixD (eVar 1) (eC (.int 0))) (ap1 itemsD (ap2 ixD (eVar 0) (eC (.int 0)))))) (nilA)))
def p_known_names : PF := runP 2 m_known_names
def m_require_names : M Fl := sIf (mNot (tru (eCall 2 p_is_name_tuple (aCons (eCall 1 p_known_names (aCons (eVar 0) (nilA))) (aCons (eVar 1) (nilA)))))) (sRaise "InvalidNames") ((fun g => .ok .nx g))
def p_require_names : PF := runP 2 m_require_names
def m_require_group : M Fl := sIf (mNot (tru (eCall 2 p_is_index (aCons (eVar 1) (aCons (apA lenD (aCons (ap2 ixD (eVar 0) (eC (.int 1))) (nilA))) (nilA)))))) (sRaise "InvalidGroup") ((fun g => .ok .nx g))
def p_require_group : PF := runP 2 m_require_group
def m_common : M Fl := sRet (apA tupD (aCons (frzL (eLc [2] (bName 2) (tst (ap2 inD (eVar 2) (eVar 1))) (eVar 2) (ap1 itemsD (eVar 0)))) (nilA)))
def p_common : PF := runP 3 m_common
def m_overlap : M Fl := sSeq (sDrop (eCall 1 p_require_scenario (aCons (eVar 0) (nilA)))) (sSeq (sDrop (eCall 2 p_require_group (aCons (eVar 0) (aCons (eVar 1) (nilA))))) (sSeq (sDrop (eCall 2 p_require_group (aCons (eVar 0) (aCons (eVar 2) (nilA))))) (sRet (eCall 2 p_common (aCons (ap2 ixD (ap2 ixD (eVar 0) (eC (.int 1))) (eVar 1)) (aCons (ap2 ixD (ap2 ixD (eVar 0) (eC (.int 1))) (eVar 2)) (nilA)))))))
def p_overlap : PF := runP 3 m_overlap
def m_are_together : M Fl := sRet (apA anyD (aCons (frzL (eLc [2] (bName 2) (tAll) (eCall 2 p_contains (aCons (eVar 2) (aCons (eVar 1) (nilA)))) (ap1 itemsD (ap2 ixD (eVar 0) (eC (.int 1)))))) (nilA)))
def p_are_together : PF := runP 3 m_are_together
def m_is_asked_together : M Fl := sSeq (sDrop (eCall 1 p_require_scenario (aCons (eVar 0) (nilA)))) (sSeq (sDrop (eCall 2 p_require_names (aCons (eVar 0) (aCons (eVar 1) (nilA))))) (sRet (eCall 2 p_are_together (aCons (eVar 0) (aCons (eVar 1) (nilA))))))
def p_is_asked_together : PF := runP 2 m_is_asked_together
def m__law_draw : M Fl := sSeq (sIf (mNot (tTruV 1)) (sDrop (eApp 1 (apA maxD (aCons (ap2 addD (frzL (eLc [4] (bName 4) (tAll) (apA absD (aCons (eVar 4) (nilA))) (ap1 itemsD (eVar 0)))) (eLst (aCons (eC (.int 0)) (nilA)))) (nilA))))) ((fun g => .ok .nx g))) (sSeq (sDrop (eApp 1 (eC (.int 0)))) (sSeq (sAsg (bName 3) (eLenV 1)) (sSeq (sAsg (bName 4) (eIf (tru (eVar 0)) (ap2 ixD (eVar 0) (ap2 modD (eVar 3) (apA lenD (aCons (eVar 0) (nilA))))) (eC (.int 0)))) (sSeq (sAsg (bName 5) (ap2 modD (eIdxV 1 (eC (.int 0))) (eC (.int 65536)))) (sSeq (sSetI 1 (eC (.int 0)) (ap2 fdivD (eIdxV 1 (eC (.int 0))) (eC (.int 65536)))) (sSeq (sAsg (bName 6) (ap2 modD (ap2 addD (ap2 addD (eVar 4) (ap2 mulD (eC (.int 40503)) (eVar 5))) (ap2 mulD (eC (.int 104729)) (eVar 3))) (eC (.int 4294967291)))) (sSeq (sAsg (bName 6) (ap2 modD (ap2 mulD (ap2 modD (ap2 mulD (eVar 6) (eVar 6)) (eC (.int 4294967279))) (eC (.int 48271))) (eC (.int 4294967291)))) (sSeq (sAsg (bName 7) (ap2 modD (ap2 mulD (ap2 modD (ap2 mulD (eVar 6) (eVar 6)) (eC (.int 4294967279))) (eC (.int 69621))) (eC (.int 4294967291)))) (sRet (ap2 modD (ap2 addD (ap2 mulD (ap2 fdivD (eVar 6) (eC (.int 64))) (eC (.int 67108864))) (ap2 fdivD (eVar 7) (eC (.int 64)))) (eVar 2)))))))))))
def b__law_draw : BF := runB 1 8 m__law_draw
def m__law_pick : M Fl := sRet (ap2 ixD (eVar 2) (eCB 1 1 b__law_draw 1 (aCons (apA lenD (aCons (eVar 2) (nilA))) (nilA)) [] [eVar 0]))
def b__law_pick : BF := runB 1 3 m__law_pick
def m__law_shuffled : M Fl := sSeq (sPar [3, 4] (mConsL (eList (aCons (eVar 2) (nilA))) (mConsL (lLst (nilA)) ((fun g => .ok [] g))))) (sSeq (sWhile (fuelL 3) (tTruV 3) (sDrop (eApp 4 (ePop 3 (eCB 1 1 b__law_draw 1 (aCons (eLenV 3) (nilA)) [] [eVar 0]))))) (sSeq (sFrz 4) (sRet (eVar 4))))
def b__law_shuffled : BF := runB 1 5 m__law_shuffled
def m__law_cells : M Fl := sSeq (sPar [2, 3] (mConsD (apA dictD (aCons (frzL (eList (aCons (eVar 0) (nilA)))) (nilA))) (mConsD (eLst (aCons (eTup (nilA)) (nilA))) ((fun g => .ok [] g))))) (sSeq (sFor (bName 4) (ap1 itemsD (eVar 1)) (sSeq (sAsg (bName 5) (eLst (nilA))) (sSeq (sFor (bName 6) (ap1 itemsD (eVar 3)) (sAsg (bName 5) (ap2 addD (eVar 5) (frzL (eLc [7] (bName 7) (tAll) (ap2 addD (eVar 6) (eTup (aCons (eVar 7) (nilA)))) (apA rng1 (aCons (ap2 ixD (eVar 2) (eVar 4)) (nilA)))))))) (sAsg (bName 3) (eVar 5))))) (sRet (eVar 3)))
def p__law_cells : PF := runP 8 m__law_cells
def m__law_names : M Fl := sRet (apA tupD (aCons (frzL (eLc [1] (bName 1) (tAll) (ap2 ixD (eVar 1) (eC (.int 0))) (ap1 itemsD (ap2 ixD (eVar 0) (eC (.int 0)))))) (nilA)))
def p__law_names : PF := runP 2 m__law_names
def m__law_groups_from : M Fl := sSeq (sPar [3, 4, 5] (mConsD (frzL (eLc [12] (bName 12) (tAll) (ap2 ixD (eVar 12) (eC (.int 0))) (ap1 itemsD (eVar 0)))) (mConsL (lLst (nilA)) (mConsD (eC (.int 0)) ((fun g => .ok [] g)))))) (sSeq (sFor (bName 6) (ap1 itemsD (ap2 addD (eVar 1) (frzL (eLc [13] (bName 13) (tAll) (eTup (aCons (eVar 13) (nilA))) (ap1 itemsD (eVar 3)))))) (sSeq (sAsg (bName 8) (apA lenD (aCons (eCall 2 p__law_cells (aCons (eVar 0) (aCons (eVar 6) (nilA)))) (nilA)))) (sSeq (sSetL 9 (eLcV [14] (bName 14) (tst (ap2 eqD (frzL (eLc [13] (bName 13) (tst (ap2 ninD (eVar 13) (eVar 14))) (eVar 13) (ap1 itemsD (eVar 6)))) (eLst (nilA)))) (eC (.int 1)) 4)) (sSeq (sFrz 9) (sSeq (sAsg (bName 10) (ap2 eqD (apA lenD (aCons (eVar 6) (nilA))) (eC (.int 1)))) (sIf (mAnd (tst (ap2 eqD (eVar 9) (eLst (nilA)))) (mOr (tru (eVar 10)) (tst (ap2 leD (ap2 addD (ap2 addD (eVar 5) (eVar 8)) (ap2 mulD (eC (.int 3)) (apA lenD (aCons (eVar 3) (nilA))))) (eVar 2))))) (sSeq (sDrop (eApp 4 (eVar 6))) (sAsg (bName 5) (ap2 addD (eVar 5) (eVar 8)))) ((fun g => .ok .nx g)))))))) (sSeq (sAsg (bName 7) (eLst (nilA))) (sSeq (sFrz 4) (sSeq (sFor (bName 6) (ap1 itemsD (eVar 4)) (sSeq (sSetL 11 (eLc [14] (bName 14) (mAnd (tst (ap2 neD (eVar 14) (eVar 6))) (tst (ap2 eqD (frzL (eLc [13] (bName 13) (tst (ap2 ninD (eVar 13) (eVar 14))) (eVar 13) (ap1 itemsD (eVar 6)))) (eLst (nilA))))) (eC (.int 1)) (ap1 itemsD (eVar 4)))) (sSeq (sFrz 11) (sAsg (bName 7) (ap2 addD (eVar 7) (ap2 mulD (eLst (aCons (eVar 6) (nilA))) (apA intD (aCons (ap2 eqD (eVar 11) (eLst (nilA))) (nilA))))))))) (sRet (apA tupD (aCons (apA sortedD (aCons (eVar 7) (nilA))) (nilA))))))))
def p__law_groups_from : PF := runP 15 m__law_groups_from
def m__law_scenario : M Fl := sSeq (sAsg (bName 4) (apA sortedD (aCons (eSl (eCB 1 1 b__law_shuffled 1 (aCons (eLst (aCons (eC (.str "a")) (aCons (eC (.str "b")) (aCons (eC (.str "c")) (aCons (eC (.str "d")) (aCons (eC (.str "x")) (aCons (eC (.str "ab")) (nilA)))))))) (nilA)) [] [eVar 0]) (pN) (pS (ap2 addD (eC (.int 1)) (eCB 1 1 b__law_draw 1 (aCons (eVar 2) (nilA)) [] [eVar 0])))) (nilA)))) (sSeq (sPar [5, 6] (mConsL (lLst (nilA)) (mConsD (eC (.int 1)) ((fun g => .ok [] g))))) (sSeq (sFor (bName 7) (ap1 itemsD (eVar 4)) (sSeq (sAsg (bName 10) (eCB 1 1 b__law_pick 1 (aCons (eLst (aCons (eC (.int 2)) (aCons (eC (.int 2)) (aCons (eC (.int 2)) (aCons (eC (.int 3)) (nilA)))))) (nilA)) [] [eVar 0])) (sSeq (sIf (tst (ap2 gtD (ap2 mulD (eVar 6) (eVar 10)) (eVar 3))) (sAsg (bName 10) (eC (.int 2))) ((fun g => .ok .nx g))) (sIf (tst (ap2 leD (ap2 mulD (eVar 6) (eVar 10)) (eVar 3))) (sSeq (sDrop (eApp 5 (eTup (aCons (eVar 7) (aCons (eVar 10) (nilA)))))) (sAsg (bName 6) (ap2 mulD (eVar 6) (eVar 10)))) ((fun g => .ok .nx g)))))) (sSeq (sPar [4, 8] (mConsD (frzL (eLcV [11] (bName 11) (tAll) (ap2 ixD (eVar 11) (eC (.int 0))) 5)) (mConsL (lLst (nilA)) ((fun g => .ok [] g))))) (sSeq (sFor (bName 9) (apA rng1 (aCons (eCB 1 1 b__law_draw 1 (aCons (eC (.int 6)) (nilA)) [] [eVar 0]) (nilA))) (sDrop (eApp 8 (apA tupD (aCons (apA sortedD (aCons (eSl (eCB 1 1 b__law_shuffled 1 (aCons (eVar 4) (nilA)) [] [eVar 0]) (pN) (pS (eCB 1 1 b__law_pick 1 (aCons (eLst (aCons (eC (.int 1)) (aCons (eC (.int 2)) (aCons (eC (.int 2)) (aCons (eC (.int 2)) (aCons (eC (.int 3)) (aCons (eC (.int 3)) (nilA)))))))) (nilA)) [] [eVar 0]))) (nilA))) (nilA)))))) (sSeq (sFrz 5) (sSeq (sFrz 8) (sRet (eTup (aCons (apA tupD (aCons (eVar 5) (nilA))) (aCons (eCall 3 p__law_groups_from (aCons (eVar 5) (aCons (eVar 8) (aCons (eC (.int 34)) (nilA))))) (nilA)))))))))))
def b__law_scenario : BF := runB 1 12 m__law_scenario
end PP

namespace PP
open PySem PySem.Spec
/-! ### good data -/
def Gd : Nat → D → Prop
  | _, .none => True
  | _, .bool _ => True
  | _, .int _ => True
  | _, .str x => x.length ≤ sizeLine
  | n + 1, .list xs => xs.length ≤ sizeLine ∧ ∀ y ∈ xs, Gd n y
  | n + 1, .tuple xs => xs.length ≤ sizeLine ∧ ∀ y ∈ xs, Gd n y
  | _, _ => False
theorem Gd.mono : ∀ {n m : Nat} {x : D}, Gd n x → n ≤ m → Gd m x
  | _, _, .none, _, _ => by simp [Gd]
  | _, _, .bool _, _, _ => by simp [Gd]
  | _, _, .int _, _, _ => by simp [Gd]
  | _, _, .str _, h, _ => by simpa [Gd] using h
  | 0, _, .list _, h, _ => by simp [Gd] at h
  | n + 1, 0, .list xs, h, l => by omega
  | n + 1, m + 1, .list xs, h, l => by
    simp only [Gd] at h ⊢
    exact ⟨h.1, fun y hy => Gd.mono (h.2 y hy) (by omega)⟩
  | 0, _, .tuple _, h, _ => by simp [Gd] at h
  | n + 1, 0, .tuple xs, h, l => by omega
  | n + 1, m + 1, .tuple xs, h, l => by
    simp only [Gd] at h ⊢
    exact ⟨h.1, fun y hy => Gd.mono (h.2 y hy) (by omega)⟩
  | 0, _, .dict _, h, _ => by simp [Gd] at h
  | n + 1, _, .dict _, h, _ => by simp [Gd] at h
theorem plainAll_iff : ∀ xs : List D, PyData.plainAll xs = true ↔ ∀ y ∈ xs, y.plain = true
  | [] => by simp [PyData.plainAll]
  | x :: xs => by simp [PyData.plainAll, plainAll_iff xs]
theorem depthAll_le {n : Nat} : ∀ xs : List D, (∀ y ∈ xs, y.depth ≤ n) → PyData.depthAll xs ≤ n
  | [], _ => by simp [PyData.depthAll]
  | x :: xs, h => by
    rw [PyData.depthAll]
    have h1 := h x List.mem_cons_self
    have h2 := depthAll_le xs fun y hy => h y (List.mem_cons_of_mem _ hy)
    omega
theorem Gd.plain : ∀ {n : Nat} {x : D}, Gd n x → x.plain = true
  | _, .none, _ => rfl
  | _, .bool _, _ => rfl
  | _, .int _, _ => rfl
  | _, .str _, _ => rfl
  | 0, .list _, h => by simp [Gd] at h
  | n + 1, .list xs, h => by
    simp only [Gd] at h
    simp only [PyData.plain]
    exact (plainAll_iff xs).mpr fun y hy => Gd.plain (h.2 y hy)
  | 0, .tuple _, h => by simp [Gd] at h
  | n + 1, .tuple xs, h => by
    simp only [Gd] at h
    simp only [PyData.plain]
    exact (plainAll_iff xs).mpr fun y hy => Gd.plain (h.2 y hy)
  | 0, .dict _, h => by simp [Gd] at h
  | n + 1, .dict _, h => by simp [Gd] at h
theorem Gd.depth : ∀ {n : Nat} {x : D}, Gd n x → x.depth ≤ n + 1
  | _, .none, _ => by simp [PyData.depth]
  | _, .bool _, _ => by simp [PyData.depth]
  | _, .int _, _ => by simp [PyData.depth]
  | _, .str _, _ => by simp [PyData.depth]
  | 0, .list _, h => by simp [Gd] at h
  | n + 1, .list xs, h => by
    simp only [Gd] at h
    simp only [PyData.depth]
    have := depthAll_le (n := n + 1) xs fun y hy => Gd.depth (h.2 y hy)
    omega
  | 0, .tuple _, h => by simp [Gd] at h
  | n + 1, .tuple xs, h => by
    simp only [Gd] at h
    simp only [PyData.depth]
    have := depthAll_le (n := n + 1) xs fun y hy => Gd.depth (h.2 y hy)
    omega
  | 0, .dict _, h => by simp [Gd] at h
  | n + 1, .dict _, h => by simp [Gd] at h
theorem Gd.nd {n : Nat} {x : D} (h : Gd n x) : isDict x = false := by
  cases x with
  | dict _ => cases n <;> simp [Gd] at h
  | _ => rfl
/-! ### isinstance -/
def isIB : D → Bool
  | .int _ => true
  | .bool _ => true
  | _ => false
def isIntD : D → Bool
  | .int _ => true
  | _ => false
def isBoolD : D → Bool
  | .bool _ => true
  | _ => false
def isStrD : D → Bool
  | .str _ => true
  | _ => false
def isTupD : D → Bool
  | .tuple _ => true
  | _ => false
def isLstD : D → Bool
  | .list _ => true
  | _ => false
theorem isi_int {x : D} (h : isDict x = false) : isiD "int" x = some (.bool (isIB x)) := by
  cases x with
  | dict _ => cases h
  | _ => kernel_rfl
theorem isi_bool {x : D} (h : isDict x = false) : isiD "bool" x = some (.bool (isBoolD x)) := by
  cases x with
  | dict _ => cases h
  | _ => kernel_rfl
theorem isi_str {x : D} (h : isDict x = false) : isiD "str" x = some (.bool (isStrD x)) := by
  cases x with
  | dict _ => cases h
  | _ => kernel_rfl
theorem isi_tuple {x : D} (h : isDict x = false) : isiD "tuple" x = some (.bool (isTupD x)) := by
  cases x with
  | dict _ => cases h
  | _ => kernel_rfl
theorem isi_list {x : D} (h : isDict x = false) : isiD "list" x = some (.bool (isLstD x)) := by
  cases x with
  | dict _ => cases h
  | _ => kernel_rfl
/-! ### comparisons of ints, texts -/
theorem lt_int (i j : Int) : ltD (.int i) (.int j) = some (.bool (decide (i < j))) := by
  have e : ordOk (.int i) (.int j) = true := rfl
  rw [ltD, if_pos e, PySem.W.dataLt_int]
theorem gt_int (i j : Int) : gtD (.int i) (.int j) = some (.bool (decide (j < i))) := by
  have e : ordOk (.int i) (.int j) = true := rfl
  rw [gtD, if_pos e, PySem.W.dataLt_int]
theorem le_int (i j : Int) : leD (.int i) (.int j) = some (.bool (decide (i ≤ j))) := by
  have e : ordOk (.int i) (.int j) = true := rfl
  rw [leD, if_pos e, PySem.W.dataLt_int, ← decide_not]
  congr 2
  exact decide_eq_decide.mpr (by omega)
theorem ge_int (i j : Int) : geD (.int i) (.int j) = some (.bool (decide (j ≤ i))) := by
  have e : ordOk (.int i) (.int j) = true := rfl
  rw [geD, if_pos e, PySem.W.dataLt_int, ← decide_not]
  congr 2
  exact decide_eq_decide.mpr (by omega)
def sLt (a b : Str) : Bool := PySem.W.dataLt (.str a) (.str b)
theorem lt_str (a b : Str) : ltD (.str a) (.str b) = some (.bool (sLt a b)) := by
  have e : ordOk (.str a) (.str b) = true := rfl
  rw [ltD, if_pos e]
  rfl
theorem le_str (a b : Str) : leD (.str a) (.str b) = some (.bool (!sLt b a)) := by
  have e : ordOk (.str a) (.str b) = true := rfl
  rw [leD, if_pos e]
  rfl
theorem cmpOk_of {n m : Nat} {x y : D} (h : Gd n x) (h2 : Gd m y) (hn : n ≤ 59) : cmpOk x y = true := by
  simp only [cmpOk, h.plain, h2.plain, Bool.true_and, decide_eq_true_eq]
  have := h.depth
  omega
theorem eq_gd {n m : Nat} {x y : D} (h : Gd n x) (h2 : Gd m y) (hn : n ≤ 59 := by omega) : eqD x y = some (.bool (PyData.eqv x y)) := by rw [eqD, if_pos (cmpOk_of h h2 hn)]
theorem ne_gd {n m : Nat} {x y : D} (h : Gd n x) (h2 : Gd m y) (hn : n ≤ 59 := by omega) : neD x y = some (.bool (!PyData.eqv x y)) := by rw [neD, if_pos (cmpOk_of h h2 hn)]
theorem eq_int (i j : Int) : eqD (.int i) (.int j) = some (.bool (i == j)) := eq_gd (n := 0) (m := 0) (x := .int i) (y := .int j) trivial trivial
theorem ne_int (i j : Int) : neD (.int i) (.int j) = some (.bool (!(i == j))) := ne_gd (n := 0) (m := 0) (x := .int i) (y := .int j) trivial trivial
theorem len_str {z : Str} (h : z.length ≤ sizeLine) : lenD [.str z] = some (.int z.length) := by rw [lenD, if_pos h]
@[simp] theorem len_tup (xs : List D) : lenD [.tuple xs] = some (.int xs.length) := rfl
@[simp] theorem len_lst (xs : List D) : lenD [.list xs] = some (.int xs.length) := rfl
/-! ### all, any of truth values -/
theorem anyOk_bools (bs : List Bool) : anyOk (bs.map PyData.bool) = true := by
  simp only [anyOk, Bool.and_eq_true, List.all_eq_true]
  refine ⟨(plainAll_iff _).mpr fun y hy => ?_, fun y hy => ?_⟩ <;> (obtain ⟨b, _, rfl⟩ := List.mem_map.mp hy; rfl)
theorem all_bools {α : Type} (xs : List α) (f : α → Bool) : allD [.list (xs.map fun x => PyData.bool (f x))] = some (.bool (xs.all f)) := by
  have e := anyOk_bools (xs.map f)
  rw [List.map_map] at e
  rw [allD]
  show (if anyOk (xs.map (PyData.bool ∘ f)) = true then some (PyData.bool ((xs.map (PyData.bool ∘ f)).all PyData.truthy)) else none) = _
  rw [if_pos e, List.all_map]
  rfl
theorem any_bools {α : Type} (xs : List α) (f : α → Bool) : anyD [.list (xs.map fun x => PyData.bool (f x))] = some (.bool (xs.any f)) := by
  have e := anyOk_bools (xs.map f)
  rw [List.map_map] at e
  rw [anyD]
  show (if anyOk (xs.map (PyData.bool ∘ f)) = true then some (PyData.bool ((xs.map (PyData.bool ∘ f)).any PyData.truthy)) else none) = _
  rw [if_pos e, List.any_map]
  rfl
/-! ### is_integer, is_index -/
theorem s_is_integer {n : Nat} (x : D) (h : Gd n x) : p_is_integer [x] = .ok (.bool (isIntD x)) := by
  have h := h.nd
  rw [p_is_integer, runP_out]
  simp [m_is_integer, dsG, isi_int h, isi_bool h]
  cases x <;> first | rfl | cases h
def isIdx (x : D) (k : Int) : Bool := match x with
  | .int i => decide (0 ≤ i) && decide (i < k)
  | _ => false
theorem s_is_index {n : Nat} (x : D) (k : Int) (h : Gd n x) : p_is_index [x, .int k] = .ok (.bool (isIdx x k)) := by
  rw [p_is_index, runP_out]
  simp [m_is_index, dsG, s_is_integer x h]
  cases x with
  | int i =>
    simp [isIntD, le_int, lt_int, isIdx]
    by_cases h0 : 0 ≤ i <;> simp [h0]
  | _ => simp [isIntD, isIdx]
/-! ### is_name -/
def chOk (c : Nat) : Bool := decide (97 ≤ c) && decide (c ≤ 122)
def nmOk (z : Str) : Bool := decide (1 ≤ z.length) && (decide (z.length ≤ 3) && z.cps.toList.all chOk)
def isNm : D → Bool
  | .str z => nmOk z
  | _ => false
theorem le_a (c : Nat) : leD (.str "a") (.str ⟨#[c]⟩) = some (.bool (decide (97 ≤ c))) := by
  rw [le_str, sLt, PySem.W.dataLt_str, ← decide_not]
  congr 2
  apply decide_eq_decide.mpr
  show ¬ ([c] < [97]) ↔ _
  simp [List.cons_lt_cons_iff]
theorem le_z (c : Nat) : leD (.str ⟨#[c]⟩) (.str "z") = some (.bool (decide (c ≤ 122))) := by
  rw [le_str, sLt, PySem.W.dataLt_str, ← decide_not]
  congr 2
  apply decide_eq_decide.mpr
  show ¬ ([122] < [c]) ↔ _
  simp [List.cons_lt_cons_iff]
theorem s_is_name {n : Nat} (x : D) (h : Gd n x) : p_is_name [x] = .ok (.bool (isNm x)) := by
  rw [p_is_name, runP_out]
  cases x with
  | str z =>
    have hz : z.length ≤ sizeLine := by cases n <;> exact h
    have hc : eLc [1] (bName 1) tAll (eChain leD leD (eC (.str "a")) (eVar 1) (eC (.str "z"))) (ap1 itemsD (eVar 0)) [some (.d (.str z)), none] = .ok (z.cps.toList.map fun c => PyData.bool (chOk c)) [some (.d (.str z)), none] := by
      refine lcM z.cps.toList (fun c => PyData.str ⟨#[c]⟩) _ rfl hz fun c hx => ⟨_, rfl, ?_, rfl, rfl⟩
      simp [le_a, le_z, chOk]
      by_cases h0 : 97 ≤ c <;> simp [h0]
    simp [m_is_name, dsG, isi_str (x := .str z) rfl, isStrD, len_str hz, le_int, hc, all_bools, isNm, nmOk, app_ite, bind_ite]
    by_cases h1 : 1 ≤ z.length <;> by_cases h2 : z.length ≤ 3 <;> simp [h1, h2, hc, all_bools, show ((1 : Int) ≤ z.length) ↔ 1 ≤ z.length by omega, show ((z.length : Int) ≤ 3) ↔ z.length ≤ 3 by omega]
  | _ => 
    have h := h.nd
    simp [m_is_name, dsG, isi_str h, isStrD, isNm]
/-! ### is_question -/
def isQ : D → Bool
  | .tuple [a, b] => isNm a && (match b with
    | .int i => decide (2 ≤ i) && decide (i ≤ 3)
    | _ => false)
  | _ => false
theorem ix_t0 (x : D) (xs : List D) : ixD (.tuple (x :: xs)) (.int 0) = some x := by
  simp [ixD, L2.atI, L2.ixN]
theorem ix_t1 (x y : D) (xs : List D) : ixD (.tuple (x :: y :: xs)) (.int 1) = some y := by
  simp [ixD, L2.atI, L2.ixN]
  rw [if_pos (by omega)]
  simp
theorem s_is_question {n : Nat} (x : D) (h : Gd n x) : p_is_question [x] = .ok (.bool (isQ x)) := by
  rw [p_is_question, runP_out]
  cases x with
  | tuple xs =>
    cases n with
    | zero => simp [Gd] at h
    | succ n =>
      simp only [Gd] at h
      match xs, h with
      | [], h => simp [m_is_question, dsG, isi_tuple (x := .tuple []) rfl, isTupD, ne_int, isQ]
      | [a], h => simp [m_is_question, dsG, isi_tuple (x := .tuple [a]) rfl, isTupD, ne_int, isQ]
      | [a, b], h =>
        have ga := h.2 a (by simp)
        have gb := h.2 b (by simp)
        simp [m_is_question, dsG, isi_tuple (x := .tuple [a, b]) rfl, isTupD, ne_int, isQ, ix_t0, ix_t1, s_is_name a ga, s_is_integer b gb, app_ite, seq_ite, bind_ite, outP_ite]
        cases hn : isNm a
        · simp
        · cases b with
          | int i =>
            simp [isIntD, le_int]
            by_cases h2 : 2 ≤ i <;> simp [h2]
          | _ => simp [isIntD]
      | a :: b :: c :: r, h =>
        have e : ((r.length + 1 + 1 + 1 : Int) == 2) = false := by
          rw [beq_eq_false_iff_ne]
          omega
        simp [m_is_question, dsG, isi_tuple (x := .tuple (a :: b :: c :: r)) rfl, isTupD, ne_int, isQ, e]
  | _ =>
    have h := h.nd
    simp [m_is_question, dsG, isi_tuple h, isTupD, isQ]
/-! ### product -/
def small (i : Int) : Prop := -(2 ^ 64) < i ∧ i < 2 ^ 64
theorem imul_ok {i j : Int} (h : small j) : imulD (.int i) (.int j) = some (.int (i * j)) := by
  show (if mulOk i j = true then some (PyData.int (i * j)) else none) = _
  rw [if_pos]
  simp only [mulOk, Bool.or_eq_true, Bool.and_eq_true, decide_eq_true_eq]
  exact .inr h
theorem product_loop {L : Option Tv} : ∀ (ns : List Int) (acc : Int) (o : Option Tv), freeAt [L, some (.d (.int acc)), o] 2 = true → (∀ n ∈ ns, small n) → ∃ o', loop (bName 2) (sAug 1 imulD (eVar 2)) (ns.map PyData.int) [L, some (.d (.int acc)), o] = .ok .nx [L, some (.d (.int (acc * ns.prod))), o']
  | [], acc, o, _, _ => ⟨o, by simp [loop_nil]⟩
  | n :: ns, acc, o, hf, h => by
    obtain ⟨o', ih⟩ := product_loop ns (acc * n) (some (.d (.int n))) rfl (fun m hm => h m (List.mem_cons_of_mem _ hm))
    refine ⟨o', ?_⟩
    rw [List.map_cons, loop_cons]
    have e : bName 2 (.int n) [L, some (.d (.int acc)), o] = some [L, some (.d (.int acc)), some (.d (.int n))] := by
      unfold bName
      rw [if_pos hf]
      rfl
    have e2 : sAug 1 imulD (eVar 2) [L, some (.d (.int acc)), some (.d (.int n))] = .ok .nx [L, some (.d (.int (acc * n))), some (.d (.int n))] := by
      simp [sAug, imul_ok (h n List.mem_cons_self), freeAt, Tv.bor]
    rw [e]
    dsimp only
    rw [e2]
    dsimp only
    rw [ih, List.prod_cons, Int.mul_assoc]
theorem s_product {x : D} {ns : List Int} (hx : itemsD x = some (ns.map PyData.int)) (h : ∀ n ∈ ns, small n) : p_product [x] = .ok (.int ns.prod) := by
  obtain ⟨o', e⟩ := product_loop (L := some (.d x)) ns 1 none rfl h
  rw [p_product, runP_out]
  simp [m_product, dsG, freeAt, Tv.bor, sFor_app, hx, e]
/-! ### slices -/
theorem sIx_le (n d : Nat) (h : d ≤ n) (o : Option Int) : HT.sIx n d o ≤ n ∨ True := .inr trivial
theorem cut_from {α : Type} (xs : List α) (k : Nat) : cutD xs (some (k : Int)) none = xs.drop k := by
  unfold cutD
  rw [HT.sIx_nat, HT.sIx_none]
  by_cases h : k ≤ xs.length
  · rw [Nat.min_eq_left h, List.take_of_length_le (by rw [List.length_drop]; omega)]
  · rw [Nat.min_eq_right (by omega), List.drop_of_length_le (by omega), List.drop_of_length_le (i := k) (by omega)]
    simp
theorem cut_upto {α : Type} (xs : List α) (k : Nat) : cutD xs none (some (k : Int)) = xs.take k := by
  unfold cutD
  rw [HT.sIx_nat, HT.sIx_none]
  by_cases h : k ≤ xs.length
  · rw [Nat.min_eq_left h]
    rfl
  · rw [Nat.min_eq_right (by omega), List.take_of_length_le (i := k) (by omega)]
    simp
theorem sl_from1 {x : D} {xs : List D} (h : seqD x = some xs) : ∃ y, slD x (some 1) none = some y ∧ seqD y = some xs.tail := by
  have e := cut_from xs 1
  rw [List.drop_one] at e
  cases x with
  | list ys => cases h; exact ⟨_, rfl, by rw [seqD]; exact congrArg some e⟩
  | tuple ys => cases h; exact ⟨_, rfl, by rw [seqD]; exact congrArg some e⟩
  | _ => cases h
/-! ### is_ascending -/
def ascB (xs : List D) : Bool := (xs.zip xs.tail).all fun p => PySem.W.dataLt p.1 p.2
theorem s_is_ascending {x : D} {xs : List D} (hx : seqD x = some xs) (hl : xs.length ≤ sizeLine) (h : ∀ a ∈ xs, ∀ b ∈ xs, ordOk a b = true) : p_is_ascending [x] = .ok (.bool (ascB xs)) := by
  obtain ⟨y, e1, e2⟩ := sl_from1 hx
  rw [p_is_ascending, runP_out]
  simp [m_is_ascending, dsG]
  rw [lcM (xs.zip xs.tail) (fun p => PyData.tuple [p.1, p.2]) (fun p => PyData.bool (PySem.W.dataLt p.1 p.2))]
  · simp [all_bools, ascB]
  · simp [e1, zip2, hx, e2, zipD]
  · rw [List.length_zip]
    omega
  · rintro ⟨a, b⟩ hp
    obtain ⟨ha, hb⟩ := List.of_mem_zip hp
    refine ⟨_, rfl, ?_, rfl, rfl⟩
    simp [ltD, h a ha b (List.mem_of_mem_tail hb)]
/-! ### are_questions -/
def q0 : D → Str
  | .tuple [.str z, _] => z
  | _ => ""
def q1 : D → Int
  | .tuple [_, .int i] => i
  | _ => 0
theorem isQ_inv {x : D} (h : isQ x = true) : ∃ (z : Str) (i : Int), x = .tuple [.str z, .int i] ∧ nmOk z = true ∧ 2 ≤ i ∧ i ≤ 3 := by
  unfold isQ at h
  split at h
  · rename_i a b
    rw [Bool.and_eq_true] at h
    obtain ⟨h1, h2⟩ := h
    unfold isNm at h1
    split at h1
    · split at h2
      · rename_i z i
        simp only [Bool.and_eq_true, decide_eq_true_eq] at h2
        exact ⟨_, _, rfl, h1, h2⟩
      · cases h2
    · cases h1
  · cases h
def areQ : D → Bool
  | .tuple xs => (decide (1 ≤ xs.length) && decide (xs.length ≤ 5)) && (xs.all isQ && (ascB (xs.map fun x => .str (q0 x)) && decide ((xs.map q1).prod ≤ 32)))
  | _ => false
theorem ordOk_str (a b : Str) : ordOk (.str a) (.str b) = true := rfl
theorem asc_strs {γ : Type} (xs : List γ) (f : γ → Str) (hl : xs.length ≤ sizeLine) {x : D} (hx : seqD x = some (xs.map fun y => PyData.str (f y))) : p_is_ascending [x] = .ok (.bool (ascB (xs.map fun y => PyData.str (f y)))) := by
  refine s_is_ascending hx (by rw [List.length_map]; exact hl) fun a ha b hb => ?_
  obtain ⟨a, _, rfl⟩ := List.mem_map.mp ha
  obtain ⟨b, _, rfl⟩ := List.mem_map.mp hb
  rfl
theorem le1 {n : Nat} : (1 : Int) ≤ (n : Int) ↔ 1 ≤ n := by omega
theorem leN {n k : Nat} : ((n : Int) ≤ (OfNat.ofNat k : Int)) ↔ n ≤ k := by
  show (n : Int) ≤ (k : Int) ↔ n ≤ k
  omega
theorem s_are_questions {n : Nat} (x : D) (h : Gd n x) : p_are_questions [x] = .ok (.bool (areQ x)) := by
  rw [p_are_questions, runP_out]
  cases x with
  | tuple xs =>
    cases n with
    | zero => simp [Gd] at h
    | succ n =>
      simp only [Gd] at h
      simp [m_are_questions, dsG, isi_tuple (x := .tuple xs) rfl, isTupD, le_int, app_ite, bind_ite, seq_ite, outP_ite, areQ, le1]
      by_cases h1 : 1 ≤ xs.length
      · by_cases h5 : xs.length ≤ 5
        · have h5' : (xs.length : Int) ≤ 5 := by omega
          simp [h1, h5, h5']
          rw [lc_map (fun x => PyData.bool (isQ x))]
          · simp [all_bools, app_ite, bind_ite, seq_ite, outP_ite]
            cases hq : xs.all isQ
            · simp
            · rw [List.all_eq_true] at hq
              simp
              rw [lc_map (items := xs) (fun x => PyData.str (q0 x))]
              · simp [asc_strs xs q0 h.1 (x := .list (xs.map fun y => PyData.str (q0 y))) rfl]
                cases ha : ascB (xs.map fun x => PyData.str (q0 x))
                · simp
                · simp
                  rw [lc_map (items := xs) (fun x => PyData.int (q1 x))]
                  · have hp : p_product [.list (xs.map fun x => PyData.int (q1 x))] = .ok (.int (xs.map q1).prod) := by
                      refine s_product (by simp [itemsD]) fun n hn => ?_
                      obtain ⟨y, hy, rfl⟩ := List.mem_map.mp hn
                      obtain ⟨z, i, rfl, _, h2, h3⟩ := isQ_inv (hq y hy)
                      exact ⟨by show -(2 ^ 64) < i; omega, by show i < 2 ^ 64; omega⟩
                    simp [hp, le_int]
                    try (intro hh; omega)
                  · rfl
                  · rfl
                  · rfl
                  · exact h.1
                  · intro y hy
                    refine ⟨_, rfl, ?_, rfl, rfl⟩
                    obtain ⟨z, i, rfl, _⟩ := isQ_inv (hq y hy)
                    simp [ix_t1, q1]
              · rfl
              · rfl
              · rfl
              · exact h.1
              · intro y hy
                refine ⟨_, rfl, ?_, rfl, rfl⟩
                obtain ⟨z, i, rfl, _⟩ := isQ_inv (hq y hy)
                simp [ix_t0, q0]
          · rfl
          · rfl
          · rfl
          · exact h.1
          · intro y hy
            refine ⟨_, rfl, ?_, rfl, rfl⟩
            simp [s_is_question y (h.2 y hy)]
        · have h5' : ¬ (xs.length : Int) ≤ 5 := by omega
          simp [h1, h5, h5']
      · simp [h1]
  | _ =>
    have h := h.nd
    simp [m_are_questions, dsG, isi_tuple h, isTupD, areQ]
/-! ### is_name_tuple, contains -/
theorem eqvAll_nil (xs : List D) : PyData.eqvAll xs [] = xs.isEmpty := by cases xs <;> rfl
theorem eqv_tnil (xs : List D) : PyData.eqv (.tuple xs) (.tuple []) = xs.isEmpty := by rw [PyData.eqv, eqvAll_nil]
theorem eqv_lnil (xs : List D) : PyData.eqv (.list xs) (.list []) = xs.isEmpty := by rw [PyData.eqv, eqvAll_nil]
theorem eqv_str (a b : Str) : PyData.eqv (.str a) (.str b) = (a == b) := by rw [PyData.eqv]
theorem plain_strs {γ : Type} (f : γ → Str) (zs : List γ) : PyData.plainAll (zs.map fun z => PyData.str (f z)) = true := (plainAll_iff _).mpr fun y hy => by
  obtain ⟨z, _, rfl⟩ := List.mem_map.mp hy
  rfl
theorem any_strs (z : Str) : ∀ known : List Str, known.any ((fun y => PyData.eqv y (PyData.str z)) ∘ PyData.str) = known.contains z
  | [] => rfl
  | y :: ys => by rw [List.any_cons, List.contains_cons, Function.comp_apply, eqv_str, any_strs z ys, Bool.beq_comm]
theorem in_strs {kx : D} {known : List Str} (hk : seqD kx = some (known.map PyData.str)) (z : Str) : inD (.str z) kx = some (.bool (known.contains z)) := by
  have e : inOk (.str z) (known.map PyData.str) = true := by
    simp only [inOk, Bool.and_eq_true]
    exact ⟨rfl, plain_strs id known, by simp [PyData.depth]⟩
  rw [inD, hk]
  dsimp only
  rw [if_pos e, inB, List.any_map, any_strs]
theorem nin_strs {kx : D} {known : List Str} (hk : seqD kx = some (known.map PyData.str)) (z : Str) : ninD (.str z) kx = some (.bool (!known.contains z)) := by
  have h := in_strs hk z
  unfold inD at h
  unfold ninD
  rw [hk] at h ⊢
  dsimp only at h ⊢
  split at h
  · rename_i e
    rw [if_pos e]
    injection h with h
    injection h with h
    rw [h]
  · cases h
def strOf : D → Str
  | .str z => z
  | _ => ""
theorem strs_of {xs : List D} (h : xs.all isStrD = true) : xs = (xs.map strOf).map PyData.str := by
  rw [List.all_eq_true] at h
  rw [List.map_map]
  refine (List.map_id' xs).symm.trans (List.map_congr_left fun x hx => ?_)
  have := h x hx
  cases x with
  | str z => rfl
  | _ => cases this
def isNT (known : List Str) : D → Bool
  | .tuple xs => !xs.isEmpty && (xs.all isStrD && (ascB xs && xs.all fun y => known.contains (strOf y)))
  | _ => false
theorem s_is_name_tuple {n : Nat} {kx : D} {known : List Str} (hk : seqD kx = some (known.map PyData.str)) (x : D) (h : Gd n x) (hn : n ≤ 59 := by omega) : p_is_name_tuple [kx, x] = .ok (.bool (isNT known x)) := by
  rw [p_is_name_tuple, runP_out]
  cases x with
  | tuple xs =>
    have hg := h
    cases n with
    | zero => simp [Gd] at h
    | succ n =>
      simp only [Gd] at h
      have g0 : Gd 1 (.tuple []) := ⟨Nat.zero_le _, fun y hy => nomatch hy⟩
      simp [m_is_name_tuple, dsG, isi_tuple (x := .tuple xs) rfl, isTupD, eq_gd hg g0 hn, eqv_tnil, app_ite, bind_ite, seq_ite, outP_ite, isNT]
      by_cases he : xs = []
      · subst he
        simp
      · simp [he]
        rw [lc_map (items := xs) (fun x => PyData.bool (isStrD x))]
        · simp only [all_bools, bind_ok, lift_some, frzL_app, aCons_app, bnd_app, truD_bool]
          cases hs : xs.all isStrD
          · simp
          · have es := strs_of hs
            have ea : p_is_ascending [.tuple xs] = .ok (.bool (ascB xs)) := by
              have := asc_strs (xs.map strOf) id (by rw [List.length_map]; exact h.1) (x := .tuple xs) (by rw [seqD]; exact congrArg some es)
              rw [this]
              simp only [id]
              rw [← es]
            simp [ea]
            cases ha : ascB xs
            · simp
            · simp
              rw [lc_map (items := xs) (fun x => PyData.bool (known.contains (strOf x)))]
              · simp [all_bools]
                exact fun _ => he
              · rfl
              · rfl
              · rfl
              · exact h.1
              · intro y hy
                refine ⟨_, rfl, ?_, rfl, rfl⟩
                rw [es] at hy
                obtain ⟨z, _, rfl⟩ := List.mem_map.mp hy
                simp [in_strs hk, strOf]
        · rfl
        · rfl
        · rfl
        · exact h.1
        · intro y hy
          refine ⟨_, rfl, ?_, rfl, rfl⟩
          simp [isi_str (h.2 y hy).nd]
  | _ =>
    have h := h.nd
    simp [m_is_name_tuple, dsG, isi_tuple h, isTupD, isNT]
theorem s_contains {lx sx : D} {lg sm : List Str} (h1 : seqD lx = some (lg.map PyData.str)) (h2 : itemsD sx = some (sm.map PyData.str)) (hl : sm.length ≤ sizeLine) : p_contains [lx, sx] = .ok (.bool (sm.all fun z => lg.contains z)) := by
  rw [p_contains, runP_out]
  simp [m_contains, dsG]
  rw [lcM sm PyData.str (fun z => PyData.bool (lg.contains z))]
  · simp [all_bools]
  · simp [h2]
  · exact hl
  · intro z hz
    refine ⟨_, rfl, ?_, rfl, rfl⟩
    simp [in_strs h1]
/-! ### cell_count -/
def mkQ (q : Str × Int) : D := .tuple [.str q.1, .int q.2]
def mkG (g : List Str) : D := .tuple (g.map PyData.str)
def cnt (qs : List (Str × Int)) (z : Str) : Int := ((qs.find? fun q => q.1 == z).map (·.2)).getD 0
theorem intsD_ints : ∀ ns : List Int, intsD (ns.map PyData.int) = some ns
  | [] => rfl
  | n :: ns => by rw [List.map_cons, intsD, intsD_ints ns]; rfl
theorem sum_ints {γ : Type} (xs : List γ) (f : γ → Int) : sumD [.list (xs.map fun x => PyData.int (f x))] = some (.int (xs.map f).sum) := by
  have := intsD_ints (xs.map f)
  rw [List.map_map] at this
  rw [sumD]
  show (intsD (xs.map (PyData.int ∘ f))).map _ = _
  rw [this]
  rfl
theorem pairs_mkQ : ∀ qs : List (Str × Int), pairsD (qs.map mkQ) = some (qs.map fun q => (.inr q.1, .int q.2))
  | [] => rfl
  | q :: qs => by rw [List.map_cons, pairsD, pairs_mkQ qs]; rfl
theorem merge_nodup {α : Type} : ∀ (ks acc : List (L2.Key × α)), ((acc ++ ks).map (·.1)).Nodup → mergeA acc ks = acc ++ ks
  | [], acc, _ => by simp [mergeA]
  | k :: ks, acc, h => by
    have e : putA acc k.1 k.2 = acc ++ [k] := by
      unfold putA
      rw [if_neg]
      intro hc
      rw [List.any_eq_true] at hc
      obtain ⟨p, hp, hk⟩ := hc
      rw [decide_eq_true_eq] at hk
      rw [List.map_append, List.nodup_append] at h
      exact h.2.2 p.1 (List.mem_map_of_mem hp) k.1 (by simp) hk
    have ih := merge_nodup ks (acc ++ [k]) (by rw [List.append_assoc]; exact h)
    rw [mergeA, List.foldl_cons, e]
    rw [mergeA] at ih
    rw [ih, List.append_assoc]
    rfl
theorem dict_mkQ {qs : List (Str × Int)} (hne : qs ≠ []) (hd : (qs.map (·.1)).Nodup) : dictD [.tuple (qs.map mkQ)] = some (.dict (qs.map fun q => (.str q.1, .int q.2))) := by
  have e := pairs_mkQ qs
  have h1 : ∀ z : List D, z ≠ [] → dictD [.tuple z] = (pairsD z).map fun ks => toDict (mergeA [] ks) := fun z hz => by
    cases z with
    | nil => exact absurd rfl hz
    | cons _ _ => rfl
  rw [h1 _ (by simpa using hne), e, Option.map_some, merge_nodup]
  · rw [List.nil_append, toDict, List.map_map]
    rfl
  · rw [List.nil_append, List.map_map]
    have : ((qs.map (·.1)).map fun z : Str => (Sum.inr z : L2.Key)).Nodup := List.Pairwise.map (fun z : Str => (Sum.inr z : L2.Key)) (fun a b h e => h (by injection e)) hd
    rw [List.map_map] at this
    exact this
theorem ix_dict {qs : List (Str × Int)} {z : Str} (h : z ∈ qs.map (·.1)) : ixD (.dict (qs.map fun q => (.str q.1, .int q.2))) (.str z) = some (.int (cnt qs z)) := by
  show dGet (qs.map fun q => (PyData.str q.1, PyData.int q.2)) (.str z) = _
  show ((qs.map fun q => (PyData.str q.1, PyData.int q.2)).find? fun p => decide (keyD p.1 = some (.inr z))).map (·.2) = _
  unfold cnt
  induction qs with
  | nil => cases h
  | cons q qs ih =>
    rw [List.map_cons, List.find?_cons, List.find?_cons]
    by_cases e : q.1 = z
    · have e1 : decide (keyD (PyData.str q.1) = some (.inr z)) = true := by
        rw [e]
        exact decide_eq_true rfl
      have e2 : (q.1 == z) = true := by rw [e]; exact beq_self_eq_true z
      simp only [e1, e2]
      rfl
    · have e1 : decide (keyD (PyData.str q.1) = some (.inr z)) = false := decide_eq_false fun h => by
        injection h with h
        injection h with h
        exact e h
      have e2 : (q.1 == z) = false := beq_eq_false_iff_ne.mpr e
      simp only [e1, e2]
      refine ih ?_
      rw [List.map_cons] at h
      exact (List.mem_cons.mp h).resolve_left fun h => e h.symm
theorem s_cell_count {qs : List (Str × Int)} {gs : List (List Str)} (hne : qs ≠ []) (hd : (qs.map (·.1)).Nodup) (hs : ∀ q ∈ qs, small q.2) (hg : ∀ g ∈ gs, g.length ≤ sizeLine ∧ ∀ z ∈ g, z ∈ qs.map (·.1)) (hl : gs.length ≤ sizeLine) :
    p_cell_count [.tuple (qs.map mkQ), .tuple (gs.map mkG)] = .ok (.int (gs.map fun g => (g.map (cnt qs)).prod).sum) := by
  rw [p_cell_count, runP_out]
  simp [m_cell_count, dsG, dict_mkQ hne hd, freeAt]
  rw [lcM gs mkG (fun g => PyData.int (g.map (cnt qs)).prod)]
  · simp [sum_ints]
  · simp [itemsD]
  · exact hl
  · intro g hgm
    refine ⟨_, rfl, ?_, rfl, rfl⟩
    simp
    rw [lcM g PyData.str (fun z => PyData.int (cnt qs z))]
    · have hp : p_product [.list (g.map fun z => PyData.int (cnt qs z))] = .ok (.int (g.map (cnt qs)).prod) := by
        refine s_product (by simp [itemsD]) fun n hn => ?_
        obtain ⟨z, hz, rfl⟩ := List.mem_map.mp hn
        obtain ⟨q, hq, rfl⟩ := List.mem_map.mp ((hg g hgm).2 z hz)
        unfold cnt
        cases hf : qs.find? fun p => p.1 == q.1 with
        | none => exact ⟨by decide, by decide⟩
        | some p => exact hs p (List.mem_of_find?_eq_some hf)
      simp [hp]
    · simp [itemsD, mkG]
    · exact (hg g hgm).1
    · intro z hz
      refine ⟨_, rfl, ?_, rfl, rfl⟩
      simp [ix_dict ((hg g hgm).2 z hz)]
/-! ### is_scenario -/
def qsOf (xs : List D) : List (Str × Int) := xs.map fun x => (q0 x, q1 x)
theorem qs_eq {xs : List D} (h : xs.all isQ = true) : xs = (qsOf xs).map mkQ := by
  rw [List.all_eq_true] at h
  unfold qsOf
  rw [List.map_map]
  refine (List.map_id' xs).symm.trans (List.map_congr_left fun x hx => ?_)
  obtain ⟨z, i, rfl, _⟩ := isQ_inv (h x hx)
  rfl
def gOf : D → List Str
  | .tuple zs => zs.map strOf
  | _ => []
theorem gs_eq {known : List Str} {gs : List D} (h : gs.all (isNT known) = true) : gs = (gs.map gOf).map mkG := by
  rw [List.all_eq_true] at h
  rw [List.map_map]
  refine (List.map_id' gs).symm.trans (List.map_congr_left fun x hx => ?_)
  have h1 := h x hx
  unfold isNT at h1
  split at h1
  · rename_i zs
    simp only [Bool.and_eq_true] at h1
    show PyData.tuple zs = mkG (zs.map strOf)
    rw [mkG, ← strs_of h1.2.1]
  · cases h1
theorem gs_in {known : List Str} {gs : List D} (h : gs.all (isNT known) = true) : ∀ g ∈ gs.map gOf, ∀ z ∈ g, z ∈ known := by
  rw [List.all_eq_true] at h
  intro g hg z hz
  obtain ⟨x, hx, rfl⟩ := List.mem_map.mp hg
  have h1 := h x hx
  unfold isNT at h1
  split at h1
  · rename_i zs
    simp only [Bool.and_eq_true, List.all_eq_true] at h1
    obtain ⟨y, hy, rfl⟩ := List.mem_map.mp hz
    have := h1.2.2.2 y hy
    simpa using this
  · cases h1
def antiB (gs : List (List Str)) : Bool := gs.zipIdx.all fun p => !(gs.take p.2 ++ gs.drop (p.2 + 1)).any fun o => p.1.all fun z => o.contains z
def coverB (known : List Str) (gs : List (List Str)) : Bool := known.all fun z => gs.any fun g => g.contains z
def cells (qs : List (Str × Int)) (g : List Str) : Int := (g.map (cnt qs)).prod
def isGs (qs : List (Str × Int)) : D → Bool
  | .tuple gs => (decide (1 ≤ gs.length) && decide (gs.length ≤ 10)) && ((gs.all (isNT (qs.map (·.1))) && ascB gs) && (antiB (gs.map gOf) && (coverB (qs.map (·.1)) (gs.map gOf) && decide (((gs.map gOf).map (cells qs)).sum ≤ 40))))
  | _ => false
def isScn : D → Bool
  | .tuple [a, b] => areQ a && (match a with
    | .tuple xs => isGs (qsOf xs) b
    | _ => false)
  | _ => false
theorem asc_nodup {zs : List Str} (h : ascB (zs.map PyData.str) = true) : zs.Nodup := by
  have tr : ∀ (zs : List Str), ascB (zs.map PyData.str) = true → (zs.Pairwise fun a b => sLt a b = true) := by
    intro zs
    induction zs with
    | nil => exact fun _ => .nil
    | cons a zs ih =>
      cases zs with
      | nil => exact fun _ => by simp
      | cons b zs =>
        intro h
        have h1 : sLt a b = true ∧ ascB ((b :: zs).map PyData.str) = true := by
          unfold ascB at h ⊢
          simp only [List.map_cons, List.tail_cons, List.zip_cons_cons, List.all_cons, Bool.and_eq_true] at h
          exact ⟨h.1, by simpa using h.2⟩
        have ih' := ih h1.2
        refine List.pairwise_cons.mpr ⟨fun c hc => ?_, ih'⟩
        rcases List.mem_cons.mp hc with rfl | hc
        · exact h1.1
        · exact PyProof.Rows.lex_trans _ _ _ h1.1 ((List.pairwise_cons.mp ih').1 c hc)
  refine (tr zs h).imp fun {a b} h e => ?_
  subst e
  rw [sLt, PySem.W.dataLt, PyProof.Rows.lex_irrefl] at h
  cases h
theorem alikeAll_strs : ∀ a b : List Str, PySem.W.alikeAll (a.map PyData.str) (b.map PyData.str) = true
  | [], _ => by simp [PySem.W.alikeAll]
  | _ :: _, [] => by simp [PySem.W.alikeAll]
  | x :: a, y :: b => by simp [PySem.W.alikeAll, PySem.W.alike, alikeAll_strs a b]
theorem ordOk_mkG (a b : List Str) : ordOk (mkG a) (mkG b) = true := by
  have p : ∀ a : List Str, (mkG a).plain = true := fun a => by
    rw [mkG, PyData.plain]
    exact plain_strs id a
  have d : (mkG a).depth ≤ 60 := by
    rw [mkG, PyData.depth]
    have := depthAll_le (n := 1) (a.map PyData.str) fun y hy => by
      obtain ⟨z, _, rfl⟩ := List.mem_map.mp hy
      simp [PyData.depth]
    omega
  simp only [ordOk, p, Bool.true_and, Bool.and_eq_true, decide_eq_true_eq]
  refine ⟨d, ?_, rfl⟩
  rw [mkG, mkG, PySem.W.alike]
  exact alikeAll_strs a b
theorem freeAt_dat {g : Ga} {i : Nat} {o : Option Tv} (e : g[i]? = some o) (h : dat o = true) : freeAt g i = true := by
  unfold freeAt
  rw [e]
  cases o with
  | none => rfl
  | some t => cases t with
    | d _ => rfl
    | ml _ _ => cases h
    | md _ _ _ => cases h
theorem bName_dat {g : Ga} {i : Nat} {o : Option Tv} {x : D} (e : g[i]? = some o) (h : dat o = true) : bName i x g = some (g.set i (some (.d x))) := by rw [bName, if_pos (freeAt_dat e h)]
theorem enum_map {γ : Type} (xs : List γ) (mk : γ → D) : enumD (xs.map mk) = xs.zipIdx.map fun p => PyData.tuple [.int (p.2 : Nat), mk p.1] := by
  rw [enumD, List.zipIdx_map, List.map_map]
  rfl
theorem sl_upto (xs : List D) (k : Nat) : slD (.tuple xs) none (some (k : Int)) = some (.tuple (xs.take k)) := by rw [slD, cut_upto]
theorem sl_from (xs : List D) (k : Nat) : slD (.tuple xs) (some (k : Int)) none = some (.tuple (xs.drop k)) := by rw [slD, cut_from]
theorem add_tups {xs ys : List D} (h : xs.length + ys.length ≤ sizeLine) : addD (.tuple xs) (.tuple ys) = some (.tuple (xs ++ ys)) := by rw [addD, if_pos h]
theorem add_int (i j : Int) : addD (.int i) (.int j) = some (.int (i + j)) := rfl
theorem sizeLine_big : 1000000 ≤ sizeLine := by decide
theorem scn_loop {x a k : D} {gs : List (List Str)} (hl : gs.length ≤ 10) (hg : ∀ g ∈ gs, g.length ≤ sizeLine) (body : M Fl) (hb : body = (sIf (tru (apA anyD (aCons (frzL (eLc [7] (bName 7) (tAll) (eCall 2 p_contains (aCons (eVar 7) (aCons (eVar 5) (nilA)))) (ap1 itemsD (ap2 addD (eSl (eVar 2) (pN) (pS (eVar 4))) (eSl (eVar 2) (pS (ap2 addD (eVar 4) (eC (.int 1)))) (pN)))))) (nilA)))) (sRet (eC (.bool false))) ((fun g => .ok .nx g)))) :
    ∃ o4 o5, dat o4 = true ∧ dat o5 = true ∧ sFor (bTup [bName 4, bName 5]) (apA enum1 (aCons (eVar 2) (nilA))) body [some (.d x), some (.d a), some (.d (.tuple (gs.map mkG))), some (.d k), none, none, none, none, none] =
      if antiB gs = true then .ok .nx [some (.d x), some (.d a), some (.d (.tuple (gs.map mkG))), some (.d k), o4, o5, none, none, none] else .ok (.ret (.bool false)) [some (.d x), some (.d a), some (.d (.tuple (gs.map mkG))), some (.d k), o4, o5, none, none, none] := by
  subst hb
  obtain ⟨g', ⟨o4, o5, h4, h5, rfl⟩, e⟩ := loop_any (b := bTup [bName 4, bName 5]) (body := (sIf (tru (apA anyD (aCons (frzL (eLc [7] (bName 7) (tAll) (eCall 2 p_contains (aCons (eVar 7) (aCons (eVar 5) (nilA)))) (ap1 itemsD (ap2 addD (eSl (eVar 2) (pN) (pS (eVar 4))) (eSl (eVar 2) (pS (ap2 addD (eVar 4) (eC (.int 1)))) (pN)))))) (nilA)))) (sRet (eC (.bool false))) ((fun g => .ok .nx g))))
    (P := fun g => ∃ o4 o5, dat o4 = true ∧ dat o5 = true ∧ g = [some (.d x), some (.d a), some (.d (.tuple (gs.map mkG))), some (.d k), o4, o5, none, none, none])
    (mk := fun p : List Str × Nat => PyData.tuple [.int (p.2 : Nat), mkG p.1]) (c := fun p => (gs.take p.2 ++ gs.drop (p.2 + 1)).any fun o => p.1.all fun z => o.contains z) (v := .bool false) gs.zipIdx (by
      rintro ⟨gr, i⟩ hp g ⟨o4, o5, h4, h5, rfl⟩
      have hgr : gr ∈ gs := List.fst_mem_of_mem_zipIdx hp
      refine ⟨[some (.d x), some (.d a), some (.d (.tuple (gs.map mkG))), some (.d k), some (.d (.int (i : Nat))), some (.d (mkG gr)), none, none, none], [some (.d x), some (.d a), some (.d (.tuple (gs.map mkG))), some (.d k), some (.d (.int (i : Nat))), some (.d (mkG gr)), none, none, none], ?_, ?_, _, _, rfl, rfl, rfl⟩
      · show bAll [bName 4, bName 5] [.int (i : Nat), mkG gr] _ = _
        simp only [bAll]
        rw [bName_dat (o := o4) rfl h4]
        simp only [Option.bind_some]
        rw [bName_dat (o := o5) rfl h5]
        rfl
      · simp only [bind_ok, bind_exc, bnd_app, lift_some, eC_app, eVar_0, eVar_1, eVar_2, eVar_3, eVar_4, eVar_5, eVar_6, eVar_7, eVar_8, eVar_9, eVar_10, ap1_app, ap2_app, apA_app, aCons_app, nilA_app, tru_app, tst_app, asB_bool, truD_bool, truD_list, truD_tuple, mNot_app, mAnd_app, mOr_app, eNot_app, eAnd_app, eOr_app, andK_b, orK_b, eIf_app, eTup_app, eLst_app, lLst_app, frzL_app, eList_app, eSl_app, pN_app, pS_app, partD_int, chn_b, eChain_app, seq_nx, seq_ret, seq_brk, seq_cnt, seq_exc, sSeq_app, sRet_app, sDrop_app, sIf_app, sRaise_app, sAsg_name, sSetL_app, rxM_ok, rxM_exc, eCall_app, outP_ret, outP_nx, outP_exc, Option.map_some, len0, len1, len2, len3, len4, len5, len6, len7, len8, eq_self, sz0, sz1, sz2, sz3, sz4, sz5, sz6, sz7, sz8, sz9, sz10, sz11, freeAt_s, freeAt_n, freeAt_d, freeAt_m, sFrz_app, frzK_ml, List.getElem?_cons_zero, List.getElem?_cons_succ, List.set_cons_zero, List.set_cons_succ, sAsg_tup, asgK_some, bTup_app, bAll_nil, bAll_cons, bName_app, Option.bind_some, isMl_s, isMl_m, resK_some, onK_ml, eApp_app, ePop_app, eIdxV_app, eLenV_app, tTruV_app, sSetI_app, onL_app, fLen_ok, fTru_ok, rbK_ok, cbK_ml, eCB_cons, eCB_nil, List.nil_append, List.cons_append, outK_some, outR_ret, outR_nx, outB_s, outB_m, mConsD_app, mConsL_app, sPar_app, setAll_nil, setAll_cons, true_and, and_true, and_self, Bool.not_true, Bool.not_false, Bool.false_eq_true, reduceIte]
        rw [lcM (gs.take i ++ gs.drop (i + 1)) mkG (fun o => PyData.bool (gr.all fun z => o.contains z))]
        · simp only [bind_ok, bind_exc, bnd_app, lift_some, eC_app, eVar_0, eVar_1, eVar_2, eVar_3, eVar_4, eVar_5, eVar_6, eVar_7, eVar_8, eVar_9, eVar_10, ap1_app, ap2_app, apA_app, aCons_app, nilA_app, tru_app, tst_app, asB_bool, truD_bool, truD_list, truD_tuple, mNot_app, mAnd_app, mOr_app, eNot_app, eAnd_app, eOr_app, andK_b, orK_b, eIf_app, eTup_app, eLst_app, lLst_app, frzL_app, eList_app, eSl_app, pN_app, pS_app, partD_int, chn_b, eChain_app, seq_nx, seq_ret, seq_brk, seq_cnt, seq_exc, sSeq_app, sRet_app, sDrop_app, sIf_app, sRaise_app, sAsg_name, sSetL_app, rxM_ok, rxM_exc, eCall_app, outP_ret, outP_nx, outP_exc, Option.map_some, len0, len1, len2, len3, len4, len5, len6, len7, len8, eq_self, sz0, sz1, sz2, sz3, sz4, sz5, sz6, sz7, sz8, sz9, sz10, sz11, freeAt_s, freeAt_n, freeAt_d, freeAt_m, sFrz_app, frzK_ml, List.getElem?_cons_zero, List.getElem?_cons_succ, List.set_cons_zero, List.set_cons_succ, sAsg_tup, asgK_some, bTup_app, bAll_nil, bAll_cons, bName_app, Option.bind_some, isMl_s, isMl_m, resK_some, onK_ml, eApp_app, ePop_app, eIdxV_app, eLenV_app, tTruV_app, sSetI_app, onL_app, fLen_ok, fTru_ok, rbK_ok, cbK_ml, eCB_cons, eCB_nil, List.nil_append, List.cons_append, outK_some, outR_ret, outR_nx, outB_s, outB_m, mConsD_app, mConsL_app, sPar_app, setAll_nil, setAll_cons, true_and, and_true, and_self, Bool.not_true, Bool.not_false, Bool.false_eq_true, reduceIte, any_bools, app_ite]
        · have hz := sizeLine_big
          have e1 : ((i : Int) + 1) = ((i + 1 : Nat) : Int) := by omega
          simp only [eSl_app, eVar_2, bind_ok, bnd_app, pN_app, pS_app, eVar_4, partD_int, lift_some, sl_upto, ap2_app, eC_app, add_int, e1, sl_from, ap1_app]
          rw [add_tups]
          · simp [itemsD]
          · simp only [List.length_take, List.length_drop, List.length_map]
            omega
        · have hz := sizeLine_big
          simp only [List.length_append, List.length_take, List.length_drop]
          omega
        · intro o ho
          refine ⟨_, rfl, ?_, rfl, rfl⟩
          have := s_contains (lx := mkG o) (sx := mkG gr) (lg := o) (sm := gr) rfl rfl (hg gr hgr)
          simp [this]) [some (.d x), some (.d a), some (.d (.tuple (gs.map mkG))), some (.d k), none, none, none, none, none] ⟨none, none, rfl, rfl, rfl⟩
  refine ⟨o4, o5, h4, h5, ?_⟩
  have e2 : (gs.zipIdx.any fun p => (gs.take p.2 ++ gs.drop (p.2 + 1)).any fun o => p.1.all fun z => o.contains z) = !antiB gs := by
    unfold antiB
    rw [List.any_eq_not_all_not]
  rw [e2] at e
  simp [sFor_app, enum1, seqD, enum_map]
  rw [e]
  cases antiB gs <;> rfl
theorem scn_cover {x a k : D} {ss : List (List Str)} {names : List Str} {o4 o5 : Option Tv} (hk : itemsD k = some (names.map PyData.str)) (hn : names.length ≤ sizeLine) (hl : ss.length ≤ sizeLine) (d5 : dat o5 = true) :
    ∃ o5', dat o5' = true ∧ eLc [8] (bName 8) (tAll) (apA anyD (aCons (frzL (eLc [5] (bName 5) (tAll) (ap2 inD (eVar 8) (eVar 5)) (ap1 itemsD (eVar 2)))) (nilA))) (ap1 itemsD (eVar 3)) [some (.d x), some (.d a), some (.d (.tuple (ss.map mkG))), some (.d k), o4, o5, none, none, none] =
      .ok (names.map fun z => PyData.bool (ss.any fun g => g.contains z)) [some (.d x), some (.d a), some (.d (.tuple (ss.map mkG))), some (.d k), o4, o5', none, none, none] := by
  have key : ∀ (z : Str) (o5 : Option Tv), dat o5 = true → apA anyD (aCons (frzL (eLc [5] (bName 5) (tAll) (ap2 inD (eVar 8) (eVar 5)) (ap1 itemsD (eVar 2)))) (nilA)) [some (.d x), some (.d a), some (.d (.tuple (ss.map mkG))), some (.d k), o4, o5, none, none, some (.d (.str z))] =
      .ok (.bool (ss.any fun g => g.contains z)) [some (.d x), some (.d a), some (.d (.tuple (ss.map mkG))), some (.d k), o4, none, none, none, some (.d (.str z))] := by
    intro z o5 d5
    have hf : ([5].all fun i => freeAt [some (.d x), some (.d a), some (.d (.tuple (ss.map mkG))), some (.d k), o4, o5, none, none, some (.d (.str z))] i) = true := by
      rw [List.all_cons, freeAt_dat (g := [some (.d x), some (.d a), some (.d (.tuple (ss.map mkG))), some (.d k), o4, o5, none, none, some (.d (.str z))]) (i := 5) (o := o5) rfl d5]
      rfl
    have ei := lcW (vs := [5]) (b := bName 5) (e := ap2 inD (eVar 8) (eVar 5)) (mi := ap1 itemsD (eVar 2)) ss mkG (fun g => PyData.bool (g.contains z)) rfl hl hf (fun g hg => ⟨[some (.d x), some (.d a), some (.d (.tuple (ss.map mkG))), some (.d k), o4, some (.d (mkG g)), none, none, some (.d (.str z))], rfl, by
      simp only [bind_ok, bind_exc, bnd_app, lift_some, eC_app, eVar_0, eVar_1, eVar_2, eVar_3, eVar_4, eVar_5, eVar_6, eVar_7, eVar_8, eVar_9, eVar_10, ap1_app, ap2_app, apA_app, aCons_app, nilA_app, tru_app, tst_app, asB_bool, truD_bool, truD_list, truD_tuple, mNot_app, mAnd_app, mOr_app, eNot_app, eAnd_app, eOr_app, andK_b, orK_b, eIf_app, eTup_app, eLst_app, lLst_app, frzL_app, eList_app, eSl_app, pN_app, pS_app, partD_int, chn_b, eChain_app, seq_nx, seq_ret, seq_brk, seq_cnt, seq_exc, sSeq_app, sRet_app, sDrop_app, sIf_app, sRaise_app, sAsg_name, sSetL_app, rxM_ok, rxM_exc, eCall_app, outP_ret, outP_nx, outP_exc, Option.map_some, len0, len1, len2, len3, len4, len5, len6, len7, len8, eq_self, sz0, sz1, sz2, sz3, sz4, sz5, sz6, sz7, sz8, sz9, sz10, sz11, freeAt_s, freeAt_n, freeAt_d, freeAt_m, sFrz_app, frzK_ml, List.getElem?_cons_zero, List.getElem?_cons_succ, List.set_cons_zero, List.set_cons_succ, sAsg_tup, asgK_some, bTup_app, bAll_nil, bAll_cons, bName_app, Option.bind_some, isMl_s, isMl_m, resK_some, onK_ml, eApp_app, ePop_app, eIdxV_app, eLenV_app, tTruV_app, sSetI_app, onL_app, fLen_ok, fTru_ok, rbK_ok, cbK_ml, eCB_cons, eCB_nil, List.nil_append, List.cons_append, outK_some, outR_ret, outR_nx, outB_s, outB_m, mConsD_app, mConsL_app, sPar_app, setAll_nil, setAll_cons, true_and, and_true, and_self, Bool.not_true, Bool.not_false, Bool.false_eq_true, reduceIte, in_strs (kx := mkG g) (known := g) rfl z], rfl, rfl⟩)
    simp only [bind_ok, bind_exc, bnd_app, lift_some, eC_app, eVar_0, eVar_1, eVar_2, eVar_3, eVar_4, eVar_5, eVar_6, eVar_7, eVar_8, eVar_9, eVar_10, ap1_app, ap2_app, apA_app, aCons_app, nilA_app, tru_app, tst_app, asB_bool, truD_bool, truD_list, truD_tuple, mNot_app, mAnd_app, mOr_app, eNot_app, eAnd_app, eOr_app, andK_b, orK_b, eIf_app, eTup_app, eLst_app, lLst_app, frzL_app, eList_app, eSl_app, pN_app, pS_app, partD_int, chn_b, eChain_app, seq_nx, seq_ret, seq_brk, seq_cnt, seq_exc, sSeq_app, sRet_app, sDrop_app, sIf_app, sRaise_app, sAsg_name, sSetL_app, rxM_ok, rxM_exc, eCall_app, outP_ret, outP_nx, outP_exc, Option.map_some, len0, len1, len2, len3, len4, len5, len6, len7, len8, eq_self, sz0, sz1, sz2, sz3, sz4, sz5, sz6, sz7, sz8, sz9, sz10, sz11, freeAt_s, freeAt_n, freeAt_d, freeAt_m, sFrz_app, frzK_ml, List.getElem?_cons_zero, List.getElem?_cons_succ, List.set_cons_zero, List.set_cons_succ, sAsg_tup, asgK_some, bTup_app, bAll_nil, bAll_cons, bName_app, Option.bind_some, isMl_s, isMl_m, resK_some, onK_ml, eApp_app, ePop_app, eIdxV_app, eLenV_app, tTruV_app, sSetI_app, onL_app, fLen_ok, fTru_ok, rbK_ok, cbK_ml, eCB_cons, eCB_nil, List.nil_append, List.cons_append, outK_some, outR_ret, outR_nx, outB_s, outB_m, mConsD_app, mConsL_app, sPar_app, setAll_nil, setAll_cons, true_and, and_true, and_self, Bool.not_true, Bool.not_false, Bool.false_eq_true, reduceIte, ei, any_bools]
    rfl
  obtain ⟨g', ⟨o5', d5', rfl⟩, ec⟩ := lcI (vs := [8]) (b := bName 8) (t := tAll) (e := apA anyD (aCons (frzL (eLc [5] (bName 5) (tAll) (ap2 inD (eVar 8) (eVar 5)) (ap1 itemsD (eVar 2)))) (nilA))) (mi := ap1 itemsD (eVar 3))
    (g := [some (.d x), some (.d a), some (.d (.tuple (ss.map mkG))), some (.d k), o4, o5, none, none, none]) (g1 := [some (.d x), some (.d a), some (.d (.tuple (ss.map mkG))), some (.d k), o4, o5, none, none, none])
    names PyData.str (fun _ => true) (fun z => PyData.bool (ss.any fun g => g.contains z))
    (fun g => ∃ o5, dat o5 = true ∧ g = [some (.d x), some (.d a), some (.d (.tuple (ss.map mkG))), some (.d k), o4, o5, none, none, none])
    (by simp only [bind_ok, bind_exc, bnd_app, lift_some, eC_app, eVar_0, eVar_1, eVar_2, eVar_3, eVar_4, eVar_5, eVar_6, eVar_7, eVar_8, eVar_9, eVar_10, ap1_app, ap2_app, apA_app, aCons_app, nilA_app, tru_app, tst_app, asB_bool, truD_bool, truD_list, truD_tuple, mNot_app, mAnd_app, mOr_app, eNot_app, eAnd_app, eOr_app, andK_b, orK_b, eIf_app, eTup_app, eLst_app, lLst_app, frzL_app, eList_app, eSl_app, pN_app, pS_app, partD_int, chn_b, eChain_app, seq_nx, seq_ret, seq_brk, seq_cnt, seq_exc, sSeq_app, sRet_app, sDrop_app, sIf_app, sRaise_app, sAsg_name, sSetL_app, rxM_ok, rxM_exc, eCall_app, outP_ret, outP_nx, outP_exc, Option.map_some, len0, len1, len2, len3, len4, len5, len6, len7, len8, eq_self, sz0, sz1, sz2, sz3, sz4, sz5, sz6, sz7, sz8, sz9, sz10, sz11, freeAt_s, freeAt_n, freeAt_d, freeAt_m, sFrz_app, frzK_ml, List.getElem?_cons_zero, List.getElem?_cons_succ, List.set_cons_zero, List.set_cons_succ, sAsg_tup, asgK_some, bTup_app, bAll_nil, bAll_cons, bName_app, Option.bind_some, isMl_s, isMl_m, resK_some, onK_ml, eApp_app, ePop_app, eIdxV_app, eLenV_app, tTruV_app, sSetI_app, onL_app, fLen_ok, fTru_ok, rbK_ok, cbK_ml, eCB_cons, eCB_nil, List.nil_append, List.cons_append, outK_some, outR_ret, outR_nx, outB_s, outB_m, mConsD_app, mConsL_app, sPar_app, setAll_nil, setAll_cons, true_and, and_true, and_self, Bool.not_true, Bool.not_false, Bool.false_eq_true, reduceIte, hk]) hn ⟨o5, d5, rfl⟩ (by
      rintro z hz g ⟨o5, d5, rfl⟩
      exact ⟨_, _, [some (.d x), some (.d a), some (.d (.tuple (ss.map mkG))), some (.d k), o4, none, none, none, some (.d (.str z))], rfl, rfl, fun _ => key z o5 d5, fun e => absurd e (by decide), rfl, ⟨none, rfl, rfl⟩⟩)
  refine ⟨o5', d5', ?_⟩
  rw [ec, List.filter_eq_self.mpr (fun _ _ => rfl)]
theorem s_is_scenario {n : Nat} (x : D) (h : Gd n x) (hn : n ≤ 59 := by omega) : p_is_scenario [x] = .ok (.bool (isScn x)) := by
  rw [p_is_scenario, runP_out]
  cases x with
  | tuple ys =>
    cases n with
    | zero => simp [Gd] at h
    | succ n =>
      simp only [Gd] at h
      match ys, h with
      | [], h => simp [m_is_scenario, dsG, isi_tuple (x := .tuple []) rfl, isTupD, ne_int, isScn]
      | [a], h => simp [m_is_scenario, dsG, isi_tuple (x := .tuple [a]) rfl, isTupD, ne_int, isScn]
      | a :: b :: c :: r, h =>
        have e : ((r.length + 1 + 1 + 1 : Int) == 2) = false := by
          rw [beq_eq_false_iff_ne]
          omega
        simp [m_is_scenario, dsG, isi_tuple (x := .tuple (a :: b :: c :: r)) rfl, isTupD, ne_int, isScn, e]
      | [a, b], h =>
        have ga := h.2 a (by simp)
        have gb := h.2 b (by simp)
        have e0 : ((([a, b] : List D).length : Int) == 2) = true := rfl
        simp only [m_is_scenario, dsG, List.map_cons, List.map_nil, List.cons_append, List.nil_append, List.length_cons, List.length_nil, Nat.reduceAdd, Nat.reduceSub, List.replicate, bind_ok, bind_exc, bnd_app, lift_some, eC_app, eVar_0, eVar_1, eVar_2, eVar_3, eVar_4, eVar_5, eVar_6, eVar_7, eVar_8, eVar_9, eVar_10, ap1_app, ap2_app, apA_app, aCons_app, nilA_app, tru_app, tst_app, asB_bool, truD_bool, truD_list, truD_tuple, mNot_app, mAnd_app, mOr_app, eNot_app, eAnd_app, eOr_app, andK_b, orK_b, eIf_app, eTup_app, eLst_app, lLst_app, frzL_app, eList_app, eSl_app, pN_app, pS_app, partD_int, chn_b, eChain_app, seq_nx, seq_ret, seq_brk, seq_cnt, seq_exc, sSeq_app, sRet_app, sDrop_app, sIf_app, sRaise_app, sAsg_name, sSetL_app, rxM_ok, rxM_exc, eCall_app, outP_ret, outP_nx, outP_exc, Option.map_some, len0, len1, len2, len3, len4, len5, len6, len7, len8, eq_self, sz0, sz1, sz2, sz3, sz4, sz5, sz6, sz7, sz8, sz9, sz10, sz11, freeAt_s, freeAt_n, freeAt_d, freeAt_m, sFrz_app, frzK_ml, List.getElem?_cons_zero, List.getElem?_cons_succ, List.set_cons_zero, List.set_cons_succ, sAsg_tup, asgK_some, bTup_app, bAll_nil, bAll_cons, bName_app, Option.bind_some, isMl_s, isMl_m, resK_some, onK_ml, eApp_app, ePop_app, eIdxV_app, eLenV_app, tTruV_app, sSetI_app, onL_app, fLen_ok, fTru_ok, rbK_ok, cbK_ml, eCB_cons, eCB_nil, List.nil_append, List.cons_append, outK_some, outR_ret, outR_nx, outB_s, outB_m, mConsD_app, mConsL_app, sPar_app, setAll_nil, setAll_cons, true_and, and_true, and_self, Bool.not_true, Bool.not_false, Bool.false_eq_true, reduceIte, isi_tuple (x := .tuple [a, b]) rfl, isTupD, len_tup, ne_int, ix_t0, s_are_questions a ga, isScn, app_ite, seq_ite, bind_ite, outP_ite, e0]
        cases hq : areQ a
        · simp
        · cases a with
          | tuple xs =>
            simp only [areQ, Bool.and_eq_true, decide_eq_true_eq] at hq
            obtain ⟨⟨q1', q2'⟩, q3, q4, q5⟩ := hq
            have eq := qs_eq q3
            have hlen : (qsOf xs).length = xs.length := by simp [qsOf]
            generalize hqs : qsOf xs = qs at *
            have hnm : (xs.map fun x => PyData.str (q0 x)) = (qs.map (·.1)).map PyData.str := by
              rw [← hqs, qsOf, List.map_map, List.map_map]
              rfl
            have hnd : (qs.map (·.1)).Nodup := asc_nodup (by rw [← hnm]; exact q4)
            have hz := sizeLine_big
            subst eq
            simp only [bind_ok, bind_exc, bnd_app, lift_some, eC_app, eVar_0, eVar_1, eVar_2, eVar_3, eVar_4, eVar_5, eVar_6, eVar_7, eVar_8, eVar_9, eVar_10, ap1_app, ap2_app, apA_app, aCons_app, nilA_app, tru_app, tst_app, asB_bool, truD_bool, truD_list, truD_tuple, mNot_app, mAnd_app, mOr_app, eNot_app, eAnd_app, eOr_app, andK_b, orK_b, eIf_app, eTup_app, eLst_app, lLst_app, frzL_app, eList_app, eSl_app, pN_app, pS_app, partD_int, chn_b, eChain_app, seq_nx, seq_ret, seq_brk, seq_cnt, seq_exc, sSeq_app, sRet_app, sDrop_app, sIf_app, sRaise_app, sAsg_name, sSetL_app, rxM_ok, rxM_exc, eCall_app, outP_ret, outP_nx, outP_exc, Option.map_some, len0, len1, len2, len3, len4, len5, len6, len7, len8, eq_self, sz0, sz1, sz2, sz3, sz4, sz5, sz6, sz7, sz8, sz9, sz10, sz11, freeAt_s, freeAt_n, freeAt_d, freeAt_m, sFrz_app, frzK_ml, List.getElem?_cons_zero, List.getElem?_cons_succ, List.set_cons_zero, List.set_cons_succ, sAsg_tup, asgK_some, bTup_app, bAll_nil, bAll_cons, bName_app, Option.bind_some, isMl_s, isMl_m, resK_some, onK_ml, eApp_app, ePop_app, eIdxV_app, eLenV_app, tTruV_app, sSetI_app, onL_app, fLen_ok, fTru_ok, rbK_ok, cbK_ml, eCB_cons, eCB_nil, List.nil_append, List.cons_append, outK_some, outR_ret, outR_nx, outB_s, outB_m, mConsD_app, mConsL_app, sPar_app, setAll_nil, setAll_cons, true_and, and_true, and_self, Bool.not_true, Bool.not_false, Bool.false_eq_true, reduceIte, hqs]
            rw [lcM qs mkQ (fun q => PyData.str q.1)]
            rotate_left
            · rfl
            · rw [List.length_map] at q2'
              omega
            · exact fun q hq => ⟨_, rfl, by simp only [bind_ok, bind_exc, bnd_app, lift_some, eC_app, eVar_0, eVar_1, eVar_2, eVar_3, eVar_4, eVar_5, eVar_6, eVar_7, eVar_8, eVar_9, eVar_10, ap1_app, ap2_app, apA_app, aCons_app, nilA_app, tru_app, tst_app, asB_bool, truD_bool, truD_list, truD_tuple, mNot_app, mAnd_app, mOr_app, eNot_app, eAnd_app, eOr_app, andK_b, orK_b, eIf_app, eTup_app, eLst_app, lLst_app, frzL_app, eList_app, eSl_app, pN_app, pS_app, partD_int, chn_b, eChain_app, seq_nx, seq_ret, seq_brk, seq_cnt, seq_exc, sSeq_app, sRet_app, sDrop_app, sIf_app, sRaise_app, sAsg_name, sSetL_app, rxM_ok, rxM_exc, eCall_app, outP_ret, outP_nx, outP_exc, Option.map_some, len0, len1, len2, len3, len4, len5, len6, len7, len8, eq_self, sz0, sz1, sz2, sz3, sz4, sz5, sz6, sz7, sz8, sz9, sz10, sz11, freeAt_s, freeAt_n, freeAt_d, freeAt_m, sFrz_app, frzK_ml, List.getElem?_cons_zero, List.getElem?_cons_succ, List.set_cons_zero, List.set_cons_succ, sAsg_tup, asgK_some, bTup_app, bAll_nil, bAll_cons, bName_app, Option.bind_some, isMl_s, isMl_m, resK_some, onK_ml, eApp_app, ePop_app, eIdxV_app, eLenV_app, tTruV_app, sSetI_app, onL_app, fLen_ok, fTru_ok, rbK_ok, cbK_ml, eCB_cons, eCB_nil, List.nil_append, List.cons_append, outK_some, outR_ret, outR_nx, outB_s, outB_m, mConsD_app, mConsL_app, sPar_app, setAll_nil, setAll_cons, true_and, and_true, and_self, Bool.not_true, Bool.not_false, Bool.false_eq_true, reduceIte, mkQ, ix_t0], rfl, rfl⟩
            simp only [bind_ok, bind_exc, bnd_app, lift_some, eC_app, eVar_0, eVar_1, eVar_2, eVar_3, eVar_4, eVar_5, eVar_6, eVar_7, eVar_8, eVar_9, eVar_10, ap1_app, ap2_app, apA_app, aCons_app, nilA_app, tru_app, tst_app, asB_bool, truD_bool, truD_list, truD_tuple, mNot_app, mAnd_app, mOr_app, eNot_app, eAnd_app, eOr_app, andK_b, orK_b, eIf_app, eTup_app, eLst_app, lLst_app, frzL_app, eList_app, eSl_app, pN_app, pS_app, partD_int, chn_b, eChain_app, seq_nx, seq_ret, seq_brk, seq_cnt, seq_exc, sSeq_app, sRet_app, sDrop_app, sIf_app, sRaise_app, sAsg_name, sSetL_app, rxM_ok, rxM_exc, eCall_app, outP_ret, outP_nx, outP_exc, Option.map_some, len0, len1, len2, len3, len4, len5, len6, len7, len8, eq_self, sz0, sz1, sz2, sz3, sz4, sz5, sz6, sz7, sz8, sz9, sz10, sz11, freeAt_s, freeAt_n, freeAt_d, freeAt_m, sFrz_app, frzK_ml, List.getElem?_cons_zero, List.getElem?_cons_succ, List.set_cons_zero, List.set_cons_succ, sAsg_tup, asgK_some, bTup_app, bAll_nil, bAll_cons, bName_app, Option.bind_some, isMl_s, isMl_m, resK_some, onK_ml, eApp_app, ePop_app, eIdxV_app, eLenV_app, tTruV_app, sSetI_app, onL_app, fLen_ok, fTru_ok, rbK_ok, cbK_ml, eCB_cons, eCB_nil, List.nil_append, List.cons_append, outK_some, outR_ret, outR_nx, outB_s, outB_m, mConsD_app, mConsL_app, sPar_app, setAll_nil, setAll_cons, true_and, and_true, and_self, Bool.not_true, Bool.not_false, Bool.false_eq_true, reduceIte]
            have e2 : (!(((2 : Nat) : Int) == 2)) = false := rfl
            simp only [e2, bind_ok, bind_exc, bnd_app, lift_some, eC_app, eVar_0, eVar_1, eVar_2, eVar_3, eVar_4, eVar_5, eVar_6, eVar_7, eVar_8, eVar_9, eVar_10, ap1_app, ap2_app, apA_app, aCons_app, nilA_app, tru_app, tst_app, asB_bool, truD_bool, truD_list, truD_tuple, mNot_app, mAnd_app, mOr_app, eNot_app, eAnd_app, eOr_app, andK_b, orK_b, eIf_app, eTup_app, eLst_app, lLst_app, frzL_app, eList_app, eSl_app, pN_app, pS_app, partD_int, chn_b, eChain_app, seq_nx, seq_ret, seq_brk, seq_cnt, seq_exc, sSeq_app, sRet_app, sDrop_app, sIf_app, sRaise_app, sAsg_name, sSetL_app, rxM_ok, rxM_exc, eCall_app, outP_ret, outP_nx, outP_exc, Option.map_some, len0, len1, len2, len3, len4, len5, len6, len7, len8, eq_self, sz0, sz1, sz2, sz3, sz4, sz5, sz6, sz7, sz8, sz9, sz10, sz11, freeAt_s, freeAt_n, freeAt_d, freeAt_m, sFrz_app, frzK_ml, List.getElem?_cons_zero, List.getElem?_cons_succ, List.set_cons_zero, List.set_cons_succ, sAsg_tup, asgK_some, bTup_app, bAll_nil, bAll_cons, bName_app, Option.bind_some, isMl_s, isMl_m, resK_some, onK_ml, eApp_app, ePop_app, eIdxV_app, eLenV_app, tTruV_app, sSetI_app, onL_app, fLen_ok, fTru_ok, rbK_ok, cbK_ml, eCB_cons, eCB_nil, List.nil_append, List.cons_append, outK_some, outR_ret, outR_nx, outB_s, outB_m, mConsD_app, mConsL_app, sPar_app, setAll_nil, setAll_cons, true_and, and_true, and_self, Bool.not_true, Bool.not_false, Bool.false_eq_true, reduceIte]
            cases b with
            | tuple gs =>
              cases n with
              | zero => simp [Gd] at gb
              | succ n =>
                simp only [Gd] at gb
                simp only [bind_ok, bind_exc, bnd_app, lift_some, eC_app, eVar_0, eVar_1, eVar_2, eVar_3, eVar_4, eVar_5, eVar_6, eVar_7, eVar_8, eVar_9, eVar_10, ap1_app, ap2_app, apA_app, aCons_app, nilA_app, tru_app, tst_app, asB_bool, truD_bool, truD_list, truD_tuple, mNot_app, mAnd_app, mOr_app, eNot_app, eAnd_app, eOr_app, andK_b, orK_b, eIf_app, eTup_app, eLst_app, lLst_app, frzL_app, eList_app, eSl_app, pN_app, pS_app, partD_int, chn_b, eChain_app, seq_nx, seq_ret, seq_brk, seq_cnt, seq_exc, sSeq_app, sRet_app, sDrop_app, sIf_app, sRaise_app, sAsg_name, sSetL_app, rxM_ok, rxM_exc, eCall_app, outP_ret, outP_nx, outP_exc, Option.map_some, len0, len1, len2, len3, len4, len5, len6, len7, len8, eq_self, sz0, sz1, sz2, sz3, sz4, sz5, sz6, sz7, sz8, sz9, sz10, sz11, freeAt_s, freeAt_n, freeAt_d, freeAt_m, sFrz_app, frzK_ml, List.getElem?_cons_zero, List.getElem?_cons_succ, List.set_cons_zero, List.set_cons_succ, sAsg_tup, asgK_some, bTup_app, bAll_nil, bAll_cons, bName_app, Option.bind_some, isMl_s, isMl_m, resK_some, onK_ml, eApp_app, ePop_app, eIdxV_app, eLenV_app, tTruV_app, sSetI_app, onL_app, fLen_ok, fTru_ok, rbK_ok, cbK_ml, eCB_cons, eCB_nil, List.nil_append, List.cons_append, outK_some, outR_ret, outR_nx, outB_s, outB_m, mConsD_app, mConsL_app, sPar_app, setAll_nil, setAll_cons, true_and, and_true, and_self, Bool.not_true, Bool.not_false, Bool.false_eq_true, reduceIte, isi_tuple (x := .tuple gs) rfl, isTupD, le_int, len_tup, app_ite, bind_ite, seq_ite, outP_ite, isGs, le1]
                by_cases h1 : 1 ≤ gs.length
                · by_cases h10 : gs.length ≤ 10
                  · have h10' : (gs.length : Int) ≤ 10 := by omega
                    simp only [h1, h10, h10', decide_true, bind_ok, bind_exc, bnd_app, lift_some, eC_app, eVar_0, eVar_1, eVar_2, eVar_3, eVar_4, eVar_5, eVar_6, eVar_7, eVar_8, eVar_9, eVar_10, ap1_app, ap2_app, apA_app, aCons_app, nilA_app, tru_app, tst_app, asB_bool, truD_bool, truD_list, truD_tuple, mNot_app, mAnd_app, mOr_app, eNot_app, eAnd_app, eOr_app, andK_b, orK_b, eIf_app, eTup_app, eLst_app, lLst_app, frzL_app, eList_app, eSl_app, pN_app, pS_app, partD_int, chn_b, eChain_app, seq_nx, seq_ret, seq_brk, seq_cnt, seq_exc, sSeq_app, sRet_app, sDrop_app, sIf_app, sRaise_app, sAsg_name, sSetL_app, rxM_ok, rxM_exc, eCall_app, outP_ret, outP_nx, outP_exc, Option.map_some, len0, len1, len2, len3, len4, len5, len6, len7, len8, eq_self, sz0, sz1, sz2, sz3, sz4, sz5, sz6, sz7, sz8, sz9, sz10, sz11, freeAt_s, freeAt_n, freeAt_d, freeAt_m, sFrz_app, frzK_ml, List.getElem?_cons_zero, List.getElem?_cons_succ, List.set_cons_zero, List.set_cons_succ, sAsg_tup, asgK_some, bTup_app, bAll_nil, bAll_cons, bName_app, Option.bind_some, isMl_s, isMl_m, resK_some, onK_ml, eApp_app, ePop_app, eIdxV_app, eLenV_app, tTruV_app, sSetI_app, onL_app, fLen_ok, fTru_ok, rbK_ok, cbK_ml, eCB_cons, eCB_nil, List.nil_append, List.cons_append, outK_some, outR_ret, outR_nx, outB_s, outB_m, mConsD_app, mConsL_app, sPar_app, setAll_nil, setAll_cons, true_and, and_true, and_self, Bool.not_true, Bool.not_false, Bool.false_eq_true, reduceIte]
                    have hk : seqD (.list (qs.map fun q => PyData.str q.1)) = some ((qs.map (·.1)).map PyData.str) := by
                      rw [seqD, List.map_map]
                      rfl
                    rw [lc_map (items := gs) (fun g => PyData.bool (isNT (qs.map (·.1)) g))]
                    rotate_left
                    · rfl
                    · rfl
                    · rfl
                    · omega
                    · exact fun g hg => ⟨_, rfl, by simp only [bind_ok, bind_exc, bnd_app, lift_some, eC_app, eVar_0, eVar_1, eVar_2, eVar_3, eVar_4, eVar_5, eVar_6, eVar_7, eVar_8, eVar_9, eVar_10, ap1_app, ap2_app, apA_app, aCons_app, nilA_app, tru_app, tst_app, asB_bool, truD_bool, truD_list, truD_tuple, mNot_app, mAnd_app, mOr_app, eNot_app, eAnd_app, eOr_app, andK_b, orK_b, eIf_app, eTup_app, eLst_app, lLst_app, frzL_app, eList_app, eSl_app, pN_app, pS_app, partD_int, chn_b, eChain_app, seq_nx, seq_ret, seq_brk, seq_cnt, seq_exc, sSeq_app, sRet_app, sDrop_app, sIf_app, sRaise_app, sAsg_name, sSetL_app, rxM_ok, rxM_exc, eCall_app, outP_ret, outP_nx, outP_exc, Option.map_some, len0, len1, len2, len3, len4, len5, len6, len7, len8, eq_self, sz0, sz1, sz2, sz3, sz4, sz5, sz6, sz7, sz8, sz9, sz10, sz11, freeAt_s, freeAt_n, freeAt_d, freeAt_m, sFrz_app, frzK_ml, List.getElem?_cons_zero, List.getElem?_cons_succ, List.set_cons_zero, List.set_cons_succ, sAsg_tup, asgK_some, bTup_app, bAll_nil, bAll_cons, bName_app, Option.bind_some, isMl_s, isMl_m, resK_some, onK_ml, eApp_app, ePop_app, eIdxV_app, eLenV_app, tTruV_app, sSetI_app, onL_app, fLen_ok, fTru_ok, rbK_ok, cbK_ml, eCB_cons, eCB_nil, List.nil_append, List.cons_append, outK_some, outR_ret, outR_nx, outB_s, outB_m, mConsD_app, mConsL_app, sPar_app, setAll_nil, setAll_cons, true_and, and_true, and_self, Bool.not_true, Bool.not_false, Bool.false_eq_true, reduceIte, s_is_name_tuple hk g (gb.2 g hg) (by omega)], rfl, rfl⟩
                    simp only [bind_ok, bind_exc, bnd_app, lift_some, eC_app, eVar_0, eVar_1, eVar_2, eVar_3, eVar_4, eVar_5, eVar_6, eVar_7, eVar_8, eVar_9, eVar_10, ap1_app, ap2_app, apA_app, aCons_app, nilA_app, tru_app, tst_app, asB_bool, truD_bool, truD_list, truD_tuple, mNot_app, mAnd_app, mOr_app, eNot_app, eAnd_app, eOr_app, andK_b, orK_b, eIf_app, eTup_app, eLst_app, lLst_app, frzL_app, eList_app, eSl_app, pN_app, pS_app, partD_int, chn_b, eChain_app, seq_nx, seq_ret, seq_brk, seq_cnt, seq_exc, sSeq_app, sRet_app, sDrop_app, sIf_app, sRaise_app, sAsg_name, sSetL_app, rxM_ok, rxM_exc, eCall_app, outP_ret, outP_nx, outP_exc, Option.map_some, len0, len1, len2, len3, len4, len5, len6, len7, len8, eq_self, sz0, sz1, sz2, sz3, sz4, sz5, sz6, sz7, sz8, sz9, sz10, sz11, freeAt_s, freeAt_n, freeAt_d, freeAt_m, sFrz_app, frzK_ml, List.getElem?_cons_zero, List.getElem?_cons_succ, List.set_cons_zero, List.set_cons_succ, sAsg_tup, asgK_some, bTup_app, bAll_nil, bAll_cons, bName_app, Option.bind_some, isMl_s, isMl_m, resK_some, onK_ml, eApp_app, ePop_app, eIdxV_app, eLenV_app, tTruV_app, sSetI_app, onL_app, fLen_ok, fTru_ok, rbK_ok, cbK_ml, eCB_cons, eCB_nil, List.nil_append, List.cons_append, outK_some, outR_ret, outR_nx, outB_s, outB_m, mConsD_app, mConsL_app, sPar_app, setAll_nil, setAll_cons, true_and, and_true, and_self, Bool.not_true, Bool.not_false, Bool.false_eq_true, reduceIte, all_bools, app_ite, bind_ite, seq_ite, outP_ite]
                    cases hnt : gs.all (isNT (qs.map (·.1)))
                    · simp
                    · simp only [bind_ok, bind_exc, bnd_app, lift_some, eC_app, eVar_0, eVar_1, eVar_2, eVar_3, eVar_4, eVar_5, eVar_6, eVar_7, eVar_8, eVar_9, eVar_10, ap1_app, ap2_app, apA_app, aCons_app, nilA_app, tru_app, tst_app, asB_bool, truD_bool, truD_list, truD_tuple, mNot_app, mAnd_app, mOr_app, eNot_app, eAnd_app, eOr_app, andK_b, orK_b, eIf_app, eTup_app, eLst_app, lLst_app, frzL_app, eList_app, eSl_app, pN_app, pS_app, partD_int, chn_b, eChain_app, seq_nx, seq_ret, seq_brk, seq_cnt, seq_exc, sSeq_app, sRet_app, sDrop_app, sIf_app, sRaise_app, sAsg_name, sSetL_app, rxM_ok, rxM_exc, eCall_app, outP_ret, outP_nx, outP_exc, Option.map_some, len0, len1, len2, len3, len4, len5, len6, len7, len8, eq_self, sz0, sz1, sz2, sz3, sz4, sz5, sz6, sz7, sz8, sz9, sz10, sz11, freeAt_s, freeAt_n, freeAt_d, freeAt_m, sFrz_app, frzK_ml, List.getElem?_cons_zero, List.getElem?_cons_succ, List.set_cons_zero, List.set_cons_succ, sAsg_tup, asgK_some, bTup_app, bAll_nil, bAll_cons, bName_app, Option.bind_some, isMl_s, isMl_m, resK_some, onK_ml, eApp_app, ePop_app, eIdxV_app, eLenV_app, tTruV_app, sSetI_app, onL_app, fLen_ok, fTru_ok, rbK_ok, cbK_ml, eCB_cons, eCB_nil, List.nil_append, List.cons_append, outK_some, outR_ret, outR_nx, outB_s, outB_m, mConsD_app, mConsL_app, sPar_app, setAll_nil, setAll_cons, true_and, and_true, and_self, Bool.not_true, Bool.not_false, Bool.false_eq_true, reduceIte]
                      have eg := gs_eq hnt
                      have gin := gs_in hnt
                      have gl : (gs.map gOf).length = gs.length := by simp
                      have gll : ∀ g ∈ gs.map gOf, g.length ≤ sizeLine := fun g hg => by
                        obtain ⟨y, hy, rfl⟩ := List.mem_map.mp hg
                        have := gb.2 y hy
                        unfold gOf
                        split
                        · cases n with
                          | zero => simp [Gd] at this
                          | succ n =>
                            simp only [Gd] at this
                            rw [List.length_map]
                            exact this.1
                        · simp
                      generalize hgs : gs.map gOf = ss at *
                      subst eg
                      have ea : p_is_ascending [.tuple (ss.map mkG)] = .ok (.bool (ascB (ss.map mkG))) := by
                        refine s_is_ascending rfl (by rw [← gl] at h10; simp only [List.length_map]; omega) fun a ha b hb => ?_
                        obtain ⟨a, _, rfl⟩ := List.mem_map.mp ha
                        obtain ⟨b, _, rfl⟩ := List.mem_map.mp hb
                        exact ordOk_mkG a b
                      simp only [ea, bind_ok, bind_exc, bnd_app, lift_some, eC_app, eVar_0, eVar_1, eVar_2, eVar_3, eVar_4, eVar_5, eVar_6, eVar_7, eVar_8, eVar_9, eVar_10, ap1_app, ap2_app, apA_app, aCons_app, nilA_app, tru_app, tst_app, asB_bool, truD_bool, truD_list, truD_tuple, mNot_app, mAnd_app, mOr_app, eNot_app, eAnd_app, eOr_app, andK_b, orK_b, eIf_app, eTup_app, eLst_app, lLst_app, frzL_app, eList_app, eSl_app, pN_app, pS_app, partD_int, chn_b, eChain_app, seq_nx, seq_ret, seq_brk, seq_cnt, seq_exc, sSeq_app, sRet_app, sDrop_app, sIf_app, sRaise_app, sAsg_name, sSetL_app, rxM_ok, rxM_exc, eCall_app, outP_ret, outP_nx, outP_exc, Option.map_some, len0, len1, len2, len3, len4, len5, len6, len7, len8, eq_self, sz0, sz1, sz2, sz3, sz4, sz5, sz6, sz7, sz8, sz9, sz10, sz11, freeAt_s, freeAt_n, freeAt_d, freeAt_m, sFrz_app, frzK_ml, List.getElem?_cons_zero, List.getElem?_cons_succ, List.set_cons_zero, List.set_cons_succ, sAsg_tup, asgK_some, bTup_app, bAll_nil, bAll_cons, bName_app, Option.bind_some, isMl_s, isMl_m, resK_some, onK_ml, eApp_app, ePop_app, eIdxV_app, eLenV_app, tTruV_app, sSetI_app, onL_app, fLen_ok, fTru_ok, rbK_ok, cbK_ml, eCB_cons, eCB_nil, List.nil_append, List.cons_append, outK_some, outR_ret, outR_nx, outB_s, outB_m, mConsD_app, mConsL_app, sPar_app, setAll_nil, setAll_cons, true_and, and_true, and_self, Bool.not_true, Bool.not_false, Bool.false_eq_true, reduceIte]
                      cases hasc : ascB (ss.map mkG)
                      · simp
                      · simp only [bind_ok, bind_exc, bnd_app, lift_some, eC_app, eVar_0, eVar_1, eVar_2, eVar_3, eVar_4, eVar_5, eVar_6, eVar_7, eVar_8, eVar_9, eVar_10, ap1_app, ap2_app, apA_app, aCons_app, nilA_app, tru_app, tst_app, asB_bool, truD_bool, truD_list, truD_tuple, mNot_app, mAnd_app, mOr_app, eNot_app, eAnd_app, eOr_app, andK_b, orK_b, eIf_app, eTup_app, eLst_app, lLst_app, frzL_app, eList_app, eSl_app, pN_app, pS_app, partD_int, chn_b, eChain_app, seq_nx, seq_ret, seq_brk, seq_cnt, seq_exc, sSeq_app, sRet_app, sDrop_app, sIf_app, sRaise_app, sAsg_name, sSetL_app, rxM_ok, rxM_exc, eCall_app, outP_ret, outP_nx, outP_exc, Option.map_some, len0, len1, len2, len3, len4, len5, len6, len7, len8, eq_self, sz0, sz1, sz2, sz3, sz4, sz5, sz6, sz7, sz8, sz9, sz10, sz11, freeAt_s, freeAt_n, freeAt_d, freeAt_m, sFrz_app, frzK_ml, List.getElem?_cons_zero, List.getElem?_cons_succ, List.set_cons_zero, List.set_cons_succ, sAsg_tup, asgK_some, bTup_app, bAll_nil, bAll_cons, bName_app, Option.bind_some, isMl_s, isMl_m, resK_some, onK_ml, eApp_app, ePop_app, eIdxV_app, eLenV_app, tTruV_app, sSetI_app, onL_app, fLen_ok, fTru_ok, rbK_ok, cbK_ml, eCB_cons, eCB_nil, List.nil_append, List.cons_append, outK_some, outR_ret, outR_nx, outB_s, outB_m, mConsD_app, mConsL_app, sPar_app, setAll_nil, setAll_cons, true_and, and_true, and_self, Bool.not_true, Bool.not_false, Bool.false_eq_true, reduceIte]
                        have hz' : ss.length ≤ 10 := by rw [← gl] at h10; exact h10
                        obtain ⟨o4, o5, d4, d5, el⟩ := scn_loop (x := .tuple [.tuple (qs.map mkQ), .tuple (ss.map mkG)]) (a := .tuple (qs.map mkQ)) (k := .list (qs.map fun q => PyData.str q.1)) hz' gll _ rfl
                        simp only [el, app_ite, bind_ite, seq_ite, outP_ite, bind_ok, bind_exc, bnd_app, lift_some, eC_app, eVar_0, eVar_1, eVar_2, eVar_3, eVar_4, eVar_5, eVar_6, eVar_7, eVar_8, eVar_9, eVar_10, ap1_app, ap2_app, apA_app, aCons_app, nilA_app, tru_app, tst_app, asB_bool, truD_bool, truD_list, truD_tuple, mNot_app, mAnd_app, mOr_app, eNot_app, eAnd_app, eOr_app, andK_b, orK_b, eIf_app, eTup_app, eLst_app, lLst_app, frzL_app, eList_app, eSl_app, pN_app, pS_app, partD_int, chn_b, eChain_app, seq_nx, seq_ret, seq_brk, seq_cnt, seq_exc, sSeq_app, sRet_app, sDrop_app, sIf_app, sRaise_app, sAsg_name, sSetL_app, rxM_ok, rxM_exc, eCall_app, outP_ret, outP_nx, outP_exc, Option.map_some, len0, len1, len2, len3, len4, len5, len6, len7, len8, eq_self, sz0, sz1, sz2, sz3, sz4, sz5, sz6, sz7, sz8, sz9, sz10, sz11, freeAt_s, freeAt_n, freeAt_d, freeAt_m, sFrz_app, frzK_ml, List.getElem?_cons_zero, List.getElem?_cons_succ, List.set_cons_zero, List.set_cons_succ, sAsg_tup, asgK_some, bTup_app, bAll_nil, bAll_cons, bName_app, Option.bind_some, isMl_s, isMl_m, resK_some, onK_ml, eApp_app, ePop_app, eIdxV_app, eLenV_app, tTruV_app, sSetI_app, onL_app, fLen_ok, fTru_ok, rbK_ok, cbK_ml, eCB_cons, eCB_nil, List.nil_append, List.cons_append, outK_some, outR_ret, outR_nx, outB_s, outB_m, mConsD_app, mConsL_app, sPar_app, setAll_nil, setAll_cons, true_and, and_true, and_self, Bool.not_true, Bool.not_false, Bool.false_eq_true, reduceIte]
                        cases hanti : antiB ss
                        · simp
                        · simp only [bind_ok, bind_exc, bnd_app, lift_some, eC_app, eVar_0, eVar_1, eVar_2, eVar_3, eVar_4, eVar_5, eVar_6, eVar_7, eVar_8, eVar_9, eVar_10, ap1_app, ap2_app, apA_app, aCons_app, nilA_app, tru_app, tst_app, asB_bool, truD_bool, truD_list, truD_tuple, mNot_app, mAnd_app, mOr_app, eNot_app, eAnd_app, eOr_app, andK_b, orK_b, eIf_app, eTup_app, eLst_app, lLst_app, frzL_app, eList_app, eSl_app, pN_app, pS_app, partD_int, chn_b, eChain_app, seq_nx, seq_ret, seq_brk, seq_cnt, seq_exc, sSeq_app, sRet_app, sDrop_app, sIf_app, sRaise_app, sAsg_name, sSetL_app, rxM_ok, rxM_exc, eCall_app, outP_ret, outP_nx, outP_exc, Option.map_some, len0, len1, len2, len3, len4, len5, len6, len7, len8, eq_self, sz0, sz1, sz2, sz3, sz4, sz5, sz6, sz7, sz8, sz9, sz10, sz11, freeAt_s, freeAt_n, freeAt_d, freeAt_m, sFrz_app, frzK_ml, List.getElem?_cons_zero, List.getElem?_cons_succ, List.set_cons_zero, List.set_cons_succ, sAsg_tup, asgK_some, bTup_app, bAll_nil, bAll_cons, bName_app, Option.bind_some, isMl_s, isMl_m, resK_some, onK_ml, eApp_app, ePop_app, eIdxV_app, eLenV_app, tTruV_app, sSetI_app, onL_app, fLen_ok, fTru_ok, rbK_ok, cbK_ml, eCB_cons, eCB_nil, List.nil_append, List.cons_append, outK_some, outR_ret, outR_nx, outB_s, outB_m, mConsD_app, mConsL_app, sPar_app, setAll_nil, setAll_cons, true_and, and_true, and_self, Bool.not_true, Bool.not_false, Bool.false_eq_true, reduceIte]
                          obtain ⟨o5', d5', ec⟩ := scn_cover (x := .tuple [.tuple (qs.map mkQ), .tuple (ss.map mkG)]) (a := .tuple (qs.map mkQ)) (k := .list (qs.map fun q => PyData.str q.1)) (ss := ss) (names := qs.map (·.1)) (o4 := o4) (by rw [itemsD, List.map_map]; rfl) (by rw [List.length_map] at q2' ⊢; omega) (by omega) d5
                          simp only [ec, bind_ok, bind_exc, bnd_app, lift_some, eC_app, eVar_0, eVar_1, eVar_2, eVar_3, eVar_4, eVar_5, eVar_6, eVar_7, eVar_8, eVar_9, eVar_10, ap1_app, ap2_app, apA_app, aCons_app, nilA_app, tru_app, tst_app, asB_bool, truD_bool, truD_list, truD_tuple, mNot_app, mAnd_app, mOr_app, eNot_app, eAnd_app, eOr_app, andK_b, orK_b, eIf_app, eTup_app, eLst_app, lLst_app, frzL_app, eList_app, eSl_app, pN_app, pS_app, partD_int, chn_b, eChain_app, seq_nx, seq_ret, seq_brk, seq_cnt, seq_exc, sSeq_app, sRet_app, sDrop_app, sIf_app, sRaise_app, sAsg_name, sSetL_app, rxM_ok, rxM_exc, eCall_app, outP_ret, outP_nx, outP_exc, Option.map_some, len0, len1, len2, len3, len4, len5, len6, len7, len8, eq_self, sz0, sz1, sz2, sz3, sz4, sz5, sz6, sz7, sz8, sz9, sz10, sz11, freeAt_s, freeAt_n, freeAt_d, freeAt_m, sFrz_app, frzK_ml, List.getElem?_cons_zero, List.getElem?_cons_succ, List.set_cons_zero, List.set_cons_succ, sAsg_tup, asgK_some, bTup_app, bAll_nil, bAll_cons, bName_app, Option.bind_some, isMl_s, isMl_m, resK_some, onK_ml, eApp_app, ePop_app, eIdxV_app, eLenV_app, tTruV_app, sSetI_app, onL_app, fLen_ok, fTru_ok, rbK_ok, cbK_ml, eCB_cons, eCB_nil, List.nil_append, List.cons_append, outK_some, outR_ret, outR_nx, outB_s, outB_m, mConsD_app, mConsL_app, sPar_app, setAll_nil, setAll_cons, true_and, and_true, and_self, Bool.not_true, Bool.not_false, Bool.false_eq_true, reduceIte, all_bools, app_ite, bind_ite, seq_ite, outP_ite]
                          have hne : qs ≠ [] := by
                            rintro rfl
                            simp at q1'
                          have hsm : ∀ q ∈ qs, small q.2 := fun q hq => by
                            have := List.all_eq_true.mp q3 (mkQ q) (List.mem_map_of_mem hq)
                            obtain ⟨z, i, e, _, h2, h3⟩ := isQ_inv this
                            unfold mkQ at e
                            injection e with e
                            injection e with e1 e
                            injection e with e
                            injection e with e
                            rw [e]
                            exact ⟨by show -(2 ^ 64) < i; omega, by show i < 2 ^ 64; omega⟩
                          have hcc := s_cell_count hne hnd hsm (fun g hg => ⟨gll g hg, gin g hg⟩) (by omega)
                          simp only [hcc, bind_ok, bind_exc, bnd_app, lift_some, eC_app, eVar_0, eVar_1, eVar_2, eVar_3, eVar_4, eVar_5, eVar_6, eVar_7, eVar_8, eVar_9, eVar_10, ap1_app, ap2_app, apA_app, aCons_app, nilA_app, tru_app, tst_app, asB_bool, truD_bool, truD_list, truD_tuple, mNot_app, mAnd_app, mOr_app, eNot_app, eAnd_app, eOr_app, andK_b, orK_b, eIf_app, eTup_app, eLst_app, lLst_app, frzL_app, eList_app, eSl_app, pN_app, pS_app, partD_int, chn_b, eChain_app, seq_nx, seq_ret, seq_brk, seq_cnt, seq_exc, sSeq_app, sRet_app, sDrop_app, sIf_app, sRaise_app, sAsg_name, sSetL_app, rxM_ok, rxM_exc, eCall_app, outP_ret, outP_nx, outP_exc, Option.map_some, len0, len1, len2, len3, len4, len5, len6, len7, len8, eq_self, sz0, sz1, sz2, sz3, sz4, sz5, sz6, sz7, sz8, sz9, sz10, sz11, freeAt_s, freeAt_n, freeAt_d, freeAt_m, sFrz_app, frzK_ml, List.getElem?_cons_zero, List.getElem?_cons_succ, List.set_cons_zero, List.set_cons_succ, sAsg_tup, asgK_some, bTup_app, bAll_nil, bAll_cons, bName_app, Option.bind_some, isMl_s, isMl_m, resK_some, onK_ml, eApp_app, ePop_app, eIdxV_app, eLenV_app, tTruV_app, sSetI_app, onL_app, fLen_ok, fTru_ok, rbK_ok, cbK_ml, eCB_cons, eCB_nil, List.nil_append, List.cons_append, outK_some, outR_ret, outR_nx, outB_s, outB_m, mConsD_app, mConsL_app, sPar_app, setAll_nil, setAll_cons, true_and, and_true, and_self, Bool.not_true, Bool.not_false, Bool.false_eq_true, reduceIte, le_int, coverB]
                          cases hcov : (qs.map (·.1)).all fun z => ss.any fun g => g.contains z
                          · simp
                          · simp only [bind_ok, bind_exc, bnd_app, lift_some, eC_app, eVar_0, eVar_1, eVar_2, eVar_3, eVar_4, eVar_5, eVar_6, eVar_7, eVar_8, eVar_9, eVar_10, ap1_app, ap2_app, apA_app, aCons_app, nilA_app, tru_app, tst_app, asB_bool, truD_bool, truD_list, truD_tuple, mNot_app, mAnd_app, mOr_app, eNot_app, eAnd_app, eOr_app, andK_b, orK_b, eIf_app, eTup_app, eLst_app, lLst_app, frzL_app, eList_app, eSl_app, pN_app, pS_app, partD_int, chn_b, eChain_app, seq_nx, seq_ret, seq_brk, seq_cnt, seq_exc, sSeq_app, sRet_app, sDrop_app, sIf_app, sRaise_app, sAsg_name, sSetL_app, rxM_ok, rxM_exc, eCall_app, outP_ret, outP_nx, outP_exc, Option.map_some, len0, len1, len2, len3, len4, len5, len6, len7, len8, eq_self, sz0, sz1, sz2, sz3, sz4, sz5, sz6, sz7, sz8, sz9, sz10, sz11, freeAt_s, freeAt_n, freeAt_d, freeAt_m, sFrz_app, frzK_ml, List.getElem?_cons_zero, List.getElem?_cons_succ, List.set_cons_zero, List.set_cons_succ, sAsg_tup, asgK_some, bTup_app, bAll_nil, bAll_cons, bName_app, Option.bind_some, isMl_s, isMl_m, resK_some, onK_ml, eApp_app, ePop_app, eIdxV_app, eLenV_app, tTruV_app, sSetI_app, onL_app, fLen_ok, fTru_ok, rbK_ok, cbK_ml, eCB_cons, eCB_nil, List.nil_append, List.cons_append, outK_some, outR_ret, outR_nx, outB_s, outB_m, mConsD_app, mConsL_app, sPar_app, setAll_nil, setAll_cons, true_and, and_true, and_self, Bool.not_true, Bool.not_false, Bool.false_eq_true, reduceIte, Bool.true_and]
                            rfl
                  · have h10' : ¬ (gs.length : Int) ≤ 10 := by omega
                    simp [h1, h10, h10']
                · simp [h1]
            | _ =>
              have gb := gb.nd
              simp [isi_tuple gb, isTupD, isGs]
          | _ => simp [areQ] at hq
  | _ =>
    have h := h.nd
    simp [m_is_scenario, dsG, isi_tuple h, isTupD, isScn]
end PP

namespace PP
open PySem PySem.Spec
/-! ### draws -/
/-- a state of the draws, at most b long -/
def Sok (b : Nat) (zs : List D) : Prop := zs.length ≤ b ∧ (zs = [] ∨ ∃ (n : Int) (r : List D), zs = .int n :: r)
theorem Sok.mono {b c : Nat} {zs : List D} (h : Sok b zs) (l : b ≤ c) : Sok c zs := ⟨Nat.le_trans h.1 l, h.2⟩
theorem mul_ok {i j : Int} (h : small i) : mulD (.int i) (.int j) = some (.int (i * j)) := by
  show (if mulOk i j = true then some (PyData.int (i * j)) else none) = _
  rw [if_pos]
  simp only [mulOk, Bool.or_eq_true, Bool.and_eq_true, decide_eq_true_eq]
  exact .inl h
theorem mul_ok2 {i j : Int} (h : small j) : mulD (.int i) (.int j) = some (.int (i * j)) := by
  show (if mulOk i j = true then some (PyData.int (i * j)) else none) = _
  rw [if_pos]
  simp only [mulOk, Bool.or_eq_true, Bool.and_eq_true, decide_eq_true_eq]
  exact .inr h
theorem mod_ok {i j : Int} (h : 0 < j) : modD (.int i) (.int j) = some (.int (i % j)) := by
  show (if j ≠ 0 then some (PyData.int (i.fmod j)) else none) = _
  rw [if_pos (by omega), Int.fmod_eq_emod_of_nonneg _ (by omega)]
theorem fdiv_ok {i j : Int} (h : 0 < j) (h2 : j < 1073741824) : fdivD (.int i) (.int j) = some (.int (i / j)) := by
  show (if (decide (j ≠ 0) && decide (j.natAbs < 1073741824)) = true then some (PyData.int (i.fdiv j)) else none) = _
  rw [if_pos, Int.fdiv_eq_ediv_of_nonneg _ (by omega)]
  simp only [Bool.and_eq_true, decide_eq_true_eq]
  omega
theorem small_mod (i : Int) {j : Int} (h : 0 < j) (h2 : j ≤ 4294967296) : small (i % j) := by
  have := Int.emod_nonneg i (by omega : j ≠ 0)
  have := Int.emod_lt_of_pos i h
  exact ⟨by show -(2 ^ 64) < i % j; omega, by show i % j < 2 ^ 64; omega⟩
theorem max_some (ns : List Int) : ∃ m, maxD [.list (ns.map PyData.int ++ [PyData.int 0])] = some (.int m) := by
  have e : intsD (ns.map PyData.int ++ [PyData.int 0]) = some (ns ++ [0]) := by
    have := intsD_ints (ns ++ [0])
    rw [List.map_append] at this
    exact this
  rw [maxD, e]
  cases ns with
  | nil => exact ⟨_, rfl⟩
  | cons n ns => exact ⟨_, rfl⟩
theorem add_lists {xs ys : List D} (h : xs.length + ys.length ≤ sizeLine) : addD (.list xs) (.list ys) = some (.list (xs ++ ys)) := by rw [addD, if_pos h]
theorem ix_list {xs : List D} {k : Nat} {y : D} (h : xs[k]? = some y) : ixD (.list xs) (.int (k : Int)) = some y := by
  have hk := (List.getElem?_eq_some_iff.mp h).1
  show L2.atI xs (k : Int) = _
  rw [L2.atI, L2.ixN, if_pos (by omega), if_pos (by omega)]
  simpa using h
abbrev scr (ns : List Int) : D := .list (ns.map PyData.int)
theorem draw_tail {ns : List Int} {z0 : Int} {r : List D} {many : Int} (hm : 0 < many) (o4 : Option Tv) (d4 : dat o4 = true) (hl : r.length + 1 < sizeLine) :
    ∃ i z1, 0 ≤ i ∧ i < many ∧ outR 1 ((sSeq (sDrop (eApp 1 (eC (.int 0)))) (sSeq (sAsg (bName 3) (eLenV 1)) (sSeq (sAsg (bName 4) (eIf (tru (eVar 0)) (ap2 ixD (eVar 0) (ap2 modD (eVar 3) (apA lenD (aCons (eVar 0) (nilA))))) (eC (.int 0)))) (sSeq (sAsg (bName 5) (ap2 modD (eIdxV 1 (eC (.int 0))) (eC (.int 65536)))) (sSeq (sSetI 1 (eC (.int 0)) (ap2 fdivD (eIdxV 1 (eC (.int 0))) (eC (.int 65536)))) (sSeq (sAsg (bName 6) (ap2 modD (ap2 addD (ap2 addD (eVar 4) (ap2 mulD (eC (.int 40503)) (eVar 5))) (ap2 mulD (eC (.int 104729)) (eVar 3))) (eC (.int 4294967291)))) (sSeq (sAsg (bName 6) (ap2 modD (ap2 mulD (ap2 modD (ap2 mulD (eVar 6) (eVar 6)) (eC (.int 4294967279))) (eC (.int 48271))) (eC (.int 4294967291)))) (sSeq (sAsg (bName 7) (ap2 modD (ap2 mulD (ap2 modD (ap2 mulD (eVar 6) (eVar 6)) (eC (.int 4294967279))) (eC (.int 69621))) (eC (.int 4294967291)))) (sRet (ap2 modD (ap2 addD (ap2 mulD (ap2 fdivD (eVar 6) (eC (.int 64))) (eC (.int 67108864))) (ap2 fdivD (eVar 7) (eC (.int 64)))) (eVar 2)))))))))))
      [some (.d (scr ns)), some (.ml true (.int z0 :: r)), some (.d (.int many)), none, o4, none, none, none]) = .ok (.int i) (.int z1 :: (r ++ [.int 0])) := by
  have f4 : ∀ (a b c d : Option Tv) (rr : Ga), freeAt (a :: b :: c :: d :: o4 :: rr) 4 = true := fun a b c d rr => freeAt_dat (o := o4) rfl d4
  have s1 : small 40503 := ⟨by decide, by decide⟩
  have s2 : small 104729 := ⟨by decide, by decide⟩
  have s3 : small 48271 := ⟨by decide, by decide⟩
  have s4 : small 69621 := ⟨by decide, by decide⟩
  have s5 : small 67108864 := ⟨by decide, by decide⟩
  have key : ∀ L : Nat, ∃ cell : Int, ∀ (z : Option Tv) (y : Option Tv) (g : Ga), eIf (tru (eVar 0)) (ap2 ixD (eVar 0) (ap2 modD (eVar 3) (apA lenD (aCons (eVar 0) (nilA))))) (eC (.int 0)) (some (.d (scr ns)) :: z :: y :: some (.d (.int (L : Int))) :: g) = .ok (.int cell) (some (.d (scr ns)) :: z :: y :: some (.d (.int (L : Int))) :: g) := by
    intro L
    cases hns : ns with
    | nil => exact ⟨0, fun z y g => rfl⟩
    | cons n ms =>
      rw [← hns]
      have hpos : 0 < ns.length := by rw [hns]; simp
      have hlt : L % ns.length < ns.length := Nat.mod_lt _ hpos
      refine ⟨ns[L % ns.length], fun z y g => ?_⟩
      have e0 : (!(ns.map PyData.int).isEmpty) = true := by rw [hns]; rfl
      have e1 : modD (.int (L : Int)) (.int (((ns.map PyData.int).length : Nat) : Int)) = some (.int ((L % ns.length : Nat) : Int)) := by
        rw [mod_ok (by simp only [List.length_map]; omega)]
        simp only [List.length_map]
        rfl
      have e2 : (ns.map PyData.int)[L % ns.length]? = some (.int (ns[L % ns.length])) := by
        rw [List.getElem?_map, List.getElem?_eq_getElem hlt]
        rfl
      simp only [bind_ok, bind_exc, bnd_app, lift_some, eC_app, eVar_0, eVar_1, eVar_2, eVar_3, eVar_4, eVar_5, eVar_6, eVar_7, eVar_8, eVar_9, eVar_10, ap1_app, ap2_app, apA_app, aCons_app, nilA_app, tru_app, tst_app, asB_bool, truD_bool, truD_list, truD_tuple, mNot_app, mAnd_app, mOr_app, eNot_app, eAnd_app, eOr_app, andK_b, orK_b, eIf_app, eTup_app, eLst_app, lLst_app, frzL_app, eList_app, eSl_app, pN_app, pS_app, partD_int, chn_b, eChain_app, seq_nx, seq_ret, seq_brk, seq_cnt, seq_exc, sSeq_app, sRet_app, sDrop_app, sIf_app, sRaise_app, sAsg_name, sSetL_app, rxM_ok, rxM_exc, eCall_app, outP_ret, outP_nx, outP_exc, Option.map_some, len0, len1, len2, len3, len4, len5, len6, len7, len8, eq_self, sz0, sz1, sz2, sz3, sz4, sz5, sz6, sz7, sz8, sz9, sz10, sz11, freeAt_s, freeAt_n, freeAt_d, freeAt_m, sFrz_app, frzK_ml, List.getElem?_cons_zero, List.getElem?_cons_succ, List.set_cons_zero, List.set_cons_succ, sAsg_tup, asgK_some, bTup_app, bAll_nil, bAll_cons, bName_app, Option.bind_some, isMl_s, isMl_m, resK_some, onK_ml, eApp_app, ePop_app, eIdxV_app, eLenV_app, tTruV_app, sSetI_app, onL_app, fLen_ok, fTru_ok, rbK_ok, cbK_ml, eCB_cons, eCB_nil, List.nil_append, List.cons_append, outK_some, outR_ret, outR_nx, outB_s, outB_m, mConsD_app, mConsL_app, sPar_app, setAll_nil, setAll_cons, true_and, and_true, and_self, Bool.not_true, Bool.not_false, Bool.false_eq_true, reduceIte, len_lst, e0, e1, ix_list e2, scr]
  have h0 : L2.atI (PyData.int z0 :: (r ++ [PyData.int 0])) (0 : Int) = some (.int z0) := by
    rw [L2.atI, L2.ixN, if_pos (by omega), if_pos (by simp only [List.length_cons]; omega)]
    rfl
  have h1 : L2.ixN (PyData.int z0 :: (r ++ [PyData.int 0])).length (0 : Int) = some 0 := by
    rw [L2.ixN, if_pos (by omega), if_pos (by simp only [List.length_cons]; omega)]
    rfl
  have fi : fIdx (PyData.int z0 :: (r ++ [PyData.int 0])) (.int 0) = some (.int z0, PyData.int z0 :: (r ++ [PyData.int 0])) := by
    show (L2.atI _ _).map _ = _
    rw [h0]
    rfl
  have fs : ∀ y : D, fSetI y (PyData.int z0 :: (r ++ [PyData.int 0])) (.int 0) = some (.none, y :: (r ++ [PyData.int 0])) := fun y => by
    show (L2.ixN _ _).map _ = _
    rw [h1]
    rfl
  have fa : fApp (PyData.int z0 :: r) (.int 0) = some (.none, PyData.int z0 :: (r ++ [PyData.int 0])) := fApp_ok (xs := PyData.int z0 :: r) (by simpa using hl)
  obtain ⟨cell, key⟩ := key (PyData.int z0 :: (r ++ [PyData.int 0])).length
  have fin : ∃ v z1 : Int, outR 1 ((sSeq (sDrop (eApp 1 (eC (.int 0)))) (sSeq (sAsg (bName 3) (eLenV 1)) (sSeq (sAsg (bName 4) (eIf (tru (eVar 0)) (ap2 ixD (eVar 0) (ap2 modD (eVar 3) (apA lenD (aCons (eVar 0) (nilA))))) (eC (.int 0)))) (sSeq (sAsg (bName 5) (ap2 modD (eIdxV 1 (eC (.int 0))) (eC (.int 65536)))) (sSeq (sSetI 1 (eC (.int 0)) (ap2 fdivD (eIdxV 1 (eC (.int 0))) (eC (.int 65536)))) (sSeq (sAsg (bName 6) (ap2 modD (ap2 addD (ap2 addD (eVar 4) (ap2 mulD (eC (.int 40503)) (eVar 5))) (ap2 mulD (eC (.int 104729)) (eVar 3))) (eC (.int 4294967291)))) (sSeq (sAsg (bName 6) (ap2 modD (ap2 mulD (ap2 modD (ap2 mulD (eVar 6) (eVar 6)) (eC (.int 4294967279))) (eC (.int 48271))) (eC (.int 4294967291)))) (sSeq (sAsg (bName 7) (ap2 modD (ap2 mulD (ap2 modD (ap2 mulD (eVar 6) (eVar 6)) (eC (.int 4294967279))) (eC (.int 69621))) (eC (.int 4294967291)))) (sRet (ap2 modD (ap2 addD (ap2 mulD (ap2 fdivD (eVar 6) (eC (.int 64))) (eC (.int 67108864))) (ap2 fdivD (eVar 7) (eC (.int 64)))) (eVar 2)))))))))))
      [some (.d (scr ns)), some (.ml true (.int z0 :: r)), some (.d (.int many)), none, o4, none, none, none]) = .ok (.int (v % many)) (.int z1 :: (r ++ [.int 0])) := by
    generalize eIf (tru (eVar 0)) (ap2 ixD (eVar 0) (ap2 modD (eVar 3) (apA lenD (aCons (eVar 0) (nilA))))) (eC (.int 0)) = EE at key ⊢
    apply Exists.intro
    apply Exists.intro
    simp only [bind_ok, bind_exc, bnd_app, lift_some, eC_app, eVar_0, eVar_1, eVar_2, eVar_3, eVar_4, eVar_5, eVar_6, eVar_7, eVar_8, eVar_9, eVar_10, ap1_app, ap2_app, apA_app, aCons_app, nilA_app, tru_app, tst_app, asB_bool, truD_bool, truD_list, truD_tuple, mNot_app, mAnd_app, mOr_app, eNot_app, eAnd_app, eOr_app, andK_b, orK_b, eIf_app, eTup_app, eLst_app, lLst_app, frzL_app, eList_app, eSl_app, pN_app, pS_app, partD_int, chn_b, eChain_app, seq_nx, seq_ret, seq_brk, seq_cnt, seq_exc, sSeq_app, sRet_app, sDrop_app, sIf_app, sRaise_app, sAsg_name, sSetL_app, rxM_ok, rxM_exc, eCall_app, outP_ret, outP_nx, outP_exc, Option.map_some, len0, len1, len2, len3, len4, len5, len6, len7, len8, eq_self, sz0, sz1, sz2, sz3, sz4, sz5, sz6, sz7, sz8, sz9, sz10, sz11, freeAt_s, freeAt_n, freeAt_d, freeAt_m, sFrz_app, frzK_ml, List.getElem?_cons_zero, List.getElem?_cons_succ, List.set_cons_zero, List.set_cons_succ, sAsg_tup, asgK_some, bTup_app, bAll_nil, bAll_cons, bName_app, Option.bind_some, isMl_s, isMl_m, resK_some, onK_ml, eApp_app, ePop_app, eIdxV_app, eLenV_app, tTruV_app, sSetI_app, onL_app, fLen_ok, fTru_ok, rbK_ok, cbK_ml, eCB_cons, eCB_nil, List.nil_append, List.cons_append, outK_some, outR_ret, outR_nx, outB_s, outB_m, mConsD_app, mConsL_app, sPar_app, setAll_nil, setAll_cons, true_and, and_true, and_self, Bool.not_true, Bool.not_false, Bool.false_eq_true, reduceIte, fa, key, f4, fi, fs, add_int, mod_ok (show (0 : Int) < 65536 by decide), fdiv_ok (show (0 : Int) < 65536 by decide) (show (65536 : Int) < 1073741824 by decide), mul_ok s1, mul_ok s2, mod_ok (show (0 : Int) < 4294967291 by decide), mul_ok (small_mod _ (show (0 : Int) < 4294967291 by decide) (by decide)), mod_ok (show (0 : Int) < 4294967279 by decide), mul_ok2 s3, mul_ok2 s4, fdiv_ok (show (0 : Int) < 64 by decide) (show (64 : Int) < 1073741824 by decide), mul_ok2 s5, mod_ok hm]
    rfl
  obtain ⟨v, z1, e⟩ := fin
  exact ⟨_, z1, Int.emod_nonneg _ (by omega), Int.emod_lt_of_pos _ hm, e⟩
theorem s_draw {ns : List Int} {zs : List D} {b : Nat} {many : Int} (hs : Sok b zs) (hb : b + 2 ≤ sizeLine) (hn : ns.length ≤ 63) (hm : 0 < many) : ∃ i zs', 0 ≤ i ∧ i < many ∧ Sok (b + 2) zs' ∧ b__law_draw [scr ns] zs [.int many] = .ok (.int i) zs' := by
  obtain ⟨hl, hz⟩ := hs
  have hz0 := sizeLine_big
  rcases hz with rfl | ⟨n, r, rfl⟩
  · obtain ⟨m, em⟩ := max_some (ns.map fun i => if i < 0 then -i else i)
    obtain ⟨i, z1, h1, h2, e⟩ := draw_tail (ns := ns) (z0 := m) (r := []) hm none rfl (by simp only [List.length_nil]; omega)
    refine ⟨i, PyData.int z1 :: ([] ++ [PyData.int 0]), h1, h2, ⟨?_, .inr ⟨z1, _, rfl⟩⟩, ?_⟩
    · simp only [List.length_cons, List.length_append, List.length_nil]
      omega
    · rw [b__law_draw, runB_out, ← e]
      have ec : eLc [4] (bName 4) (tAll) (apA absD (aCons (eVar 4) (nilA))) (ap1 itemsD (eVar 0)) [some (.d (scr ns)), some (.ml true []), some (.d (.int many)), none, none, none, none, none] = .ok (ns.map fun i => PyData.int (if i < 0 then -i else i)) [some (.d (scr ns)), some (.ml true []), some (.d (.int many)), none, none, none, none, none] :=
        lcM ns PyData.int _ rfl (by omega) (fun i hi => ⟨_, rfl, rfl, rfl, rfl⟩)
      have ea : addD (.list (ns.map fun i => PyData.int (if i < 0 then -i else i))) (.list [.int 0]) = some (.list ((ns.map fun i => if i < 0 then -i else i).map PyData.int ++ [PyData.int 0])) := by
        rw [add_lists (by simp only [List.length_map, List.length_cons, List.length_nil]; omega), List.map_map]
        rfl
      have h1 : ([PyData.int 0] : List D).length ≤ sizeLine := by simp only [List.length_cons, List.length_nil]; omega
      have fa : fApp [] (.int m) = some (.none, [PyData.int m]) := fApp_ok (xs := []) (by simp only [List.length_nil]; omega)
      have eb : bG [scr ns] [] [.int many] 8 = [some (.d (scr ns)), some (.ml true []), some (.d (.int many)), none, none, none, none, none] := rfl
      rw [eb, m__law_draw, sSeq_app]
      congr 1
      have e1 : (sIf (mNot (tTruV 1)) (sDrop (eApp 1 (apA maxD (aCons (ap2 addD (frzL (eLc [4] (bName 4) (tAll) (apA absD (aCons (eVar 4) (nilA))) (ap1 itemsD (eVar 0)))) (eLst (aCons (eC (.int 0)) (nilA)))) (nilA))))) ((fun g => .ok .nx g))) [some (.d (scr ns)), some (.ml true []), some (.d (.int many)), none, none, none, none, none] = .ok .nx [some (.d (scr ns)), some (.ml true [.int m]), some (.d (.int many)), none, none, none, none, none] := by
        simp only [bind_ok, bind_exc, bnd_app, lift_some, eC_app, eVar_0, eVar_1, eVar_2, eVar_3, eVar_4, eVar_5, eVar_6, eVar_7, eVar_8, eVar_9, eVar_10, ap1_app, ap2_app, apA_app, aCons_app, nilA_app, tru_app, tst_app, asB_bool, truD_bool, truD_list, truD_tuple, mNot_app, mAnd_app, mOr_app, eNot_app, eAnd_app, eOr_app, andK_b, orK_b, eIf_app, eTup_app, eLst_app, lLst_app, frzL_app, eList_app, eSl_app, pN_app, pS_app, partD_int, chn_b, eChain_app, seq_nx, seq_ret, seq_brk, seq_cnt, seq_exc, sSeq_app, sRet_app, sDrop_app, sIf_app, sRaise_app, sAsg_name, sSetL_app, rxM_ok, rxM_exc, eCall_app, outP_ret, outP_nx, outP_exc, Option.map_some, len0, len1, len2, len3, len4, len5, len6, len7, len8, eq_self, sz0, sz1, sz2, sz3, sz4, sz5, sz6, sz7, sz8, sz9, sz10, sz11, freeAt_s, freeAt_n, freeAt_d, freeAt_m, sFrz_app, frzK_ml, List.getElem?_cons_zero, List.getElem?_cons_succ, List.set_cons_zero, List.set_cons_succ, sAsg_tup, asgK_some, bTup_app, bAll_nil, bAll_cons, bName_app, Option.bind_some, isMl_s, isMl_m, resK_some, onK_ml, eApp_app, ePop_app, eIdxV_app, eLenV_app, tTruV_app, sSetI_app, onL_app, fLen_ok, fTru_ok, rbK_ok, cbK_ml, eCB_cons, eCB_nil, List.nil_append, List.cons_append, outK_some, outR_ret, outR_nx, outB_s, outB_m, mConsD_app, mConsL_app, sPar_app, setAll_nil, setAll_cons, true_and, and_true, and_self, Bool.not_true, Bool.not_false, Bool.false_eq_true, reduceIte, List.isEmpty_nil, ec, ea, em, fa]
      rw [e1, seq_nx]
  · obtain ⟨i, z1, h1, h2, e⟩ := draw_tail (ns := ns) (z0 := n) (r := r) hm none rfl (by simp only [List.length_cons] at hl; omega)
    refine ⟨i, PyData.int z1 :: (r ++ [PyData.int 0]), h1, h2, ⟨?_, .inr ⟨z1, _, rfl⟩⟩, ?_⟩
    · simp only [List.length_cons, List.length_append, List.length_nil] at hl ⊢
      omega
    · rw [b__law_draw, runB_out, ← e]
      have eb : bG [scr ns] (.int n :: r) [.int many] 8 = [some (.d (scr ns)), some (.ml true (.int n :: r)), some (.d (.int many)), none, none, none, none, none] := rfl
      rw [eb, m__law_draw, sSeq_app]
      congr 1
theorem s_pick {ns : List Int} {zs : List D} {b : Nat} {xs : List D} (hs : Sok b zs) (hb : b + 2 ≤ sizeLine) (hn : ns.length ≤ 63) (hx : xs ≠ []) : ∃ y zs', y ∈ xs ∧ Sok (b + 2) zs' ∧ b__law_pick [scr ns] zs [.list xs] = .ok y zs' := by
  have hpos : 0 < xs.length := List.length_pos_iff.mpr hx
  obtain ⟨i, zs', h1, h2, h3, e⟩ := s_draw (ns := ns) (many := (xs.length : Int)) hs hb hn (by omega)
  have hi : i.toNat < xs.length := by omega
  have ei : (i.toNat : Int) = i := by omega
  refine ⟨xs[i.toNat], zs', List.getElem_mem hi, h3, ?_⟩
  have ex := ix_list (xs := xs) (k := i.toNat) (List.getElem?_eq_getElem hi)
  rw [ei] at ex
  rw [b__law_pick, runB_out, m__law_pick, show bG [scr ns] zs [.list xs] 3 = [some (.d (scr ns)), some (.ml true zs), some (.d (.list xs))] from rfl]
  simp only [bind_ok, bind_exc, bnd_app, lift_some, eC_app, eVar_0, eVar_1, eVar_2, eVar_3, eVar_4, eVar_5, eVar_6, eVar_7, eVar_8, eVar_9, eVar_10, ap1_app, ap2_app, apA_app, aCons_app, nilA_app, tru_app, tst_app, asB_bool, truD_bool, truD_list, truD_tuple, mNot_app, mAnd_app, mOr_app, eNot_app, eAnd_app, eOr_app, andK_b, orK_b, eIf_app, eTup_app, eLst_app, lLst_app, frzL_app, eList_app, eSl_app, pN_app, pS_app, partD_int, chn_b, eChain_app, seq_nx, seq_ret, seq_brk, seq_cnt, seq_exc, sSeq_app, sRet_app, sDrop_app, sIf_app, sRaise_app, sAsg_name, sSetL_app, rxM_ok, rxM_exc, eCall_app, outP_ret, outP_nx, outP_exc, Option.map_some, len0, len1, len2, len3, len4, len5, len6, len7, len8, eq_self, sz0, sz1, sz2, sz3, sz4, sz5, sz6, sz7, sz8, sz9, sz10, sz11, freeAt_s, freeAt_n, freeAt_d, freeAt_m, sFrz_app, frzK_ml, List.getElem?_cons_zero, List.getElem?_cons_succ, List.set_cons_zero, List.set_cons_succ, sAsg_tup, asgK_some, bTup_app, bAll_nil, bAll_cons, bName_app, Option.bind_some, isMl_s, isMl_m, resK_some, onK_ml, eApp_app, ePop_app, eIdxV_app, eLenV_app, tTruV_app, sSetI_app, onL_app, fLen_ok, fTru_ok, rbK_ok, cbK_ml, eCB_cons, eCB_nil, List.nil_append, List.cons_append, outK_some, outR_ret, outR_nx, outB_s, outB_m, mConsD_app, mConsL_app, sPar_app, setAll_nil, setAll_cons, true_and, and_true, and_self, Bool.not_true, Bool.not_false, Bool.false_eq_true, reduceIte, len_lst, e, ex]
/-! ### shuffles -/
theorem seqIx {i : Int} {n : Nat} (h : 0 ≤ i) (h2 : i < n) : seqIndex? i n = some i.toNat := by
  have e : L2.ixN n i = some i.toNat := by rw [L2.ixN, if_pos h, if_pos h2]
  exact (L2.ixN_seq e).1
theorem perm_erase : ∀ (xs : List D) (i : Nat) (h : i < xs.length), (xs[i] :: xs.eraseIdx i).Perm xs
  | x :: xs, 0, _ => .refl _
  | x :: xs, i + 1, h => by
    have hi : i < xs.length := by simpa using h
    have ih := perm_erase xs i hi
    exact (List.Perm.swap x (xs[i]'hi) _).trans (ih.cons x)
theorem shuf_loop {ns : List Int} (hn : ns.length ≤ 63) {T : Option Tv} : ∀ (f : Nat) (rest found zs : List D) (b : Nat), rest.length < f → Sok b zs → b + 2 * rest.length ≤ sizeLine → found.length + rest.length ≤ sizeLine →
    ∃ found' zs', found'.Perm (found ++ rest) ∧ Sok (b + 2 * rest.length) zs' ∧ loopW (tTruV 3) (sDrop (eApp 4 (ePop 3 (eCB 1 1 b__law_draw 1 (aCons (eLenV 3) (nilA)) [] [eVar 0])))) f [some (.d (scr ns)), some (.ml true zs), T, some (.ml false rest), some (.ml false found)] =
      .ok .nx [some (.d (scr ns)), some (.ml true zs'), T, some (.ml false []), some (.ml false found')]
  | 0, rest, found, zs, b, hf, _, _, _ => by omega
  | f + 1, [], found, zs, b, hf, hs, _, _ => by
    refine ⟨found, zs, by simp, hs, ?_⟩
    rw [loopW]
    simp only [bind_ok, bind_exc, bnd_app, lift_some, eC_app, eVar_0, eVar_1, eVar_2, eVar_3, eVar_4, eVar_5, eVar_6, eVar_7, eVar_8, eVar_9, eVar_10, ap1_app, ap2_app, apA_app, aCons_app, nilA_app, tru_app, tst_app, asB_bool, truD_bool, truD_list, truD_tuple, mNot_app, mAnd_app, mOr_app, eNot_app, eAnd_app, eOr_app, andK_b, orK_b, eIf_app, eTup_app, eLst_app, lLst_app, frzL_app, eList_app, eSl_app, pN_app, pS_app, partD_int, chn_b, eChain_app, seq_nx, seq_ret, seq_brk, seq_cnt, seq_exc, sSeq_app, sRet_app, sDrop_app, sIf_app, sRaise_app, sAsg_name, sSetL_app, rxM_ok, rxM_exc, eCall_app, outP_ret, outP_nx, outP_exc, Option.map_some, len0, len1, len2, len3, len4, len5, len6, len7, len8, eq_self, sz0, sz1, sz2, sz3, sz4, sz5, sz6, sz7, sz8, sz9, sz10, sz11, freeAt_s, freeAt_n, freeAt_d, freeAt_m, sFrz_app, frzK_ml, List.getElem?_cons_zero, List.getElem?_cons_succ, List.set_cons_zero, List.set_cons_succ, sAsg_tup, asgK_some, bTup_app, bAll_nil, bAll_cons, bName_app, Option.bind_some, isMl_s, isMl_m, resK_some, onK_ml, eApp_app, ePop_app, eIdxV_app, eLenV_app, tTruV_app, sSetI_app, onL_app, fLen_ok, fTru_ok, rbK_ok, cbK_ml, eCB_cons, eCB_nil, List.nil_append, List.cons_append, outK_some, outR_ret, outR_nx, outB_s, outB_m, mConsD_app, mConsL_app, sPar_app, setAll_nil, setAll_cons, true_and, and_true, and_self, Bool.not_true, Bool.not_false, Bool.false_eq_true, reduceIte, List.isEmpty_nil]
  | f + 1, x :: rest, found, zs, b, hf, hs, hb, hl => by
    simp only [List.length_cons] at hf hb hl
    obtain ⟨i, zs1, h1, h2, h3, e⟩ := s_draw (ns := ns) (many := ((x :: rest).length : Int)) hs (by omega) hn (by simp only [List.length_cons]; omega)
    have hi : i.toNat < (x :: rest).length := by omega
    have hz := L2.line63
    have hp : fPop (x :: rest) (.int i) = some ((x :: rest)[i.toNat], (x :: rest).eraseIdx i.toNat) := by
      have hsm : (x :: rest).length ≤ sizeLine := by simp only [List.length_cons]; omega
      show (if -(2 ^ 63) ≤ i ∧ i < 2 ^ 63 then _ else none) = _
      rw [if_pos ⟨by omega, by omega⟩, seqIx h1 (by omega)]
      dsimp only
      rw [List.getElem?_eq_getElem hi]
      rfl
    have hel : ((x :: rest).eraseIdx i.toNat).length = rest.length := by
      rw [List.length_eraseIdx_of_lt hi]
      simp
    have fa : fApp found ((x :: rest)[i.toNat]) = some (.none, found ++ [(x :: rest)[i.toNat]]) := fApp_ok (by omega)
    obtain ⟨found', zs', p1, p2, p3⟩ := shuf_loop hn (T := T) f ((x :: rest).eraseIdx i.toNat) (found ++ [(x :: rest)[i.toNat]]) zs1 (b + 2) (by omega) h3 (by omega) (by simp only [List.length_append, List.length_cons, List.length_nil]; omega)
    refine ⟨found', zs', p1.trans ?_, p2.mono (by simp only [List.length_cons]; omega), ?_⟩
    · rw [List.append_assoc]
      refine List.Perm.append_left found ?_
      exact perm_erase _ _ hi
    · rw [loopW]
      simp only [bind_ok, bind_exc, bnd_app, lift_some, eC_app, eVar_0, eVar_1, eVar_2, eVar_3, eVar_4, eVar_5, eVar_6, eVar_7, eVar_8, eVar_9, eVar_10, ap1_app, ap2_app, apA_app, aCons_app, nilA_app, tru_app, tst_app, asB_bool, truD_bool, truD_list, truD_tuple, mNot_app, mAnd_app, mOr_app, eNot_app, eAnd_app, eOr_app, andK_b, orK_b, eIf_app, eTup_app, eLst_app, lLst_app, frzL_app, eList_app, eSl_app, pN_app, pS_app, partD_int, chn_b, eChain_app, seq_nx, seq_ret, seq_brk, seq_cnt, seq_exc, sSeq_app, sRet_app, sDrop_app, sIf_app, sRaise_app, sAsg_name, sSetL_app, rxM_ok, rxM_exc, eCall_app, outP_ret, outP_nx, outP_exc, Option.map_some, len0, len1, len2, len3, len4, len5, len6, len7, len8, eq_self, sz0, sz1, sz2, sz3, sz4, sz5, sz6, sz7, sz8, sz9, sz10, sz11, freeAt_s, freeAt_n, freeAt_d, freeAt_m, sFrz_app, frzK_ml, List.getElem?_cons_zero, List.getElem?_cons_succ, List.set_cons_zero, List.set_cons_succ, sAsg_tup, asgK_some, bTup_app, bAll_nil, bAll_cons, bName_app, Option.bind_some, isMl_s, isMl_m, resK_some, onK_ml, eApp_app, ePop_app, eIdxV_app, eLenV_app, tTruV_app, sSetI_app, onL_app, fLen_ok, fTru_ok, rbK_ok, cbK_ml, eCB_cons, eCB_nil, List.nil_append, List.cons_append, outK_some, outR_ret, outR_nx, outB_s, outB_m, mConsD_app, mConsL_app, sPar_app, setAll_nil, setAll_cons, true_and, and_true, and_self, Bool.not_true, Bool.not_false, Bool.false_eq_true, reduceIte, List.isEmpty_cons, e, hp, fa, p3]
theorem s_shuffled {ns : List Int} {zs : List D} {b : Nat} {x : D} {xs : List D} (hx : seqD x = some xs) (hs : Sok b zs) (hb : b + 2 * xs.length ≤ sizeLine) (hn : ns.length ≤ 63) : ∃ ys zs', ys.Perm xs ∧ Sok (b + 2 * xs.length) zs' ∧ b__law_shuffled [scr ns] zs [x] = .ok (.list ys) zs' := by
  obtain ⟨ys, zs', h1, h2, e⟩ := shuf_loop hn (T := some (.d x)) (xs.length + 1) xs [] zs b (by omega) hs hb (by simp only [List.length_nil]; omega)
  refine ⟨ys, zs', by simpa using h1, h2, ?_⟩
  rw [b__law_shuffled, runB_out, m__law_shuffled, show bG [scr ns] zs [x] 5 = [some (.d (scr ns)), some (.ml true zs), some (.d x), none, none] from rfl]
  simp only [bind_ok, bind_exc, bnd_app, lift_some, eC_app, eVar_0, eVar_1, eVar_2, eVar_3, eVar_4, eVar_5, eVar_6, eVar_7, eVar_8, eVar_9, eVar_10, ap1_app, ap2_app, apA_app, aCons_app, nilA_app, tru_app, tst_app, asB_bool, truD_bool, truD_list, truD_tuple, mNot_app, mAnd_app, mOr_app, eNot_app, eAnd_app, eOr_app, andK_b, orK_b, eIf_app, eTup_app, eLst_app, lLst_app, frzL_app, eList_app, eSl_app, pN_app, pS_app, partD_int, chn_b, eChain_app, seq_nx, seq_ret, seq_brk, seq_cnt, seq_exc, sSeq_app, sRet_app, sDrop_app, sIf_app, sRaise_app, sAsg_name, sSetL_app, rxM_ok, rxM_exc, eCall_app, outP_ret, outP_nx, outP_exc, Option.map_some, len0, len1, len2, len3, len4, len5, len6, len7, len8, eq_self, sz0, sz1, sz2, sz3, sz4, sz5, sz6, sz7, sz8, sz9, sz10, sz11, freeAt_s, freeAt_n, freeAt_d, freeAt_m, sFrz_app, frzK_ml, List.getElem?_cons_zero, List.getElem?_cons_succ, List.set_cons_zero, List.set_cons_succ, sAsg_tup, asgK_some, bTup_app, bAll_nil, bAll_cons, bName_app, Option.bind_some, isMl_s, isMl_m, resK_some, onK_ml, eApp_app, ePop_app, eIdxV_app, eLenV_app, tTruV_app, sSetI_app, onL_app, fLen_ok, fTru_ok, rbK_ok, cbK_ml, eCB_cons, eCB_nil, List.nil_append, List.cons_append, outK_some, outR_ret, outR_nx, outB_s, outB_m, mConsD_app, mConsL_app, sPar_app, setAll_nil, setAll_cons, true_and, and_true, and_self, Bool.not_true, Bool.not_false, Bool.false_eq_true, reduceIte, seqA, hx, Nat.zero_le]
  simp only [sWhile, fuelL, bind_ok, bind_exc, bnd_app, lift_some, eC_app, eVar_0, eVar_1, eVar_2, eVar_3, eVar_4, eVar_5, eVar_6, eVar_7, eVar_8, eVar_9, eVar_10, ap1_app, ap2_app, apA_app, aCons_app, nilA_app, tru_app, tst_app, asB_bool, truD_bool, truD_list, truD_tuple, mNot_app, mAnd_app, mOr_app, eNot_app, eAnd_app, eOr_app, andK_b, orK_b, eIf_app, eTup_app, eLst_app, lLst_app, frzL_app, eList_app, eSl_app, pN_app, pS_app, partD_int, chn_b, eChain_app, seq_nx, seq_ret, seq_brk, seq_cnt, seq_exc, sSeq_app, sRet_app, sDrop_app, sIf_app, sRaise_app, sAsg_name, sSetL_app, rxM_ok, rxM_exc, eCall_app, outP_ret, outP_nx, outP_exc, Option.map_some, len0, len1, len2, len3, len4, len5, len6, len7, len8, eq_self, sz0, sz1, sz2, sz3, sz4, sz5, sz6, sz7, sz8, sz9, sz10, sz11, freeAt_s, freeAt_n, freeAt_d, freeAt_m, sFrz_app, frzK_ml, List.getElem?_cons_zero, List.getElem?_cons_succ, List.set_cons_zero, List.set_cons_succ, sAsg_tup, asgK_some, bTup_app, bAll_nil, bAll_cons, bName_app, Option.bind_some, isMl_s, isMl_m, resK_some, onK_ml, eApp_app, ePop_app, eIdxV_app, eLenV_app, tTruV_app, sSetI_app, onL_app, fLen_ok, fTru_ok, rbK_ok, cbK_ml, eCB_cons, eCB_nil, List.nil_append, List.cons_append, outK_some, outR_ret, outR_nx, outB_s, outB_m, mConsD_app, mConsL_app, sPar_app, setAll_nil, setAll_cons, true_and, and_true, and_self, Bool.not_true, Bool.not_false, Bool.false_eq_true, reduceIte]
  rw [e]
  simp only [bind_ok, bind_exc, bnd_app, lift_some, eC_app, eVar_0, eVar_1, eVar_2, eVar_3, eVar_4, eVar_5, eVar_6, eVar_7, eVar_8, eVar_9, eVar_10, ap1_app, ap2_app, apA_app, aCons_app, nilA_app, tru_app, tst_app, asB_bool, truD_bool, truD_list, truD_tuple, mNot_app, mAnd_app, mOr_app, eNot_app, eAnd_app, eOr_app, andK_b, orK_b, eIf_app, eTup_app, eLst_app, lLst_app, frzL_app, eList_app, eSl_app, pN_app, pS_app, partD_int, chn_b, eChain_app, seq_nx, seq_ret, seq_brk, seq_cnt, seq_exc, sSeq_app, sRet_app, sDrop_app, sIf_app, sRaise_app, sAsg_name, sSetL_app, rxM_ok, rxM_exc, eCall_app, outP_ret, outP_nx, outP_exc, Option.map_some, len0, len1, len2, len3, len4, len5, len6, len7, len8, eq_self, sz0, sz1, sz2, sz3, sz4, sz5, sz6, sz7, sz8, sz9, sz10, sz11, freeAt_s, freeAt_n, freeAt_d, freeAt_m, sFrz_app, frzK_ml, List.getElem?_cons_zero, List.getElem?_cons_succ, List.set_cons_zero, List.set_cons_succ, sAsg_tup, asgK_some, bTup_app, bAll_nil, bAll_cons, bName_app, Option.bind_some, isMl_s, isMl_m, resK_some, onK_ml, eApp_app, ePop_app, eIdxV_app, eLenV_app, tTruV_app, sSetI_app, onL_app, fLen_ok, fTru_ok, rbK_ok, cbK_ml, eCB_cons, eCB_nil, List.nil_append, List.cons_append, outK_some, outR_ret, outR_nx, outB_s, outB_m, mConsD_app, mConsL_app, sPar_app, setAll_nil, setAll_cons, true_and, and_true, and_self, Bool.not_true, Bool.not_false, Bool.false_eq_true, reduceIte]
end PP

namespace PP
open PySem PySem.Spec
/-! ### _law_cells -/
def mkRow (r : List Int) : D := .tuple (r.map PyData.int)
def ext (c : Int) (row : List Int) : List (List Int) := (List.range c.toNat).map fun (a : Nat) => row ++ [(a : Int)]
def rowsOf (cs : List Int) (rows : List (List Int)) : List (List Int) := cs.foldl (fun rows c => rows.flatMap (ext c)) rows
theorem ext_len (c : Int) (rows : List (List Int)) : (rows.flatMap (ext c)).length = rows.length * c.toNat := by
  induction rows with
  | nil => simp
  | cons r rows ih =>
    rw [List.flatMap_cons, List.length_append, ih, List.length_cons, ext, List.length_map, List.length_range, Nat.succ_mul, Nat.add_comm]
theorem rowsOf_len : ∀ (cs : List Int) (rows : List (List Int)), (rowsOf cs rows).length = rows.length * (cs.map Int.toNat).prod
  | [], rows => by simp [rowsOf]
  | c :: cs, rows => by
    have := rowsOf_len cs (rows.flatMap (ext c))
    rw [rowsOf] at this ⊢
    rw [List.foldl_cons, this, ext_len, List.map_cons, List.prod_cons, Nat.mul_assoc]
theorem range_ints (n : Nat) : rngD 0 n = (List.range n).map fun (a : Nat) => PyData.int (a : Int) := by
  unfold rngD
  apply List.map_congr_left
  intro a _
  simp
theorem cells_comp {A B C R : Option Tv} {d : D} {z : Str} {L : Option Tv} {c : Int} {row : List Int} (hix : ixD d (.str z) = some (.int c)) (hc : 0 ≤ c ∧ c ≤ 1000) (hr : row.length ≤ 1000) :
    eLc [7] (bName 7) (tAll) (ap2 addD (eVar 6) (eTup (aCons (eVar 7) (nilA)))) (apA rng1 (aCons (ap2 ixD (eVar 2) (eVar 4)) (nilA))) [A, B, some (.d d), R, some (.d (.str z)), L, some (.d (mkRow row)), none] =
      .ok ((ext c row).map mkRow) [A, B, some (.d d), R, some (.d (.str z)), L, some (.d (mkRow row)), none] := by
  have hz := sizeLine_big
  rw [ext, List.map_map]
  refine lcM (List.range c.toNat) (fun (a : Nat) => PyData.int (a : Int)) _ ?_ (by rw [List.length_range]; omega) fun a ha => ⟨_, rfl, ?_, rfl, rfl⟩
  · simp only [bind_ok, bind_exc, bnd_app, lift_some, eC_app, eVar_0, eVar_1, eVar_2, eVar_3, eVar_4, eVar_5, eVar_6, eVar_7, eVar_8, eVar_9, eVar_10, ap1_app, ap2_app, apA_app, aCons_app, nilA_app, tru_app, tst_app, asB_bool, truD_bool, truD_list, truD_tuple, mNot_app, mAnd_app, mOr_app, eNot_app, eAnd_app, eOr_app, andK_b, orK_b, eIf_app, eTup_app, eLst_app, lLst_app, frzL_app, eList_app, eSl_app, pN_app, pS_app, partD_int, chn_b, eChain_app, seq_nx, seq_ret, seq_brk, seq_cnt, seq_exc, sSeq_app, sRet_app, sDrop_app, sIf_app, sRaise_app, sAsg_name, sSetL_app, rxM_ok, rxM_exc, eCall_app, outP_ret, outP_nx, outP_exc, Option.map_some, len0, len1, len2, len3, len4, len5, len6, len7, len8, eq_self, sz0, sz1, sz2, sz3, sz4, sz5, sz6, sz7, sz8, sz9, sz10, sz11, freeAt_s, freeAt_n, freeAt_d, freeAt_m, sFrz_app, frzK_ml, List.getElem?_cons_zero, List.getElem?_cons_succ, List.set_cons_zero, List.set_cons_succ, sAsg_tup, asgK_some, bTup_app, bAll_nil, bAll_cons, bName_app, Option.bind_some, isMl_s, isMl_m, resK_some, onK_ml, eApp_app, ePop_app, eIdxV_app, eLenV_app, tTruV_app, sSetI_app, onL_app, fLen_ok, fTru_ok, rbK_ok, cbK_ml, eCB_cons, eCB_nil, List.nil_append, List.cons_append, outK_some, outR_ret, outR_nx, outB_s, outB_m, mConsD_app, mConsL_app, sPar_app, setAll_nil, setAll_cons, true_and, and_true, and_self, Bool.not_true, Bool.not_false, Bool.false_eq_true, reduceIte, hix, rng1]
    rw [if_pos ⟨by omega, by omega⟩, range_ints]
    rfl
  · have e : addD (mkRow row) (.tuple [.int (a : Int)]) = some (mkRow (row ++ [(a : Int)])) := by
      rw [mkRow, add_tups (by simp only [List.length_map, List.length_cons, List.length_nil]; omega), mkRow, List.map_append]
      rfl
    show ap2 addD (eVar 6) (eTup (aCons (eVar 7) (nilA))) [A, B, some (.d d), R, some (.d (.str z)), L, some (.d (mkRow row)), some (.d (.int (a : Int)))] = _
    simp only [bind_ok, bind_exc, bnd_app, lift_some, eC_app, eVar_0, eVar_1, eVar_2, eVar_3, eVar_4, eVar_5, eVar_6, eVar_7, eVar_8, eVar_9, eVar_10, ap1_app, ap2_app, apA_app, aCons_app, nilA_app, tru_app, tst_app, asB_bool, truD_bool, truD_list, truD_tuple, mNot_app, mAnd_app, mOr_app, eNot_app, eAnd_app, eOr_app, andK_b, orK_b, eIf_app, eTup_app, eLst_app, lLst_app, frzL_app, eList_app, eSl_app, pN_app, pS_app, partD_int, chn_b, eChain_app, seq_nx, seq_ret, seq_brk, seq_cnt, seq_exc, sSeq_app, sRet_app, sDrop_app, sIf_app, sRaise_app, sAsg_name, sSetL_app, rxM_ok, rxM_exc, eCall_app, outP_ret, outP_nx, outP_exc, Option.map_some, len0, len1, len2, len3, len4, len5, len6, len7, len8, eq_self, sz0, sz1, sz2, sz3, sz4, sz5, sz6, sz7, sz8, sz9, sz10, sz11, freeAt_s, freeAt_n, freeAt_d, freeAt_m, sFrz_app, frzK_ml, List.getElem?_cons_zero, List.getElem?_cons_succ, List.set_cons_zero, List.set_cons_succ, sAsg_tup, asgK_some, bTup_app, bAll_nil, bAll_cons, bName_app, Option.bind_some, isMl_s, isMl_m, resK_some, onK_ml, eApp_app, ePop_app, eIdxV_app, eLenV_app, tTruV_app, sSetI_app, onL_app, fLen_ok, fTru_ok, rbK_ok, cbK_ml, eCB_cons, eCB_nil, List.nil_append, List.cons_append, outK_some, outR_ret, outR_nx, outB_s, outB_m, mConsD_app, mConsL_app, sPar_app, setAll_nil, setAll_cons, true_and, and_true, and_self, Bool.not_true, Bool.not_false, Bool.false_eq_true, reduceIte, e]
    rfl
theorem cells_inner {A B C R : Option Tv} {d : D} {z : Str} {c : Int} (hix : ixD d (.str z) = some (.int c)) (hc : 0 ≤ c ∧ c ≤ 1000) : ∀ (rows : List (List Int)) (acc : List (List Int)) (o : Option Tv), dat o = true → (∀ r ∈ rows, r.length ≤ 1000) → acc.length + rows.length * c.toNat ≤ 1000000 →
    ∃ o', dat o' = true ∧ loop (bName 6) (sAsg (bName 5) (ap2 addD (eVar 5) (frzL (eLc [7] (bName 7) (tAll) (ap2 addD (eVar 6) (eTup (aCons (eVar 7) (nilA)))) (apA rng1 (aCons (ap2 ixD (eVar 2) (eVar 4)) (nilA))))))) (rows.map mkRow) [A, B, some (.d d), R, some (.d (.str z)), some (.d (.list (acc.map mkRow))), o, none] =
      .ok .nx [A, B, some (.d d), R, some (.d (.str z)), some (.d (.list ((acc ++ rows.flatMap (ext c)).map mkRow))), o', none]
  | [], acc, o, ho, _, _ => ⟨o, ho, by rw [List.map_nil, loop_nil, List.flatMap_nil, List.append_nil]⟩
  | r :: rows, acc, o, ho, hr, hl => by
    have hz := sizeLine_big
    have el : (ext c r).length = c.toNat := by rw [ext, List.length_map, List.length_range]
    rw [List.length_cons, Nat.succ_mul] at hl
    obtain ⟨o', ho', e⟩ := cells_inner (A := A) (B := B) (C := C) (R := R) hix hc rows (acc ++ ext c r) (some (.d (mkRow r))) rfl (fun r hr' => hr r (List.mem_cons_of_mem _ hr')) (by rw [List.length_append, el]; omega)
    refine ⟨o', ho', ?_⟩
    rw [List.map_cons, loop_cons, bName_dat (o := o) rfl ho]
    have ea : addD (.list (acc.map mkRow)) (.list ((ext c r).map mkRow)) = some (.list ((acc ++ ext c r).map mkRow)) := by
      rw [add_lists (by simp only [List.length_map, el]; omega), List.map_append]
    have e1 : sAsg (bName 5) (ap2 addD (eVar 5) (frzL (eLc [7] (bName 7) (tAll) (ap2 addD (eVar 6) (eTup (aCons (eVar 7) (nilA)))) (apA rng1 (aCons (ap2 ixD (eVar 2) (eVar 4)) (nilA)))))) [A, B, some (.d d), R, some (.d (.str z)), some (.d (.list (acc.map mkRow))), some (.d (mkRow r)), none] = .ok .nx [A, B, some (.d d), R, some (.d (.str z)), some (.d (.list ((acc ++ ext c r).map mkRow))), some (.d (mkRow r)), none] := by
      simp only [bind_ok, bind_exc, bnd_app, lift_some, eC_app, eVar_0, eVar_1, eVar_2, eVar_3, eVar_4, eVar_5, eVar_6, eVar_7, eVar_8, eVar_9, eVar_10, ap1_app, ap2_app, apA_app, aCons_app, nilA_app, tru_app, tst_app, asB_bool, truD_bool, truD_list, truD_tuple, mNot_app, mAnd_app, mOr_app, eNot_app, eAnd_app, eOr_app, andK_b, orK_b, eIf_app, eTup_app, eLst_app, lLst_app, frzL_app, eList_app, eSl_app, pN_app, pS_app, partD_int, chn_b, eChain_app, seq_nx, seq_ret, seq_brk, seq_cnt, seq_exc, sSeq_app, sRet_app, sDrop_app, sIf_app, sRaise_app, sAsg_name, sSetL_app, rxM_ok, rxM_exc, eCall_app, outP_ret, outP_nx, outP_exc, Option.map_some, len0, len1, len2, len3, len4, len5, len6, len7, len8, eq_self, sz0, sz1, sz2, sz3, sz4, sz5, sz6, sz7, sz8, sz9, sz10, sz11, freeAt_s, freeAt_n, freeAt_d, freeAt_m, sFrz_app, frzK_ml, List.getElem?_cons_zero, List.getElem?_cons_succ, List.set_cons_zero, List.set_cons_succ, sAsg_tup, asgK_some, bTup_app, bAll_nil, bAll_cons, bName_app, Option.bind_some, isMl_s, isMl_m, resK_some, onK_ml, eApp_app, ePop_app, eIdxV_app, eLenV_app, tTruV_app, sSetI_app, onL_app, fLen_ok, fTru_ok, rbK_ok, cbK_ml, eCB_cons, eCB_nil, List.nil_append, List.cons_append, outK_some, outR_ret, outR_nx, outB_s, outB_m, mConsD_app, mConsL_app, sPar_app, setAll_nil, setAll_cons, true_and, and_true, and_self, Bool.not_true, Bool.not_false, Bool.false_eq_true, reduceIte, cells_comp (C := C) hix hc (hr r List.mem_cons_self), ea]
    simp only [List.set_cons_zero, List.set_cons_succ]
    rw [e1]
    dsimp only
    rw [e, List.flatMap_cons, List.append_assoc]
theorem cells_outer {A B : Option Tv} {d : D} {f : Str → Int} : ∀ (names : List Str) (rows : List (List Int)) (o4 o5 o6 : Option Tv) (k : Nat), dat o4 = true → dat o5 = true → dat o6 = true → (∀ z ∈ names, ixD d (.str z) = some (.int (f z)) ∧ 1 ≤ f z ∧ f z ≤ 1000) → (∀ r ∈ rows, r.length ≤ k) → k + names.length ≤ 1000 → rows.length * ((names.map f).map Int.toNat).prod ≤ 1000000 →
    ∃ o4' o5' o6', loop (bName 4) (sSeq (sAsg (bName 5) (eLst (nilA))) (sSeq (sFor (bName 6) (ap1 itemsD (eVar 3)) (sAsg (bName 5) (ap2 addD (eVar 5) (frzL (eLc [7] (bName 7) (tAll) (ap2 addD (eVar 6) (eTup (aCons (eVar 7) (nilA)))) (apA rng1 (aCons (ap2 ixD (eVar 2) (eVar 4)) (nilA)))))))) (sAsg (bName 3) (eVar 5)))) (names.map PyData.str) [A, B, some (.d d), some (.d (.list (rows.map mkRow))), o4, o5, o6, none] =
      .ok .nx [A, B, some (.d d), some (.d (.list ((rowsOf (names.map f) rows).map mkRow))), o4', o5', o6', none]
  | [], rows, o4, o5, o6, k, _, _, _, _, _, _, _ => ⟨o4, o5, o6, rfl⟩
  | z :: names, rows, o4, o5, o6, k, h4, h5, h6, hz, hr, hk, hl => by
    obtain ⟨hix, hf1, hf2⟩ := hz z List.mem_cons_self
    rw [List.map_cons, List.map_cons, List.prod_cons, ← Nat.mul_assoc] at hl
    have hpos : 1 ≤ ((names.map f).map Int.toNat).prod := by
      clear hl
      have : ∀ l : List Str, (∀ y ∈ l, 1 ≤ f y) → 1 ≤ ((l.map f).map Int.toNat).prod := by
        intro l
        induction l with
        | nil => intro _; simp
        | cons y l ih =>
          intro h
          rw [List.map_cons, List.map_cons, List.prod_cons]
          have h1 := ih fun w hw => h w (List.mem_cons_of_mem _ hw)
          have h2 := h y List.mem_cons_self
          exact Nat.mul_pos (by omega) h1
      exact this names fun y hy => (hz y (List.mem_cons_of_mem _ hy)).2.1
    have hl1 : rows.length * (f z).toNat ≤ 1000000 := Nat.le_trans (Nat.le_mul_of_pos_right _ hpos) hl
    obtain ⟨o6', h6', e⟩ := cells_inner (A := A) (B := B) (C := none) (R := some (.d (.list (rows.map mkRow)))) hix ⟨by omega, hf2⟩ rows [] o6 h6 (fun r h => by have := hr r h; omega) (by simpa using hl1)
    have hr' : ∀ r ∈ rows.flatMap (ext (f z)), r.length ≤ k + 1 := fun r h => by
      obtain ⟨r0, h0, h1⟩ := List.mem_flatMap.mp h
      obtain ⟨a, _, rfl⟩ := List.mem_map.mp h1
      have := hr r0 h0
      rw [List.length_append, List.length_cons, List.length_nil]
      omega
    obtain ⟨a4, a5, a6, e2⟩ := cells_outer (A := A) (B := B) names (rows.flatMap (ext (f z))) (some (.d (.str z))) (some (.d (.list ((rows.flatMap (ext (f z))).map mkRow)))) o6' (k + 1) rfl rfl h6' (fun y hy => hz y (List.mem_cons_of_mem _ hy)) hr' (by rw [List.length_cons] at hk; omega) (by rw [ext_len]; exact hl)
    refine ⟨a4, a5, a6, ?_⟩
    have f5 : ∀ (a b c d e : Option Tv) (r : Ga), freeAt (a :: b :: c :: d :: e :: o5 :: r) 5 = true := fun a b c d e r => freeAt_dat (o := o5) rfl h5
    rw [List.map_cons, loop_cons, bName_dat (o := o4) rfl h4]
    simp only [List.set_cons_zero, List.set_cons_succ]
    rw [List.nil_append] at e
    rw [List.map_nil] at e
    simp only [bind_ok, bind_exc, bnd_app, lift_some, eC_app, eVar_0, eVar_1, eVar_2, eVar_3, eVar_4, eVar_5, eVar_6, eVar_7, eVar_8, eVar_9, eVar_10, ap1_app, ap2_app, apA_app, aCons_app, nilA_app, tru_app, tst_app, asB_bool, truD_bool, truD_list, truD_tuple, mNot_app, mAnd_app, mOr_app, eNot_app, eAnd_app, eOr_app, andK_b, orK_b, eIf_app, eTup_app, eLst_app, lLst_app, frzL_app, eList_app, eSl_app, pN_app, pS_app, partD_int, chn_b, eChain_app, seq_nx, seq_ret, seq_brk, seq_cnt, seq_exc, sSeq_app, sRet_app, sDrop_app, sIf_app, sRaise_app, sAsg_name, sSetL_app, rxM_ok, rxM_exc, eCall_app, outP_ret, outP_nx, outP_exc, Option.map_some, len0, len1, len2, len3, len4, len5, len6, len7, len8, eq_self, sz0, sz1, sz2, sz3, sz4, sz5, sz6, sz7, sz8, sz9, sz10, sz11, freeAt_s, freeAt_n, freeAt_d, freeAt_m, sFrz_app, frzK_ml, List.getElem?_cons_zero, List.getElem?_cons_succ, List.set_cons_zero, List.set_cons_succ, sAsg_tup, asgK_some, bTup_app, bAll_nil, bAll_cons, bName_app, Option.bind_some, isMl_s, isMl_m, resK_some, onK_ml, eApp_app, ePop_app, eIdxV_app, eLenV_app, tTruV_app, sSetI_app, onL_app, fLen_ok, fTru_ok, rbK_ok, cbK_ml, eCB_cons, eCB_nil, List.nil_append, List.cons_append, outK_some, outR_ret, outR_nx, outB_s, outB_m, mConsD_app, mConsL_app, sPar_app, setAll_nil, setAll_cons, true_and, and_true, and_self, Bool.not_true, Bool.not_false, Bool.false_eq_true, reduceIte, f5, sFor_app, itemsD, e]
    rw [e2, List.map_cons, rowsOf, rowsOf, List.foldl_cons]
theorem dict_list {qs : List (Str × Int)} (hd : (qs.map (·.1)).Nodup) : dictD [.list (qs.map mkQ)] = some (.dict (qs.map fun q => (.str q.1, .int q.2))) := by
  rw [dictD, pairs_mkQ qs, Option.map_some, merge_nodup]
  · rw [List.nil_append, toDict, List.map_map]
    rfl
  · rw [List.nil_append, List.map_map]
    have : ((qs.map (·.1)).map fun z : Str => (Sum.inr z : L2.Key)).Nodup := List.Pairwise.map (fun z : Str => (Sum.inr z : L2.Key)) (fun a b h e => h (by injection e)) hd
    rw [List.map_map] at this
    exact this
theorem s_cells {q nd : D} {qs : List (Str × Int)} {names : List Str} (hq : seqD q = some (qs.map mkQ)) (hn : itemsD nd = some (names.map PyData.str)) (hd : (qs.map (·.1)).Nodup) (hin : ∀ z ∈ names, z ∈ qs.map (·.1) ∧ 1 ≤ cnt qs z ∧ cnt qs z ≤ 1000) (hk : names.length ≤ 1000) (hl : ((names.map (cnt qs)).map Int.toNat).prod ≤ 1000000) :
    p__law_cells [q, nd] = .ok (.list ((rowsOf (names.map (cnt qs)) [[]]).map mkRow)) := by
  obtain ⟨o4, o5, o6, e⟩ := cells_outer (A := some (.d q)) (B := some (.d nd)) (d := .dict (qs.map fun q => (.str q.1, .int q.2))) (f := cnt qs) names [[]] none none none 0 rfl rfl rfl (fun z hz => ⟨ix_dict (hin z hz).1, (hin z hz).2⟩) (by simp) (by omega) (by simpa using hl)
  rw [p__law_cells, runP_out, m__law_cells, show dsG [q, nd] 8 = [some (.d q), some (.d nd), none, none, none, none, none, none] from rfl]
  simp only [bind_ok, bind_exc, bnd_app, lift_some, eC_app, eVar_0, eVar_1, eVar_2, eVar_3, eVar_4, eVar_5, eVar_6, eVar_7, eVar_8, eVar_9, eVar_10, ap1_app, ap2_app, apA_app, aCons_app, nilA_app, tru_app, tst_app, asB_bool, truD_bool, truD_list, truD_tuple, mNot_app, mAnd_app, mOr_app, eNot_app, eAnd_app, eOr_app, andK_b, orK_b, eIf_app, eTup_app, eLst_app, lLst_app, frzL_app, eList_app, eSl_app, pN_app, pS_app, partD_int, chn_b, eChain_app, seq_nx, seq_ret, seq_brk, seq_cnt, seq_exc, sSeq_app, sRet_app, sDrop_app, sIf_app, sRaise_app, sAsg_name, sSetL_app, rxM_ok, rxM_exc, eCall_app, outP_ret, outP_nx, outP_exc, Option.map_some, len0, len1, len2, len3, len4, len5, len6, len7, len8, eq_self, sz0, sz1, sz2, sz3, sz4, sz5, sz6, sz7, sz8, sz9, sz10, sz11, freeAt_s, freeAt_n, freeAt_d, freeAt_m, sFrz_app, frzK_ml, List.getElem?_cons_zero, List.getElem?_cons_succ, List.set_cons_zero, List.set_cons_succ, sAsg_tup, asgK_some, bTup_app, bAll_nil, bAll_cons, bName_app, Option.bind_some, isMl_s, isMl_m, resK_some, onK_ml, eApp_app, ePop_app, eIdxV_app, eLenV_app, tTruV_app, sSetI_app, onL_app, fLen_ok, fTru_ok, rbK_ok, cbK_ml, eCB_cons, eCB_nil, List.nil_append, List.cons_append, outK_some, outR_ret, outR_nx, outB_s, outB_m, mConsD_app, mConsL_app, sPar_app, setAll_nil, setAll_cons, true_and, and_true, and_self, Bool.not_true, Bool.not_false, Bool.false_eq_true, reduceIte, seqA, hq, dict_list hd, sFor_app, hn]
  rw [show [PyData.tuple []] = [[]].map mkRow from rfl, e]
  simp only [bind_ok, bind_exc, bnd_app, lift_some, eC_app, eVar_0, eVar_1, eVar_2, eVar_3, eVar_4, eVar_5, eVar_6, eVar_7, eVar_8, eVar_9, eVar_10, ap1_app, ap2_app, apA_app, aCons_app, nilA_app, tru_app, tst_app, asB_bool, truD_bool, truD_list, truD_tuple, mNot_app, mAnd_app, mOr_app, eNot_app, eAnd_app, eOr_app, andK_b, orK_b, eIf_app, eTup_app, eLst_app, lLst_app, frzL_app, eList_app, eSl_app, pN_app, pS_app, partD_int, chn_b, eChain_app, seq_nx, seq_ret, seq_brk, seq_cnt, seq_exc, sSeq_app, sRet_app, sDrop_app, sIf_app, sRaise_app, sAsg_name, sSetL_app, rxM_ok, rxM_exc, eCall_app, outP_ret, outP_nx, outP_exc, Option.map_some, len0, len1, len2, len3, len4, len5, len6, len7, len8, eq_self, sz0, sz1, sz2, sz3, sz4, sz5, sz6, sz7, sz8, sz9, sz10, sz11, freeAt_s, freeAt_n, freeAt_d, freeAt_m, sFrz_app, frzK_ml, List.getElem?_cons_zero, List.getElem?_cons_succ, List.set_cons_zero, List.set_cons_succ, sAsg_tup, asgK_some, bTup_app, bAll_nil, bAll_cons, bName_app, Option.bind_some, isMl_s, isMl_m, resK_some, onK_ml, eApp_app, ePop_app, eIdxV_app, eLenV_app, tTruV_app, sSetI_app, onL_app, fLen_ok, fTru_ok, rbK_ok, cbK_ml, eCB_cons, eCB_nil, List.nil_append, List.cons_append, outK_some, outR_ret, outR_nx, outB_s, outB_m, mConsD_app, mConsL_app, sPar_app, setAll_nil, setAll_cons, true_and, and_true, and_self, Bool.not_true, Bool.not_false, Bool.false_eq_true, reduceIte]
end PP

namespace PP
open PySem PySem.Spec
/-! ### _law_groups_from: what it reckons -/
def under (g o : List Str) : Bool := g.all fun z => o.contains z
def gStep (qs : List (Str × Int)) (most : Int) (st : List (List Str) × Int) (g : List Str) : List (List Str) × Int :=
  if (!(st.1.any (under g)) && (decide (g.length = 1) || decide (st.2 + ((rowsOf (g.map (cnt qs)) [[]]).length : Int) + 3 * (qs.length : Int) ≤ most))) = true then (st.1 ++ [g], st.2 + ((rowsOf (g.map (cnt qs)) [[]]).length : Int)) else st
def gAll (qs : List (Str × Int)) (most : Int) (drawn : List (List Str)) : List (List Str) × Int := (drawn ++ (qs.map (·.1)).map fun z => [z]).foldl (gStep qs most) ([], 0)
def keptOf (gs : List (List Str)) : List (List Str) := gs.filter fun g => !(gs.any fun o => !(o == g) && under g o)
theorem all_filter (g o : List Str) : (g.filter fun z => !o.contains z).isEmpty = under g o := by
  unfold under
  induction g with
  | nil => rfl
  | cons z g ih =>
    rw [List.filter_cons, List.all_cons]
    cases o.contains z
    · rfl
    · simpa using ih
theorem gd_strs (g : List Str) (h : ∀ z ∈ g, z.length ≤ sizeLine) (hl : g.length ≤ sizeLine) : Gd 1 (.list (g.map PyData.str)) := by
  refine ⟨by rw [List.length_map]; exact hl, fun y hy => ?_⟩
  obtain ⟨z, hz, rfl⟩ := List.mem_map.mp hy
  exact h z hz
theorem gd_nil : Gd 1 (.list []) := ⟨Nat.zero_le _, fun y hy => nomatch hy⟩
def gok (g : List Str) : Prop := g.length ≤ 1000 ∧ ∀ z ∈ g, z.length ≤ sizeLine
theorem eq_lnil {n : Nat} {xs : List D} (h : Gd n (.list xs)) (hn : n ≤ 59) : eqD (.list xs) (.list []) = some (.bool xs.isEmpty) := by rw [eq_gd h gd_nil hn, eqv_lnil]
/-- [name for name in group if name not in other] == [] -/
theorem in_test {a0 a1 a2 a3 a4 a5 a7 a8 a9 a10 a11 a12 : Option Tv} {g o : List Str} (hg : gok g) :
    tst (ap2 eqD (frzL (eLc [13] (bName 13) (tst (ap2 ninD (eVar 13) (eVar 14))) (eVar 13) (ap1 itemsD (eVar 6)))) (eLst (nilA))) [a0, a1, a2, a3, a4, a5, some (.d (mkG g)), a7, a8, a9, a10, a11, a12, none, some (.d (mkG o))] =
      .ok (under g o) [a0, a1, a2, a3, a4, a5, some (.d (mkG g)), a7, a8, a9, a10, a11, a12, none, some (.d (mkG o))] := by
  have hz := sizeLine_big
  have e13 : ∀ (x : D), eVar 13 [a0, a1, a2, a3, a4, a5, some (.d (mkG g)), a7, a8, a9, a10, a11, a12, some (.d x), some (.d (mkG o))] = .ok x [a0, a1, a2, a3, a4, a5, some (.d (mkG g)), a7, a8, a9, a10, a11, a12, some (.d x), some (.d (mkG o))] := fun _ => rfl
  have e14 : ∀ (x : Option Tv), eVar 14 [a0, a1, a2, a3, a4, a5, some (.d (mkG g)), a7, a8, a9, a10, a11, a12, x, some (.d (mkG o))] = .ok (mkG o) [a0, a1, a2, a3, a4, a5, some (.d (mkG g)), a7, a8, a9, a10, a11, a12, x, some (.d (mkG o))] := fun _ => rfl
  have ec : eLc [13] (bName 13) (tst (ap2 ninD (eVar 13) (eVar 14))) (eVar 13) (ap1 itemsD (eVar 6)) [a0, a1, a2, a3, a4, a5, some (.d (mkG g)), a7, a8, a9, a10, a11, a12, none, some (.d (mkG o))] =
      .ok ((g.filter fun z => !o.contains z).map PyData.str) [a0, a1, a2, a3, a4, a5, some (.d (mkG g)), a7, a8, a9, a10, a11, a12, none, some (.d (mkG o))] := by
    refine lcF g PyData.str (fun z => !o.contains z) PyData.str rfl (by have := hg.1; omega) fun z hzz => ⟨_, rfl, ?_, fun _ => rfl, rfl, rfl⟩
    show tst (ap2 ninD (eVar 13) (eVar 14)) [a0, a1, a2, a3, a4, a5, some (.d (mkG g)), a7, a8, a9, a10, a11, a12, some (.d (.str z)), some (.d (mkG o))] = _
    simp only [bind_ok, bind_exc, bnd_app, lift_some, eC_app, eVar_0, eVar_1, eVar_2, eVar_3, eVar_4, eVar_5, eVar_6, eVar_7, eVar_8, eVar_9, eVar_10, ap1_app, ap2_app, apA_app, aCons_app, nilA_app, tru_app, tst_app, asB_bool, truD_bool, truD_list, truD_tuple, mNot_app, mAnd_app, mOr_app, eNot_app, eAnd_app, eOr_app, andK_b, orK_b, eIf_app, eTup_app, eLst_app, lLst_app, frzL_app, eList_app, eSl_app, pN_app, pS_app, partD_int, chn_b, eChain_app, seq_nx, seq_ret, seq_brk, seq_cnt, seq_exc, sSeq_app, sRet_app, sDrop_app, sIf_app, sRaise_app, sAsg_name, sSetL_app, rxM_ok, rxM_exc, eCall_app, outP_ret, outP_nx, outP_exc, Option.map_some, len0, len1, len2, len3, len4, len5, len6, len7, len8, eq_self, sz0, sz1, sz2, sz3, sz4, sz5, sz6, sz7, sz8, sz9, sz10, sz11, freeAt_s, freeAt_n, freeAt_d, freeAt_m, sFrz_app, frzK_ml, List.getElem?_cons_zero, List.getElem?_cons_succ, List.set_cons_zero, List.set_cons_succ, sAsg_tup, asgK_some, bTup_app, bAll_nil, bAll_cons, bName_app, Option.bind_some, isMl_s, isMl_m, resK_some, onK_ml, eApp_app, ePop_app, eIdxV_app, eLenV_app, tTruV_app, sSetI_app, onL_app, fLen_ok, fTru_ok, rbK_ok, cbK_ml, eCB_cons, eCB_nil, List.nil_append, List.cons_append, outK_some, outR_ret, outR_nx, outB_s, outB_m, mConsD_app, mConsL_app, sPar_app, setAll_nil, setAll_cons, true_and, and_true, and_self, Bool.not_true, Bool.not_false, Bool.false_eq_true, reduceIte, e13, e14, nin_strs (kx := mkG o) (known := o) rfl z]
  have gd : Gd 1 (.list ((g.filter fun z => !o.contains z).map PyData.str)) := gd_strs _ (fun z hz => hg.2 z (List.mem_filter.mp hz).1) (by have := List.length_filter_le (fun z => !o.contains z) g; have := hg.1; omega)
  have e1 : eqD (.list ((g.filter fun z => !o.contains z).map PyData.str)) (.list []) = some (.bool (under g o)) := by
    rw [eq_lnil gd (by omega), List.isEmpty_map, all_filter]
  simp only [bind_ok, bind_exc, bnd_app, lift_some, eC_app, eVar_0, eVar_1, eVar_2, eVar_3, eVar_4, eVar_5, eVar_6, eVar_7, eVar_8, eVar_9, eVar_10, ap1_app, ap2_app, apA_app, aCons_app, nilA_app, tru_app, tst_app, asB_bool, truD_bool, truD_list, truD_tuple, mNot_app, mAnd_app, mOr_app, eNot_app, eAnd_app, eOr_app, andK_b, orK_b, eIf_app, eTup_app, eLst_app, lLst_app, frzL_app, eList_app, eSl_app, pN_app, pS_app, partD_int, chn_b, eChain_app, seq_nx, seq_ret, seq_brk, seq_cnt, seq_exc, sSeq_app, sRet_app, sDrop_app, sIf_app, sRaise_app, sAsg_name, sSetL_app, rxM_ok, rxM_exc, eCall_app, outP_ret, outP_nx, outP_exc, Option.map_some, len0, len1, len2, len3, len4, len5, len6, len7, len8, eq_self, sz0, sz1, sz2, sz3, sz4, sz5, sz6, sz7, sz8, sz9, sz10, sz11, freeAt_s, freeAt_n, freeAt_d, freeAt_m, sFrz_app, frzK_ml, List.getElem?_cons_zero, List.getElem?_cons_succ, List.set_cons_zero, List.set_cons_succ, sAsg_tup, asgK_some, bTup_app, bAll_nil, bAll_cons, bName_app, Option.bind_some, isMl_s, isMl_m, resK_some, onK_ml, eApp_app, ePop_app, eIdxV_app, eLenV_app, tTruV_app, sSetI_app, onL_app, fLen_ok, fTru_ok, rbK_ok, cbK_ml, eCB_cons, eCB_nil, List.nil_append, List.cons_append, outK_some, outR_ret, outR_nx, outB_s, outB_m, mConsD_app, mConsL_app, sPar_app, setAll_nil, setAll_cons, true_and, and_true, and_self, Bool.not_true, Bool.not_false, Bool.false_eq_true, reduceIte, ec, e1]
theorem inside_comp {a0 a1 a2 a3 a5 a7 a8 a9 a10 a11 a12 : Option Tv} {g : List Str} {gs : List (List Str)} (hg : gok g) (hl : gs.length ≤ sizeLine) :
    eLcV [14] (bName 14) (tst (ap2 eqD (frzL (eLc [13] (bName 13) (tst (ap2 ninD (eVar 13) (eVar 14))) (eVar 13) (ap1 itemsD (eVar 6)))) (eLst (nilA)))) (eC (.int 1)) 4 [a0, a1, a2, a3, some (.ml false (gs.map mkG)), a5, some (.d (mkG g)), a7, a8, a9, a10, a11, a12, none, none] =
      .ok ((gs.filter (under g)).map fun _ => PyData.int 1) [a0, a1, a2, a3, some (.ml false (gs.map mkG)), a5, some (.d (mkG g)), a7, a8, a9, a10, a11, a12, none, none] := by
  refine lcVF gs mkG (under g) (fun _ => PyData.int 1) rfl hl (by decide) (fun o ho => ⟨_, rfl, ?_, fun _ => rfl, rfl, rfl⟩) rfl rfl
  exact in_test hg
theorem ones_gd (xs : List (List Str)) (hl : xs.length ≤ sizeLine) : Gd 1 (.list (xs.map fun _ => PyData.int 1)) := by
  refine ⟨by rw [List.length_map]; exact hl, fun y hy => ?_⟩
  obtain ⟨z, hz, rfl⟩ := List.mem_map.mp hy
  exact trivial
theorem filter_isEmpty {α : Type} (p : α → Bool) (xs : List α) : (xs.filter p).isEmpty = !xs.any p := by
  induction xs with
  | nil => rfl
  | cons x xs ih =>
    rw [List.filter_cons, List.any_cons]
    cases p x
    · simpa using ih
    · rfl
theorem g_body {q dr nm : D} {qs : List (Str × Int)} {most size : Int} {gs : List (List Str)} {g : List Str} {o8 o9 o10 : Option Tv} (h8 : dat o8 = true) (h9 : dat o9 = true) (h10 : dat o10 = true) (hq : seqD q = some (qs.map mkQ)) (hnm : lenD [nm] = some (.int (qs.length : Int))) (hd : (qs.map (·.1)).Nodup)
    (hin : ∀ z ∈ g, z ∈ qs.map (·.1) ∧ 1 ≤ cnt qs z ∧ cnt qs z ≤ 1000) (hg : gok g) (hp : ((g.map (cnt qs)).map Int.toNat).prod ≤ 1000000) (hl : gs.length < 1000) :
    ∃ p8 p9 p10, dat p8 = true ∧ dat p9 = true ∧ dat p10 = true ∧ (sSeq (sAsg (bName 8) (apA lenD (aCons (eCall 2 p__law_cells (aCons (eVar 0) (aCons (eVar 6) (nilA)))) (nilA)))) (sSeq (sSetL 9 (eLcV [14] (bName 14) (tst (ap2 eqD (frzL (eLc [13] (bName 13) (tst (ap2 ninD (eVar 13) (eVar 14))) (eVar 13) (ap1 itemsD (eVar 6)))) (eLst (nilA)))) (eC (.int 1)) 4)) (sSeq (sFrz 9) (sSeq (sAsg (bName 10) (ap2 eqD (apA lenD (aCons (eVar 6) (nilA))) (eC (.int 1)))) (sIf (mAnd (tst (ap2 eqD (eVar 9) (eLst (nilA)))) (mOr (tru (eVar 10)) (tst (ap2 leD (ap2 addD (ap2 addD (eVar 5) (eVar 8)) (ap2 mulD (eC (.int 3)) (apA lenD (aCons (eVar 3) (nilA))))) (eVar 2))))) (sSeq (sDrop (eApp 4 (eVar 6))) (sAsg (bName 5) (ap2 addD (eVar 5) (eVar 8)))) ((fun g => .ok .nx g)))))))
      [some (.d q), some (.d dr), some (.d (.int most)), some (.d nm), some (.ml false (gs.map mkG)), some (.d (.int size)), some (.d (mkG g)), none, o8, o9, o10, none, none, none, none] =
      .ok .nx [some (.d q), some (.d dr), some (.d (.int most)), some (.d nm), some (.ml false ((gStep qs most (gs, size) g).1.map mkG)), some (.d (.int (gStep qs most (gs, size) g).2)), some (.d (mkG g)), none, p8, p9, p10, none, none, none, none] := by
  have hz := sizeLine_big
  have hc := s_cells hq (nd := mkG g) rfl hd hin hg.1 hp
  have f8 : ∀ (a b c d e f h i : Option Tv) (r : Ga), freeAt (a :: b :: c :: d :: e :: f :: h :: i :: o8 :: r) 8 = true := fun _ _ _ _ _ _ _ _ _ => freeAt_dat (o := o8) rfl h8
  have f9 : ∀ (a b c d e f h i j : Option Tv) (r : Ga), freeAt (a :: b :: c :: d :: e :: f :: h :: i :: j :: o9 :: r) 9 = true := fun _ _ _ _ _ _ _ _ _ _ => freeAt_dat (o := o9) rfl h9
  have f10 : ∀ (a b c d e f h i j k : Option Tv) (r : Ga), freeAt (a :: b :: c :: d :: e :: f :: h :: i :: j :: k :: o10 :: r) 10 = true := fun _ _ _ _ _ _ _ _ _ _ _ => freeAt_dat (o := o10) rfl h10
  have ei := fun (a8 a9 a10 : Option Tv) => inside_comp (a0 := some (.d q)) (a1 := some (.d dr)) (a2 := some (.d (.int most))) (a3 := some (.d nm)) (a5 := some (.d (.int size))) (a7 := none) (a8 := a8) (a9 := a9) (a10 := a10) (a11 := none) (a12 := none) (gs := gs) hg (by omega)
  have e1 : eqD (.list ((gs.filter (under g)).map fun _ => PyData.int 1)) (.list []) = some (.bool (!gs.any (under g))) := by
    rw [eq_lnil (ones_gd _ (by have := List.length_filter_le (under g) gs; omega)) (by omega), List.isEmpty_map, filter_isEmpty]
  have el : lenD [mkG g] = some (.int (g.length : Int)) := by
    show some (PyData.int ((g.map PyData.str).length : Int)) = _
    rw [List.length_map]
  have e2 : ((g.length : Int) == 1) = decide (g.length = 1) := by
    rw [Bool.eq_iff_iff, beq_iff_eq, decide_eq_true_eq]
    omega
  have s3 : small 3 := ⟨by decide, by decide⟩
  have fa : fApp (gs.map mkG) (mkG g) = some (.none, gs.map mkG ++ [mkG g]) := fApp_ok (by rw [List.length_map]; omega)
  refine ⟨some (.d (.int ((rowsOf (g.map (cnt qs)) [[]]).length : Int))), some (.d (.list ((gs.filter (under g)).map fun _ => PyData.int 1))), some (.d (.bool (decide (g.length = 1)))), rfl, rfl, rfl, ?_⟩
  simp only [bind_ok, bind_exc, bnd_app, lift_some, eC_app, eVar_0, eVar_1, eVar_2, eVar_3, eVar_4, eVar_5, eVar_6, eVar_7, eVar_8, eVar_9, eVar_10, ap1_app, ap2_app, apA_app, aCons_app, nilA_app, tru_app, tst_app, asB_bool, truD_bool, truD_list, truD_tuple, mNot_app, mAnd_app, mOr_app, eNot_app, eAnd_app, eOr_app, andK_b, orK_b, eIf_app, eTup_app, eLst_app, lLst_app, frzL_app, eList_app, eSl_app, pN_app, pS_app, partD_int, chn_b, eChain_app, seq_nx, seq_ret, seq_brk, seq_cnt, seq_exc, sSeq_app, sRet_app, sDrop_app, sIf_app, sRaise_app, sAsg_name, sSetL_app, rxM_ok, rxM_exc, eCall_app, outP_ret, outP_nx, outP_exc, Option.map_some, len0, len1, len2, len3, len4, len5, len6, len7, len8, eq_self, sz0, sz1, sz2, sz3, sz4, sz5, sz6, sz7, sz8, sz9, sz10, sz11, freeAt_s, freeAt_n, freeAt_d, freeAt_m, sFrz_app, frzK_ml, List.getElem?_cons_zero, List.getElem?_cons_succ, List.set_cons_zero, List.set_cons_succ, sAsg_tup, asgK_some, bTup_app, bAll_nil, bAll_cons, bName_app, Option.bind_some, isMl_s, isMl_m, resK_some, onK_ml, eApp_app, ePop_app, eIdxV_app, eLenV_app, tTruV_app, sSetI_app, onL_app, fLen_ok, fTru_ok, rbK_ok, cbK_ml, eCB_cons, eCB_nil, List.nil_append, List.cons_append, outK_some, outR_ret, outR_nx, outB_s, outB_m, mConsD_app, mConsL_app, sPar_app, setAll_nil, setAll_cons, true_and, and_true, and_self, Bool.not_true, Bool.not_false, Bool.false_eq_true, reduceIte, hc, len_lst, List.length_map, f8, ei, f9, el, eq_int, e2, f10, e1]
  unfold gStep
  dsimp only
  cases ha : gs.any (under g)
  · simp only [bind_ok, bind_exc, bnd_app, lift_some, eC_app, eVar_0, eVar_1, eVar_2, eVar_3, eVar_4, eVar_5, eVar_6, eVar_7, eVar_8, eVar_9, eVar_10, ap1_app, ap2_app, apA_app, aCons_app, nilA_app, tru_app, tst_app, asB_bool, truD_bool, truD_list, truD_tuple, mNot_app, mAnd_app, mOr_app, eNot_app, eAnd_app, eOr_app, andK_b, orK_b, eIf_app, eTup_app, eLst_app, lLst_app, frzL_app, eList_app, eSl_app, pN_app, pS_app, partD_int, chn_b, eChain_app, seq_nx, seq_ret, seq_brk, seq_cnt, seq_exc, sSeq_app, sRet_app, sDrop_app, sIf_app, sRaise_app, sAsg_name, sSetL_app, rxM_ok, rxM_exc, eCall_app, outP_ret, outP_nx, outP_exc, Option.map_some, len0, len1, len2, len3, len4, len5, len6, len7, len8, eq_self, sz0, sz1, sz2, sz3, sz4, sz5, sz6, sz7, sz8, sz9, sz10, sz11, freeAt_s, freeAt_n, freeAt_d, freeAt_m, sFrz_app, frzK_ml, List.getElem?_cons_zero, List.getElem?_cons_succ, List.set_cons_zero, List.set_cons_succ, sAsg_tup, asgK_some, bTup_app, bAll_nil, bAll_cons, bName_app, Option.bind_some, isMl_s, isMl_m, resK_some, onK_ml, eApp_app, ePop_app, eIdxV_app, eLenV_app, tTruV_app, sSetI_app, onL_app, fLen_ok, fTru_ok, rbK_ok, cbK_ml, eCB_cons, eCB_nil, List.nil_append, List.cons_append, outK_some, outR_ret, outR_nx, outB_s, outB_m, mConsD_app, mConsL_app, sPar_app, setAll_nil, setAll_cons, true_and, and_true, and_self, Bool.not_true, Bool.not_false, Bool.false_eq_true, reduceIte, Bool.true_and]
    cases hs : decide (g.length = 1)
    · simp only [bind_ok, bind_exc, bnd_app, lift_some, eC_app, eVar_0, eVar_1, eVar_2, eVar_3, eVar_4, eVar_5, eVar_6, eVar_7, eVar_8, eVar_9, eVar_10, ap1_app, ap2_app, apA_app, aCons_app, nilA_app, tru_app, tst_app, asB_bool, truD_bool, truD_list, truD_tuple, mNot_app, mAnd_app, mOr_app, eNot_app, eAnd_app, eOr_app, andK_b, orK_b, eIf_app, eTup_app, eLst_app, lLst_app, frzL_app, eList_app, eSl_app, pN_app, pS_app, partD_int, chn_b, eChain_app, seq_nx, seq_ret, seq_brk, seq_cnt, seq_exc, sSeq_app, sRet_app, sDrop_app, sIf_app, sRaise_app, sAsg_name, sSetL_app, rxM_ok, rxM_exc, eCall_app, outP_ret, outP_nx, outP_exc, Option.map_some, len0, len1, len2, len3, len4, len5, len6, len7, len8, eq_self, sz0, sz1, sz2, sz3, sz4, sz5, sz6, sz7, sz8, sz9, sz10, sz11, freeAt_s, freeAt_n, freeAt_d, freeAt_m, sFrz_app, frzK_ml, List.getElem?_cons_zero, List.getElem?_cons_succ, List.set_cons_zero, List.set_cons_succ, sAsg_tup, asgK_some, bTup_app, bAll_nil, bAll_cons, bName_app, Option.bind_some, isMl_s, isMl_m, resK_some, onK_ml, eApp_app, ePop_app, eIdxV_app, eLenV_app, tTruV_app, sSetI_app, onL_app, fLen_ok, fTru_ok, rbK_ok, cbK_ml, eCB_cons, eCB_nil, List.nil_append, List.cons_append, outK_some, outR_ret, outR_nx, outB_s, outB_m, mConsD_app, mConsL_app, sPar_app, setAll_nil, setAll_cons, true_and, and_true, and_self, Bool.not_true, Bool.not_false, Bool.false_eq_true, reduceIte, Bool.false_or, hnm, add_int, mul_ok s3, le_int]
      by_cases hm : size + ((rowsOf (g.map (cnt qs)) [[]]).length : Int) + 3 * (qs.length : Int) ≤ most
      · simp only [hm, decide_true, bind_ok, bind_exc, bnd_app, lift_some, eC_app, eVar_0, eVar_1, eVar_2, eVar_3, eVar_4, eVar_5, eVar_6, eVar_7, eVar_8, eVar_9, eVar_10, ap1_app, ap2_app, apA_app, aCons_app, nilA_app, tru_app, tst_app, asB_bool, truD_bool, truD_list, truD_tuple, mNot_app, mAnd_app, mOr_app, eNot_app, eAnd_app, eOr_app, andK_b, orK_b, eIf_app, eTup_app, eLst_app, lLst_app, frzL_app, eList_app, eSl_app, pN_app, pS_app, partD_int, chn_b, eChain_app, seq_nx, seq_ret, seq_brk, seq_cnt, seq_exc, sSeq_app, sRet_app, sDrop_app, sIf_app, sRaise_app, sAsg_name, sSetL_app, rxM_ok, rxM_exc, eCall_app, outP_ret, outP_nx, outP_exc, Option.map_some, len0, len1, len2, len3, len4, len5, len6, len7, len8, eq_self, sz0, sz1, sz2, sz3, sz4, sz5, sz6, sz7, sz8, sz9, sz10, sz11, freeAt_s, freeAt_n, freeAt_d, freeAt_m, sFrz_app, frzK_ml, List.getElem?_cons_zero, List.getElem?_cons_succ, List.set_cons_zero, List.set_cons_succ, sAsg_tup, asgK_some, bTup_app, bAll_nil, bAll_cons, bName_app, Option.bind_some, isMl_s, isMl_m, resK_some, onK_ml, eApp_app, ePop_app, eIdxV_app, eLenV_app, tTruV_app, sSetI_app, onL_app, fLen_ok, fTru_ok, rbK_ok, cbK_ml, eCB_cons, eCB_nil, List.nil_append, List.cons_append, outK_some, outR_ret, outR_nx, outB_s, outB_m, mConsD_app, mConsL_app, sPar_app, setAll_nil, setAll_cons, true_and, and_true, and_self, Bool.not_true, Bool.not_false, Bool.false_eq_true, reduceIte, fa, add_int, List.map_append, List.map_cons, List.map_nil]
      · simp only [hm, decide_false, bind_ok, bind_exc, bnd_app, lift_some, eC_app, eVar_0, eVar_1, eVar_2, eVar_3, eVar_4, eVar_5, eVar_6, eVar_7, eVar_8, eVar_9, eVar_10, ap1_app, ap2_app, apA_app, aCons_app, nilA_app, tru_app, tst_app, asB_bool, truD_bool, truD_list, truD_tuple, mNot_app, mAnd_app, mOr_app, eNot_app, eAnd_app, eOr_app, andK_b, orK_b, eIf_app, eTup_app, eLst_app, lLst_app, frzL_app, eList_app, eSl_app, pN_app, pS_app, partD_int, chn_b, eChain_app, seq_nx, seq_ret, seq_brk, seq_cnt, seq_exc, sSeq_app, sRet_app, sDrop_app, sIf_app, sRaise_app, sAsg_name, sSetL_app, rxM_ok, rxM_exc, eCall_app, outP_ret, outP_nx, outP_exc, Option.map_some, len0, len1, len2, len3, len4, len5, len6, len7, len8, eq_self, sz0, sz1, sz2, sz3, sz4, sz5, sz6, sz7, sz8, sz9, sz10, sz11, freeAt_s, freeAt_n, freeAt_d, freeAt_m, sFrz_app, frzK_ml, List.getElem?_cons_zero, List.getElem?_cons_succ, List.set_cons_zero, List.set_cons_succ, sAsg_tup, asgK_some, bTup_app, bAll_nil, bAll_cons, bName_app, Option.bind_some, isMl_s, isMl_m, resK_some, onK_ml, eApp_app, ePop_app, eIdxV_app, eLenV_app, tTruV_app, sSetI_app, onL_app, fLen_ok, fTru_ok, rbK_ok, cbK_ml, eCB_cons, eCB_nil, List.nil_append, List.cons_append, outK_some, outR_ret, outR_nx, outB_s, outB_m, mConsD_app, mConsL_app, sPar_app, setAll_nil, setAll_cons, true_and, and_true, and_self, Bool.not_true, Bool.not_false, Bool.false_eq_true, reduceIte]
    · simp only [bind_ok, bind_exc, bnd_app, lift_some, eC_app, eVar_0, eVar_1, eVar_2, eVar_3, eVar_4, eVar_5, eVar_6, eVar_7, eVar_8, eVar_9, eVar_10, ap1_app, ap2_app, apA_app, aCons_app, nilA_app, tru_app, tst_app, asB_bool, truD_bool, truD_list, truD_tuple, mNot_app, mAnd_app, mOr_app, eNot_app, eAnd_app, eOr_app, andK_b, orK_b, eIf_app, eTup_app, eLst_app, lLst_app, frzL_app, eList_app, eSl_app, pN_app, pS_app, partD_int, chn_b, eChain_app, seq_nx, seq_ret, seq_brk, seq_cnt, seq_exc, sSeq_app, sRet_app, sDrop_app, sIf_app, sRaise_app, sAsg_name, sSetL_app, rxM_ok, rxM_exc, eCall_app, outP_ret, outP_nx, outP_exc, Option.map_some, len0, len1, len2, len3, len4, len5, len6, len7, len8, eq_self, sz0, sz1, sz2, sz3, sz4, sz5, sz6, sz7, sz8, sz9, sz10, sz11, freeAt_s, freeAt_n, freeAt_d, freeAt_m, sFrz_app, frzK_ml, List.getElem?_cons_zero, List.getElem?_cons_succ, List.set_cons_zero, List.set_cons_succ, sAsg_tup, asgK_some, bTup_app, bAll_nil, bAll_cons, bName_app, Option.bind_some, isMl_s, isMl_m, resK_some, onK_ml, eApp_app, ePop_app, eIdxV_app, eLenV_app, tTruV_app, sSetI_app, onL_app, fLen_ok, fTru_ok, rbK_ok, cbK_ml, eCB_cons, eCB_nil, List.nil_append, List.cons_append, outK_some, outR_ret, outR_nx, outB_s, outB_m, mConsD_app, mConsL_app, sPar_app, setAll_nil, setAll_cons, true_and, and_true, and_self, Bool.not_true, Bool.not_false, Bool.false_eq_true, reduceIte, Bool.true_or, fa, add_int, List.map_append, List.map_cons, List.map_nil]
  · simp only [bind_ok, bind_exc, bnd_app, lift_some, eC_app, eVar_0, eVar_1, eVar_2, eVar_3, eVar_4, eVar_5, eVar_6, eVar_7, eVar_8, eVar_9, eVar_10, ap1_app, ap2_app, apA_app, aCons_app, nilA_app, tru_app, tst_app, asB_bool, truD_bool, truD_list, truD_tuple, mNot_app, mAnd_app, mOr_app, eNot_app, eAnd_app, eOr_app, andK_b, orK_b, eIf_app, eTup_app, eLst_app, lLst_app, frzL_app, eList_app, eSl_app, pN_app, pS_app, partD_int, chn_b, eChain_app, seq_nx, seq_ret, seq_brk, seq_cnt, seq_exc, sSeq_app, sRet_app, sDrop_app, sIf_app, sRaise_app, sAsg_name, sSetL_app, rxM_ok, rxM_exc, eCall_app, outP_ret, outP_nx, outP_exc, Option.map_some, len0, len1, len2, len3, len4, len5, len6, len7, len8, eq_self, sz0, sz1, sz2, sz3, sz4, sz5, sz6, sz7, sz8, sz9, sz10, sz11, freeAt_s, freeAt_n, freeAt_d, freeAt_m, sFrz_app, frzK_ml, List.getElem?_cons_zero, List.getElem?_cons_succ, List.set_cons_zero, List.set_cons_succ, sAsg_tup, asgK_some, bTup_app, bAll_nil, bAll_cons, bName_app, Option.bind_some, isMl_s, isMl_m, resK_some, onK_ml, eApp_app, ePop_app, eIdxV_app, eLenV_app, tTruV_app, sSetI_app, onL_app, fLen_ok, fTru_ok, rbK_ok, cbK_ml, eCB_cons, eCB_nil, List.nil_append, List.cons_append, outK_some, outR_ret, outR_nx, outB_s, outB_m, mConsD_app, mConsL_app, sPar_app, setAll_nil, setAll_cons, true_and, and_true, and_self, Bool.not_true, Bool.not_false, Bool.false_eq_true, reduceIte, Bool.false_and]
theorem gStep_len (qs : List (Str × Int)) (most : Int) (st : List (List Str) × Int) (g : List Str) : (gStep qs most st g).1.length ≤ st.1.length + 1 := by
  unfold gStep
  split
  · simp
  · omega
theorem g_loop {q dr nm : D} {qs : List (Str × Int)} {most : Int} (hq : seqD q = some (qs.map mkQ)) (hnm : lenD [nm] = some (.int (qs.length : Int))) (hd : (qs.map (·.1)).Nodup) : ∀ (L : List (List Str)) (gs : List (List Str)) (size : Int) (o6' o8' o9' o10' : Option Tv), dat o6' = true → dat o8' = true → dat o9' = true → dat o10' = true →
    (∀ g ∈ L, (∀ z ∈ g, z ∈ qs.map (·.1) ∧ 1 ≤ cnt qs z ∧ cnt qs z ≤ 1000) ∧ gok g ∧ ((g.map (cnt qs)).map Int.toNat).prod ≤ 1000000) → gs.length + L.length ≤ 1000 →
    ∃ o6 o8 o9 o10, dat o6 = true ∧ loop (bName 6) (sSeq (sAsg (bName 8) (apA lenD (aCons (eCall 2 p__law_cells (aCons (eVar 0) (aCons (eVar 6) (nilA)))) (nilA)))) (sSeq (sSetL 9 (eLcV [14] (bName 14) (tst (ap2 eqD (frzL (eLc [13] (bName 13) (tst (ap2 ninD (eVar 13) (eVar 14))) (eVar 13) (ap1 itemsD (eVar 6)))) (eLst (nilA)))) (eC (.int 1)) 4)) (sSeq (sFrz 9) (sSeq (sAsg (bName 10) (ap2 eqD (apA lenD (aCons (eVar 6) (nilA))) (eC (.int 1)))) (sIf (mAnd (tst (ap2 eqD (eVar 9) (eLst (nilA)))) (mOr (tru (eVar 10)) (tst (ap2 leD (ap2 addD (ap2 addD (eVar 5) (eVar 8)) (ap2 mulD (eC (.int 3)) (apA lenD (aCons (eVar 3) (nilA))))) (eVar 2))))) (sSeq (sDrop (eApp 4 (eVar 6))) (sAsg (bName 5) (ap2 addD (eVar 5) (eVar 8)))) ((fun g => .ok .nx g))))))) (L.map mkG) [some (.d q), some (.d dr), some (.d (.int most)), some (.d nm), some (.ml false (gs.map mkG)), some (.d (.int size)), o6', none, o8', o9', o10', none, none, none, none] =
      .ok .nx [some (.d q), some (.d dr), some (.d (.int most)), some (.d nm), some (.ml false ((L.foldl (gStep qs most) (gs, size)).1.map mkG)), some (.d (.int (L.foldl (gStep qs most) (gs, size)).2)), o6, none, o8, o9, o10, none, none, none, none]
  | [], gs, size, o6', o8', o9', o10', h6, h8, h9, h10, _, _ => ⟨o6', o8', o9', o10', h6, rfl⟩
  | g :: L, gs, size, o6', o8', o9', o10', h6, h8, h9, h10, hL, hl => by
    obtain ⟨p1, p2, p3⟩ := hL g List.mem_cons_self
    rw [List.length_cons] at hl
    obtain ⟨a8, a9, a10, d8, d9, d10, e⟩ := g_body (dr := dr) (most := most) (size := size) (gs := gs) h8 h9 h10 hq hnm hd p1 p2 p3 (by omega)
    have hle := gStep_len qs most (gs, size) g
    obtain ⟨b6, b8, b9, b10, d6, e2⟩ := g_loop (dr := dr) hq hnm hd L (gStep qs most (gs, size) g).1 (gStep qs most (gs, size) g).2 (some (.d (mkG g))) a8 a9 a10 rfl d8 d9 d10 (fun g hg => hL g (List.mem_cons_of_mem _ hg)) (by dsimp only at hle; omega)
    refine ⟨b6, b8, b9, b10, d6, ?_⟩
    rw [List.map_cons, loop_cons, bName_dat (o := o6') rfl h6]
    simp only [List.set_cons_zero, List.set_cons_succ]
    rw [e]
    dsimp only
    rw [e2, List.foldl_cons]
theorem gd_mkG {g : List Str} (hg : gok g) : Gd 1 (mkG g) := by
  have hz := sizeLine_big
  refine ⟨by rw [List.length_map]; have := hg.1; omega, fun y hy => ?_⟩
  obtain ⟨z, hz, rfl⟩ := List.mem_map.mp hy
  exact hg.2 z hz
theorem eqvAll_strs : ∀ a b : List Str, PyData.eqvAll (a.map PyData.str) (b.map PyData.str) = (a == b)
  | [], [] => rfl
  | [], _ :: _ => rfl
  | _ :: _, [] => rfl
  | x :: a, y :: b => by
    rw [List.map_cons, List.map_cons, PyData.eqvAll, eqv_str, eqvAll_strs a b]
    rfl
theorem ne_mkG {a b : List Str} (ha : gok a) (hb : gok b) : neD (mkG a) (mkG b) = some (.bool (!(a == b))) := by
  rw [ne_gd (gd_mkG ha) (gd_mkG hb) (by omega), mkG, mkG, PyData.eqv, eqvAll_strs]
theorem mul_one_list (x : D) (b : Bool) : mulD (.list [x]) (.int (if b = true then 1 else 0)) = some (.list (if b = true then [x] else [])) := by
  cases b <;> rfl
theorem larger_comp {a0 a1 a2 a3 a5 a7 a8 a9 a10 a11 a12 : Option Tv} {g : List Str} {gs : List (List Str)} (hg : gok g) (hgs : ∀ o ∈ gs, gok o) (hl : gs.length ≤ sizeLine) :
    eLc [14] (bName 14) (mAnd (tst (ap2 neD (eVar 14) (eVar 6))) (tst (ap2 eqD (frzL (eLc [13] (bName 13) (tst (ap2 ninD (eVar 13) (eVar 14))) (eVar 13) (ap1 itemsD (eVar 6)))) (eLst (nilA))))) (eC (.int 1)) (ap1 itemsD (eVar 4)) [a0, a1, a2, a3, some (.d (.list (gs.map mkG))), a5, some (.d (mkG g)), a7, a8, a9, a10, a11, a12, none, none] =
      .ok ((gs.filter fun o => !(o == g) && under g o).map fun _ => PyData.int 1) [a0, a1, a2, a3, some (.d (.list (gs.map mkG))), a5, some (.d (mkG g)), a7, a8, a9, a10, a11, a12, none, none] := by
  refine lcF gs mkG (fun o => !(o == g) && under g o) (fun _ => PyData.int 1) rfl hl fun o ho => ⟨_, rfl, ?_, fun _ => rfl, rfl, rfl⟩
  have e14 : eVar 14 [a0, a1, a2, a3, some (.d (.list (gs.map mkG))), a5, some (.d (mkG g)), a7, a8, a9, a10, a11, a12, none, some (.d (mkG o))] = .ok (mkG o) [a0, a1, a2, a3, some (.d (.list (gs.map mkG))), a5, some (.d (mkG g)), a7, a8, a9, a10, a11, a12, none, some (.d (mkG o))] := rfl
  have et := in_test (a0 := a0) (a1 := a1) (a2 := a2) (a3 := a3) (a4 := some (.d (.list (gs.map mkG)))) (a5 := a5) (a7 := a7) (a8 := a8) (a9 := a9) (a10 := a10) (a11 := a11) (a12 := a12) (o := o) hg
  generalize (tst (ap2 eqD (frzL (eLc [13] (bName 13) (tst (ap2 ninD (eVar 13) (eVar 14))) (eVar 13) (ap1 itemsD (eVar 6)))) (eLst (nilA)))) = TT at et ⊢
  show mAnd (tst (ap2 neD (eVar 14) (eVar 6))) TT [a0, a1, a2, a3, some (.d (.list (gs.map mkG))), a5, some (.d (mkG g)), a7, a8, a9, a10, a11, a12, none, some (.d (mkG o))] = _
  simp only [bind_ok, bind_exc, bnd_app, lift_some, eC_app, eVar_0, eVar_1, eVar_2, eVar_3, eVar_4, eVar_5, eVar_6, eVar_7, eVar_8, eVar_9, eVar_10, ap1_app, ap2_app, apA_app, aCons_app, nilA_app, tru_app, tst_app, asB_bool, truD_bool, truD_list, truD_tuple, mNot_app, mAnd_app, mOr_app, eNot_app, eAnd_app, eOr_app, andK_b, orK_b, eIf_app, eTup_app, eLst_app, lLst_app, frzL_app, eList_app, eSl_app, pN_app, pS_app, partD_int, chn_b, eChain_app, seq_nx, seq_ret, seq_brk, seq_cnt, seq_exc, sSeq_app, sRet_app, sDrop_app, sIf_app, sRaise_app, sAsg_name, sSetL_app, rxM_ok, rxM_exc, eCall_app, outP_ret, outP_nx, outP_exc, Option.map_some, len0, len1, len2, len3, len4, len5, len6, len7, len8, eq_self, sz0, sz1, sz2, sz3, sz4, sz5, sz6, sz7, sz8, sz9, sz10, sz11, freeAt_s, freeAt_n, freeAt_d, freeAt_m, sFrz_app, frzK_ml, List.getElem?_cons_zero, List.getElem?_cons_succ, List.set_cons_zero, List.set_cons_succ, sAsg_tup, asgK_some, bTup_app, bAll_nil, bAll_cons, bName_app, Option.bind_some, isMl_s, isMl_m, resK_some, onK_ml, eApp_app, ePop_app, eIdxV_app, eLenV_app, tTruV_app, sSetI_app, onL_app, fLen_ok, fTru_ok, rbK_ok, cbK_ml, eCB_cons, eCB_nil, List.nil_append, List.cons_append, outK_some, outR_ret, outR_nx, outB_s, outB_m, mConsD_app, mConsL_app, sPar_app, setAll_nil, setAll_cons, true_and, and_true, and_self, Bool.not_true, Bool.not_false, Bool.false_eq_true, reduceIte, e14, ne_mkG (hgs o ho) hg]
  cases ho : o == g
  · simp only [bind_ok, bind_exc, bnd_app, lift_some, eC_app, eVar_0, eVar_1, eVar_2, eVar_3, eVar_4, eVar_5, eVar_6, eVar_7, eVar_8, eVar_9, eVar_10, ap1_app, ap2_app, apA_app, aCons_app, nilA_app, tru_app, tst_app, asB_bool, truD_bool, truD_list, truD_tuple, mNot_app, mAnd_app, mOr_app, eNot_app, eAnd_app, eOr_app, andK_b, orK_b, eIf_app, eTup_app, eLst_app, lLst_app, frzL_app, eList_app, eSl_app, pN_app, pS_app, partD_int, chn_b, eChain_app, seq_nx, seq_ret, seq_brk, seq_cnt, seq_exc, sSeq_app, sRet_app, sDrop_app, sIf_app, sRaise_app, sAsg_name, sSetL_app, rxM_ok, rxM_exc, eCall_app, outP_ret, outP_nx, outP_exc, Option.map_some, len0, len1, len2, len3, len4, len5, len6, len7, len8, eq_self, sz0, sz1, sz2, sz3, sz4, sz5, sz6, sz7, sz8, sz9, sz10, sz11, freeAt_s, freeAt_n, freeAt_d, freeAt_m, sFrz_app, frzK_ml, List.getElem?_cons_zero, List.getElem?_cons_succ, List.set_cons_zero, List.set_cons_succ, sAsg_tup, asgK_some, bTup_app, bAll_nil, bAll_cons, bName_app, Option.bind_some, isMl_s, isMl_m, resK_some, onK_ml, eApp_app, ePop_app, eIdxV_app, eLenV_app, tTruV_app, sSetI_app, onL_app, fLen_ok, fTru_ok, rbK_ok, cbK_ml, eCB_cons, eCB_nil, List.nil_append, List.cons_append, outK_some, outR_ret, outR_nx, outB_s, outB_m, mConsD_app, mConsL_app, sPar_app, setAll_nil, setAll_cons, true_and, and_true, and_self, Bool.not_true, Bool.not_false, Bool.false_eq_true, reduceIte, et]
    rfl
  · simp only [bind_ok, bind_exc, bnd_app, lift_some, eC_app, eVar_0, eVar_1, eVar_2, eVar_3, eVar_4, eVar_5, eVar_6, eVar_7, eVar_8, eVar_9, eVar_10, ap1_app, ap2_app, apA_app, aCons_app, nilA_app, tru_app, tst_app, asB_bool, truD_bool, truD_list, truD_tuple, mNot_app, mAnd_app, mOr_app, eNot_app, eAnd_app, eOr_app, andK_b, orK_b, eIf_app, eTup_app, eLst_app, lLst_app, frzL_app, eList_app, eSl_app, pN_app, pS_app, partD_int, chn_b, eChain_app, seq_nx, seq_ret, seq_brk, seq_cnt, seq_exc, sSeq_app, sRet_app, sDrop_app, sIf_app, sRaise_app, sAsg_name, sSetL_app, rxM_ok, rxM_exc, eCall_app, outP_ret, outP_nx, outP_exc, Option.map_some, len0, len1, len2, len3, len4, len5, len6, len7, len8, eq_self, sz0, sz1, sz2, sz3, sz4, sz5, sz6, sz7, sz8, sz9, sz10, sz11, freeAt_s, freeAt_n, freeAt_d, freeAt_m, sFrz_app, frzK_ml, List.getElem?_cons_zero, List.getElem?_cons_succ, List.set_cons_zero, List.set_cons_succ, sAsg_tup, asgK_some, bTup_app, bAll_nil, bAll_cons, bName_app, Option.bind_some, isMl_s, isMl_m, resK_some, onK_ml, eApp_app, ePop_app, eIdxV_app, eLenV_app, tTruV_app, sSetI_app, onL_app, fLen_ok, fTru_ok, rbK_ok, cbK_ml, eCB_cons, eCB_nil, List.nil_append, List.cons_append, outK_some, outR_ret, outR_nx, outB_s, outB_m, mConsD_app, mConsL_app, sPar_app, setAll_nil, setAll_cons, true_and, and_true, and_self, Bool.not_true, Bool.not_false, Bool.false_eq_true, reduceIte]
    rfl
theorem kept_loop {a0 a1 a2 a3 a5 a8 a9 a10 : Option Tv} {gs : List (List Str)} (hgs : ∀ o ∈ gs, gok o) (hl : gs.length ≤ 1000) : ∀ (L acc : List (List Str)) (o6 o11 : Option Tv), dat o6 = true → dat o11 = true → (∀ g ∈ L, gok g) → acc.length + L.length ≤ 1000 →
    ∃ p6 p11, loop (bName 6) (sSeq (sSetL 11 (eLc [14] (bName 14) (mAnd (tst (ap2 neD (eVar 14) (eVar 6))) (tst (ap2 eqD (frzL (eLc [13] (bName 13) (tst (ap2 ninD (eVar 13) (eVar 14))) (eVar 13) (ap1 itemsD (eVar 6)))) (eLst (nilA))))) (eC (.int 1)) (ap1 itemsD (eVar 4)))) (sSeq (sFrz 11) (sAsg (bName 7) (ap2 addD (eVar 7) (ap2 mulD (eLst (aCons (eVar 6) (nilA))) (apA intD (aCons (ap2 eqD (eVar 11) (eLst (nilA))) (nilA)))))))) (L.map mkG) [a0, a1, a2, a3, some (.d (.list (gs.map mkG))), a5, o6, some (.d (.list (acc.map mkG))), a8, a9, a10, o11, none, none, none] =
      .ok .nx [a0, a1, a2, a3, some (.d (.list (gs.map mkG))), a5, p6, some (.d (.list ((acc ++ L.filter fun g => !(gs.any fun o => !(o == g) && under g o)).map mkG))), a8, a9, a10, p11, none, none, none]
  | [], acc, o6, o11, _, _, _, _ => ⟨o6, o11, by rw [List.filter_nil, List.append_nil]; rfl⟩
  | g :: L, acc, o6, o11, h6, h11, hL, hla => by
    have hz := sizeLine_big
    rw [List.length_cons] at hla
    have hg := hL g List.mem_cons_self
    have ec := fun (x11 : Option Tv) => larger_comp (a0 := a0) (a1 := a1) (a2 := a2) (a3 := a3) (a5 := a5) (a7 := some (.d (.list (acc.map mkG)))) (a8 := a8) (a9 := a9) (a10 := a10) (a11 := x11) (a12 := none) hg hgs (by omega)
    have f11 : ∀ (a b c d e f h i j k l : Option Tv) (r : Ga), freeAt (a :: b :: c :: d :: e :: f :: h :: i :: j :: k :: l :: o11 :: r) 11 = true := fun _ _ _ _ _ _ _ _ _ _ _ _ => freeAt_dat (o := o11) rfl h11
    have e1 : eqD (.list ((gs.filter fun o => !(o == g) && under g o).map fun _ => PyData.int 1)) (.list []) = some (.bool (!gs.any fun o => !(o == g) && under g o)) := by
      rw [eq_lnil (ones_gd _ (by have := List.length_filter_le (fun o => !(o == g) && under g o) gs; omega)) (by omega), List.isEmpty_map, filter_isEmpty]
    have ev : ∀ x : D, eVar 11 [a0, a1, a2, a3, some (.d (.list (gs.map mkG))), a5, some (.d (mkG g)), some (.d (.list (acc.map mkG))), a8, a9, a10, some (.d x), none, none, none] = .ok x [a0, a1, a2, a3, some (.d (.list (gs.map mkG))), a5, some (.d (mkG g)), some (.d (.list (acc.map mkG))), a8, a9, a10, some (.d x), none, none, none] := fun _ => rfl
    have ea : addD (.list (acc.map mkG)) (.list (if (!gs.any fun o => !(o == g) && under g o) = true then [mkG g] else [])) = some (.list ((acc ++ if (!gs.any fun o => !(o == g) && under g o) = true then [g] else []).map mkG)) := by
      rw [add_lists]
      · rw [List.map_append]
        cases (!gs.any fun o => !(o == g) && under g o) <;> rfl
      · rw [List.length_map]
        cases (!gs.any fun o => !(o == g) && under g o) <;> simp <;> omega
    obtain ⟨p6, p11, e⟩ := kept_loop (a0 := a0) (a1 := a1) (a2 := a2) (a3 := a3) (a5 := a5) (a8 := a8) (a9 := a9) (a10 := a10) hgs hl L (acc ++ if (!gs.any fun o => !(o == g) && under g o) = true then [g] else []) (some (.d (mkG g))) (some (.d (.list ((gs.filter fun o => !(o == g) && under g o).map fun _ => PyData.int 1)))) rfl rfl (fun g hg => hL g (List.mem_cons_of_mem _ hg)) (by
      cases (!gs.any fun o => !(o == g) && under g o) <;> simp <;> omega)
    refine ⟨p6, p11, ?_⟩
    rw [List.map_cons, loop_cons, bName_dat (o := o6) rfl h6]
    simp only [List.set_cons_zero, List.set_cons_succ]
    simp only [bind_ok, bind_exc, bnd_app, lift_some, eC_app, eVar_0, eVar_1, eVar_2, eVar_3, eVar_4, eVar_5, eVar_6, eVar_7, eVar_8, eVar_9, eVar_10, ap1_app, ap2_app, apA_app, aCons_app, nilA_app, tru_app, tst_app, asB_bool, truD_bool, truD_list, truD_tuple, mNot_app, mAnd_app, mOr_app, eNot_app, eAnd_app, eOr_app, andK_b, orK_b, eIf_app, eTup_app, eLst_app, lLst_app, frzL_app, eList_app, eSl_app, pN_app, pS_app, partD_int, chn_b, eChain_app, seq_nx, seq_ret, seq_brk, seq_cnt, seq_exc, sSeq_app, sRet_app, sDrop_app, sIf_app, sRaise_app, sAsg_name, sSetL_app, rxM_ok, rxM_exc, eCall_app, outP_ret, outP_nx, outP_exc, Option.map_some, len0, len1, len2, len3, len4, len5, len6, len7, len8, eq_self, sz0, sz1, sz2, sz3, sz4, sz5, sz6, sz7, sz8, sz9, sz10, sz11, freeAt_s, freeAt_n, freeAt_d, freeAt_m, sFrz_app, frzK_ml, List.getElem?_cons_zero, List.getElem?_cons_succ, List.set_cons_zero, List.set_cons_succ, sAsg_tup, asgK_some, bTup_app, bAll_nil, bAll_cons, bName_app, Option.bind_some, isMl_s, isMl_m, resK_some, onK_ml, eApp_app, ePop_app, eIdxV_app, eLenV_app, tTruV_app, sSetI_app, onL_app, fLen_ok, fTru_ok, rbK_ok, cbK_ml, eCB_cons, eCB_nil, List.nil_append, List.cons_append, outK_some, outR_ret, outR_nx, outB_s, outB_m, mConsD_app, mConsL_app, sPar_app, setAll_nil, setAll_cons, true_and, and_true, and_self, Bool.not_true, Bool.not_false, Bool.false_eq_true, reduceIte, ec, f11, ev, e1, intD, mul_one_list, ea]
    rw [e, List.filter_cons]
    cases (!gs.any fun o => !(o == g) && under g o)
    · simp
    · simp
end PP

namespace PP
open PySem PySem.Spec
/-! ### sorting groups, names -/
def gLe (a b : List Str) : Bool := !PySem.W.dataLt (mkG b) (mkG a)
def sortG (ks : List (List Str)) : List (List Str) := ks.mergeSort gLe
theorem sortD_G (ks : List (List Str)) : sortD (ks.map mkG) = (sortG ks).map mkG := (PySem.W.sort_maps (r := gLe) (s := fun a b : D => !PySem.W.dataLt b a) mkG (fun _ _ _ _ => rfl)).symm
theorem srtOk_G {ks : List (List Str)} (h : ∀ g ∈ ks, g ≠ []) : srtOk (ks.map mkG) = true := by
  simp only [srtOk, Bool.and_eq_true, decide_eq_true_eq, Bool.or_eq_true]
  refine ⟨(plainAll_iff _).mpr fun y hy => ?_, ?_, ?_, .inl ?_⟩
  · obtain ⟨g, _, rfl⟩ := List.mem_map.mp hy
    rw [mkG, PyData.plain]
    exact plain_strs id g
  · simp only [alkB, List.all_eq_true]
    intro x hx y hy
    obtain ⟨a, _, rfl⟩ := List.mem_map.mp hx
    obtain ⟨b, _, rfl⟩ := List.mem_map.mp hy
    rw [mkG, mkG, PySem.W.alike]
    exact alikeAll_strs a b
  · refine depthAll_le _ fun y hy => ?_
    obtain ⟨g, _, rfl⟩ := List.mem_map.mp hy
    rw [mkG, PyData.depth]
    have := depthAll_le (n := 1) (g.map PyData.str) fun y hy => by
      obtain ⟨z, _, rfl⟩ := List.mem_map.mp hy
      simp [PyData.depth]
    omega
  · rw [List.all_eq_true]
    intro y hy
    obtain ⟨g, hg, rfl⟩ := List.mem_map.mp hy
    cases g with
    | nil => exact absurd rfl (h [] hg)
    | cons z g => rfl
theorem tup_list (xs : List D) : tupD [.list xs] = some (.tuple xs) := rfl
theorem s_groups_from {qs : List (Str × Int)} {drawn : List (List Str)} {most : Int} (hd : (qs.map (·.1)).Nodup) (hq : ∀ q ∈ qs, 1 ≤ q.2 ∧ q.2 ≤ 1000 ∧ q.1.length ≤ sizeLine) (hql : qs.length ≤ 100) (hdl : drawn.length ≤ 100)
    (hdr : ∀ g ∈ drawn, g ≠ [] ∧ (∀ z ∈ g, z ∈ qs.map (·.1)) ∧ g.length ≤ 100 ∧ ((g.map (cnt qs)).map Int.toNat).prod ≤ 1000000) :
    p__law_groups_from [.list (qs.map mkQ), .list (drawn.map mkG), .int most] = .ok (.tuple ((sortG (keptOf (gAll qs most drawn).1)).map mkG)) := by
  have hz := sizeLine_big
  have hcnt : ∀ z ∈ qs.map (·.1), 1 ≤ cnt qs z ∧ cnt qs z ≤ 1000 := fun z hz => by
    unfold cnt
    cases hf : qs.find? fun q => q.1 == z with
    | none =>
      obtain ⟨q, hq1, rfl⟩ := List.mem_map.mp hz
      rw [List.find?_eq_none] at hf
      exact absurd (beq_self_eq_true q.1) (hf q hq1)
    | some p =>
      have := hq p (List.mem_of_find?_eq_some hf)
      exact ⟨this.1, this.2.1⟩
  have hlen : ∀ z ∈ qs.map (·.1), z.length ≤ sizeLine := fun z hz => by
    obtain ⟨q, hq1, rfl⟩ := List.mem_map.mp hz
    exact (hq q hq1).2.2
  have e12 : ∀ (a b c d e f h i j k l m n o : Option Tv) (x : D), eVar 12 [a, b, c, d, e, f, h, i, j, k, l, m, some (.d x), n, o] = .ok x [a, b, c, d, e, f, h, i, j, k, l, m, some (.d x), n, o] := fun _ _ _ _ _ _ _ _ _ _ _ _ _ _ _ => rfl
  have e13 : ∀ (a b c d e f h i j k l m n o : Option Tv) (x : D), eVar 13 [a, b, c, d, e, f, h, i, j, k, l, m, n, some (.d x), o] = .ok x [a, b, c, d, e, f, h, i, j, k, l, m, n, some (.d x), o] := fun _ _ _ _ _ _ _ _ _ _ _ _ _ _ _ => rfl
  have c12 : eLc [12] (bName 12) (tAll) (ap2 ixD (eVar 12) (eC (.int 0))) (ap1 itemsD (eVar 0)) [some (.d (.list (qs.map mkQ))), some (.d (.list (drawn.map mkG))), some (.d (.int most)), none, none, none, none, none, none, none, none, none, none, none, none] = .ok ((qs.map (·.1)).map PyData.str) [some (.d (.list (qs.map mkQ))), some (.d (.list (drawn.map mkG))), some (.d (.int most)), none, none, none, none, none, none, none, none, none, none, none, none] := by
    rw [List.map_map]
    refine lcM qs mkQ _ rfl (by omega) fun q hq => ⟨_, rfl, ?_, rfl, rfl⟩
    show ap2 ixD (eVar 12) (eC (.int 0)) [some (.d (.list (qs.map mkQ))), some (.d (.list (drawn.map mkG))), some (.d (.int most)), none, none, none, none, none, none, none, none, none, some (.d (mkQ q)), none, none] = _
    simp only [bind_ok, bind_exc, bnd_app, lift_some, eC_app, eVar_0, eVar_1, eVar_2, eVar_3, eVar_4, eVar_5, eVar_6, eVar_7, eVar_8, eVar_9, eVar_10, ap1_app, ap2_app, apA_app, aCons_app, nilA_app, tru_app, tst_app, asB_bool, truD_bool, truD_list, truD_tuple, mNot_app, mAnd_app, mOr_app, eNot_app, eAnd_app, eOr_app, andK_b, orK_b, eIf_app, eTup_app, eLst_app, lLst_app, frzL_app, eList_app, eSl_app, pN_app, pS_app, partD_int, chn_b, eChain_app, seq_nx, seq_ret, seq_brk, seq_cnt, seq_exc, sSeq_app, sRet_app, sDrop_app, sIf_app, sRaise_app, sAsg_name, sSetL_app, rxM_ok, rxM_exc, eCall_app, outP_ret, outP_nx, outP_exc, Option.map_some, len0, len1, len2, len3, len4, len5, len6, len7, len8, eq_self, sz0, sz1, sz2, sz3, sz4, sz5, sz6, sz7, sz8, sz9, sz10, sz11, freeAt_s, freeAt_n, freeAt_d, freeAt_m, sFrz_app, frzK_ml, List.getElem?_cons_zero, List.getElem?_cons_succ, List.set_cons_zero, List.set_cons_succ, sAsg_tup, asgK_some, bTup_app, bAll_nil, bAll_cons, bName_app, Option.bind_some, isMl_s, isMl_m, resK_some, onK_ml, eApp_app, ePop_app, eIdxV_app, eLenV_app, tTruV_app, sSetI_app, onL_app, fLen_ok, fTru_ok, rbK_ok, cbK_ml, eCB_cons, eCB_nil, List.nil_append, List.cons_append, outK_some, outR_ret, outR_nx, outB_s, outB_m, mConsD_app, mConsL_app, sPar_app, setAll_nil, setAll_cons, true_and, and_true, and_self, Bool.not_true, Bool.not_false, Bool.false_eq_true, reduceIte, e12, mkQ, ix_t0]
    rfl
  have c13 : eLc [13] (bName 13) (tAll) (eTup (aCons (eVar 13) (nilA))) (ap1 itemsD (eVar 3)) [some (.d (.list (qs.map mkQ))), some (.d (.list (drawn.map mkG))), some (.d (.int most)), some (.d (.list ((qs.map (·.1)).map PyData.str))), some (.ml false []), some (.d (.int 0)), none, none, none, none, none, none, none, none, none] = .ok (((qs.map (·.1)).map fun z => [z]).map mkG) [some (.d (.list (qs.map mkQ))), some (.d (.list (drawn.map mkG))), some (.d (.int most)), some (.d (.list ((qs.map (·.1)).map PyData.str))), some (.ml false []), some (.d (.int 0)), none, none, none, none, none, none, none, none, none] := by
    rw [show (((qs.map (·.1)).map fun z => [z]).map mkG) = (qs.map (·.1)).map fun z => mkG [z] from List.map_map]
    refine lcM (qs.map fun q : Str × Int => q.1) PyData.str (fun z => mkG [z]) (by rfl) (by rw [List.length_map]; omega) (fun z hz => ⟨_, by rfl, ?_, by rfl, by rfl⟩)
    show eTup (aCons (eVar 13) (nilA)) [some (.d (.list (qs.map mkQ))), some (.d (.list (drawn.map mkG))), some (.d (.int most)), some (.d (.list ((qs.map (·.1)).map PyData.str))), some (.ml false []), some (.d (.int 0)), none, none, none, none, none, none, none, some (.d (.str z)), none] = _
    simp only [bind_ok, bind_exc, bnd_app, lift_some, eC_app, eVar_0, eVar_1, eVar_2, eVar_3, eVar_4, eVar_5, eVar_6, eVar_7, eVar_8, eVar_9, eVar_10, ap1_app, ap2_app, apA_app, aCons_app, nilA_app, tru_app, tst_app, asB_bool, truD_bool, truD_list, truD_tuple, mNot_app, mAnd_app, mOr_app, eNot_app, eAnd_app, eOr_app, andK_b, orK_b, eIf_app, eTup_app, eLst_app, lLst_app, frzL_app, eList_app, eSl_app, pN_app, pS_app, partD_int, chn_b, eChain_app, seq_nx, seq_ret, seq_brk, seq_cnt, seq_exc, sSeq_app, sRet_app, sDrop_app, sIf_app, sRaise_app, sAsg_name, sSetL_app, rxM_ok, rxM_exc, eCall_app, outP_ret, outP_nx, outP_exc, Option.map_some, len0, len1, len2, len3, len4, len5, len6, len7, len8, eq_self, sz0, sz1, sz2, sz3, sz4, sz5, sz6, sz7, sz8, sz9, sz10, sz11, freeAt_s, freeAt_n, freeAt_d, freeAt_m, sFrz_app, frzK_ml, List.getElem?_cons_zero, List.getElem?_cons_succ, List.set_cons_zero, List.set_cons_succ, sAsg_tup, asgK_some, bTup_app, bAll_nil, bAll_cons, bName_app, Option.bind_some, isMl_s, isMl_m, resK_some, onK_ml, eApp_app, ePop_app, eIdxV_app, eLenV_app, tTruV_app, sSetI_app, onL_app, fLen_ok, fTru_ok, rbK_ok, cbK_ml, eCB_cons, eCB_nil, List.nil_append, List.cons_append, outK_some, outR_ret, outR_nx, outB_s, outB_m, mConsD_app, mConsL_app, sPar_app, setAll_nil, setAll_cons, true_and, and_true, and_self, Bool.not_true, Bool.not_false, Bool.false_eq_true, reduceIte, e13]
    rfl
  have hL : ∀ g ∈ drawn ++ (qs.map (·.1)).map fun z => [z], (∀ z ∈ g, z ∈ qs.map (·.1) ∧ 1 ≤ cnt qs z ∧ cnt qs z ≤ 1000) ∧ gok g ∧ ((g.map (cnt qs)).map Int.toNat).prod ≤ 1000000 ∧ g ≠ [] := by
    intro g hg
    rcases List.mem_append.mp hg with hg | hg
    · obtain ⟨h1, h2, h3, h4⟩ := hdr g hg
      exact ⟨fun z hz => ⟨h2 z hz, hcnt z (h2 z hz)⟩, ⟨by omega, fun z hz => hlen z (h2 z hz)⟩, h4, h1⟩
    · obtain ⟨z, hz, rfl⟩ := List.mem_map.mp hg
      have := hcnt z hz
      refine ⟨fun y hy => ?_, ⟨by simp, fun y hy => ?_⟩, ?_, by simp⟩
      · rw [List.mem_singleton] at hy
        subst hy
        exact ⟨hz, this⟩
      · rw [List.mem_singleton] at hy
        subst hy
        exact hlen _ hz
      · simp
        omega
  have hLl : (drawn ++ (qs.map (·.1)).map fun z => [z]).length ≤ 200 := by
    simp only [List.length_append, List.length_map]
    omega
  obtain ⟨o6, o8, o9, o10, d6, e⟩ := g_loop (dr := .list (drawn.map mkG)) (nm := .list ((qs.map (·.1)).map PyData.str)) (most := most) (q := .list (qs.map mkQ)) rfl (by rw [len_lst, List.length_map, List.length_map]) hd (drawn ++ (qs.map (·.1)).map fun z => [z]) [] 0 none none none none rfl rfl rfl rfl (fun g hg => ⟨(hL g hg).1, (hL g hg).2.1, (hL g hg).2.2.1⟩) (by simp only [List.length_nil]; omega)
  have hsub : ∀ (L : List (List Str)) (st : List (List Str) × Int), (∀ g ∈ (L.foldl (gStep qs most) st).1, g ∈ st.1 ∨ g ∈ L) ∧ (L.foldl (gStep qs most) st).1.length ≤ st.1.length + L.length := by
    intro L
    induction L with
    | nil => exact fun st => ⟨fun g h => .inl h, by simp⟩
    | cons g L ih =>
      intro st
      obtain ⟨i1, i2⟩ := ih (gStep qs most st g)
      have hle := gStep_len qs most st g
      refine ⟨fun y hy => ?_, ?_⟩
      · rcases i1 y hy with h | h
        · unfold gStep at h
          split at h
          · rcases List.mem_append.mp h with h | h
            · exact .inl h
            · rw [List.mem_singleton] at h
              exact .inr (by rw [h]; exact List.mem_cons_self)
          · exact .inl h
        · exact .inr (List.mem_cons_of_mem _ h)
      · rw [List.foldl_cons, List.length_cons]
        omega
  obtain ⟨hs1, hs2⟩ := hsub (drawn ++ (qs.map (·.1)).map fun z => [z]) ([], 0)
  have hgs : ∀ g ∈ (gAll qs most drawn).1, gok g ∧ g ≠ [] := fun g hg => by
    rcases hs1 g hg with h | h
    · cases h
    · exact ⟨(hL g h).2.1, (hL g h).2.2.2⟩
  have hgl : (gAll qs most drawn).1.length ≤ 200 := by
    unfold gAll
    simp only [List.length_nil] at hs2
    omega
  obtain ⟨p6, p11, e2⟩ := kept_loop (a0 := some (.d (.list (qs.map mkQ)))) (a1 := some (.d (.list (drawn.map mkG)))) (a2 := some (.d (.int most))) (a3 := some (.d (.list ((qs.map (·.1)).map PyData.str)))) (a5 := some (.d (.int (gAll qs most drawn).2))) (a8 := o8) (a9 := o9) (a10 := o10) (gs := (gAll qs most drawn).1) (fun o ho => (hgs o ho).1) (by omega) (gAll qs most drawn).1 [] o6 none d6 rfl (fun o ho => (hgs o ho).1) (by simp only [List.length_nil]; omega)
  have hso : srtOk ((keptOf (gAll qs most drawn).1).map mkG) = true := srtOk_G fun g hg => (hgs g (List.mem_filter.mp hg).1).2
  have es : sortedD [.list ((keptOf (gAll qs most drawn).1).map mkG)] = some (.list ((sortG (keptOf (gAll qs most drawn).1)).map mkG)) := by
    show (if srtOk _ = true then some (sortD _) else none).map _ = _
    rw [if_pos hso, sortD_G]
    rfl
  have ea : addD (.list (drawn.map mkG)) (.list (((qs.map (·.1)).map fun z => [z]).map mkG)) = some (.list ((drawn ++ (qs.map (·.1)).map fun z => [z]).map mkG)) := by
    rw [add_lists (by simp only [List.length_map]; omega), List.map_append]
  rw [p__law_groups_from, runP_out, m__law_groups_from, show dsG [.list (qs.map mkQ), .list (drawn.map mkG), .int most] 15 = [some (.d (.list (qs.map mkQ))), some (.d (.list (drawn.map mkG))), some (.d (.int most)), none, none, none, none, none, none, none, none, none, none, none, none] from rfl]
  have ev7 : ∀ x, eVar 7 [some (.d (.list (qs.map mkQ))), some (.d (.list (drawn.map mkG))), some (.d (.int most)), some (.d (.list ((qs.map (·.1)).map PyData.str))), some (.d (.list ((gAll qs most drawn).1.map mkG))), some (.d (.int (gAll qs most drawn).2)), p6, some (.d x), o8, o9, o10, p11, none, none, none] = .ok x [some (.d (.list (qs.map mkQ))), some (.d (.list (drawn.map mkG))), some (.d (.int most)), some (.d (.list ((qs.map (·.1)).map PyData.str))), some (.d (.list ((gAll qs most drawn).1.map mkG))), some (.d (.int (gAll qs most drawn).2)), p6, some (.d x), o8, o9, o10, p11, none, none, none] := fun _ => rfl
  simp only [bind_ok, bind_exc, bnd_app, lift_some, eC_app, eVar_0, eVar_1, eVar_2, eVar_3, eVar_4, eVar_5, eVar_6, eVar_7, eVar_8, eVar_9, eVar_10, ap1_app, ap2_app, apA_app, aCons_app, nilA_app, tru_app, tst_app, asB_bool, truD_bool, truD_list, truD_tuple, mNot_app, mAnd_app, mOr_app, eNot_app, eAnd_app, eOr_app, andK_b, orK_b, eIf_app, eTup_app, eLst_app, lLst_app, frzL_app, eList_app, eSl_app, pN_app, pS_app, partD_int, chn_b, eChain_app, seq_nx, seq_ret, seq_brk, seq_cnt, seq_exc, sSeq_app, sRet_app, sDrop_app, sIf_app, sRaise_app, sAsg_name, sSetL_app, rxM_ok, rxM_exc, eCall_app, outP_ret, outP_nx, outP_exc, Option.map_some, len0, len1, len2, len3, len4, len5, len6, len7, len8, eq_self, sz0, sz1, sz2, sz3, sz4, sz5, sz6, sz7, sz8, sz9, sz10, sz11, freeAt_s, freeAt_n, freeAt_d, freeAt_m, sFrz_app, frzK_ml, List.getElem?_cons_zero, List.getElem?_cons_succ, List.set_cons_zero, List.set_cons_succ, sAsg_tup, asgK_some, bTup_app, bAll_nil, bAll_cons, bName_app, Option.bind_some, isMl_s, isMl_m, resK_some, onK_ml, eApp_app, ePop_app, eIdxV_app, eLenV_app, tTruV_app, sSetI_app, onL_app, fLen_ok, fTru_ok, rbK_ok, cbK_ml, eCB_cons, eCB_nil, List.nil_append, List.cons_append, outK_some, outR_ret, outR_nx, outB_s, outB_m, mConsD_app, mConsL_app, sPar_app, setAll_nil, setAll_cons, true_and, and_true, and_self, Bool.not_true, Bool.not_false, Bool.false_eq_true, reduceIte, c12, sFor_app, c13, ea, itemsD]
  rw [List.map_nil] at e
  rw [List.map_nil, List.nil_append] at e2
  simp only [e, bind_ok, bind_exc, bnd_app, lift_some, eC_app, eVar_0, eVar_1, eVar_2, eVar_3, eVar_4, eVar_5, eVar_6, eVar_7, eVar_8, eVar_9, eVar_10, ap1_app, ap2_app, apA_app, aCons_app, nilA_app, tru_app, tst_app, asB_bool, truD_bool, truD_list, truD_tuple, mNot_app, mAnd_app, mOr_app, eNot_app, eAnd_app, eOr_app, andK_b, orK_b, eIf_app, eTup_app, eLst_app, lLst_app, frzL_app, eList_app, eSl_app, pN_app, pS_app, partD_int, chn_b, eChain_app, seq_nx, seq_ret, seq_brk, seq_cnt, seq_exc, sSeq_app, sRet_app, sDrop_app, sIf_app, sRaise_app, sAsg_name, sSetL_app, rxM_ok, rxM_exc, eCall_app, outP_ret, outP_nx, outP_exc, Option.map_some, len0, len1, len2, len3, len4, len5, len6, len7, len8, eq_self, sz0, sz1, sz2, sz3, sz4, sz5, sz6, sz7, sz8, sz9, sz10, sz11, freeAt_s, freeAt_n, freeAt_d, freeAt_m, sFrz_app, frzK_ml, List.getElem?_cons_zero, List.getElem?_cons_succ, List.set_cons_zero, List.set_cons_succ, sAsg_tup, asgK_some, bTup_app, bAll_nil, bAll_cons, bName_app, Option.bind_some, isMl_s, isMl_m, resK_some, onK_ml, eApp_app, ePop_app, eIdxV_app, eLenV_app, tTruV_app, sSetI_app, onL_app, fLen_ok, fTru_ok, rbK_ok, cbK_ml, eCB_cons, eCB_nil, List.nil_append, List.cons_append, outK_some, outR_ret, outR_nx, outB_s, outB_m, mConsD_app, mConsL_app, sPar_app, setAll_nil, setAll_cons, true_and, and_true, and_self, Bool.not_true, Bool.not_false, Bool.false_eq_true, reduceIte]
  change outP ((loop (bName 6) _ ((gAll qs most drawn).1.map mkG) [some (.d (.list (qs.map mkQ))), some (.d (.list (drawn.map mkG))), some (.d (.int most)), some (.d (.list ((qs.map (·.1)).map PyData.str))), some (.d (.list ((gAll qs most drawn).1.map mkG))), some (.d (.int (gAll qs most drawn).2)), o6, some (.d (.list [])), o8, o9, o10, none, none, none, none]).seq _) = _
  rw [e2]
  unfold keptOf at es ⊢
  simp only [bind_ok, bind_exc, bnd_app, lift_some, eC_app, eVar_0, eVar_1, eVar_2, eVar_3, eVar_4, eVar_5, eVar_6, eVar_7, eVar_8, eVar_9, eVar_10, ap1_app, ap2_app, apA_app, aCons_app, nilA_app, tru_app, tst_app, asB_bool, truD_bool, truD_list, truD_tuple, mNot_app, mAnd_app, mOr_app, eNot_app, eAnd_app, eOr_app, andK_b, orK_b, eIf_app, eTup_app, eLst_app, lLst_app, frzL_app, eList_app, eSl_app, pN_app, pS_app, partD_int, chn_b, eChain_app, seq_nx, seq_ret, seq_brk, seq_cnt, seq_exc, sSeq_app, sRet_app, sDrop_app, sIf_app, sRaise_app, sAsg_name, sSetL_app, rxM_ok, rxM_exc, eCall_app, outP_ret, outP_nx, outP_exc, Option.map_some, len0, len1, len2, len3, len4, len5, len6, len7, len8, eq_self, sz0, sz1, sz2, sz3, sz4, sz5, sz6, sz7, sz8, sz9, sz10, sz11, freeAt_s, freeAt_n, freeAt_d, freeAt_m, sFrz_app, frzK_ml, List.getElem?_cons_zero, List.getElem?_cons_succ, List.set_cons_zero, List.set_cons_succ, sAsg_tup, asgK_some, bTup_app, bAll_nil, bAll_cons, bName_app, Option.bind_some, isMl_s, isMl_m, resK_some, onK_ml, eApp_app, ePop_app, eIdxV_app, eLenV_app, tTruV_app, sSetI_app, onL_app, fLen_ok, fTru_ok, rbK_ok, cbK_ml, eCB_cons, eCB_nil, List.nil_append, List.cons_append, outK_some, outR_ret, outR_nx, outB_s, outB_m, mConsD_app, mConsL_app, sPar_app, setAll_nil, setAll_cons, true_and, and_true, and_self, Bool.not_true, Bool.not_false, Bool.false_eq_true, reduceIte, es, tup_list]
end PP

namespace PP
open PySem PySem.Spec
/-! ### orders -/
theorem sLt_irrefl (a : Str) : sLt a a = false := PyProof.Rows.lex_irrefl _
theorem sLt_trans {a b c : Str} (h1 : sLt a b = true) (h2 : sLt b c = true) : sLt a c = true := PyProof.Rows.lex_trans _ _ _ h1 h2
theorem str_toks {a b : Str} (h : PySem.W.keyToks (.str a) = PySem.W.keyToks (.str b)) : a = b := by
  simp only [PySem.W.keyToks, List.cons.injEq, Sum.inr.injEq, and_true] at h
  obtain ⟨⟨x⟩⟩ := a
  obtain ⟨⟨y⟩⟩ := b
  simpa using h
theorem sLt_total {a b : Str} (h1 : sLt a b = false) (h2 : sLt b a = false) : a = b := str_toks (PyProof.Rows.lex_total _ _ h1 h2)
theorem strs_toks : ∀ {a b : List Str}, PySem.W.keyToksAll (a.map PyData.str) = PySem.W.keyToksAll (b.map PyData.str) → a = b
  | [], [], _ => rfl
  | [], y :: b, h => by simp [PySem.W.keyToksAll] at h
  | x :: a, [], h => by simp [PySem.W.keyToksAll] at h
  | x :: a, y :: b, h => by
    simp only [List.map_cons, PySem.W.keyToksAll, PySem.W.keyToks, List.cons_append, List.nil_append, List.cons.injEq, Sum.inr.injEq, true_and] at h
    obtain ⟨h1, h2⟩ := h
    rw [strs_toks h2, str_toks (a := x) (b := y) (by simp only [PySem.W.keyToks, h1])]
def gLt (a b : List Str) : Bool := PySem.W.dataLt (mkG a) (mkG b)
theorem gLt_total {a b : List Str} (h1 : gLt a b = false) (h2 : gLt b a = false) : a = b := by
  have := PyProof.Rows.lex_total _ _ h1 h2
  simp only [mkG, PySem.W.keyToks] at this
  exact strs_toks this
theorem le_total (k : List Str → D) : PySem.W.TotalLe (fun a b => !PySem.W.dataLt (k b) (k a)) := PySem.W.sortLe_total (PyProof.Rows.listOrd PyProof.Rows.itemOrd) false fun b => PySem.W.keyToks (k b)
theorem sortG_perm (ks : List (List Str)) : (sortG ks).Perm ks := List.mergeSort_perm ks _
theorem asc_pair {γ : Type} {k : γ → D} : ∀ {xs : List γ}, xs.Pairwise (fun a b => PySem.W.dataLt (k a) (k b) = true) → ascB (xs.map k) = true
  | [], _ => rfl
  | [_], _ => rfl
  | x :: y :: xs, h => by
    obtain ⟨h1, h2⟩ := List.pairwise_cons.mp h
    have ih := asc_pair h2
    unfold ascB at ih ⊢
    simp only [List.map_cons, List.tail_cons, List.zip_cons_cons, List.all_cons, Bool.and_eq_true] at ih ⊢
    exact ⟨h1 y List.mem_cons_self, ih⟩
theorem sortG_asc {ks : List (List Str)} (hn : ks.Nodup) : (sortG ks).Pairwise fun a b => gLt a b = true := by
  have h1 : (sortG ks).Pairwise fun a b => gLe a b = true := PySem.W.sort_pairwise (le_total mkG) ks
  have h2 : (sortG ks).Nodup := (sortG_perm ks).nodup_iff.mpr hn
  refine (List.pairwise_and_iff.mpr ⟨h1, h2⟩).imp fun {a b} h => ?_
  obtain ⟨h, hne⟩ := h
  cases hl : gLt a b with
  | true => rfl
  | false =>
    unfold gLe at h
    rw [Bool.not_eq_true'] at h
    exact absurd (gLt_total hl h) hne
def sortS (zs : List Str) : List Str := zs.mergeSort fun a b => !sLt b a
theorem sortD_S (zs : List Str) : sortD (zs.map PyData.str) = (sortS zs).map PyData.str := (PySem.W.sort_maps (r := fun a b : Str => !sLt b a) (s := fun a b : D => !PySem.W.dataLt b a) PyData.str (fun _ _ _ _ => rfl)).symm
theorem sortS_perm (zs : List Str) : (sortS zs).Perm zs := List.mergeSort_perm zs _
theorem sortS_asc {zs : List Str} (hn : zs.Nodup) : (sortS zs).Pairwise fun a b => sLt a b = true := by
  have tot : PySem.W.TotalLe (fun a b : Str => !sLt b a) := PySem.W.sortLe_total (PyProof.Rows.listOrd PyProof.Rows.itemOrd) false fun b : Str => PySem.W.keyToks (.str b)
  have h1 : (sortS zs).Pairwise fun a b => (!sLt b a) = true := PySem.W.sort_pairwise tot zs
  have h2 : (sortS zs).Nodup := (sortS_perm zs).nodup_iff.mpr hn
  refine (List.pairwise_and_iff.mpr ⟨h1, h2⟩).imp fun {a b} h => ?_
  obtain ⟨h, hne⟩ := h
  cases hl : sLt a b with
  | true => rfl
  | false =>
    rw [Bool.not_eq_true'] at h
    exact absurd (sLt_total hl h) hne
theorem srtOk_S (zs : List Str) : srtOk (zs.map PyData.str) = true := by
  simp only [srtOk, Bool.and_eq_true, decide_eq_true_eq, Bool.or_eq_true]
  refine ⟨plain_strs id zs, ?_, ?_, .inr ?_⟩
  · simp only [alkB, List.all_eq_true]
    intro x hx y hy
    obtain ⟨a, _, rfl⟩ := List.mem_map.mp hx
    obtain ⟨b, _, rfl⟩ := List.mem_map.mp hy
    rfl
  · refine depthAll_le _ fun y hy => ?_
    obtain ⟨g, _, rfl⟩ := List.mem_map.mp hy
    simp [PyData.depth]
  · rw [List.all_eq_true]
    intro y hy
    obtain ⟨g, hg, rfl⟩ := List.mem_map.mp hy
    rfl
theorem sorted_strs (zs : List Str) : sortedD [.list (zs.map PyData.str)] = some (.list ((sortS zs).map PyData.str)) := by
  show (if srtOk _ = true then some (sortD _) else none).map _ = _
  rw [if_pos (srtOk_S zs), sortD_S]
  rfl
/-! ### the groups that are kept -/
theorem under_self (g : List Str) : under g g = true := by
  rw [under, List.all_eq_true]
  intro z hz
  simpa using hz
theorem under_iff {g o : List Str} : under g o = true ↔ ∀ z ∈ g, z ∈ o := by
  rw [under, List.all_eq_true]
  constructor <;> (intro h z hz; have := h z hz; simpa using this)
def Up (gs : List (List Str)) : Prop := gs.Pairwise fun a b => under b a = false
theorem up_step {qs : List (Str × Int)} {most : Int} {st : List (List Str) × Int} {g : List Str} (h : Up st.1) : Up (gStep qs most st g).1 := by
  unfold gStep
  split
  · rename_i hc
    simp only [Bool.and_eq_true, Bool.not_eq_true'] at hc
    refine List.pairwise_append.mpr ⟨h, by simp, fun a ha b hb => ?_⟩
    rw [List.mem_singleton] at hb
    subst hb
    have := hc.1
    rw [List.any_eq_false] at this
    simpa using this a ha
  · exact h
theorem up_all {qs : List (Str × Int)} {most : Int} : ∀ (L : List (List Str)) (st : List (List Str) × Int), Up st.1 → Up (L.foldl (gStep qs most) st).1
  | [], _, h => h
  | g :: L, st, h => up_all L _ (up_step h)
theorem up_nodup {gs : List (List Str)} (h : Up gs) : gs.Nodup := h.imp fun {a b} h e => by
  subst e
  rw [under_self] at h
  cases h
theorem up_max {z : Str} : ∀ {gs : List (List Str)}, Up gs → (∃ g ∈ gs, z ∈ g) → ∃ g ∈ gs, z ∈ g ∧ ∀ o ∈ gs, o ≠ g → under g o = false
  | a :: gs, h, ⟨g, hg, hz⟩ => by
    obtain ⟨h1, h2⟩ := List.pairwise_cons.mp h
    by_cases hx : ∃ g ∈ gs, z ∈ g
    · obtain ⟨m, hm, hzm, hmax⟩ := up_max h2 hx
      refine ⟨m, List.mem_cons_of_mem _ hm, hzm, fun o ho hne => ?_⟩
      rcases List.mem_cons.mp ho with rfl | ho
      · exact h1 m hm
      · exact hmax o ho hne
    · have ha : g = a := by
        rcases List.mem_cons.mp hg with e | e
        · exact e
        · exact absurd ⟨g, e, hz⟩ hx
      subst ha
      refine ⟨g, List.mem_cons_self, hz, fun o ho hne => ?_⟩
      rcases List.mem_cons.mp ho with rfl | ho
      · exact absurd rfl hne
      · cases hu : under g o with
        | false => rfl
        | true => exact absurd ⟨o, ho, under_iff.mp hu z hz⟩ hx
theorem mem_kept {gs : List (List Str)} {g : List Str} : g ∈ keptOf gs ↔ g ∈ gs ∧ ∀ o ∈ gs, o ≠ g → under g o = false := by
  unfold keptOf
  rw [List.mem_filter]
  refine and_congr_right fun _ => ?_
  rw [Bool.not_eq_true', List.any_eq_false]
  refine forall_congr' fun o => forall_congr' fun _ => ?_
  rw [Bool.and_eq_true, Bool.not_eq_true', beq_eq_false_iff_ne]
  constructor
  · intro h hne
    cases hu : under g o with
    | false => rfl
    | true => exact absurd ⟨hne, hu⟩ h
  · rintro h ⟨hne, hu⟩
    rw [h hne] at hu
    cases hu
theorem cover_step {qs : List (Str × Int)} {most : Int} {z : Str} : ∀ (L : List (List Str)) (st : List (List Str) × Int), ([z] ∈ L ∨ ∃ g ∈ st.1, z ∈ g) → ∃ g ∈ (L.foldl (gStep qs most) st).1, z ∈ g
  | [], st, h => by
    rcases h with h | h
    · cases h
    · exact h
  | g :: L, st, h => by
    refine cover_step L _ ?_
    rcases h with h | ⟨o, ho, hz⟩
    · rcases List.mem_cons.mp h with e | h
      · right
        subst e
        unfold gStep
        split
        · exact ⟨[z], by simp, by simp⟩
        · rename_i hc
          cases ha : st.1.any (under [z]) with
          | true =>
            rw [List.any_eq_true] at ha
            obtain ⟨o, ho, hu⟩ := ha
            exact ⟨o, ho, under_iff.mp hu z (by simp)⟩
          | false =>
            rw [ha] at hc
            simp at hc
      · exact .inl h
    · right
      unfold gStep
      split
      · exact ⟨o, List.mem_append_left _ ho, hz⟩
      · exact ⟨o, ho, hz⟩
/-! ### how many cells -/
theorem prod_toNat : ∀ cs : List Int, (∀ c ∈ cs, 0 ≤ c) → (((cs.map Int.toNat).prod : Nat) : Int) = cs.prod
  | [], _ => rfl
  | c :: cs, h => by
    have h1 := h c List.mem_cons_self
    rw [List.map_cons, List.prod_cons, List.prod_cons, Int.natCast_mul, prod_toNat cs (fun d hd => h d (List.mem_cons_of_mem _ hd)), Int.toNat_of_nonneg h1]
theorem rows_cells {qs : List (Str × Int)} {g : List Str} (h : ∀ z ∈ g, 0 ≤ cnt qs z) : (((rowsOf (g.map (cnt qs)) [[]]).length : Nat) : Int) = cells qs g := by
  rw [rowsOf_len]
  simp only [List.length_cons, List.length_nil, Nat.zero_add, Nat.one_mul]
  rw [prod_toNat _ (fun c hc => by
    obtain ⟨z, hz, rfl⟩ := List.mem_map.mp hc
    exact h z hz)]
  rfl
def nu (names : List Str) (gs : List (List Str)) : Nat := names.countP fun y => !gs.contains [y]
theorem nu_le (names : List Str) (gs : List (List Str)) : nu names gs ≤ names.length := List.countP_le_length
theorem nu_mono (names : List Str) (gs : List (List Str)) (g : List Str) : nu names (gs ++ [g]) ≤ nu names gs := by
  refine List.countP_mono_left fun y _ h => ?_
  simp only [Bool.not_eq_true', List.contains_eq_mem, decide_eq_false_iff_not] at h ⊢
  exact fun hh => h (List.mem_append_left _ hh)
theorem nu_single {z : Str} {gs : List (List Str)} (hg : [z] ∉ gs) : ∀ {names : List Str}, z ∈ names → names.Nodup → nu names (gs ++ [[z]]) + 1 ≤ nu names gs
  | y :: names, hz, hn => by
    obtain ⟨n1, n2⟩ := List.nodup_cons.mp hn
    unfold nu
    rw [List.countP_cons, List.countP_cons]
    rcases List.mem_cons.mp hz with rfl | hz
    · have e1 : (!(gs ++ [[z]]).contains [z]) = false := by simp
      have e2 : (!gs.contains [z]) = true := by simpa using hg
      rw [e1, e2]
      have := nu_mono names gs [z]
      unfold nu at this
      simp only [Bool.false_eq_true, reduceIte]
      omega
    · have ih := nu_single hg hz n2
      unfold nu at ih
      have : (if (!(gs ++ [[z]]).contains [y]) = true then 1 else 0) ≤ (if (!gs.contains [y]) = true then 1 else 0) := by
        have hm : (!(gs ++ [[z]]).contains [y]) = true → (!gs.contains [y]) = true := fun h => by
          simp only [Bool.not_eq_true', List.contains_eq_mem, decide_eq_false_iff_not] at h ⊢
          exact fun hh => h (List.mem_append_left _ hh)
        split
        · rename_i h
          rw [if_pos (hm h)]
          exact Nat.le_refl _
        · exact Nat.zero_le _
      omega
def Bal (qs : List (Str × Int)) (most : Int) (st : List (List Str) × Int) : Prop := st.2 = (st.1.map (cells qs)).sum ∧ st.2 + 3 * (nu (qs.map (·.1)) st.1 : Int) ≤ most
theorem cnt_mem {qs : List (Str × Int)} {z : Str} (h : z ∈ qs.map (·.1)) : ∃ q ∈ qs, cnt qs z = q.2 := by
  unfold cnt
  cases hf : qs.find? fun q => q.1 == z with
  | none =>
    obtain ⟨q, hq1, rfl⟩ := List.mem_map.mp h
    rw [List.find?_eq_none] at hf
    exact absurd (beq_self_eq_true q.1) (hf q hq1)
  | some p => exact ⟨p, List.mem_of_find?_eq_some hf, rfl⟩
theorem sum_append1 (xs : List Int) (x : Int) : (xs ++ [x]).sum = xs.sum + x := by simp
theorem bal_step {qs : List (Str × Int)} {most : Int} (hd : (qs.map (·.1)).Nodup) (hq : ∀ q ∈ qs, 2 ≤ q.2 ∧ q.2 ≤ 3) {st : List (List Str) × Int} {g : List Str} (hg : ∀ z ∈ g, z ∈ qs.map (·.1)) (h : Bal qs most st) : Bal qs most (gStep qs most st g) := by
  have hc : ∀ z ∈ g, 0 ≤ cnt qs z := fun z hz => by
    obtain ⟨q, hq1, e⟩ := cnt_mem (hg z hz)
    have := hq q hq1
    omega
  have hr := rows_cells hc
  obtain ⟨h1, h2⟩ := h
  unfold gStep
  rw [hr]
  split
  · rename_i hcond
    simp only [Bool.and_eq_true, Bool.not_eq_true', Bool.or_eq_true, decide_eq_true_eq] at hcond
    obtain ⟨c1, c2⟩ := hcond
    refine ⟨?_, ?_⟩
    · show st.2 + cells qs g = _
      rw [List.map_append, List.map_cons, List.map_nil, sum_append1, h1]
    · show st.2 + cells qs g + 3 * (nu (qs.map (·.1)) (st.1 ++ [g]) : Int) ≤ most
      rcases c2 with c2 | c2
      · match g, c2 with
        | [z], _ =>
          have hz : z ∈ qs.map (·.1) := hg z (by simp)
          have hn : [z] ∉ st.1 := fun hh => by
            rw [List.any_eq_false] at c1
            exact c1 [z] hh (under_self [z])
          have := nu_single hn hz hd
          obtain ⟨q, hq1, e⟩ := cnt_mem hz
          have h3 := hq q hq1
          have e2 : cells qs [z] = cnt qs z := by simp [cells]
          rw [e2, e]
          omega
      · have := nu_le (qs.map (·.1)) (st.1 ++ [g])
        rw [List.length_map] at this
        omega
  · exact ⟨h1, h2⟩
theorem bal_all {qs : List (Str × Int)} {most : Int} (hd : (qs.map (·.1)).Nodup) (hq : ∀ q ∈ qs, 2 ≤ q.2 ∧ q.2 ≤ 3) : ∀ (L : List (List Str)) (st : List (List Str) × Int), (∀ g ∈ L, ∀ z ∈ g, z ∈ qs.map (·.1)) → Bal qs most st → Bal qs most (L.foldl (gStep qs most) st)
  | [], _, _, h => h
  | g :: L, st, hL, h => bal_all hd hq L _ (fun g hg => hL g (List.mem_cons_of_mem _ hg)) (bal_step hd hq (hL g List.mem_cons_self) h)
theorem cells_nonneg {qs : List (Str × Int)} (hq : ∀ q ∈ qs, 2 ≤ q.2 ∧ q.2 ≤ 3) {g : List Str} (hg : ∀ z ∈ g, z ∈ qs.map (·.1)) : 0 ≤ cells qs g := by
  rw [← rows_cells fun z hz => ?_]
  · omega
  · obtain ⟨q, hq1, e⟩ := cnt_mem (hg z hz)
    have := hq q hq1
    omega
theorem sum_filter {qs : List (Str × Int)} {p : List Str → Bool} : ∀ {gs : List (List Str)}, (∀ g ∈ gs, 0 ≤ cells qs g) → ((gs.filter p).map (cells qs)).sum ≤ (gs.map (cells qs)).sum
  | [], _ => by simp
  | g :: gs, h => by
    have ih := sum_filter (p := p) (gs := gs) fun g hg => h g (List.mem_cons_of_mem _ hg)
    have h1 := h g List.mem_cons_self
    rw [List.filter_cons]
    split
    · rw [List.map_cons, List.map_cons, List.sum_cons, List.sum_cons]
      omega
    · rw [List.map_cons, List.sum_cons]
      omega
theorem sum_perm {xs ys : List Int} (h : xs.Perm ys) : xs.sum = ys.sum := by
  induction h with
  | nil => rfl
  | cons x _ ih => rw [List.sum_cons, List.sum_cons, ih]
  | swap x y l => simp only [List.sum_cons]; omega
  | trans _ _ h1 h2 => exact h1.trans h2
/-! ### a valid scenario -/
structure VS (qs : List (Str × Int)) (gs : List (List Str)) : Prop where
  q1 : 1 ≤ qs.length
  q5 : qs.length ≤ 5
  qn : ∀ q ∈ qs, nmOk q.1 = true ∧ 2 ≤ q.2 ∧ q.2 ≤ 3
  qa : (qs.map (·.1)).Pairwise fun a b => sLt a b = true
  qp : (qs.map (·.2)).prod ≤ 32
  g1 : 1 ≤ gs.length
  g10 : gs.length ≤ 10
  gn : ∀ g ∈ gs, g ≠ [] ∧ (∀ z ∈ g, z ∈ qs.map (·.1)) ∧ g.Pairwise fun a b => sLt a b = true
  ga : gs.Pairwise fun a b => gLt a b = true
  anti : ∀ g ∈ gs, ∀ o ∈ gs, o ≠ g → under g o = false
  cov : ∀ z ∈ qs.map (·.1), ∃ g ∈ gs, z ∈ g
  sum : (gs.map (cells qs)).sum ≤ 40
def mkS (qs : List (Str × Int)) (gs : List (List Str)) : D := .tuple [.tuple (qs.map mkQ), .tuple (gs.map mkG)]
theorem gOf_mkG (g : List Str) : gOf (mkG g) = g := by
  show (g.map PyData.str).map strOf = g
  rw [List.map_map]
  exact List.map_id' g
theorem sl_ne {gs : List (List Str)} (hn : gs.Nodup) {g o : List Str} {i : Nat} (hg : gs[i]? = some g) (ho : o ∈ gs.take i ++ gs.drop (i + 1)) : o ∈ gs ∧ o ≠ g := by
  have hi := (List.getElem?_eq_some_iff.mp hg).1
  have e : gs = gs.take i ++ g :: gs.drop (i + 1) := by
    have h1 := List.take_append_drop i gs
    rw [List.drop_eq_getElem_cons hi, (List.getElem?_eq_some_iff.mp hg).2] at h1
    exact h1.symm
  constructor
  · rcases List.mem_append.mp ho with h | h
    · exact List.mem_of_mem_take h
    · exact List.mem_of_mem_drop h
  · rintro rfl
    rw [e] at hn
    obtain ⟨_, n2, n3⟩ := List.nodup_append.mp hn
    rcases List.mem_append.mp ho with h | h
    · exact n3 o h o List.mem_cons_self rfl
    · exact (List.nodup_cons.mp n2).1 h
theorem VS.scn {qs : List (Str × Int)} {gs : List (List Str)} (h : VS qs gs) : isScn (mkS qs gs) = true := by
  have eq1 : qsOf (qs.map mkQ) = qs := by
    rw [qsOf, List.map_map]
    exact List.map_id' qs
  have eg : (gs.map mkG).map gOf = gs := by
    rw [List.map_map]
    exact (List.map_congr_left fun g _ => gOf_mkG g).trans (List.map_id' gs)
  have hn : gs.Nodup := h.ga.imp fun {a b} h e => by
    subst e
    unfold gLt at h
    rw [PySem.W.dataLt, PyProof.Rows.lex_irrefl] at h
    cases h
  have a1 : areQ (.tuple (qs.map mkQ)) = true := by
    simp only [areQ, Bool.and_eq_true, decide_eq_true_eq, List.length_map]
    refine ⟨⟨h.q1, h.q5⟩, ?_, ?_, ?_⟩
    · rw [List.all_eq_true]
      intro x hx
      obtain ⟨q, hq, rfl⟩ := List.mem_map.mp hx
      obtain ⟨h1, h2, h3⟩ := h.qn q hq
      simp [isQ, mkQ, isNm, h1, h2, h3]
    · rw [List.map_map]
      have := asc_pair (k := PyData.str) h.qa
      rw [List.map_map] at this
      exact this
    · rw [List.map_map]
      exact h.qp
  have a2 : isGs qs (.tuple (gs.map mkG)) = true := by
    simp only [isGs, Bool.and_eq_true, decide_eq_true_eq, List.length_map, eg]
    refine ⟨⟨h.g1, h.g10⟩, ⟨?_, asc_pair (k := mkG) h.ga⟩, ?_, ?_, h.sum⟩
    · rw [List.all_eq_true]
      intro x hx
      obtain ⟨g, hg, rfl⟩ := List.mem_map.mp hx
      obtain ⟨h1, h2, h3⟩ := h.gn g hg
      show (!(g.map PyData.str).isEmpty && ((g.map PyData.str).all isStrD && (ascB (g.map PyData.str) && (g.map PyData.str).all fun y => (qs.map (·.1)).contains (strOf y)))) = true
      simp only [Bool.and_eq_true, List.all_eq_true]
      refine ⟨?_, fun y hy => ?_, asc_pair (k := PyData.str) h3, fun y hy => ?_⟩
      · cases g with
        | nil => exact absurd rfl h1
        | cons _ _ => rfl
      · obtain ⟨z, _, rfl⟩ := List.mem_map.mp hy
        rfl
      · obtain ⟨z, hz, rfl⟩ := List.mem_map.mp hy
        have := h2 z hz
        simpa [strOf] using this
    · unfold antiB
      rw [List.all_eq_true]
      rintro ⟨g, i⟩ hp
      rw [Bool.not_eq_true', List.any_eq_false]
      intro o ho
      have hg : gs[i]? = some g := by
        have := List.mem_zipIdx_iff_getElem?.mp hp
        simpa using this
      obtain ⟨h1, h2⟩ := sl_ne hn hg ho
      have := h.anti g (List.mem_of_getElem? hg) o h1 h2
      unfold under at this
      rw [this]
      decide
    · unfold coverB
      rw [List.all_eq_true]
      intro z hz
      obtain ⟨g, hg, hzg⟩ := h.cov z hz
      rw [List.any_eq_true]
      exact ⟨g, hg, by simpa using hzg⟩
  show (areQ (.tuple (qs.map mkQ)) && isGs (qsOf (qs.map mkQ)) (.tuple (gs.map mkG))) = true
  rw [a1, eq1, a2]
  rfl
end PP

namespace PP
open PySem PySem.Spec
/-- the questions -/
structure QS (qs : List (Str × Int)) : Prop where
  q1 : 1 ≤ qs.length
  q5 : qs.length ≤ 5
  qn : ∀ q ∈ qs, nmOk q.1 = true ∧ 2 ≤ q.2 ∧ q.2 ≤ 3
  qa : (qs.map (·.1)).Pairwise fun a b => sLt a b = true
  qp : (qs.map (·.2)).prod ≤ 32
theorem asc_nd {zs : List Str} (h : zs.Pairwise fun a b => sLt a b = true) : zs.Nodup := h.imp fun {a b} h e => by
  subst e
  rw [sLt_irrefl] at h
  cases h
theorem QS.nd {qs : List (Str × Int)} (h : QS qs) : (qs.map (·.1)).Nodup := asc_nd h.qa
def DG (qs : List (Str × Int)) (g : List Str) : Prop := g ≠ [] ∧ (∀ z ∈ g, z ∈ qs.map (·.1)) ∧ g.Pairwise fun a b => sLt a b = true
theorem vs_groups {qs : List (Str × Int)} {drawn : List (List Str)} (h : QS qs) (hd : ∀ g ∈ drawn, DG qs g) (hl : drawn.length ≤ 5) : VS qs (sortG (keptOf (gAll qs 34 drawn).1)) := by
  have hq23 : ∀ q ∈ qs, 2 ≤ q.2 ∧ q.2 ≤ 3 := fun q hq => (h.qn q hq).2
  have hL : ∀ g ∈ drawn ++ (qs.map (·.1)).map fun z => [z], DG qs g := by
    intro g hg
    rcases List.mem_append.mp hg with hg | hg
    · exact hd g hg
    · obtain ⟨z, hz, rfl⟩ := List.mem_map.mp hg
      refine ⟨by simp, fun y hy => ?_, by simp⟩
      rw [List.mem_singleton] at hy
      subst hy
      exact hz
  have hsub : ∀ (L : List (List Str)) (st : List (List Str) × Int), (∀ g ∈ (L.foldl (gStep qs 34) st).1, g ∈ st.1 ∨ g ∈ L) ∧ (L.foldl (gStep qs 34) st).1.length ≤ st.1.length + L.length := by
    intro L
    induction L with
    | nil => exact fun st => ⟨fun g h => .inl h, by simp⟩
    | cons g L ih =>
      intro st
      obtain ⟨i1, i2⟩ := ih (gStep qs 34 st g)
      have hle := gStep_len qs 34 st g
      refine ⟨fun y hy => ?_, ?_⟩
      · rcases i1 y hy with h | h
        · unfold gStep at h
          split at h
          · rcases List.mem_append.mp h with h | h
            · exact .inl h
            · rw [List.mem_singleton] at h
              exact .inr (by rw [h]; exact List.mem_cons_self)
          · exact .inl h
        · exact .inr (List.mem_cons_of_mem _ h)
      · rw [List.foldl_cons, List.length_cons]
        omega
  obtain ⟨hs1, hs2⟩ := hsub (drawn ++ (qs.map (·.1)).map fun z => [z]) ([], 0)
  have hg : ∀ g ∈ (gAll qs 34 drawn).1, DG qs g := fun g hg => by
    rcases hs1 g hg with h | h
    · cases h
    · exact hL g h
  have hup : Up (gAll qs 34 drawn).1 := up_all _ _ List.Pairwise.nil
  have hbal : Bal qs 34 (gAll qs 34 drawn) := bal_all h.nd hq23 _ _ (fun g hg => (hL g hg).2.1) ⟨by simp, by
    have := nu_le (qs.map (·.1)) []
    rw [List.length_map] at this
    have := h.q5
    show (0 : Int) + 3 * (nu (qs.map (·.1)) [] : Int) ≤ 34
    omega⟩
  have hcov : ∀ z ∈ qs.map (·.1), ∃ g ∈ (gAll qs 34 drawn).1, z ∈ g := fun z hz => cover_step _ _ (.inl (List.mem_append_right _ (List.mem_map.mpr ⟨z, hz, rfl⟩)))
  generalize hgs : (gAll qs 34 drawn).1 = gs at *
  have hglen : gs.length ≤ 10 := by
    have e : gs.length ≤ ([] : List (List Str)).length + (drawn ++ (qs.map (·.1)).map fun z => [z]).length := by
      rw [← hgs]
      exact hs2
    simp only [List.length_nil, List.length_append, List.length_map] at e
    have := h.q5
    omega
  have hp := sortG_perm (keptOf gs)
  have hmem : ∀ g, g ∈ sortG (keptOf gs) ↔ g ∈ keptOf gs := fun g => hp.mem_iff
  have hkn : (keptOf gs).Nodup := (up_nodup hup).sublist List.filter_sublist
  have hcov2 : ∀ z ∈ qs.map (·.1), ∃ g ∈ sortG (keptOf gs), z ∈ g := fun z hz => by
    obtain ⟨g, hg1, hg2, hg3⟩ := up_max hup (hcov z hz)
    exact ⟨g, (hmem g).mpr (mem_kept.mpr ⟨hg1, hg3⟩), hg2⟩
  refine ⟨h.q1, h.q5, h.qn, h.qa, h.qp, ?_, ?_, fun g hg' => ?_, sortG_asc hkn, fun g hg' o ho hne => ?_, hcov2, ?_⟩
  · have hne : qs.map (·.1) ≠ [] := fun e => by
      have := congrArg List.length e
      rw [List.length_map, List.length_nil] at this
      have := h.q1
      omega
    obtain ⟨z, hz⟩ := List.exists_mem_of_ne_nil _ hne
    obtain ⟨g, hg', _⟩ := hcov2 z hz
    exact List.length_pos_of_mem hg'
  · rw [hp.length_eq]
    exact Nat.le_trans (List.length_filter_le _ _) hglen
  · exact hg g (mem_kept.mp ((hmem g).mp hg')).1
  · exact (mem_kept.mp ((hmem g).mp hg')).2 o (mem_kept.mp ((hmem o).mp ho)).1 hne
  · rw [sum_perm (hp.map (cells qs))]
    refine Int.le_trans (sum_filter fun g hg' => cells_nonneg hq23 (hg g hg').2.1) ?_
    obtain ⟨b1, b2⟩ := hbal
    rw [hgs] at b1 b2
    rw [← b1]
    omega
end PP

namespace PP
open PySem PySem.Spec
/-! ### _law_scenario -/
theorem perm_strs {ys : List D} {zs : List Str} (h : ys.Perm (zs.map PyData.str)) : ∃ ws : List Str, ys = ws.map PyData.str ∧ ws.Perm zs := by
  refine ⟨ys.map strOf, ?_, ?_⟩
  · refine strs_of ?_
    rw [List.all_eq_true]
    intro y hy
    obtain ⟨z, _, rfl⟩ := List.mem_map.mp (h.mem_iff.mp hy)
    rfl
  · have := h.map strOf
    rw [List.map_map] at this
    exact this.trans (by rw [show strOf ∘ PyData.str = fun z => z from rfl, List.map_id'])
theorem sl_list_upto (xs : List D) {i : Int} (h : 0 ≤ i) : slD (.list xs) none (some i) = some (.list (xs.take i.toNat)) := by
  have := cut_upto xs i.toNat
  rw [Int.toNat_of_nonneg h] at this
  rw [slD, this]
/-- one question more -/
theorem q_loop {ns : List Int} (hn : ns.length ≤ 63) {most cap : Int} (hc : 3 ≤ cap ∧ cap ≤ 32) {a4 : Option Tv} : ∀ (L : List Str) (qs : List (Str × Int)) (size : Int) (zs : List D) (b : Nat) (o7 o10 : Option Tv), dat o7 = true → dat o10 = true → Sok b zs → b + 2 * L.length ≤ 1000000 → qs.length + L.length ≤ 1000 →
    (size = (qs.map (·.2)).prod ∧ 1 ≤ size ∧ size ≤ cap ∧ ∀ q ∈ qs, 2 ≤ q.2 ∧ q.2 ≤ 3) →
    ∃ (rs : List (Str × Int)) (size' : Int) (zs' : List D) (p7 p10 : Option Tv), Sok (b + 2 * L.length) zs' ∧ (rs.map (·.1)).Sublist L ∧ (qs = [] → L ≠ [] → rs ≠ []) ∧ (size' = ((qs ++ rs).map (·.2)).prod ∧ 1 ≤ size' ∧ size' ≤ cap ∧ ∀ q ∈ qs ++ rs, 2 ≤ q.2 ∧ q.2 ≤ 3) ∧ dat p7 = true ∧
      loop (bName 7) (sSeq (sAsg (bName 10) (eCB 1 1 b__law_pick 1 (aCons (eLst (aCons (eC (.int 2)) (aCons (eC (.int 2)) (aCons (eC (.int 2)) (aCons (eC (.int 3)) (nilA)))))) (nilA)) [] [eVar 0])) (sSeq (sIf (tst (ap2 gtD (ap2 mulD (eVar 6) (eVar 10)) (eVar 3))) (sAsg (bName 10) (eC (.int 2))) ((fun g => .ok .nx g))) (sIf (tst (ap2 leD (ap2 mulD (eVar 6) (eVar 10)) (eVar 3))) (sSeq (sDrop (eApp 5 (eTup (aCons (eVar 7) (aCons (eVar 10) (nilA)))))) (sAsg (bName 6) (ap2 mulD (eVar 6) (eVar 10)))) ((fun g => .ok .nx g))))) (L.map PyData.str)
        [some (.d (scr ns)), some (.ml true zs), some (.d (.int most)), some (.d (.int cap)), a4, some (.ml false (qs.map mkQ)), some (.d (.int size)), o7, none, none, o10, none] =
      .ok .nx [some (.d (scr ns)), some (.ml true zs'), some (.d (.int most)), some (.d (.int cap)), a4, some (.ml false ((qs ++ rs).map mkQ)), some (.d (.int size')), p7, none, none, p10, none]
  | [], qs, size, zs, b, o7, o10, h7, h10, hs, _, _, hq => ⟨[], size, zs, o7, o10, hs, by simp, fun _ h => absurd rfl h, by simpa using hq, h7, by rw [List.append_nil]; rfl⟩
  | z :: L, qs, size, zs, b, o7, o10, h7, h10, hs, hb, hl, hq => by
    have hz := sizeLine_big
    rw [List.length_cons] at hb hl
    obtain ⟨y, zs1, hy, hs1, ep⟩ := s_pick (ns := ns) (xs := [.int 2, .int 2, .int 2, .int 3]) hs (by omega) hn (by simp)
    obtain ⟨hq1, hq2, hq3, hq4⟩ := hq
    have hy' : ∃ c : Int, y = .int c ∧ (c = 2 ∨ c = 3) := by
      simp only [List.mem_cons, List.not_mem_nil, or_false] at hy
      rcases hy with rfl | rfl | rfl | rfl
      · exact ⟨2, rfl, .inl rfl⟩
      · exact ⟨2, rfl, .inl rfl⟩
      · exact ⟨2, rfl, .inl rfl⟩
      · exact ⟨3, rfl, .inr rfl⟩
    obtain ⟨c, rfl, hc23⟩ := hy'
    have f10 : ∀ (a b c d e f h i j k : Option Tv) (r : Ga), freeAt (a :: b :: c :: d :: e :: f :: h :: i :: j :: k :: o10 :: r) 10 = true := fun _ _ _ _ _ _ _ _ _ _ _ => freeAt_dat (o := o10) rfl h10
    have ss : small size := ⟨by show -(2 ^ 64) < size; omega, by show size < 2 ^ 64; omega⟩
    have fa : ∀ c : Int, fApp (qs.map mkQ) (.tuple [.str z, .int c]) = some (.none, (qs ++ [(z, c)]).map mkQ) := fun c => by
      rw [fApp_ok (by rw [List.length_map]; omega), List.map_append]
      rfl
    rw [List.map_cons, loop_cons, bName_dat (o := o7) rfl h7]
    simp only [List.set_cons_zero, List.set_cons_succ]
    simp only [bind_ok, bind_exc, bnd_app, lift_some, eC_app, eVar_0, eVar_1, eVar_2, eVar_3, eVar_4, eVar_5, eVar_6, eVar_7, eVar_8, eVar_9, eVar_10, ap1_app, ap2_app, apA_app, aCons_app, nilA_app, tru_app, tst_app, asB_bool, truD_bool, truD_list, truD_tuple, mNot_app, mAnd_app, mOr_app, eNot_app, eAnd_app, eOr_app, andK_b, orK_b, eIf_app, eTup_app, eLst_app, lLst_app, frzL_app, eList_app, eSl_app, pN_app, pS_app, partD_int, chn_b, eChain_app, seq_nx, seq_ret, seq_brk, seq_cnt, seq_exc, sSeq_app, sRet_app, sDrop_app, sIf_app, sRaise_app, sAsg_name, sSetL_app, rxM_ok, rxM_exc, eCall_app, outP_ret, outP_nx, outP_exc, Option.map_some, len0, len1, len2, len3, len4, len5, len6, len7, len8, eq_self, sz0, sz1, sz2, sz3, sz4, sz5, sz6, sz7, sz8, sz9, sz10, sz11, freeAt_s, freeAt_n, freeAt_d, freeAt_m, sFrz_app, frzK_ml, List.getElem?_cons_zero, List.getElem?_cons_succ, List.set_cons_zero, List.set_cons_succ, sAsg_tup, asgK_some, bTup_app, bAll_nil, bAll_cons, bName_app, Option.bind_some, isMl_s, isMl_m, resK_some, onK_ml, eApp_app, ePop_app, eIdxV_app, eLenV_app, tTruV_app, sSetI_app, onL_app, fLen_ok, fTru_ok, rbK_ok, cbK_ml, eCB_cons, eCB_nil, List.nil_append, List.cons_append, outK_some, outR_ret, outR_nx, outB_s, outB_m, mConsD_app, mConsL_app, sPar_app, setAll_nil, setAll_cons, true_and, and_true, and_self, Bool.not_true, Bool.not_false, Bool.false_eq_true, reduceIte, ep, f10, mul_ok ss, gt_int, app_ite, bind_ite, seq_ite]
    -- the count that is taken
    have key : ∀ c' : Int, 2 ≤ c' ∧ c' ≤ 3 → ∀ (m : Rs Fl) , True := fun _ _ _ => trivial
    by_cases hgt : cap < size * c
    · simp only [hgt, decide_true, bind_ok, bind_exc, bnd_app, lift_some, eC_app, eVar_0, eVar_1, eVar_2, eVar_3, eVar_4, eVar_5, eVar_6, eVar_7, eVar_8, eVar_9, eVar_10, ap1_app, ap2_app, apA_app, aCons_app, nilA_app, tru_app, tst_app, asB_bool, truD_bool, truD_list, truD_tuple, mNot_app, mAnd_app, mOr_app, eNot_app, eAnd_app, eOr_app, andK_b, orK_b, eIf_app, eTup_app, eLst_app, lLst_app, frzL_app, eList_app, eSl_app, pN_app, pS_app, partD_int, chn_b, eChain_app, seq_nx, seq_ret, seq_brk, seq_cnt, seq_exc, sSeq_app, sRet_app, sDrop_app, sIf_app, sRaise_app, sAsg_name, sSetL_app, rxM_ok, rxM_exc, eCall_app, outP_ret, outP_nx, outP_exc, Option.map_some, len0, len1, len2, len3, len4, len5, len6, len7, len8, eq_self, sz0, sz1, sz2, sz3, sz4, sz5, sz6, sz7, sz8, sz9, sz10, sz11, freeAt_s, freeAt_n, freeAt_d, freeAt_m, sFrz_app, frzK_ml, List.getElem?_cons_zero, List.getElem?_cons_succ, List.set_cons_zero, List.set_cons_succ, sAsg_tup, asgK_some, bTup_app, bAll_nil, bAll_cons, bName_app, Option.bind_some, isMl_s, isMl_m, resK_some, onK_ml, eApp_app, ePop_app, eIdxV_app, eLenV_app, tTruV_app, sSetI_app, onL_app, fLen_ok, fTru_ok, rbK_ok, cbK_ml, eCB_cons, eCB_nil, List.nil_append, List.cons_append, outK_some, outR_ret, outR_nx, outB_s, outB_m, mConsD_app, mConsL_app, sPar_app, setAll_nil, setAll_cons, true_and, and_true, and_self, Bool.not_true, Bool.not_false, Bool.false_eq_true, reduceIte, mul_ok ss, le_int]
      by_cases hle : size * 2 ≤ cap
      · simp only [hle, decide_true, bind_ok, bind_exc, bnd_app, lift_some, eC_app, eVar_0, eVar_1, eVar_2, eVar_3, eVar_4, eVar_5, eVar_6, eVar_7, eVar_8, eVar_9, eVar_10, ap1_app, ap2_app, apA_app, aCons_app, nilA_app, tru_app, tst_app, asB_bool, truD_bool, truD_list, truD_tuple, mNot_app, mAnd_app, mOr_app, eNot_app, eAnd_app, eOr_app, andK_b, orK_b, eIf_app, eTup_app, eLst_app, lLst_app, frzL_app, eList_app, eSl_app, pN_app, pS_app, partD_int, chn_b, eChain_app, seq_nx, seq_ret, seq_brk, seq_cnt, seq_exc, sSeq_app, sRet_app, sDrop_app, sIf_app, sRaise_app, sAsg_name, sSetL_app, rxM_ok, rxM_exc, eCall_app, outP_ret, outP_nx, outP_exc, Option.map_some, len0, len1, len2, len3, len4, len5, len6, len7, len8, eq_self, sz0, sz1, sz2, sz3, sz4, sz5, sz6, sz7, sz8, sz9, sz10, sz11, freeAt_s, freeAt_n, freeAt_d, freeAt_m, sFrz_app, frzK_ml, List.getElem?_cons_zero, List.getElem?_cons_succ, List.set_cons_zero, List.set_cons_succ, sAsg_tup, asgK_some, bTup_app, bAll_nil, bAll_cons, bName_app, Option.bind_some, isMl_s, isMl_m, resK_some, onK_ml, eApp_app, ePop_app, eIdxV_app, eLenV_app, tTruV_app, sSetI_app, onL_app, fLen_ok, fTru_ok, rbK_ok, cbK_ml, eCB_cons, eCB_nil, List.nil_append, List.cons_append, outK_some, outR_ret, outR_nx, outB_s, outB_m, mConsD_app, mConsL_app, sPar_app, setAll_nil, setAll_cons, true_and, and_true, and_self, Bool.not_true, Bool.not_false, Bool.false_eq_true, reduceIte, fa, mul_ok ss]
        obtain ⟨rs, size', zs', p7, p10, i1, i2, i3, i4, i5, i6⟩ := q_loop hn hc (a4 := a4) (most := most) L (qs ++ [(z, 2)]) (size * 2) zs1 (b + 2) (some (.d (.str z))) (some (.d (.int 2))) rfl rfl hs1 (by omega) (by rw [List.length_append, List.length_cons, List.length_nil]; omega) ⟨by rw [List.map_append, List.prod_append, hq1]; simp, by omega, hle, fun q hqm => by
          rcases List.mem_append.mp hqm with h | h
          · exact hq4 q h
          · rw [List.mem_singleton] at h
            subst h
            exact ⟨by show (2 : Int) ≤ 2; omega, by show (2 : Int) ≤ 3; omega⟩⟩
        refine ⟨(z, 2) :: rs, size', zs', p7, p10, i1.mono (by rw [List.length_cons]; omega), by rw [List.map_cons]; exact i2.cons_cons z, fun _ _ => by simp, by rw [List.append_assoc] at i4; exact i4, i5, ?_⟩
        rw [i6, List.append_assoc]
        rfl
      · simp only [hle, decide_false, bind_ok, bind_exc, bnd_app, lift_some, eC_app, eVar_0, eVar_1, eVar_2, eVar_3, eVar_4, eVar_5, eVar_6, eVar_7, eVar_8, eVar_9, eVar_10, ap1_app, ap2_app, apA_app, aCons_app, nilA_app, tru_app, tst_app, asB_bool, truD_bool, truD_list, truD_tuple, mNot_app, mAnd_app, mOr_app, eNot_app, eAnd_app, eOr_app, andK_b, orK_b, eIf_app, eTup_app, eLst_app, lLst_app, frzL_app, eList_app, eSl_app, pN_app, pS_app, partD_int, chn_b, eChain_app, seq_nx, seq_ret, seq_brk, seq_cnt, seq_exc, sSeq_app, sRet_app, sDrop_app, sIf_app, sRaise_app, sAsg_name, sSetL_app, rxM_ok, rxM_exc, eCall_app, outP_ret, outP_nx, outP_exc, Option.map_some, len0, len1, len2, len3, len4, len5, len6, len7, len8, eq_self, sz0, sz1, sz2, sz3, sz4, sz5, sz6, sz7, sz8, sz9, sz10, sz11, freeAt_s, freeAt_n, freeAt_d, freeAt_m, sFrz_app, frzK_ml, List.getElem?_cons_zero, List.getElem?_cons_succ, List.set_cons_zero, List.set_cons_succ, sAsg_tup, asgK_some, bTup_app, bAll_nil, bAll_cons, bName_app, Option.bind_some, isMl_s, isMl_m, resK_some, onK_ml, eApp_app, ePop_app, eIdxV_app, eLenV_app, tTruV_app, sSetI_app, onL_app, fLen_ok, fTru_ok, rbK_ok, cbK_ml, eCB_cons, eCB_nil, List.nil_append, List.cons_append, outK_some, outR_ret, outR_nx, outB_s, outB_m, mConsD_app, mConsL_app, sPar_app, setAll_nil, setAll_cons, true_and, and_true, and_self, Bool.not_true, Bool.not_false, Bool.false_eq_true, reduceIte]
        have hqs : qs ≠ [] := fun e => by
          subst e
          simp at hq1
          omega
        obtain ⟨rs, size', zs', p7, p10, i1, i2, i3, i4, i5, i6⟩ := q_loop hn hc (a4 := a4) (most := most) L qs size zs1 (b + 2) (some (.d (.str z))) (some (.d (.int 2))) rfl rfl hs1 (by omega) (by omega) ⟨hq1, hq2, hq3, hq4⟩
        exact ⟨rs, size', zs', p7, p10, i1.mono (by rw [List.length_cons]; omega), i2.cons z, fun e => absurd e hqs, i4, i5, i6⟩
    · have hle : size * c ≤ cap := by omega
      simp only [hgt, decide_false, bind_ok, bind_exc, bnd_app, lift_some, eC_app, eVar_0, eVar_1, eVar_2, eVar_3, eVar_4, eVar_5, eVar_6, eVar_7, eVar_8, eVar_9, eVar_10, ap1_app, ap2_app, apA_app, aCons_app, nilA_app, tru_app, tst_app, asB_bool, truD_bool, truD_list, truD_tuple, mNot_app, mAnd_app, mOr_app, eNot_app, eAnd_app, eOr_app, andK_b, orK_b, eIf_app, eTup_app, eLst_app, lLst_app, frzL_app, eList_app, eSl_app, pN_app, pS_app, partD_int, chn_b, eChain_app, seq_nx, seq_ret, seq_brk, seq_cnt, seq_exc, sSeq_app, sRet_app, sDrop_app, sIf_app, sRaise_app, sAsg_name, sSetL_app, rxM_ok, rxM_exc, eCall_app, outP_ret, outP_nx, outP_exc, Option.map_some, len0, len1, len2, len3, len4, len5, len6, len7, len8, eq_self, sz0, sz1, sz2, sz3, sz4, sz5, sz6, sz7, sz8, sz9, sz10, sz11, freeAt_s, freeAt_n, freeAt_d, freeAt_m, sFrz_app, frzK_ml, List.getElem?_cons_zero, List.getElem?_cons_succ, List.set_cons_zero, List.set_cons_succ, sAsg_tup, asgK_some, bTup_app, bAll_nil, bAll_cons, bName_app, Option.bind_some, isMl_s, isMl_m, resK_some, onK_ml, eApp_app, ePop_app, eIdxV_app, eLenV_app, tTruV_app, sSetI_app, onL_app, fLen_ok, fTru_ok, rbK_ok, cbK_ml, eCB_cons, eCB_nil, List.nil_append, List.cons_append, outK_some, outR_ret, outR_nx, outB_s, outB_m, mConsD_app, mConsL_app, sPar_app, setAll_nil, setAll_cons, true_and, and_true, and_self, Bool.not_true, Bool.not_false, Bool.false_eq_true, reduceIte, mul_ok ss, le_int, hle, decide_true, fa]
      obtain ⟨rs, size', zs', p7, p10, i1, i2, i3, i4, i5, i6⟩ := q_loop hn hc (a4 := a4) (most := most) L (qs ++ [(z, c)]) (size * c) zs1 (b + 2) (some (.d (.str z))) (some (.d (.int c))) rfl rfl hs1 (by omega) (by rw [List.length_append, List.length_cons, List.length_nil]; omega) ⟨by rw [List.map_append, List.prod_append, hq1]; simp, by rcases hc23 with rfl | rfl <;> omega, hle, fun q hqm => by
        rcases List.mem_append.mp hqm with h | h
        · exact hq4 q h
        · rw [List.mem_singleton] at h
          subst h
          show 2 ≤ c ∧ c ≤ 3
          omega⟩
      refine ⟨(z, c) :: rs, size', zs', p7, p10, i1.mono (by rw [List.length_cons]; omega), by rw [List.map_cons]; exact i2.cons_cons z, fun _ _ => by simp, by rw [List.append_assoc] at i4; exact i4, i5, ?_⟩
      rw [i6, List.append_assoc]
      rfl
theorem take_ne {α : Type} {xs : List α} {k : Nat} (h : xs ≠ []) (hk : 1 ≤ k) : xs.take k ≠ [] := by
  cases xs with
  | nil => exact absurd rfl h
  | cons x xs =>
    cases k with
    | zero => omega
    | succ k => simp
theorem sorted_take {ws names : List Str} (hp : ws.Perm names) (hn : names.Nodup) (k : Nat) : (sortS (ws.take k)).Pairwise (fun a b => sLt a b = true) ∧ (∀ z ∈ sortS (ws.take k), z ∈ names) ∧ (sortS (ws.take k)).length = min k names.length := by
  have hw : ws.Nodup := hp.nodup_iff.mpr hn
  refine ⟨sortS_asc (hw.sublist (List.take_sublist k ws)), fun z hz => ?_, ?_⟩
  · exact hp.mem_iff.mp (List.mem_of_mem_take ((sortS_perm _).mem_iff.mp hz))
  · rw [(sortS_perm _).length_eq, List.length_take, hp.length_eq]
theorem tup_sorted (zs : List Str) : tupD [.list (zs.map PyData.str)] = some (mkG zs) := rfl
theorem d_loop {ns : List Int} (hn : ns.length ≤ 63) {a2 a3 a6 a7 a10 a11 : Option Tv} {qs : List (Str × Int)} {a5 : Option Tv} (hne : qs.map (·.1) ≠ []) (hnd : (qs.map (·.1)).Nodup) (hq5 : qs.length ≤ 5) : ∀ (L : List D) (dr : List (List Str)) (zs : List D) (b : Nat) (o9 : Option Tv), dat o9 = true → Sok b zs → b + 12 * L.length ≤ 1000000 → dr.length + L.length ≤ 1000 → (∀ g ∈ dr, DG qs g ∧ g.length ≤ 3) →
    ∃ (dr' : List (List Str)) (zs' : List D) (p9 : Option Tv), Sok (b + 12 * L.length) zs' ∧ dr'.length = dr.length + L.length ∧ (∀ g ∈ dr', DG qs g ∧ g.length ≤ 3) ∧
      loop (bName 9) (sDrop (eApp 8 (apA tupD (aCons (apA sortedD (aCons (eSl (eCB 1 1 b__law_shuffled 1 (aCons (eVar 4) (nilA)) [] [eVar 0]) (pN) (pS (eCB 1 1 b__law_pick 1 (aCons (eLst (aCons (eC (.int 1)) (aCons (eC (.int 2)) (aCons (eC (.int 2)) (aCons (eC (.int 2)) (aCons (eC (.int 3)) (aCons (eC (.int 3)) (nilA)))))))) (nilA)) [] [eVar 0]))) (nilA))) (nilA))))) L
        [some (.d (scr ns)), some (.ml true zs), a2, a3, some (.d (.list ((qs.map (·.1)).map PyData.str))), a5, a6, a7, some (.ml false (dr.map mkG)), o9, a10, a11] =
      .ok .nx [some (.d (scr ns)), some (.ml true zs'), a2, a3, some (.d (.list ((qs.map (·.1)).map PyData.str))), a5, a6, a7, some (.ml false (dr'.map mkG)), p9, a10, a11]
  | [], dr, zs, b, o9, h9, hs, _, _, hd => ⟨dr, zs, o9, hs, by simp, hd, rfl⟩
  | x :: L, dr, zs, b, o9, h9, hs, hb, hl, hd => by
    have hz := sizeLine_big
    rw [List.length_cons] at hb hl
    obtain ⟨ys, zs1, hp, hs1, e1⟩ := s_shuffled (ns := ns) (x := .list ((qs.map (·.1)).map PyData.str)) rfl hs (by simp only [List.length_map]; omega) hn
    obtain ⟨ws, rfl, hpw⟩ := perm_strs hp
    simp only [List.length_map] at hs1
    obtain ⟨y, zs2, hy, hs2, e2⟩ := s_pick (ns := ns) (xs := [.int 1, .int 2, .int 2, .int 2, .int 3, .int 3]) hs1 (by omega) hn (by simp)
    have hy' : ∃ c : Int, y = .int c ∧ 1 ≤ c ∧ c ≤ 3 := by
      simp only [List.mem_cons, List.not_mem_nil, or_false] at hy
      rcases hy with rfl | rfl | rfl | rfl | rfl | rfl
      · exact ⟨1, rfl, by omega, by omega⟩
      · exact ⟨2, rfl, by omega, by omega⟩
      · exact ⟨2, rfl, by omega, by omega⟩
      · exact ⟨2, rfl, by omega, by omega⟩
      · exact ⟨3, rfl, by omega, by omega⟩
      · exact ⟨3, rfl, by omega, by omega⟩
    obtain ⟨c, rfl, hc1, hc3⟩ := hy'
    obtain ⟨t1, t2, t3⟩ := sorted_take hpw hnd c.toNat
    have hlen : 0 < (qs.map (·.1)).length := List.length_pos_iff.mpr hne
    have hdg : DG qs (sortS (ws.take c.toNat)) ∧ (sortS (ws.take c.toNat)).length ≤ 3 := by
      refine ⟨⟨fun e => ?_, t2, t1⟩, by rw [t3]; omega⟩
      have := congrArg List.length e
      rw [t3, List.length_nil] at this
      omega
    have fa : fApp (dr.map mkG) (mkG (sortS (ws.take c.toNat))) = some (.none, (dr ++ [sortS (ws.take c.toNat)]).map mkG) := by
      rw [fApp_ok (by rw [List.length_map]; omega), List.map_append]
      rfl
    have es : slD (.list (ws.map PyData.str)) none (some c) = some (.list ((ws.take c.toNat).map PyData.str)) := by
      rw [sl_list_upto _ (by omega), List.map_take]
    obtain ⟨dr', zs', p9, i1, i2, i3, i4⟩ := d_loop hn (a2 := a2) (a3 := a3) (a6 := a6) (a7 := a7) (a10 := a10) (a11 := a11) (a5 := a5) hne hnd hq5 L (dr ++ [sortS (ws.take c.toNat)]) zs2 (b + 2 * qs.length + 2) (some (.d x)) rfl hs2 (by omega) (by rw [List.length_append, List.length_cons, List.length_nil]; omega) (fun g hg => by
      rcases List.mem_append.mp hg with h | h
      · exact hd g h
      · rw [List.mem_singleton] at h
        subst h
        exact hdg)
    refine ⟨dr', zs', p9, i1.mono (by rw [List.length_cons]; omega), by rw [i2, List.length_append, List.length_cons, List.length_cons, List.length_nil]; omega, i3, ?_⟩
    rw [loop_cons, bName_dat (o := o9) rfl h9]
    simp only [List.set_cons_zero, List.set_cons_succ]
    simp only [bind_ok, bind_exc, bnd_app, lift_some, eC_app, eVar_0, eVar_1, eVar_2, eVar_3, eVar_4, eVar_5, eVar_6, eVar_7, eVar_8, eVar_9, eVar_10, ap1_app, ap2_app, apA_app, aCons_app, nilA_app, tru_app, tst_app, asB_bool, truD_bool, truD_list, truD_tuple, mNot_app, mAnd_app, mOr_app, eNot_app, eAnd_app, eOr_app, andK_b, orK_b, eIf_app, eTup_app, eLst_app, lLst_app, frzL_app, eList_app, eSl_app, pN_app, pS_app, partD_int, chn_b, eChain_app, seq_nx, seq_ret, seq_brk, seq_cnt, seq_exc, sSeq_app, sRet_app, sDrop_app, sIf_app, sRaise_app, sAsg_name, sSetL_app, rxM_ok, rxM_exc, eCall_app, outP_ret, outP_nx, outP_exc, Option.map_some, len0, len1, len2, len3, len4, len5, len6, len7, len8, eq_self, sz0, sz1, sz2, sz3, sz4, sz5, sz6, sz7, sz8, sz9, sz10, sz11, freeAt_s, freeAt_n, freeAt_d, freeAt_m, sFrz_app, frzK_ml, List.getElem?_cons_zero, List.getElem?_cons_succ, List.set_cons_zero, List.set_cons_succ, sAsg_tup, asgK_some, bTup_app, bAll_nil, bAll_cons, bName_app, Option.bind_some, isMl_s, isMl_m, resK_some, onK_ml, eApp_app, ePop_app, eIdxV_app, eLenV_app, tTruV_app, sSetI_app, onL_app, fLen_ok, fTru_ok, rbK_ok, cbK_ml, eCB_cons, eCB_nil, List.nil_append, List.cons_append, outK_some, outR_ret, outR_nx, outB_s, outB_m, mConsD_app, mConsL_app, sPar_app, setAll_nil, setAll_cons, true_and, and_true, and_self, Bool.not_true, Bool.not_false, Bool.false_eq_true, reduceIte, e1, e2, es, sorted_strs, tup_sorted, fa]
    exact i4
def six : List Str := ["a", "b", "c", "d", "x", "ab"]
theorem six_ok : ∀ z ∈ six, nmOk z = true ∧ z.length ≤ sizeLine := by decide
theorem six_nd : six.Nodup := by decide
theorem nmOk_len {z : Str} (h : nmOk z = true) : z.length ≤ sizeLine := by
  simp only [nmOk, Bool.and_eq_true, decide_eq_true_eq] at h
  have := sizeLine_big
  omega
theorem prod_le4 {qs : List (Str × Int)} (hq : ∀ q ∈ qs, 2 ≤ q.2 ∧ q.2 ≤ 3) : ∀ (g : List Str), (∀ z ∈ g, z ∈ qs.map (·.1)) → ((g.map (cnt qs)).map Int.toNat).prod ≤ 3 ^ g.length
  | [], _ => by simp
  | z :: g, h => by
    have ih := prod_le4 hq g fun y hy => h y (List.mem_cons_of_mem _ hy)
    obtain ⟨q, hq1, e⟩ := cnt_mem (h z List.mem_cons_self)
    have := hq q hq1
    rw [List.map_cons, List.map_cons, List.prod_cons, List.length_cons, Nat.pow_succ, Nat.mul_comm (3 ^ g.length)]
    exact Nat.mul_le_mul (by omega) ih
theorem s_scenario {ns : List Int} (hn : ns.length ≤ 63) {most cap : Int} (hm : 1 ≤ most ∧ most ≤ 5) (hc : 3 ≤ cap ∧ cap ≤ 32) {zs : List D} {b : Nat} (hs : Sok b zs) (hb : b ≤ 900000) :
    ∃ qs gs zs', VS qs gs ∧ (qs.map (·.2)).prod ≤ cap ∧ qs.length ≤ most ∧ Sok (b + 100) zs' ∧ b__law_scenario [scr ns] zs [.int most, .int cap] = .ok (mkS qs gs) zs' := by
  have hz := sizeLine_big
  obtain ⟨ys, zs1, hp, hs1, e1⟩ := s_shuffled (ns := ns) (x := .list [.str "a", .str "b", .str "c", .str "d", .str "x", .str "ab"]) (xs := six.map PyData.str) rfl hs (by simp only [List.length_map, six, List.length_cons, List.length_nil]; omega) hn
  obtain ⟨ws, rfl, hpw⟩ := perm_strs hp
  rw [show (six.map PyData.str).length = 6 from rfl] at hs1
  obtain ⟨i, zs2, hi0, him, hs2, e2⟩ := s_draw (ns := ns) (many := most) hs1 (by omega) hn (by omega)
  have es : slD (.list (ws.map PyData.str)) none (some (1 + i)) = some (.list ((ws.take (1 + i).toNat).map PyData.str)) := by
    rw [sl_list_upto _ (by omega), List.map_take]
  obtain ⟨t1, t2, t3⟩ := sorted_take hpw six_nd (1 + i).toNat
  rw [show six.length = 6 from rfl] at t3
  generalize hnm : sortS (ws.take (1 + i).toNat) = names at *
  have hnl : 1 ≤ names.length ∧ names.length ≤ most := by omega
  obtain ⟨qs, size', zs3, p7, p10, i1, i2, i3, i4, i5, i6⟩ := q_loop hn hc (most := most) (a4 := some (.d (.list (names.map PyData.str)))) names [] 1 zs2 (b + 2 * 6 + 2) none none rfl rfl hs2 (by omega) (by simp only [List.length_nil]; omega) ⟨rfl, by omega, by omega, fun q h => nomatch h⟩
  rw [List.nil_append] at i4 i6
  obtain ⟨j1, j2, j3, j4⟩ := i4
  have hqne : qs ≠ [] := i3 rfl (fun e => by rw [e] at hnl; simp at hnl)
  have hql : qs.length ≤ most := by
    have := i2.length_le
    rw [List.length_map] at this
    omega
  have hQS : QS qs := by
    refine ⟨List.length_pos_iff.mpr hqne, by omega, fun q hq => ⟨?_, j4 q hq⟩, t1.sublist i2, by rw [← j1]; omega⟩
    exact (six_ok q.1 (t2 q.1 (i2.mem (List.mem_map_of_mem hq)))).1
  have hqne' : qs.map (·.1) ≠ [] := by simpa using hqne
  have c11 : eLcV [11] (bName 11) (tAll) (ap2 ixD (eVar 11) (eC (.int 0))) 5 [some (.d (scr ns)), some (.ml true zs3), some (.d (.int most)), some (.d (.int cap)), some (.d (.list (names.map PyData.str))), some (.ml false (qs.map mkQ)), some (.d (.int size')), p7, none, none, p10, none] = .ok ((qs.map (·.1)).map PyData.str) [some (.d (scr ns)), some (.ml true zs3), some (.d (.int most)), some (.d (.int cap)), some (.d (.list (names.map PyData.str))), some (.ml false (qs.map mkQ)), some (.d (.int size')), p7, none, none, p10, none] := by
    have := lcVF (vs := [11]) (b := bName 11) (t := tAll) (e := ap2 ixD (eVar 11) (eC (.int 0))) (j := 5) (bb := false) (g := [some (.d (scr ns)), some (.ml true zs3), some (.d (.int most)), some (.d (.int cap)), some (.d (.list (names.map PyData.str))), some (.ml false (qs.map mkQ)), some (.d (.int size')), p7, none, none, p10, none]) qs mkQ (fun _ => true) (fun q => PyData.str q.1) rfl (by omega) (by decide) (fun q hq => ⟨_, rfl, rfl, fun _ => by
      show ap2 ixD (eVar 11) (eC (.int 0)) [some (.d (scr ns)), some (.ml true zs3), some (.d (.int most)), some (.d (.int cap)), some (.d (.list (names.map PyData.str))), none, some (.d (.int size')), p7, none, none, p10, some (.d (mkQ q))] = _
      have e11 : eVar 11 [some (.d (scr ns)), some (.ml true zs3), some (.d (.int most)), some (.d (.int cap)), some (.d (.list (names.map PyData.str))), none, some (.d (.int size')), p7, none, none, p10, some (.d (mkQ q))] = .ok (mkQ q) [some (.d (scr ns)), some (.ml true zs3), some (.d (.int most)), some (.d (.int cap)), some (.d (.list (names.map PyData.str))), none, some (.d (.int size')), p7, none, none, p10, some (.d (mkQ q))] := rfl
      simp only [bind_ok, bind_exc, bnd_app, lift_some, eC_app, eVar_0, eVar_1, eVar_2, eVar_3, eVar_4, eVar_5, eVar_6, eVar_7, eVar_8, eVar_9, eVar_10, ap1_app, ap2_app, apA_app, aCons_app, nilA_app, tru_app, tst_app, asB_bool, truD_bool, truD_list, truD_tuple, mNot_app, mAnd_app, mOr_app, eNot_app, eAnd_app, eOr_app, andK_b, orK_b, eIf_app, eTup_app, eLst_app, lLst_app, frzL_app, eList_app, eSl_app, pN_app, pS_app, partD_int, chn_b, eChain_app, seq_nx, seq_ret, seq_brk, seq_cnt, seq_exc, sSeq_app, sRet_app, sDrop_app, sIf_app, sRaise_app, sAsg_name, sSetL_app, rxM_ok, rxM_exc, eCall_app, outP_ret, outP_nx, outP_exc, Option.map_some, len0, len1, len2, len3, len4, len5, len6, len7, len8, eq_self, sz0, sz1, sz2, sz3, sz4, sz5, sz6, sz7, sz8, sz9, sz10, sz11, freeAt_s, freeAt_n, freeAt_d, freeAt_m, sFrz_app, frzK_ml, List.getElem?_cons_zero, List.getElem?_cons_succ, List.set_cons_zero, List.set_cons_succ, sAsg_tup, asgK_some, bTup_app, bAll_nil, bAll_cons, bName_app, Option.bind_some, isMl_s, isMl_m, resK_some, onK_ml, eApp_app, ePop_app, eIdxV_app, eLenV_app, tTruV_app, sSetI_app, onL_app, fLen_ok, fTru_ok, rbK_ok, cbK_ml, eCB_cons, eCB_nil, List.nil_append, List.cons_append, outK_some, outR_ret, outR_nx, outB_s, outB_m, mConsD_app, mConsL_app, sPar_app, setAll_nil, setAll_cons, true_and, and_true, and_self, Bool.not_true, Bool.not_false, Bool.false_eq_true, reduceIte, e11]
      rw [mkQ, ix_t0]
      rfl, rfl, rfl⟩) rfl rfl
    rw [List.filter_eq_self.mpr (fun _ _ => rfl)] at this
    rw [this, List.map_map]
    rfl
  obtain ⟨k, zs4, hk0, hk6, hs4, e4⟩ := s_draw (ns := ns) (many := 6) i1 (by omega) hn (by omega)
  obtain ⟨dr, zs5, p9, l1, l2, l3, l4⟩ := d_loop hn (a2 := some (.d (.int most))) (a3 := some (.d (.int cap))) (a6 := some (.d (.int size'))) (a7 := p7) (a10 := p10) (a11 := none) (a5 := some (.ml false (qs.map mkQ))) hqne' hQS.nd hQS.q5 (rngD 0 k.toNat) [] zs4 _ none rfl hs4 (by rw [show (rngD 0 k.toNat).length = k.toNat by simp [rngD]]; omega) (by rw [show (rngD 0 k.toNat).length = k.toNat by simp [rngD]]; simp only [List.length_nil]; omega) (fun g h => nomatch h)
  rw [show (rngD 0 k.toNat).length = k.toNat by simp [rngD]] at l1 l2
  simp only [List.length_nil, Nat.zero_add] at l2
  have hvs := vs_groups hQS (fun g hg => (l3 g hg).1) (by omega : dr.length ≤ 5)
  have hgf := s_groups_from (qs := qs) (drawn := dr) (most := 34) hQS.nd (fun q hq => ⟨by have := j4 q hq; omega, by have := j4 q hq; omega, nmOk_len (hQS.qn q hq).1⟩) (by omega) (by omega) (fun g hg => by
    obtain ⟨⟨d1, d2, d3⟩, d4⟩ := l3 g hg
    refine ⟨d1, d2, by omega, Nat.le_trans (prod_le4 j4 g d2) ?_⟩
    exact Nat.le_trans (Nat.pow_le_pow_right (by omega) d4) (by decide))
  refine ⟨qs, _, zs5, hvs, by rw [← j1]; exact j3, hql, l1.mono (by omega), ?_⟩
  have er : rng1 [.int k] = some (rngD 0 k.toNat) := by
    rw [rng1, if_pos ⟨by omega, by omega⟩]
  rw [List.map_nil] at i6 l4
  rw [b__law_scenario, runB_out, m__law_scenario, show bG [scr ns] zs [.int most, .int cap] 12 = [some (.d (scr ns)), some (.ml true zs), some (.d (.int most)), some (.d (.int cap)), none, none, none, none, none, none, none, none] from rfl]
  simp only [bind_ok, bind_exc, bnd_app, lift_some, eC_app, eVar_0, eVar_1, eVar_2, eVar_3, eVar_4, eVar_5, eVar_6, eVar_7, eVar_8, eVar_9, eVar_10, ap1_app, ap2_app, apA_app, aCons_app, nilA_app, tru_app, tst_app, asB_bool, truD_bool, truD_list, truD_tuple, mNot_app, mAnd_app, mOr_app, eNot_app, eAnd_app, eOr_app, andK_b, orK_b, eIf_app, eTup_app, eLst_app, lLst_app, frzL_app, eList_app, eSl_app, pN_app, pS_app, partD_int, chn_b, eChain_app, seq_nx, seq_ret, seq_brk, seq_cnt, seq_exc, sSeq_app, sRet_app, sDrop_app, sIf_app, sRaise_app, sAsg_name, sSetL_app, rxM_ok, rxM_exc, eCall_app, outP_ret, outP_nx, outP_exc, Option.map_some, len0, len1, len2, len3, len4, len5, len6, len7, len8, eq_self, sz0, sz1, sz2, sz3, sz4, sz5, sz6, sz7, sz8, sz9, sz10, sz11, freeAt_s, freeAt_n, freeAt_d, freeAt_m, sFrz_app, frzK_ml, List.getElem?_cons_zero, List.getElem?_cons_succ, List.set_cons_zero, List.set_cons_succ, sAsg_tup, asgK_some, bTup_app, bAll_nil, bAll_cons, bName_app, Option.bind_some, isMl_s, isMl_m, resK_some, onK_ml, eApp_app, ePop_app, eIdxV_app, eLenV_app, tTruV_app, sSetI_app, onL_app, fLen_ok, fTru_ok, rbK_ok, cbK_ml, eCB_cons, eCB_nil, List.nil_append, List.cons_append, outK_some, outR_ret, outR_nx, outB_s, outB_m, mConsD_app, mConsL_app, sPar_app, setAll_nil, setAll_cons, true_and, and_true, and_self, Bool.not_true, Bool.not_false, Bool.false_eq_true, reduceIte, e1, e2, add_int, es, sorted_strs, hnm, sFor_app, itemsD]
  simp only [i6, bind_ok, bind_exc, bnd_app, lift_some, eC_app, eVar_0, eVar_1, eVar_2, eVar_3, eVar_4, eVar_5, eVar_6, eVar_7, eVar_8, eVar_9, eVar_10, ap1_app, ap2_app, apA_app, aCons_app, nilA_app, tru_app, tst_app, asB_bool, truD_bool, truD_list, truD_tuple, mNot_app, mAnd_app, mOr_app, eNot_app, eAnd_app, eOr_app, andK_b, orK_b, eIf_app, eTup_app, eLst_app, lLst_app, frzL_app, eList_app, eSl_app, pN_app, pS_app, partD_int, chn_b, eChain_app, seq_nx, seq_ret, seq_brk, seq_cnt, seq_exc, sSeq_app, sRet_app, sDrop_app, sIf_app, sRaise_app, sAsg_name, sSetL_app, rxM_ok, rxM_exc, eCall_app, outP_ret, outP_nx, outP_exc, Option.map_some, len0, len1, len2, len3, len4, len5, len6, len7, len8, eq_self, sz0, sz1, sz2, sz3, sz4, sz5, sz6, sz7, sz8, sz9, sz10, sz11, freeAt_s, freeAt_n, freeAt_d, freeAt_m, sFrz_app, frzK_ml, List.getElem?_cons_zero, List.getElem?_cons_succ, List.set_cons_zero, List.set_cons_succ, sAsg_tup, asgK_some, bTup_app, bAll_nil, bAll_cons, bName_app, Option.bind_some, isMl_s, isMl_m, resK_some, onK_ml, eApp_app, ePop_app, eIdxV_app, eLenV_app, tTruV_app, sSetI_app, onL_app, fLen_ok, fTru_ok, rbK_ok, cbK_ml, eCB_cons, eCB_nil, List.nil_append, List.cons_append, outK_some, outR_ret, outR_nx, outB_s, outB_m, mConsD_app, mConsL_app, sPar_app, setAll_nil, setAll_cons, true_and, and_true, and_self, Bool.not_true, Bool.not_false, Bool.false_eq_true, reduceIte]
  simp only [c11, bind_ok, bind_exc, bnd_app, lift_some, eC_app, eVar_0, eVar_1, eVar_2, eVar_3, eVar_4, eVar_5, eVar_6, eVar_7, eVar_8, eVar_9, eVar_10, ap1_app, ap2_app, apA_app, aCons_app, nilA_app, tru_app, tst_app, asB_bool, truD_bool, truD_list, truD_tuple, mNot_app, mAnd_app, mOr_app, eNot_app, eAnd_app, eOr_app, andK_b, orK_b, eIf_app, eTup_app, eLst_app, lLst_app, frzL_app, eList_app, eSl_app, pN_app, pS_app, partD_int, chn_b, eChain_app, seq_nx, seq_ret, seq_brk, seq_cnt, seq_exc, sSeq_app, sRet_app, sDrop_app, sIf_app, sRaise_app, sAsg_name, sSetL_app, rxM_ok, rxM_exc, eCall_app, outP_ret, outP_nx, outP_exc, Option.map_some, len0, len1, len2, len3, len4, len5, len6, len7, len8, eq_self, sz0, sz1, sz2, sz3, sz4, sz5, sz6, sz7, sz8, sz9, sz10, sz11, freeAt_s, freeAt_n, freeAt_d, freeAt_m, sFrz_app, frzK_ml, List.getElem?_cons_zero, List.getElem?_cons_succ, List.set_cons_zero, List.set_cons_succ, sAsg_tup, asgK_some, bTup_app, bAll_nil, bAll_cons, bName_app, Option.bind_some, isMl_s, isMl_m, resK_some, onK_ml, eApp_app, ePop_app, eIdxV_app, eLenV_app, tTruV_app, sSetI_app, onL_app, fLen_ok, fTru_ok, rbK_ok, cbK_ml, eCB_cons, eCB_nil, List.nil_append, List.cons_append, outK_some, outR_ret, outR_nx, outB_s, outB_m, mConsD_app, mConsL_app, sPar_app, setAll_nil, setAll_cons, true_and, and_true, and_self, Bool.not_true, Bool.not_false, Bool.false_eq_true, reduceIte]
  simp only [sFor_app, bind_ok, bind_exc, bnd_app, lift_some, eC_app, eVar_0, eVar_1, eVar_2, eVar_3, eVar_4, eVar_5, eVar_6, eVar_7, eVar_8, eVar_9, eVar_10, ap1_app, ap2_app, apA_app, aCons_app, nilA_app, tru_app, tst_app, asB_bool, truD_bool, truD_list, truD_tuple, mNot_app, mAnd_app, mOr_app, eNot_app, eAnd_app, eOr_app, andK_b, orK_b, eIf_app, eTup_app, eLst_app, lLst_app, frzL_app, eList_app, eSl_app, pN_app, pS_app, partD_int, chn_b, eChain_app, seq_nx, seq_ret, seq_brk, seq_cnt, seq_exc, sSeq_app, sRet_app, sDrop_app, sIf_app, sRaise_app, sAsg_name, sSetL_app, rxM_ok, rxM_exc, eCall_app, outP_ret, outP_nx, outP_exc, Option.map_some, len0, len1, len2, len3, len4, len5, len6, len7, len8, eq_self, sz0, sz1, sz2, sz3, sz4, sz5, sz6, sz7, sz8, sz9, sz10, sz11, freeAt_s, freeAt_n, freeAt_d, freeAt_m, sFrz_app, frzK_ml, List.getElem?_cons_zero, List.getElem?_cons_succ, List.set_cons_zero, List.set_cons_succ, sAsg_tup, asgK_some, bTup_app, bAll_nil, bAll_cons, bName_app, Option.bind_some, isMl_s, isMl_m, resK_some, onK_ml, eApp_app, ePop_app, eIdxV_app, eLenV_app, tTruV_app, sSetI_app, onL_app, fLen_ok, fTru_ok, rbK_ok, cbK_ml, eCB_cons, eCB_nil, List.nil_append, List.cons_append, outK_some, outR_ret, outR_nx, outB_s, outB_m, mConsD_app, mConsL_app, sPar_app, setAll_nil, setAll_cons, true_and, and_true, and_self, Bool.not_true, Bool.not_false, Bool.false_eq_true, reduceIte, e4, er, l4]
  simp only [bind_ok, bind_exc, bnd_app, lift_some, eC_app, eVar_0, eVar_1, eVar_2, eVar_3, eVar_4, eVar_5, eVar_6, eVar_7, eVar_8, eVar_9, eVar_10, ap1_app, ap2_app, apA_app, aCons_app, nilA_app, tru_app, tst_app, asB_bool, truD_bool, truD_list, truD_tuple, mNot_app, mAnd_app, mOr_app, eNot_app, eAnd_app, eOr_app, andK_b, orK_b, eIf_app, eTup_app, eLst_app, lLst_app, frzL_app, eList_app, eSl_app, pN_app, pS_app, partD_int, chn_b, eChain_app, seq_nx, seq_ret, seq_brk, seq_cnt, seq_exc, sSeq_app, sRet_app, sDrop_app, sIf_app, sRaise_app, sAsg_name, sSetL_app, rxM_ok, rxM_exc, eCall_app, outP_ret, outP_nx, outP_exc, Option.map_some, len0, len1, len2, len3, len4, len5, len6, len7, len8, eq_self, sz0, sz1, sz2, sz3, sz4, sz5, sz6, sz7, sz8, sz9, sz10, sz11, freeAt_s, freeAt_n, freeAt_d, freeAt_m, sFrz_app, frzK_ml, List.getElem?_cons_zero, List.getElem?_cons_succ, List.set_cons_zero, List.set_cons_succ, sAsg_tup, asgK_some, bTup_app, bAll_nil, bAll_cons, bName_app, Option.bind_some, isMl_s, isMl_m, resK_some, onK_ml, eApp_app, ePop_app, eIdxV_app, eLenV_app, tTruV_app, sSetI_app, onL_app, fLen_ok, fTru_ok, rbK_ok, cbK_ml, eCB_cons, eCB_nil, List.nil_append, List.cons_append, outK_some, outR_ret, outR_nx, outB_s, outB_m, mConsD_app, mConsL_app, sPar_app, setAll_nil, setAll_cons, true_and, and_true, and_self, Bool.not_true, Bool.not_false, Bool.false_eq_true, reduceIte, tup_list, hgf]
  rfl
end PP

namespace PP
open PySem
def m_cells_s1 : M Fl := sSetL 3 (eLc2 [5, 6] [6] (bName 5) (tAll) (apA rng1 (aCons (ap2 ixD (eVar 2) (eVar 4)) (nilA))) (bName 6) (tAll) (ap2 addD (eVar 5) (eTup (aCons (eVar 6) (nilA)))) (ap1 itemsD (eVar 3)))
def m_cells_b2 : M Fl := sSeq (m_cells_s1) (sSeq (sFrz 3) (sSeq (sWipe [4]) (fun g => .ok .nx g)))
def m_cells_s3 : M Fl := sFor (bName 4) (ap1 itemsD (eVar 1)) (m_cells_b2)
def m_cells_s4 : M Fl := sAsg (bTup [bName 2, bName 3]) (eTup (aCons (apA dictD (aCons (ap2 ixD (eVar 0) (eC (.int 0))) (nilA))) (aCons (eLst (aCons (eTup (nilA)) (nilA))) (nilA))))
def m_cells : M Fl := sSeq (m_cells_s4) (sSeq (m_cells_s3) (sRet (eVar 3)))
def p_cells : PF := runP 7 m_cells
def m_is_count_tuple_s1 : M Fl := sRet (apA allD (aCons (frzL (eLc [2] (bName 2) (tAll) (eAnd (eCall 1 p_is_integer (aCons (eVar 2) (nilA))) (ap2 geD (eVar 2) (eC (.int 0)))) (ap1 itemsD (eVar 0)))) (nilA)))
def m_is_count_tuple_s2 : M Fl := sIf (mOr (mNot (tru (ap1 (isiD "tuple") (eVar 0)))) (tst (ap2 neD (apA lenD (aCons (eVar 0) (nilA))) (eVar 1)))) (sRet (eC (.bool false))) ((fun g => .ok .nx g))
def m_is_count_tuple : M Fl := sSeq (m_is_count_tuple_s2) (m_is_count_tuple_s1)
def p_is_count_tuple : PF := runP 3 m_is_count_tuple
def m_is_model_of_s1 : M Fl := sIf (mNot (tru (eCall 2 p_is_count_tuple (aCons (eVar 3) (aCons (apA lenD (aCons (eCall 2 p_cells (aCons (eVar 0) (aCons (eVar 2) (nilA)))) (nilA))) (nilA)))))) (sRet (eC (.bool false))) ((fun g => .ok .nx g))
def m_is_model_of_b2 : M Fl := sSeq (m_is_model_of_s1) (sSeq (sWipe [2, 3]) (fun g => .ok .nx g))
def m_is_model_of_s3 : M Fl := sRet (eAnd (apA allD (aCons (frzL (eLc [3] (bName 3) (tAll) (ap2 eqD (apA sumD (aCons (eVar 3) (nilA))) (apA sumD (aCons (ap2 ixD (eVar 1) (eC (.int 0))) (nilA)))) (ap1 itemsD (eVar 1)))) (nilA))) (eChain leD leD (eC (.int 1)) (apA sumD (aCons (ap2 ixD (eVar 1) (eC (.int 0))) (nilA))) (eC (.int 9999))))
def m_is_model_of_s4 : M Fl := sFor (bTup [bName 2, bName 3]) (apA zip2 (aCons (ap2 ixD (eVar 0) (eC (.int 1))) (aCons (eVar 1) (nilA)))) (m_is_model_of_b2)
def m_is_model_of_s5 : M Fl := sIf (mOr (mNot (tru (ap1 (isiD "tuple") (eVar 1)))) (tst (ap2 neD (apA lenD (aCons (eVar 1) (nilA))) (apA lenD (aCons (ap2 ixD (eVar 0) (eC (.int 1))) (nilA)))))) (sRet (eC (.bool false))) ((fun g => .ok .nx g))
def m_is_model_of : M Fl := sSeq (m_is_model_of_s5) (sSeq (m_is_model_of_s4) (m_is_model_of_s3))
def p_is_model_of : PF := runP 4 m_is_model_of
def m_is_model_s1 : M Fl := sRet (eCall 2 p_is_model_of (aCons (eVar 0) (aCons (eVar 1) (nilA))))
def m_is_model_s2 : M Fl := sDrop (eCall 1 p_require_scenario (aCons (eVar 0) (nilA)))
def m_is_model : M Fl := sSeq (m_is_model_s2) (m_is_model_s1)
def p_is_model : PF := runP 2 m_is_model
def m_require_model_s1 : M Fl := sIf (mNot (tru (eCall 2 p_is_model_of (aCons (eVar 0) (aCons (eVar 1) (nilA)))))) (sRaise "InvalidModel") ((fun g => .ok .nx g))
def m_require_model_s2 : M Fl := sDrop (eCall 1 p_require_scenario (aCons (eVar 0) (nilA)))
def m_require_model : M Fl := sSeq (m_require_model_s2) (m_require_model_s1)
def p_require_model : PF := runP 2 m_require_model
def m_total_s1 : M Fl := sRet (apA sumD (aCons (ap2 ixD (eVar 1) (eC (.int 0))) (nilA)))
def m_total_s2 : M Fl := sDrop (eCall 2 p_require_model (aCons (eVar 0) (aCons (eVar 1) (nilA))))
def m_total : M Fl := sSeq (m_total_s2) (m_total_s1)
def p_total : PF := runP 2 m_total
def m__law_bent_s1 (rec : BF) : M Fl := sAsg (bName 4) (ap2 addD (eVar 4) (eLst (aCons (frzL (eList (aCons (eVar 2) (nilA)))) (aCons (eSl (eVar 2) (pN) (pS (ap1 negD (eC (.int 1))))) (aCons (ap2 addD (eVar 2) (eSl (eVar 2) (pS (ap1 negD (eC (.int 1)))) (pN))) (aCons (eSl (eVar 2) (pS (eC (.int 1))) (pN)) (aCons (ap1 revD (eVar 2)) (aCons (ap2 addD (eVar 2) (eTup (aCons (eC .none) (nilA)))) (nilA)))))))))
def m__law_bent_s2 (rec : BF) : M Fl := sAsg (bName 4) (ap2 addD (eVar 4) (ap2 mulD (eLst (aCons (ap2 addD (eVar 2) (eC (.int 1))) (aCons (ap2 subD (eVar 2) (eC (.int 1))) (aCons (eNot (eVar 2)) (aCons (eTup (aCons (eVar 2) (nilA))) (aCons (apA strD (aCons (eVar 2) (nilA))) (nilA))))))) (eC (.int 2))))
def m__law_bent_s3 (rec : BF) : M Fl := sRet (eCB 1 1 b__law_pick 1 (aCons (eVar 4) (nilA)) [] [eVar 0])
def m__law_bent_s4 (rec : BF) : M Fl := sIf (tru (ap1 (isiD "int") (eVar 2))) (m__law_bent_s2 rec) ((fun g => .ok .nx g))
def m__law_bent_s5 (rec : BF) : M Fl := sIf (tru (ap1 (isiD "tuple") (eVar 2))) (m__law_bent_s1 rec) ((fun g => .ok .nx g))
def m__law_bent_s6 (rec : BF) : M Fl := sAsg (bName 4) (ap2 addD (eVar 4) (eLst (aCons (eTup (aCons (eC (.str "a")) (nilA))) (aCons (eTup (aCons (eC (.str "a")) (aCons (eC (.str "b")) (nilA)))) (aCons (eTup (aCons (eC (.str "b")) (aCons (eC (.str "a")) (nilA)))) (aCons (eTup (aCons (eC (.str "a")) (aCons (eC (.int 2)) (nilA)))) (nilA)))))))
def m__law_bent_s7 (rec : BF) : M Fl := sAsg (bName 4) (eLst (aCons (eC .none) (aCons (eC (.bool true)) (aCons (eC (.bool false)) (aCons (eC (.int 0)) (aCons (eC (.int 1)) (aCons (ap1 negD (eC (.int 1))) (aCons (eC (.int 3)) (aCons (eC (.int 10)) (aCons (eC (.str "a")) (aCons (eC (.str "b")) (aCons (eC (.str "")) (aCons (eC (.str "A")) (aCons (eC (.str "abcd")) (aCons (eTup (nilA)) (aCons (eLst (nilA)) (nilA)))))))))))))))))
def m__law_bent_s8 (rec : BF) : M Fl := sRet (ap2 addD (ap2 addD (eSl (eVar 2) (pN) (pS (eVar 3))) (eTup (aCons (eCB 1 1 rec 1 (aCons (ap2 ixD (eVar 2) (eVar 3)) (nilA)) [] [eVar 0]) (nilA)))) (eSl (eVar 2) (pS (ap2 addD (eVar 3) (eC (.int 1)))) (pN)))
def m__law_bent_s9 (rec : BF) : M Fl := sAsg (bName 3) (eCB 1 1 b__law_draw 1 (aCons (apA lenD (aCons (eVar 2) (nilA))) (nilA)) [] [eVar 0])
def m__law_bent_s10 (rec : BF) : M Fl := sIf (mOr (mNot (tru (ap1 (isiD "tuple") (eVar 2)))) (mOr (mNot (tru (eVar 2))) (tst (ap2 eqD (eCB 1 1 b__law_draw 1 (aCons (eC (.int 4)) (nilA)) [] [eVar 0]) (eC (.int 0)))))) (sSeq (m__law_bent_s7 rec) (sSeq (m__law_bent_s6 rec) (sSeq (m__law_bent_s5 rec) (sSeq (m__law_bent_s4 rec) (m__law_bent_s3 rec))))) ((fun g => .ok .nx g))
def m__law_bent (rec : BF) : M Fl := sSeq (m__law_bent_s10 rec) (sSeq (m__law_bent_s9 rec) (m__law_bent_s8 rec))
def b__law_bent : Nat → BF
  | 0 => runB 1 5 (fun _ => .stuck)
  | n + 1 => runB 1 5 (m__law_bent (b__law_bent n))
def m__law_part_s1 : M Fl := sRet (apA tupD (aCons (frzL (eLc [3] (bName 3) (tAll) (ap2 ixD (eVar 1) (eIdx (eVar 0) (eVar 3))) (ap1 itemsD (eVar 2)))) (nilA)))
def m__law_part : M Fl := m__law_part_s1
def p__law_part : PF := runP 4 m__law_part
def m__law_sums_s1 : M Fl := sDrop (eApp 4 (apA sumD (aCons (frzL (eLc [7, 8] (bTup [bName 7, bName 8]) (tst (ap2 eqD (eCall 3 p__law_part (aCons (eVar 3) (aCons (eVar 7) (aCons (eVar 2) (nilA))))) (eVar 6))) (eVar 8) (apA zip2 (aCons (eVar 5) (aCons (eVar 1) (nilA)))))) (nilA))))
def m__law_sums_b2 : M Fl := sSeq (m__law_sums_s1) (sSeq (sWipe [6]) (fun g => .ok .nx g))
def m__law_sums_s3 : M Fl := sRet (apA tupD (aCons (eVar 4) (nilA)))
def m__law_sums_s4 : M Fl := sFor (bName 6) (ap1 itemsD (eCall 2 p__law_cells (aCons (ap2 ixD (eVar 0) (eC (.int 0))) (aCons (eVar 2) (nilA))))) (m__law_sums_b2)
def m__law_sums_s5 : M Fl := sAsg (bName 5) (eCall 2 p__law_cells (aCons (ap2 ixD (eVar 0) (eC (.int 0))) (aCons (eVar 3) (nilA))))
def m__law_sums_s6 : M Fl := sPar [3, 4] (mConsD (eCall 1 p__law_names (aCons (eVar 0) (nilA))) (mConsL (lLst (nilA)) ((fun g => .ok [] g))))
def m__law_sums : M Fl := sSeq (m__law_sums_s6) (sSeq (m__law_sums_s5) (sSeq (m__law_sums_s4) (sSeq (sFrz 4) (m__law_sums_s3))))
def p__law_sums : PF := runP 9 m__law_sums
def m__law_weights_s1 : M Fl := sAugI 5 (iopI (· + ·)) (eCB 1 1 b__law_draw 1 (aCons (eVar 4) (nilA)) [] [eVar 0]) (ap2 addD (eC (.int 1)) (eCB 1 1 b__law_draw 1 (aCons (eVar 3) (nilA)) [] [eVar 0]))
def m__law_weights_b2 : M Fl := sSeq (m__law_weights_s1) (sSeq (sWipe [6]) (fun g => .ok .nx g))
def m__law_weights_s3 : M Fl := sRet (apA tupD (aCons (eVar 5) (nilA)))
def m__law_weights_s4 : M Fl := sFor (bName 6) (apA rng1 (aCons (ap2 addD (eC (.int 1)) (eCB 1 1 b__law_draw 1 (aCons (eC (.int 6)) (nilA)) [] [eVar 0])) (nilA))) (m__law_weights_b2)
def m__law_weights_s5 : M Fl := sSetL 5 (ap2L mulLD (eLst (aCons (eC (.int 0)) (nilA))) (eVar 4))
def m__law_weights_s6 : M Fl := sAsg (bName 4) (apA lenD (aCons (eCall 2 p__law_cells (aCons (ap2 ixD (eVar 2) (eC (.int 0))) (aCons (eCall 1 p__law_names (aCons (eVar 2) (nilA))) (nilA)))) (nilA)))
def m__law_weights : M Fl := sSeq (m__law_weights_s6) (sSeq (m__law_weights_s5) (sSeq (m__law_weights_s4) (sSeq (sFrz 5) (m__law_weights_s3))))
def b__law_weights : BF := runB 1 7 m__law_weights
def m__law_joint_model_s1 : M Fl := sRet (apA tupD (aCons (frzL (eLc [4] (bName 4) (tAll) (eCall 3 p__law_sums (aCons (eVar 2) (aCons (eVar 3) (aCons (eVar 4) (nilA))))) (ap1 itemsD (ap2 ixD (eVar 2) (eC (.int 1)))))) (nilA)))
def m__law_joint_model_s2 : M Fl := sAsg (bName 3) (eCB 1 2 b__law_weights 1 (aCons (eVar 2) (aCons (eC (.int 3)) (nilA))) [] [eVar 0])
def m__law_joint_model : M Fl := sSeq (m__law_joint_model_s2) (m__law_joint_model_s1)
def b__law_joint_model : BF := runB 1 5 m__law_joint_model
def m__law_loose_model_s1 : M Fl := sAugI 7 (iopI (· + ·)) (eCB 1 1 b__law_draw 1 (aCons (eVar 6) (nilA)) [] [eVar 0]) (eC (.int 1))
def m__law_loose_model_b2 : M Fl := sSeq (m__law_loose_model_s1) (sSeq (sWipe [8]) (fun g => .ok .nx g))
def m__law_loose_model_s3 : M Fl := sDrop (eApp 4 (apA tupD (aCons (eVar 7) (nilA))))
def m__law_loose_model_s4 : M Fl := sFor (bName 8) (apA rng1 (aCons (eVar 3) (nilA))) (m__law_loose_model_b2)
def m__law_loose_model_s5 : M Fl := sSetL 7 (ap2L mulLD (eLst (aCons (eC (.int 0)) (nilA))) (eVar 6))
def m__law_loose_model_s6 : M Fl := sAsg (bName 6) (apA lenD (aCons (eCall 2 p__law_cells (aCons (ap2 ixD (eVar 2) (eC (.int 0))) (aCons (eVar 5) (nilA)))) (nilA)))
def m__law_loose_model_b7 : M Fl := sSeq (m__law_loose_model_s6) (sSeq (m__law_loose_model_s5) (sSeq (m__law_loose_model_s4) (sSeq (sFrz 7) (sSeq (m__law_loose_model_s3) (sSeq (sWipe [5, 6, 7, 8]) (fun g => .ok .nx g))))))
def m__law_loose_model_s8 : M Fl := sRet (apA tupD (aCons (eVar 4) (nilA)))
def m__law_loose_model_s9 : M Fl := sFor (bName 5) (ap1 itemsD (ap2 ixD (eVar 2) (eC (.int 1)))) (m__law_loose_model_b7)
def m__law_loose_model_s10 : M Fl := sPar [3, 4] (mConsD (ap2 addD (eC (.int 1)) (eCB 1 1 b__law_draw 1 (aCons (eC (.int 6)) (nilA)) [] [eVar 0])) (mConsL (lLst (nilA)) ((fun g => .ok [] g))))
def m__law_loose_model : M Fl := sSeq (m__law_loose_model_s10) (sSeq (m__law_loose_model_s9) (sSeq (sFrz 4) (m__law_loose_model_s8)))
def b__law_loose_model : BF := runB 1 9 m__law_loose_model
def m__law_model_s1 : M Fl := sRet (eCB 1 1 b__law_loose_model 1 (aCons (eVar 2) (nilA)) [] [eVar 0])
def m__law_model_s2 : M Fl := sRet (eCB 1 1 b__law_joint_model 1 (aCons (eVar 2) (nilA)) [] [eVar 0])
def m__law_model_s3 : M Fl := sIf (tst (ap2 eqD (eCB 1 1 b__law_draw 1 (aCons (eC (.int 3)) (nilA)) [] [eVar 0]) (eC (.int 0)))) (m__law_model_s1) ((fun g => .ok .nx g))
def m__law_model : M Fl := sSeq (m__law_model_s3) (m__law_model_s2)
def b__law_model : BF := runB 1 3 m__law_model
def m__law_is_model_s1 : M Fl := sIf (mOr (tst (ap2 neD (apA sumD (aCons (eVar 3) (nilA))) (apA sumD (aCons (ap2 ixD (eVar 1) (eC (.int 0))) (nilA))))) (mNot (tst (eChain leD leD (eC (.int 1)) (apA sumD (aCons (eVar 3) (nilA))) (eC (.int 9999)))))) (sRet (eC (.bool false))) ((fun g => .ok .nx g))
def m__law_is_model_s2 : M Fl := sIf (tru (frzL (eLc [4] (bName 4) (mOr (mNot (tru (ap1 (isiD "int") (eVar 4)))) (mOr (tru (ap1 (isiD "bool") (eVar 4))) (tst (ap2 ltD (eVar 4) (eC (.int 0)))))) (eVar 4) (ap1 itemsD (eVar 3))))) (sRet (eC (.bool false))) ((fun g => .ok .nx g))
def m__law_is_model_s3 : M Fl := sIf (mOr (mNot (tru (ap1 (isiD "tuple") (eVar 3)))) (tst (ap2 neD (apA lenD (aCons (eVar 3) (nilA))) (apA lenD (aCons (eCall 2 p__law_cells (aCons (ap2 ixD (eVar 0) (eC (.int 0))) (aCons (eVar 2) (nilA)))) (nilA)))))) (sRet (eC (.bool false))) ((fun g => .ok .nx g))
def m__law_is_model_b4 : M Fl := sSeq (m__law_is_model_s3) (sSeq (m__law_is_model_s2) (sSeq (m__law_is_model_s1) (sSeq (sWipe [2, 3]) (fun g => .ok .nx g))))
def m__law_is_model_s5 : M Fl := sFor (bTup [bName 2, bName 3]) (apA zip2 (aCons (ap2 ixD (eVar 0) (eC (.int 1))) (aCons (eVar 1) (nilA)))) (m__law_is_model_b4)
def m__law_is_model_s6 : M Fl := sIf (mOr (mNot (tru (ap1 (isiD "tuple") (eVar 1)))) (tst (ap2 neD (apA lenD (aCons (eVar 1) (nilA))) (apA lenD (aCons (ap2 ixD (eVar 0) (eC (.int 1))) (nilA)))))) (sRet (eC (.bool false))) ((fun g => .ok .nx g))
def m__law_is_model : M Fl := sSeq (m__law_is_model_s6) (sSeq (m__law_is_model_s5) (sRet (eC (.bool true))))
def p__law_is_model : PF := runP 5 m__law_is_model
def m_all_assignments_s1 : M Fl := sRet (eCall 2 p_cells (aCons (eVar 0) (aCons (eCall 1 p_known_names (aCons (eVar 0) (nilA))) (nilA))))
def m_all_assignments : M Fl := m_all_assignments_s1
def p_all_assignments : PF := runP 1 m_all_assignments
def m_restrict_s1 : M Fl := sRet (apA tupD (aCons (frzL (eLc [3] (bName 3) (tAll) (ap2 ixD (eVar 1) (eIdx (eVar 0) (eVar 3))) (ap1 itemsD (eVar 2)))) (nilA)))
def m_restrict : M Fl := m_restrict_s1
def p_restrict : PF := runP 4 m_restrict
def m_summed_s1 : M Fl := sAugT 4 (iopI (· + ·)) (eCall 3 p_restrict (aCons (eVar 1) (aCons (eVar 5) (aCons (eVar 3) (nilA))))) (eVar 6)
def m_summed_b2 : M Fl := sSeq (m_summed_s1) (sSeq (sWipe [5, 6]) (fun g => .ok .nx g))
def m_summed_s3 : M Fl := sRet (apA tupD (aCons (frzL (eLc [5] (bName 5) (tAll) (ap2 ixD (eVar 4) (eVar 5)) (ap1 itemsD (eCall 2 p_cells (aCons (eVar 0) (aCons (eVar 3) (nilA))))))) (nilA)))
def m_summed_s4 : M Fl := sFor (bTup [bName 5, bName 6]) (apA zip2 (aCons (eCall 2 p_cells (aCons (eVar 0) (aCons (eVar 1) (nilA)))) (aCons (eVar 2) (nilA)))) (m_summed_b2)
def m_summed_s5 : M Fl := sSetO 4 (eDcT [5] (bName 5) (tAll) (eVar 5) (eC (.int 0)) (ap1 itemsD (eCall 2 p_cells (aCons (eVar 0) (aCons (eVar 3) (nilA))))))
def m_summed : M Fl := sSeq (m_summed_s5) (sSeq (m_summed_s4) (sSeq (sFrz 4) (m_summed_s3)))
def p_summed : PF := runP 7 m_summed
def m_tables_of_s1 : M Fl := sRet (apA tupD (aCons (frzL (eLc [3] (bName 3) (tAll) (eCall 4 p_summed (aCons (eVar 0) (aCons (eVar 2) (aCons (eVar 1) (aCons (eVar 3) (nilA)))))) (ap1 itemsD (ap2 ixD (eVar 0) (eC (.int 1)))))) (nilA)))
def m_tables_of_s2 : M Fl := sAsg (bName 2) (eCall 1 p_known_names (aCons (eVar 0) (nilA)))
def m_tables_of : M Fl := sSeq (m_tables_of_s2) (m_tables_of_s1)
def p_tables_of : PF := runP 4 m_tables_of
def m_model_of_s1 : M Fl := sRet (eCall 2 p_tables_of (aCons (eVar 0) (aCons (eVar 1) (nilA))))
def m_model_of_s2 : M Fl := sIf (mOr (mNot (tru (eCall 2 p_is_count_tuple (aCons (eVar 1) (aCons (apA lenD (aCons (eCall 1 p_all_assignments (aCons (eVar 0) (nilA))) (nilA))) (nilA)))))) (mNot (tst (eChain leD leD (eC (.int 1)) (apA sumD (aCons (eVar 1) (nilA))) (eC (.int 9999)))))) (sRaise "InvalidWeights") ((fun g => .ok .nx g))
def m_model_of_s3 : M Fl := sDrop (eCall 1 p_require_scenario (aCons (eVar 0) (nilA)))
def m_model_of : M Fl := sSeq (m_model_of_s3) (sSeq (m_model_of_s2) (m_model_of_s1))
def p_model_of : PF := runP 2 m_model_of
def m__law_same_s1 (rec : PF) : M Fl := sRet (ap2 isE (eVar 0) (eC .none))
def m__law_same_s2 (rec : PF) : M Fl := sRet (eAnd (ap1 (isiD "bool") (eVar 0)) (ap2 eqD (eVar 0) (eVar 1)))
def m__law_same_s3 (rec : PF) : M Fl := sRet (apA allD (aCons (frzL (eLc [2, 3] (bTup [bName 2, bName 3]) (tAll) (eCall 2 rec (aCons (eVar 2) (aCons (eVar 3) (nilA)))) (apA zip2 (aCons (eVar 0) (aCons (eVar 1) (nilA)))))) (nilA)))
def m__law_same_s4 (rec : PF) : M Fl := sIf (mOr (mNot (tru (ap1 (isiD "tuple") (eVar 0)))) (tst (ap2 neD (apA lenD (aCons (eVar 0) (nilA))) (apA lenD (aCons (eVar 1) (nilA)))))) (sRet (eC (.bool false))) ((fun g => .ok .nx g))
def m__law_same_s5 (rec : PF) : M Fl := sRet (eAnd (ap1 (isiD "str") (eVar 0)) (ap2 eqD (eVar 0) (eVar 1)))
def m__law_same_s6 (rec : PF) : M Fl := sRet (eAnd (ap1 (isiD "int") (eVar 0)) (eAnd (eNot (ap1 (isiD "bool") (eVar 0))) (ap2 eqD (eVar 0) (eVar 1))))
def m__law_same_s7 (rec : PF) : M Fl := sIf (tru (ap1 (isiD "str") (eVar 1))) (m__law_same_s5 rec) ((fun g => .ok .nx g))
def m__law_same_s8 (rec : PF) : M Fl := sIf (tru (ap1 (isiD "tuple") (eVar 1))) (sSeq (m__law_same_s4 rec) (m__law_same_s3 rec)) ((fun g => .ok .nx g))
def m__law_same_s9 (rec : PF) : M Fl := sIf (tru (ap1 (isiD "bool") (eVar 1))) (m__law_same_s2 rec) ((fun g => .ok .nx g))
def m__law_same_s10 (rec : PF) : M Fl := sIf (tst (ap2 isE (eVar 1) (eC .none))) (m__law_same_s1 rec) ((fun g => .ok .nx g))
def m__law_same (rec : PF) : M Fl := sSeq (m__law_same_s10 rec) (sSeq (m__law_same_s9 rec) (sSeq (m__law_same_s8 rec) (sSeq (m__law_same_s7 rec) (m__law_same_s6 rec))))
def p__law_same : Nat → PF
  | 0 => runP 4 (fun _ => .stuck)
  | n + 1 => runP 4 (m__law_same (p__law_same n))
def m_unlike_pairs_s1 : M Fl := sDrop (eApp 3 (eTup (aCons (eVar 4) (aCons (eVar 5) (nilA)))))
def m_unlike_pairs_s2 : M Fl := sIf (tst (ap2 neD (eVar 7) (eCall 4 p_summed (aCons (eVar 0) (aCons (ap2 ixD (eVar 2) (eVar 5)) (aCons (ap2 ixD (eVar 1) (eVar 5)) (aCons (eVar 6) (nilA)))))))) (m_unlike_pairs_s1) ((fun g => .ok .nx g))
def m_unlike_pairs_s3 : M Fl := sAsg (bName 7) (eCall 4 p_summed (aCons (eVar 0) (aCons (ap2 ixD (eVar 2) (eVar 4)) (aCons (ap2 ixD (eVar 1) (eVar 4)) (aCons (eVar 6) (nilA))))))
def m_unlike_pairs_s4 : M Fl := sAsg (bName 6) (eCall 2 p_common (aCons (ap2 ixD (eVar 2) (eVar 4)) (aCons (ap2 ixD (eVar 2) (eVar 5)) (nilA))))
def m_unlike_pairs_b5 : M Fl := sSeq (m_unlike_pairs_s4) (sSeq (m_unlike_pairs_s3) (sSeq (m_unlike_pairs_s2) (sSeq (sWipe [5, 6, 7]) (fun g => .ok .nx g))))
def m_unlike_pairs_s6 : M Fl := sFor (bName 5) (apA rng2 (aCons (ap2 addD (eVar 4) (eC (.int 1))) (aCons (apA lenD (aCons (eVar 2) (nilA))) (nilA)))) (m_unlike_pairs_b5)
def m_unlike_pairs_b7 : M Fl := sSeq (m_unlike_pairs_s6) (sSeq (sWipe [4, 5, 6, 7]) (fun g => .ok .nx g))
def m_unlike_pairs_s8 : M Fl := sFor (bName 4) (apA rng1 (aCons (apA lenD (aCons (eVar 2) (nilA))) (nilA))) (m_unlike_pairs_b7)
def m_unlike_pairs_s9 : M Fl := sPar [2, 3] (mConsD (ap2 ixD (eVar 0) (eC (.int 1))) (mConsL (lLst (nilA)) ((fun g => .ok [] g))))
def m_unlike_pairs : M Fl := sSeq (m_unlike_pairs_s9) (sSeq (m_unlike_pairs_s8) (sSeq (sFrz 3) (sRet (eVar 3))))
def p_unlike_pairs : PF := runP 8 m_unlike_pairs
def m_disagreements_s1 : M Fl := sRet (eCall 2 p_unlike_pairs (aCons (eVar 0) (aCons (eVar 1) (nilA))))
def m_disagreements_s2 : M Fl := sDrop (eCall 2 p_require_model (aCons (eVar 0) (aCons (eVar 1) (nilA))))
def m_disagreements : M Fl := sSeq (m_disagreements_s2) (m_disagreements_s1)
def p_disagreements : PF := runP 2 m_disagreements
def m_agrees_s1 : M Fl := sRet (ap2 eqD (eCall 2 p_unlike_pairs (aCons (eVar 0) (aCons (eVar 1) (nilA)))) (eLst (nilA)))
def m_agrees_s2 : M Fl := sDrop (eCall 2 p_require_model (aCons (eVar 0) (aCons (eVar 1) (nilA))))
def m_agrees : M Fl := sSeq (m_agrees_s2) (m_agrees_s1)
def p_agrees : PF := runP 2 m_agrees
def m_marginal_s1 : M Fl := sRet (eCall 4 p_summed (aCons (eVar 0) (aCons (ap2 ixD (ap2 ixD (eVar 0) (eC (.int 1))) (eVar 2)) (aCons (ap2 ixD (eVar 1) (eVar 2)) (aCons (eVar 3) (nilA))))))
def m_marginal_s2 : M Fl := sIf (mNot (tru (eCall 2 p_is_name_tuple (aCons (ap2 ixD (ap2 ixD (eVar 0) (eC (.int 1))) (eVar 2)) (aCons (eVar 3) (nilA)))))) (sRaise "InvalidNames") ((fun g => .ok .nx g))
def m_marginal_s3 : M Fl := sDrop (eCall 2 p_require_group (aCons (eVar 0) (aCons (eVar 2) (nilA))))
def m_marginal_s4 : M Fl := sDrop (eCall 2 p_require_model (aCons (eVar 0) (aCons (eVar 1) (nilA))))
def m_marginal : M Fl := sSeq (m_marginal_s4) (sSeq (m_marginal_s3) (sSeq (m_marginal_s2) (m_marginal_s1)))
def p_marginal : PF := runP 4 m_marginal
end PP

namespace PP
open PySem PySem.Spec
local macro_rules
  | `(tactic| wp_walk) => `(tactic| simp only [bind_ok, bind_exc, bnd_app, lift_some, eC_app, eVar_0, eVar_1, eVar_2, eVar_3, eVar_4, eVar_5, eVar_6, eVar_7, eVar_8, eVar_9, eVar_10, ap1_app, ap2_app, apA_app, aCons_app, nilA_app, tru_app, tst_app, asB_bool, truD_bool, truD_list, truD_tuple, mNot_app, mAnd_app, mOr_app, eNot_app, eAnd_app, eOr_app, andK_b, orK_b, eIf_app, eTup_app, eLst_app, lLst_app, frzL_app, eList_app, eSl_app, pN_app, pS_app, partD_int, chn_b, eChain_app, seq_nx, seq_ret, seq_brk, seq_cnt, seq_exc, sSeq_app, sRet_app, sDrop_app, sIf_app, sRaise_app, sAsg_name, sSetL_app, rxM_ok, rxM_exc, eCall_app, outP_ret, outP_nx, outP_exc, Option.map_some, len0, len1, len2, len3, len4, len5, len6, len7, len8, eq_self, sz0, sz1, sz2, sz3, sz4, sz5, sz6, sz7, sz8, sz9, sz10, sz11, freeAt_s, freeAt_n, freeAt_d, freeAt_m, sFrz_app, frzK_ml, List.getElem?_cons_zero, List.getElem?_cons_succ, List.set_cons_zero, List.set_cons_succ, sAsg_tup, asgK_some, bTup_app, bAll_nil, bAll_cons, bName_app, Option.bind_some, isMl_s, isMl_m, resK_some, onK_ml, eApp_app, ePop_app, eIdxV_app, eLenV_app, tTruV_app, sSetI_app, onL_app, fLen_ok, fTru_ok, rbK_ok, cbK_ml, eCB_cons, eCB_nil, List.nil_append, List.cons_append, outK_some, outR_ret, outR_nx, outB_s, outB_m, mConsD_app, mConsL_app, sPar_app, setAll_nil, setAll_cons, true_and, and_true, and_self, Bool.not_true, Bool.not_false, Bool.false_eq_true, reduceIte, eVar_11, eVar_12, eVar_13, eVar_14, eVar_15, eVar_16, eVar_17, eVar_18, eVar_19, eVar_20, eVar_21, eVar_22, eVar_23, eVar_24, eVar_25, sWipe_app, wipeG_nil, wipeG_cons, sSetO_app, mConsO_app, ap2L_app, eIdx_app, eExt_app, eNewT_app, sAugI_app, augK_app, sAugT_app, augKT_app, isMt_s, isMt_m, freeAt_t, List.all_cons, List.all_nil, Bool.and_true, Bool.true_and, frzK_md])
  | `(tactic| wp_walk using $ts,*) => `(tactic| simp only [bind_ok, bind_exc, bnd_app, lift_some, eC_app, eVar_0, eVar_1, eVar_2, eVar_3, eVar_4, eVar_5, eVar_6, eVar_7, eVar_8, eVar_9, eVar_10, ap1_app, ap2_app, apA_app, aCons_app, nilA_app, tru_app, tst_app, asB_bool, truD_bool, truD_list, truD_tuple, mNot_app, mAnd_app, mOr_app, eNot_app, eAnd_app, eOr_app, andK_b, orK_b, eIf_app, eTup_app, eLst_app, lLst_app, frzL_app, eList_app, eSl_app, pN_app, pS_app, partD_int, chn_b, eChain_app, seq_nx, seq_ret, seq_brk, seq_cnt, seq_exc, sSeq_app, sRet_app, sDrop_app, sIf_app, sRaise_app, sAsg_name, sSetL_app, rxM_ok, rxM_exc, eCall_app, outP_ret, outP_nx, outP_exc, Option.map_some, len0, len1, len2, len3, len4, len5, len6, len7, len8, eq_self, sz0, sz1, sz2, sz3, sz4, sz5, sz6, sz7, sz8, sz9, sz10, sz11, freeAt_s, freeAt_n, freeAt_d, freeAt_m, sFrz_app, frzK_ml, List.getElem?_cons_zero, List.getElem?_cons_succ, List.set_cons_zero, List.set_cons_succ, sAsg_tup, asgK_some, bTup_app, bAll_nil, bAll_cons, bName_app, Option.bind_some, isMl_s, isMl_m, resK_some, onK_ml, eApp_app, ePop_app, eIdxV_app, eLenV_app, tTruV_app, sSetI_app, onL_app, fLen_ok, fTru_ok, rbK_ok, cbK_ml, eCB_cons, eCB_nil, List.nil_append, List.cons_append, outK_some, outR_ret, outR_nx, outB_s, outB_m, mConsD_app, mConsL_app, sPar_app, setAll_nil, setAll_cons, true_and, and_true, and_self, Bool.not_true, Bool.not_false, Bool.false_eq_true, reduceIte, eVar_11, eVar_12, eVar_13, eVar_14, eVar_15, eVar_16, eVar_17, eVar_18, eVar_19, eVar_20, eVar_21, eVar_22, eVar_23, eVar_24, eVar_25, sWipe_app, wipeG_nil, wipeG_cons, sSetO_app, mConsO_app, ap2L_app, eIdx_app, eExt_app, eNewT_app, sAugI_app, augK_app, sAugT_app, augKT_app, isMt_s, isMt_m, freeAt_t, List.all_cons, List.all_nil, Bool.and_true, Bool.true_and, frzK_md, $[$ts:term],*])
/-! ### rows of answers -/
abbrev Rw (qs : List (Str × Int)) (N : List Str) : List (List Int) := rowsOf (N.map (cnt qs)) [[]]
theorem filter_tt {α : Type} (l : List α) : (l.filter fun _ => true) = l := List.filter_eq_self.mpr fun _ _ => rfl
theorem flatMap_map' {α β γ : Type} (f : α → List β) (h : β → γ) : ∀ l : List α, (l.flatMap f).map h = l.flatMap fun a => (f a).map h
  | [] => rfl
  | a :: l => by rw [List.flatMap_cons, List.map_append, flatMap_map' f h l, List.flatMap_cons]
theorem rowsOf_app : ∀ (cs : List Int) (rows more : List (List Int)), rowsOf cs (rows ++ more) = rowsOf cs rows ++ rowsOf cs more
  | [], _, _ => rfl
  | c :: cs, rows, more => by
    show rowsOf cs ((rows ++ more).flatMap (ext c)) = rowsOf cs (rows.flatMap (ext c)) ++ rowsOf cs (more.flatMap (ext c))
    rw [List.flatMap_append, rowsOf_app]
theorem rowsOf_pre : ∀ (cs : List Int) (r : List Int), rowsOf cs [r] = (rowsOf cs [[]]).map fun t => r ++ t
  | [], r => by simp [rowsOf]
  | c :: cs, r => by
    have flat : ∀ (rows : List (List Int)), rowsOf cs rows = rows.flatMap fun r => (rowsOf cs [[]]).map fun t => r ++ t := by
      intro rows
      induction rows with
      | nil =>
        have : ∀ cs : List Int, rowsOf cs [] = [] := fun cs => by
          induction cs with
          | nil => rfl
          | cons c cs ih => exact ih
        rw [this]
        rfl
      | cons a rows ih =>
        rw [show a :: rows = [a] ++ rows from rfl, rowsOf_app, ih, rowsOf_pre cs a]
        rfl
    show rowsOf cs (ext c r ++ []) = (rowsOf cs (ext c [] ++ [])).map fun t => r ++ t
    rw [List.append_nil, List.append_nil, flat, flat (ext c []), flatMap_map', ext, ext, List.flatMap_map, List.flatMap_map]
    congr 1
    funext a
    rw [List.map_map]
    congr 1
    funext t
    simp
theorem rows_cons (c : Int) (cs : List Int) : rowsOf (c :: cs) [[]] = (List.range c.toNat).flatMap fun (a : Nat) => (rowsOf cs [[]]).map fun t => (a : Int) :: t := by
  have flat : ∀ (rows : List (List Int)), rowsOf cs rows = rows.flatMap fun r => (rowsOf cs [[]]).map fun t => r ++ t := by
    intro rows
    induction rows with
    | nil =>
      have : ∀ cs : List Int, rowsOf cs [] = [] := fun cs => by
        induction cs with
        | nil => rfl
        | cons c cs ih => exact ih
      rw [this]
      rfl
    | cons a rows ih =>
      rw [show a :: rows = [a] ++ rows from rfl, rowsOf_app, ih, rowsOf_pre cs a]
      rfl
  show rowsOf cs (ext c [] ++ []) = _
  rw [List.append_nil, flat, ext, List.flatMap_map]
  rfl
def rowOk : List Int → List Int → Prop
  | [], [] => True
  | a :: r, c :: cs => (0 ≤ a ∧ a < c) ∧ rowOk r cs
  | _, _ => False
theorem mem_rows : ∀ (cs : List Int) (r : List Int), r ∈ rowsOf cs [[]] ↔ rowOk r cs
  | [], r => by
    show r ∈ [[]] ↔ _
    cases r with
    | nil => simp [rowOk]
    | cons a r => simp [rowOk]
  | c :: cs, r => by
    rw [rows_cons, List.mem_flatMap]
    constructor
    · rintro ⟨a, ha, h⟩
      obtain ⟨t, ht, rfl⟩ := List.mem_map.mp h
      have ha := List.mem_range.mp ha
      exact ⟨⟨by omega, by omega⟩, (mem_rows cs t).mp ht⟩
    · cases r with
      | nil => intro h; exact h.elim
      | cons a r =>
        rintro ⟨⟨h1, h2⟩, h3⟩
        refine ⟨a.toNat, List.mem_range.mpr (by omega), List.mem_map.mpr ⟨r, (mem_rows cs r).mpr h3, ?_⟩⟩
        have : ((a.toNat : Nat) : Int) = a := by omega
        rw [this]
theorem nodup_flatMap {α β : Type} {f : α → List β} : ∀ {l : List α}, l.Nodup → (∀ a ∈ l, (f a).Nodup) → (∀ a ∈ l, ∀ b ∈ l, ∀ x, x ∈ f a → x ∈ f b → a = b) → (l.flatMap f).Nodup
  | [], _, _, _ => List.nodup_nil
  | a :: l, hn, h1, h2 => by
    rw [List.flatMap_cons, List.nodup_append]
    obtain ⟨n1, n2⟩ := List.nodup_cons.mp hn
    refine ⟨h1 a List.mem_cons_self, nodup_flatMap n2 (fun b hb => h1 b (List.mem_cons_of_mem _ hb)) (fun b hb c hc => h2 b (List.mem_cons_of_mem _ hb) c (List.mem_cons_of_mem _ hc)), fun x hx y hy e => ?_⟩
    subst e
    obtain ⟨b, hb, hy⟩ := List.mem_flatMap.mp hy
    have := h2 a List.mem_cons_self b (List.mem_cons_of_mem _ hb) x hx hy
    exact n1 (this ▸ hb)
theorem rows_nodup : ∀ cs : List Int, (rowsOf cs [[]]).Nodup
  | [] => by show ([[]] : List (List Int)).Nodup; simp
  | c :: cs => by
    rw [rows_cons]
    refine nodup_flatMap List.nodup_range (fun a _ => ?_) (fun a _ b _ x hx hy => ?_)
    · exact List.Pairwise.map (fun t => (a : Int) :: t) (fun s t h e => h (List.cons.inj e).2) (rows_nodup cs)
    · obtain ⟨t, _, rfl⟩ := List.mem_map.mp hx
      obtain ⟨u, _, e⟩ := List.mem_map.mp hy
      have := (List.cons.inj e).1
      omega
theorem rowOk_len : ∀ {r cs : List Int}, rowOk r cs → r.length = cs.length
  | [], [], _ => rfl
  | a :: r, c :: cs, h => by rw [List.length_cons, List.length_cons, rowOk_len h.2]
  | [], _ :: _, h => h.elim
  | _ :: _, [], h => h.elim
/-! ### names of a scenario -/
structure NS (qs : List (Str × Int)) (N : List Str) : Prop where
  nd : N.Nodup
  sub : ∀ z ∈ N, z ∈ qs.map (·.1)
theorem nodup_len {α : Type} [DecidableEq α] : ∀ {a b : List α}, a.Nodup → (∀ x ∈ a, x ∈ b) → a.length ≤ b.length
  | [], _, _, _ => Nat.zero_le _
  | x :: a, b, hn, h => by
    obtain ⟨n1, n2⟩ := List.nodup_cons.mp hn
    have hx := h x List.mem_cons_self
    have : a.length ≤ (b.erase x).length := nodup_len n2 fun y hy => by
      have hne : y ≠ x := fun e => n1 (e ▸ hy)
      exact (List.mem_erase_of_ne hne).mpr (h y (List.mem_cons_of_mem _ hy))
    rw [List.length_erase_of_mem hx] at this
    have hp : 0 < b.length := List.length_pos_of_mem hx
    rw [List.length_cons]
    omega
section
variable {qs : List (Str × Int)} {gs : List (List Str)} {N F : List Str}
theorem NS.len (hN : NS qs N) (hq : qs.length ≤ 5) : N.length ≤ 5 := by
  have := nodup_len hN.nd hN.sub
  rw [List.length_map] at this
  omega
theorem VS.nd (h : VS qs gs) : (qs.map (·.1)).Nodup := asc_nd h.qa
theorem VS.ns (h : VS qs gs) : NS qs (qs.map (·.1)) := ⟨h.nd, fun z hz => hz⟩
theorem VS.gns (h : VS qs gs) {g : List Str} (hg : g ∈ gs) : NS qs g := ⟨asc_nd (h.gn g hg).2.2, (h.gn g hg).2.1⟩
theorem VS.cnt23 (h : VS qs gs) {z : Str} (hz : z ∈ qs.map (·.1)) : 2 ≤ cnt qs z ∧ cnt qs z ≤ 3 := by
  obtain ⟨q, hq, e⟩ := cnt_mem hz
  rw [e]
  exact (h.qn q hq).2
theorem prod_pow : ∀ (cs : List Int), (∀ c ∈ cs, c ≤ 3) → (cs.map Int.toNat).prod ≤ 3 ^ cs.length
  | [], _ => by simp
  | c :: cs, h => by
    rw [List.map_cons, List.prod_cons, List.length_cons, Nat.pow_succ, Nat.mul_comm]
    have h1 := h c List.mem_cons_self
    exact Nat.mul_le_mul (prod_pow cs fun x hx => h x (List.mem_cons_of_mem _ hx)) (by omega)
theorem Rw_prod (h : VS qs gs) (hN : NS qs N) : ((N.map (cnt qs)).map Int.toNat).prod ≤ 243 := by
  have h1 := prod_pow (N.map (cnt qs)) (fun c hc => by
    obtain ⟨z, hz, rfl⟩ := List.mem_map.mp hc
    exact (h.cnt23 (hN.sub z hz)).2)
  rw [List.length_map] at h1
  have h2 : 3 ^ N.length ≤ 3 ^ 5 := Nat.pow_le_pow_right (by omega) (hN.len h.q5)
  omega
theorem Rw_len (h : VS qs gs) (hN : NS qs N) : (Rw qs N).length ≤ 243 := by
  rw [Rw, rowsOf_len]
  simpa using Rw_prod h hN
theorem s_lawcells (h : VS qs gs) (hN : NS qs N) {q nd : D} (hq : seqD q = some (qs.map mkQ)) (hn : itemsD nd = some (N.map PyData.str)) : p__law_cells [q, nd] = .ok (.list ((Rw qs N).map mkRow)) :=
  s_cells hq hn h.nd (fun z hz => ⟨hN.sub z hz, by have := h.cnt23 (hN.sub z hz); omega, by have := h.cnt23 (hN.sub z hz); omega⟩) (by have := hN.len h.q5; omega) (by have := Rw_prod h hN; omega)
/-! ### cells(scenario, names) -/
theorem row_len {cs r : List Int} (h : r ∈ rowsOf cs [[]]) : r.length = cs.length := rowOk_len ((mem_rows cs r).mp h)
theorem add_row {row : List Int} {a : Int} (h : row.length ≤ 1000) : addD (mkRow row) (.tuple [.int a]) = some (mkRow (row ++ [a])) := by
  have hz := sizeLine_big
  rw [mkRow, add_tups (by simp only [List.length_map, List.length_cons, List.length_nil]; omega), mkRow, List.map_append]
  rfl
theorem rng_int {c : Int} (h0 : 0 ≤ c) (h : c ≤ 1000000) : rng1 [.int c] = some ((List.range c.toNat).map fun (a : Nat) => PyData.int (a : Int)) := by
  have e : rngD 0 c.toNat = (List.range c.toNat).map fun (a : Nat) => PyData.int (a : Int) := range_ints c.toNat
  rw [← e]
  show (if _ then some _ else none) = _
  rw [if_pos ⟨by omega, by omega⟩]
theorem cells_step (h : VS qs gs) {A B : Option Tv} {rows : List (List Int)} {z : Str} (hz : z ∈ qs.map (·.1)) (hr : ∀ r ∈ rows, r.length ≤ 1000) (hl : rows.length ≤ 1000) :
    m_cells_b2 [A, B, some (.d (.dict (qs.map fun q => (.str q.1, .int q.2)))), some (.d (.list (rows.map mkRow))), some (.d (.str z)), none, none] =
      .ok .nx [A, B, some (.d (.dict (qs.map fun q => (.str q.1, .int q.2)))), some (.d (.list ((rows.flatMap (ext (cnt qs z))).map mkRow))), none, none, none] := by
  have hzl := sizeLine_big
  have hc := h.cnt23 hz
  have hs : (rows.map fun _ => (List.range (cnt qs z).toNat).length).sum ≤ 3000 := by
    have : ∀ l : List (List Int), (l.map fun _ => (List.range (cnt qs z).toNat).length).sum = l.length * (cnt qs z).toNat := fun l => by
      induction l with
      | nil => simp
      | cons a l ih => rw [List.map_cons, List.sum_cons, ih, List.length_cons, List.length_range, Nat.succ_mul]; omega
    rw [this]
    have : rows.length * (cnt qs z).toNat ≤ 1000 * 3 := Nat.mul_le_mul hl (by omega)
    omega
  rw [m_cells_b2, sSeq_app, m_cells_s1, sSetL_app]
  rw [lc2 rows mkRow (fun _ => true) (fun _ => List.range (cnt qs z).toNat) (fun _ a => .int (a : Int)) (fun _ _ => true) (fun r (a : Nat) => mkRow (r ++ [(a : Int)])) ?_ ?_ ?_ ?_ ?_]
  · have e : (rows.filter fun _ => true).flatMap (fun r => ((List.range (cnt qs z).toNat).filter fun _ => true).map fun (a : Nat) => mkRow (r ++ [(a : Int)])) = (rows.flatMap (ext (cnt qs z))).map mkRow := by
      simp only [filter_tt, flatMap_map']
      congr 1
      funext r
      rw [ext, List.map_map]
      rfl
    rw [e]
    wp_walk
  · rfl
  · omega
  · intro r hr'
    refine ⟨_, rfl, rfl, rfl, rfl, fun _ => ⟨?_, rfl, rfl, fun a _ => ⟨_, rfl, rfl, fun _ => ?_, rfl, rfl⟩⟩⟩
    · wp_walk using ix_dict hz, rng_int (show 0 ≤ cnt qs z by omega) (show cnt qs z ≤ 1000000 by omega)
    · wp_walk using add_row (hr r hr')
  · rfl
  · rfl
theorem foldl_flat (f : Str → Int) : ∀ (N : List Str) (rows : List (List Int)), N.foldl (fun rows z => rows.flatMap (ext (f z))) rows = rowsOf (N.map f) rows
  | [], _ => rfl
  | z :: N, rows => foldl_flat f N _
theorem s_pcells (h : VS qs gs) (hN : NS qs N) {nd : D} (hn : itemsD nd = some (N.map PyData.str)) : p_cells [mkS qs gs, nd] = .ok (.list ((Rw qs N).map mkRow)) := by
  have hd : dictD [.tuple (qs.map mkQ)] = some (.dict (qs.map fun q => (.str q.1, .int q.2))) := dict_mkQ (by rintro rfl; have := h.q1; simp at this) h.nd
  have hl5 := hN.len h.q5
  have key : ∀ (P : List Str) (rows : List (List Int)) (k : Nat), (∀ z ∈ P, z ∈ qs.map (·.1)) → (∀ r ∈ rows, r.length = k) → rows.length * 3 ^ P.length ≤ 243 → k + P.length ≤ 5 →
      loop (bName 4) m_cells_b2 (P.map PyData.str) [some (.d (mkS qs gs)), some (.d nd), some (.d (.dict (qs.map fun q => (.str q.1, .int q.2)))), some (.d (.list (rows.map mkRow))), none, none, none] =
        .ok .nx [some (.d (mkS qs gs)), some (.d nd), some (.d (.dict (qs.map fun q => (.str q.1, .int q.2)))), some (.d (.list ((rowsOf (P.map (cnt qs)) rows).map mkRow))), none, none, none] := by
    intro P
    induction P with
    | nil => intro rows k _ _ _ _; rfl
    | cons z P ih =>
      intro rows k hz hr hl hk
      rw [List.length_cons] at hk
      have hc := h.cnt23 (hz z List.mem_cons_self)
      have h3 : 1 ≤ 3 ^ P.length := Nat.one_le_pow _ _ (by omega)
      have hrl : rows.length ≤ 243 := by
        have : rows.length * 1 ≤ rows.length * 3 ^ (P.length + 1) := Nat.mul_le_mul_left _ (Nat.one_le_pow _ _ (by omega))
        rw [List.length_cons] at hl
        omega
      rw [List.map_cons, loop_cons, bName_app]
      wp_walk
      rw [cells_step h (hz z List.mem_cons_self) (fun r hr' => by rw [hr r hr']; omega) (by omega)]
      dsimp only
      rw [ih (rows.flatMap (ext (cnt qs z))) (k + 1) (fun y hy => hz y (List.mem_cons_of_mem _ hy)) ?_ ?_ (by omega)]
      · rfl
      · intro r hr'
        obtain ⟨r0, h0, h1⟩ := List.mem_flatMap.mp hr'
        obtain ⟨a, _, rfl⟩ := List.mem_map.mp h1
        rw [List.length_append, hr r0 h0]
        rfl
      · rw [ext_len]
        rw [List.length_cons, Nat.pow_succ] at hl
        have : rows.length * (cnt qs z).toNat * 3 ^ P.length ≤ rows.length * 3 * 3 ^ P.length := Nat.mul_le_mul_right _ (Nat.mul_le_mul_left _ (by omega))
        have e : rows.length * 3 * 3 ^ P.length = rows.length * (3 ^ P.length * 3) := by rw [Nat.mul_assoc, Nat.mul_comm 3]
        omega
  have hp : 1 * 3 ^ N.length ≤ 243 := by
    have : 3 ^ N.length ≤ 3 ^ 5 := Nat.pow_le_pow_right (by omega) hl5
    omega
  have e := key N [[]] 0 hN.sub (fun r hr => by simp at hr; rw [hr]; rfl) hp (by omega)
  rw [p_cells, runP_out, m_cells, m_cells_s4, m_cells_s3, show dsG [mkS qs gs, nd] 7 = [some (.d (mkS qs gs)), some (.d nd), none, none, none, none, none] from rfl]
  wp_walk using mkS, ix_t0, hd, sFor_app, hn
  rw [show [PyData.tuple []] = [[]].map mkRow from rfl]
  rw [mkS] at e
  rw [e]
  wp_walk
end
end PP

namespace PP
open PySem PySem.Spec
/-! ### k03 -/
theorem asc_ext : ∀ {a b : List Str}, a.Pairwise (fun x y => sLt x y = true) → b.Pairwise (fun x y => sLt x y = true) → (∀ z, z ∈ a ↔ z ∈ b) → a = b
  | [], [], _, _, _ => rfl
  | [], y :: b, _, _, h => by have := (h y).mpr List.mem_cons_self; cases this
  | x :: a, [], _, _, h => by have := (h x).mp List.mem_cons_self; cases this
  | x :: a, y :: b, ha, hb, h => by
    obtain ⟨a1, a2⟩ := List.pairwise_cons.mp ha
    obtain ⟨b1, b2⟩ := List.pairwise_cons.mp hb
    have hxy : x = y := by
      rcases List.mem_cons.mp ((h x).mp List.mem_cons_self) with e | e
      · exact e
      · rcases List.mem_cons.mp ((h y).mpr List.mem_cons_self) with e2 | e2
        · exact e2.symm
        · have := sLt_trans (b1 x e) (a1 y e2)
          rw [sLt_irrefl] at this
          cases this
    subst hxy
    have : a = b := asc_ext a2 b2 fun z => by
      constructor
      · intro hz
        rcases List.mem_cons.mp ((h z).mp (List.mem_cons_of_mem _ hz)) with e | e
        · subst e
          have := a1 z hz
          rw [sLt_irrefl] at this
          cases this
        · exact e
      · intro hz
        rcases List.mem_cons.mp ((h z).mpr (List.mem_cons_of_mem _ hz)) with e | e
        · subst e
          have := b1 z hz
          rw [sLt_irrefl] at this
          cases this
        · exact e
    rw [this]
theorem VS.gok {qs : List (Str × Int)} {gs : List (List Str)} (h : VS qs gs) : ∀ g ∈ gs, gok g := fun g hg => by
  have hz := sizeLine_big
  obtain ⟨g1, g2, g3⟩ := h.gn g hg
  refine ⟨?_, fun z hz => ?_⟩
  · have hn : g.Nodup := asc_nd g3
    have : g.length ≤ (qs.map (·.1)).length := by
      have key : ∀ (g m : List Str), g.Nodup → (∀ z ∈ g, z ∈ m) → g.length ≤ m.length := by
        intro g
        induction g with
        | nil => intro m _ _; simp
        | cons x g ih =>
          intro m hn hs
          obtain ⟨n1, n2⟩ := List.nodup_cons.mp hn
          have hx := hs x List.mem_cons_self
          have := ih (m.erase x) n2 fun z hz => by
            have hne : z ≠ x := fun e => n1 (e ▸ hz)
            exact (List.mem_erase_of_ne hne).mpr (hs z (List.mem_cons_of_mem _ hz))
          rw [List.length_erase_of_mem hx] at this
          have := List.length_pos_of_mem hx
          rw [List.length_cons]
          omega
      exact key g _ hn g2
    rw [List.length_map] at this
    have := h.q5
    omega
  · obtain ⟨q, hq, rfl⟩ := List.mem_map.mp (g2 z hz)
    exact nmOk_len (h.qn q hq).1
theorem VS.gd {qs : List (Str × Int)} {gs : List (List Str)} (h : VS qs gs) : Gd 3 (mkS qs gs) := by
  have hz := sizeLine_big
  refine ⟨by simp only [List.length_cons, List.length_nil]; omega, fun y hy => ?_⟩
  simp only [List.mem_cons, List.not_mem_nil, or_false] at hy
  rcases hy with rfl | rfl
  · refine ⟨by rw [List.length_map]; have := h.q5; omega, fun y hy => ?_⟩
    obtain ⟨q, hq, rfl⟩ := List.mem_map.mp hy
    refine ⟨by simp only [List.length_cons, List.length_nil]; omega, fun y hy => ?_⟩
    simp only [List.mem_cons, List.not_mem_nil, or_false] at hy
    rcases hy with rfl | rfl
    · exact nmOk_len (h.qn q hq).1
    · trivial
  · refine ⟨by rw [List.length_map]; have := h.g10; omega, fun y hy => ?_⟩
    obtain ⟨g, hg, rfl⟩ := List.mem_map.mp hy
    exact gd_mkG (h.gok g hg)
theorem s_require_scenario {qs : List (Str × Int)} {gs : List (List Str)} (h : VS qs gs) : p_require_scenario [mkS qs gs] = .ok .none := by
  rw [p_require_scenario, runP_out, m_require_scenario, show dsG [mkS qs gs] 1 = [some (.d (mkS qs gs))] from rfl]
  simp only [bind_ok, bind_exc, bnd_app, lift_some, eC_app, eVar_0, eVar_1, eVar_2, eVar_3, eVar_4, eVar_5, eVar_6, eVar_7, eVar_8, eVar_9, eVar_10, ap1_app, ap2_app, apA_app, aCons_app, nilA_app, tru_app, tst_app, asB_bool, truD_bool, truD_list, truD_tuple, mNot_app, mAnd_app, mOr_app, eNot_app, eAnd_app, eOr_app, andK_b, orK_b, eIf_app, eTup_app, eLst_app, lLst_app, frzL_app, eList_app, eSl_app, pN_app, pS_app, partD_int, chn_b, eChain_app, seq_nx, seq_ret, seq_brk, seq_cnt, seq_exc, sSeq_app, sRet_app, sDrop_app, sIf_app, sRaise_app, sAsg_name, sSetL_app, rxM_ok, rxM_exc, eCall_app, outP_ret, outP_nx, outP_exc, Option.map_some, len0, len1, len2, len3, len4, len5, len6, len7, len8, eq_self, sz0, sz1, sz2, sz3, sz4, sz5, sz6, sz7, sz8, sz9, sz10, sz11, freeAt_s, freeAt_n, freeAt_d, freeAt_m, sFrz_app, frzK_ml, List.getElem?_cons_zero, List.getElem?_cons_succ, List.set_cons_zero, List.set_cons_succ, sAsg_tup, asgK_some, bTup_app, bAll_nil, bAll_cons, bName_app, Option.bind_some, isMl_s, isMl_m, resK_some, onK_ml, eApp_app, ePop_app, eIdxV_app, eLenV_app, tTruV_app, sSetI_app, onL_app, fLen_ok, fTru_ok, rbK_ok, cbK_ml, eCB_cons, eCB_nil, List.nil_append, List.cons_append, outK_some, outR_ret, outR_nx, outB_s, outB_m, mConsD_app, mConsL_app, sPar_app, setAll_nil, setAll_cons, true_and, and_true, and_self, Bool.not_true, Bool.not_false, Bool.false_eq_true, reduceIte, s_is_scenario _ h.gd, h.scn]
theorem ix_S0 (qs : List (Str × Int)) (gs : List (List Str)) : ixD (mkS qs gs) (.int 0) = some (.tuple (qs.map mkQ)) := ix_t0 _ _
theorem ix_S1 (qs : List (Str × Int)) (gs : List (List Str)) : ixD (mkS qs gs) (.int 1) = some (.tuple (gs.map mkG)) := ix_t1 _ _ _
theorem names_comp {qs : List (Str × Int)} {gs : List (List Str)} (hl : qs.length ≤ sizeLine) : eLc [1] (bName 1) (tAll) (ap2 ixD (eVar 1) (eC (.int 0))) (ap1 itemsD (ap2 ixD (eVar 0) (eC (.int 0)))) [some (.d (mkS qs gs)), none] = .ok ((qs.map (·.1)).map PyData.str) [some (.d (mkS qs gs)), none] := by
  rw [List.map_map]
  refine lcM qs mkQ _ ?_ hl fun q hq => ⟨_, rfl, ?_, rfl, rfl⟩
  · simp only [bind_ok, bind_exc, bnd_app, lift_some, eC_app, eVar_0, eVar_1, eVar_2, eVar_3, eVar_4, eVar_5, eVar_6, eVar_7, eVar_8, eVar_9, eVar_10, ap1_app, ap2_app, apA_app, aCons_app, nilA_app, tru_app, tst_app, asB_bool, truD_bool, truD_list, truD_tuple, mNot_app, mAnd_app, mOr_app, eNot_app, eAnd_app, eOr_app, andK_b, orK_b, eIf_app, eTup_app, eLst_app, lLst_app, frzL_app, eList_app, eSl_app, pN_app, pS_app, partD_int, chn_b, eChain_app, seq_nx, seq_ret, seq_brk, seq_cnt, seq_exc, sSeq_app, sRet_app, sDrop_app, sIf_app, sRaise_app, sAsg_name, sSetL_app, rxM_ok, rxM_exc, eCall_app, outP_ret, outP_nx, outP_exc, Option.map_some, len0, len1, len2, len3, len4, len5, len6, len7, len8, eq_self, sz0, sz1, sz2, sz3, sz4, sz5, sz6, sz7, sz8, sz9, sz10, sz11, freeAt_s, freeAt_n, freeAt_d, freeAt_m, sFrz_app, frzK_ml, List.getElem?_cons_zero, List.getElem?_cons_succ, List.set_cons_zero, List.set_cons_succ, sAsg_tup, asgK_some, bTup_app, bAll_nil, bAll_cons, bName_app, Option.bind_some, isMl_s, isMl_m, resK_some, onK_ml, eApp_app, ePop_app, eIdxV_app, eLenV_app, tTruV_app, sSetI_app, onL_app, fLen_ok, fTru_ok, rbK_ok, cbK_ml, eCB_cons, eCB_nil, List.nil_append, List.cons_append, outK_some, outR_ret, outR_nx, outB_s, outB_m, mConsD_app, mConsL_app, sPar_app, setAll_nil, setAll_cons, true_and, and_true, and_self, Bool.not_true, Bool.not_false, Bool.false_eq_true, reduceIte, ix_S0, itemsD]
  · show ap2 ixD (eVar 1) (eC (.int 0)) [some (.d (mkS qs gs)), some (.d (mkQ q))] = _
    simp only [bind_ok, bind_exc, bnd_app, lift_some, eC_app, eVar_0, eVar_1, eVar_2, eVar_3, eVar_4, eVar_5, eVar_6, eVar_7, eVar_8, eVar_9, eVar_10, ap1_app, ap2_app, apA_app, aCons_app, nilA_app, tru_app, tst_app, asB_bool, truD_bool, truD_list, truD_tuple, mNot_app, mAnd_app, mOr_app, eNot_app, eAnd_app, eOr_app, andK_b, orK_b, eIf_app, eTup_app, eLst_app, lLst_app, frzL_app, eList_app, eSl_app, pN_app, pS_app, partD_int, chn_b, eChain_app, seq_nx, seq_ret, seq_brk, seq_cnt, seq_exc, sSeq_app, sRet_app, sDrop_app, sIf_app, sRaise_app, sAsg_name, sSetL_app, rxM_ok, rxM_exc, eCall_app, outP_ret, outP_nx, outP_exc, Option.map_some, len0, len1, len2, len3, len4, len5, len6, len7, len8, eq_self, sz0, sz1, sz2, sz3, sz4, sz5, sz6, sz7, sz8, sz9, sz10, sz11, freeAt_s, freeAt_n, freeAt_d, freeAt_m, sFrz_app, frzK_ml, List.getElem?_cons_zero, List.getElem?_cons_succ, List.set_cons_zero, List.set_cons_succ, sAsg_tup, asgK_some, bTup_app, bAll_nil, bAll_cons, bName_app, Option.bind_some, isMl_s, isMl_m, resK_some, onK_ml, eApp_app, ePop_app, eIdxV_app, eLenV_app, tTruV_app, sSetI_app, onL_app, fLen_ok, fTru_ok, rbK_ok, cbK_ml, eCB_cons, eCB_nil, List.nil_append, List.cons_append, outK_some, outR_ret, outR_nx, outB_s, outB_m, mConsD_app, mConsL_app, sPar_app, setAll_nil, setAll_cons, true_and, and_true, and_self, Bool.not_true, Bool.not_false, Bool.false_eq_true, reduceIte, mkQ, ix_t0]
    rfl
theorem s_known_names {qs : List (Str × Int)} {gs : List (List Str)} (hl : qs.length ≤ sizeLine) : p_known_names [mkS qs gs] = .ok (mkG (qs.map (·.1))) := by
  rw [p_known_names, runP_out, m_known_names, show dsG [mkS qs gs] 2 = [some (.d (mkS qs gs)), none] from rfl]
  simp only [bind_ok, bind_exc, bnd_app, lift_some, eC_app, eVar_0, eVar_1, eVar_2, eVar_3, eVar_4, eVar_5, eVar_6, eVar_7, eVar_8, eVar_9, eVar_10, ap1_app, ap2_app, apA_app, aCons_app, nilA_app, tru_app, tst_app, asB_bool, truD_bool, truD_list, truD_tuple, mNot_app, mAnd_app, mOr_app, eNot_app, eAnd_app, eOr_app, andK_b, orK_b, eIf_app, eTup_app, eLst_app, lLst_app, frzL_app, eList_app, eSl_app, pN_app, pS_app, partD_int, chn_b, eChain_app, seq_nx, seq_ret, seq_brk, seq_cnt, seq_exc, sSeq_app, sRet_app, sDrop_app, sIf_app, sRaise_app, sAsg_name, sSetL_app, rxM_ok, rxM_exc, eCall_app, outP_ret, outP_nx, outP_exc, Option.map_some, len0, len1, len2, len3, len4, len5, len6, len7, len8, eq_self, sz0, sz1, sz2, sz3, sz4, sz5, sz6, sz7, sz8, sz9, sz10, sz11, freeAt_s, freeAt_n, freeAt_d, freeAt_m, sFrz_app, frzK_ml, List.getElem?_cons_zero, List.getElem?_cons_succ, List.set_cons_zero, List.set_cons_succ, sAsg_tup, asgK_some, bTup_app, bAll_nil, bAll_cons, bName_app, Option.bind_some, isMl_s, isMl_m, resK_some, onK_ml, eApp_app, ePop_app, eIdxV_app, eLenV_app, tTruV_app, sSetI_app, onL_app, fLen_ok, fTru_ok, rbK_ok, cbK_ml, eCB_cons, eCB_nil, List.nil_append, List.cons_append, outK_some, outR_ret, outR_nx, outB_s, outB_m, mConsD_app, mConsL_app, sPar_app, setAll_nil, setAll_cons, true_and, and_true, and_self, Bool.not_true, Bool.not_false, Bool.false_eq_true, reduceIte, names_comp hl, tup_sorted]
theorem s__law_names {qs : List (Str × Int)} {gs : List (List Str)} (hl : qs.length ≤ sizeLine) : p__law_names [mkS qs gs] = .ok (mkG (qs.map (·.1))) := by
  rw [p__law_names, runP_out, m__law_names, show dsG [mkS qs gs] 2 = [some (.d (mkS qs gs)), none] from rfl]
  simp only [bind_ok, bind_exc, bnd_app, lift_some, eC_app, eVar_0, eVar_1, eVar_2, eVar_3, eVar_4, eVar_5, eVar_6, eVar_7, eVar_8, eVar_9, eVar_10, ap1_app, ap2_app, apA_app, aCons_app, nilA_app, tru_app, tst_app, asB_bool, truD_bool, truD_list, truD_tuple, mNot_app, mAnd_app, mOr_app, eNot_app, eAnd_app, eOr_app, andK_b, orK_b, eIf_app, eTup_app, eLst_app, lLst_app, frzL_app, eList_app, eSl_app, pN_app, pS_app, partD_int, chn_b, eChain_app, seq_nx, seq_ret, seq_brk, seq_cnt, seq_exc, sSeq_app, sRet_app, sDrop_app, sIf_app, sRaise_app, sAsg_name, sSetL_app, rxM_ok, rxM_exc, eCall_app, outP_ret, outP_nx, outP_exc, Option.map_some, len0, len1, len2, len3, len4, len5, len6, len7, len8, eq_self, sz0, sz1, sz2, sz3, sz4, sz5, sz6, sz7, sz8, sz9, sz10, sz11, freeAt_s, freeAt_n, freeAt_d, freeAt_m, sFrz_app, frzK_ml, List.getElem?_cons_zero, List.getElem?_cons_succ, List.set_cons_zero, List.set_cons_succ, sAsg_tup, asgK_some, bTup_app, bAll_nil, bAll_cons, bName_app, Option.bind_some, isMl_s, isMl_m, resK_some, onK_ml, eApp_app, ePop_app, eIdxV_app, eLenV_app, tTruV_app, sSetI_app, onL_app, fLen_ok, fTru_ok, rbK_ok, cbK_ml, eCB_cons, eCB_nil, List.nil_append, List.cons_append, outK_some, outR_ret, outR_nx, outB_s, outB_m, mConsD_app, mConsL_app, sPar_app, setAll_nil, setAll_cons, true_and, and_true, and_self, Bool.not_true, Bool.not_false, Bool.false_eq_true, reduceIte, names_comp hl, tup_sorted]
theorem s_require_names {n : Nat} {qs : List (Str × Int)} {gs : List (List Str)} (hl : qs.length ≤ sizeLine) (x : D) (hx : Gd n x) (hn : n ≤ 59) : p_require_names [mkS qs gs, x] = if isNT (qs.map (·.1)) x = true then .ok .none else .exc "InvalidNames" := by
  rw [p_require_names, runP_out, m_require_names, show dsG [mkS qs gs, x] 2 = [some (.d (mkS qs gs)), some (.d x)] from rfl]
  simp only [bind_ok, bind_exc, bnd_app, lift_some, eC_app, eVar_0, eVar_1, eVar_2, eVar_3, eVar_4, eVar_5, eVar_6, eVar_7, eVar_8, eVar_9, eVar_10, ap1_app, ap2_app, apA_app, aCons_app, nilA_app, tru_app, tst_app, asB_bool, truD_bool, truD_list, truD_tuple, mNot_app, mAnd_app, mOr_app, eNot_app, eAnd_app, eOr_app, andK_b, orK_b, eIf_app, eTup_app, eLst_app, lLst_app, frzL_app, eList_app, eSl_app, pN_app, pS_app, partD_int, chn_b, eChain_app, seq_nx, seq_ret, seq_brk, seq_cnt, seq_exc, sSeq_app, sRet_app, sDrop_app, sIf_app, sRaise_app, sAsg_name, sSetL_app, rxM_ok, rxM_exc, eCall_app, outP_ret, outP_nx, outP_exc, Option.map_some, len0, len1, len2, len3, len4, len5, len6, len7, len8, eq_self, sz0, sz1, sz2, sz3, sz4, sz5, sz6, sz7, sz8, sz9, sz10, sz11, freeAt_s, freeAt_n, freeAt_d, freeAt_m, sFrz_app, frzK_ml, List.getElem?_cons_zero, List.getElem?_cons_succ, List.set_cons_zero, List.set_cons_succ, sAsg_tup, asgK_some, bTup_app, bAll_nil, bAll_cons, bName_app, Option.bind_some, isMl_s, isMl_m, resK_some, onK_ml, eApp_app, ePop_app, eIdxV_app, eLenV_app, tTruV_app, sSetI_app, onL_app, fLen_ok, fTru_ok, rbK_ok, cbK_ml, eCB_cons, eCB_nil, List.nil_append, List.cons_append, outK_some, outR_ret, outR_nx, outB_s, outB_m, mConsD_app, mConsL_app, sPar_app, setAll_nil, setAll_cons, true_and, and_true, and_self, Bool.not_true, Bool.not_false, Bool.false_eq_true, reduceIte, s_known_names hl, s_is_name_tuple (kx := mkG (qs.map (·.1))) (known := qs.map (·.1)) rfl x hx hn]
  cases isNT (qs.map (·.1)) x <;> simp only [bind_ok, bind_exc, bnd_app, lift_some, eC_app, eVar_0, eVar_1, eVar_2, eVar_3, eVar_4, eVar_5, eVar_6, eVar_7, eVar_8, eVar_9, eVar_10, ap1_app, ap2_app, apA_app, aCons_app, nilA_app, tru_app, tst_app, asB_bool, truD_bool, truD_list, truD_tuple, mNot_app, mAnd_app, mOr_app, eNot_app, eAnd_app, eOr_app, andK_b, orK_b, eIf_app, eTup_app, eLst_app, lLst_app, frzL_app, eList_app, eSl_app, pN_app, pS_app, partD_int, chn_b, eChain_app, seq_nx, seq_ret, seq_brk, seq_cnt, seq_exc, sSeq_app, sRet_app, sDrop_app, sIf_app, sRaise_app, sAsg_name, sSetL_app, rxM_ok, rxM_exc, eCall_app, outP_ret, outP_nx, outP_exc, Option.map_some, len0, len1, len2, len3, len4, len5, len6, len7, len8, eq_self, sz0, sz1, sz2, sz3, sz4, sz5, sz6, sz7, sz8, sz9, sz10, sz11, freeAt_s, freeAt_n, freeAt_d, freeAt_m, sFrz_app, frzK_ml, List.getElem?_cons_zero, List.getElem?_cons_succ, List.set_cons_zero, List.set_cons_succ, sAsg_tup, asgK_some, bTup_app, bAll_nil, bAll_cons, bName_app, Option.bind_some, isMl_s, isMl_m, resK_some, onK_ml, eApp_app, ePop_app, eIdxV_app, eLenV_app, tTruV_app, sSetI_app, onL_app, fLen_ok, fTru_ok, rbK_ok, cbK_ml, eCB_cons, eCB_nil, List.nil_append, List.cons_append, outK_some, outR_ret, outR_nx, outB_s, outB_m, mConsD_app, mConsL_app, sPar_app, setAll_nil, setAll_cons, true_and, and_true, and_self, Bool.not_true, Bool.not_false, Bool.false_eq_true, reduceIte]
theorem len_G (gs : List (List Str)) : lenD [.tuple (gs.map mkG)] = some (.int (gs.length : Int)) := by rw [len_tup, List.length_map]
theorem s_require_group {n : Nat} {qs : List (Str × Int)} {gs : List (List Str)} (x : D) (hx : Gd n x) : p_require_group [mkS qs gs, x] = if isIdx x gs.length = true then .ok .none else .exc "InvalidGroup" := by
  rw [p_require_group, runP_out, m_require_group, show dsG [mkS qs gs, x] 2 = [some (.d (mkS qs gs)), some (.d x)] from rfl]
  simp only [bind_ok, bind_exc, bnd_app, lift_some, eC_app, eVar_0, eVar_1, eVar_2, eVar_3, eVar_4, eVar_5, eVar_6, eVar_7, eVar_8, eVar_9, eVar_10, ap1_app, ap2_app, apA_app, aCons_app, nilA_app, tru_app, tst_app, asB_bool, truD_bool, truD_list, truD_tuple, mNot_app, mAnd_app, mOr_app, eNot_app, eAnd_app, eOr_app, andK_b, orK_b, eIf_app, eTup_app, eLst_app, lLst_app, frzL_app, eList_app, eSl_app, pN_app, pS_app, partD_int, chn_b, eChain_app, seq_nx, seq_ret, seq_brk, seq_cnt, seq_exc, sSeq_app, sRet_app, sDrop_app, sIf_app, sRaise_app, sAsg_name, sSetL_app, rxM_ok, rxM_exc, eCall_app, outP_ret, outP_nx, outP_exc, Option.map_some, len0, len1, len2, len3, len4, len5, len6, len7, len8, eq_self, sz0, sz1, sz2, sz3, sz4, sz5, sz6, sz7, sz8, sz9, sz10, sz11, freeAt_s, freeAt_n, freeAt_d, freeAt_m, sFrz_app, frzK_ml, List.getElem?_cons_zero, List.getElem?_cons_succ, List.set_cons_zero, List.set_cons_succ, sAsg_tup, asgK_some, bTup_app, bAll_nil, bAll_cons, bName_app, Option.bind_some, isMl_s, isMl_m, resK_some, onK_ml, eApp_app, ePop_app, eIdxV_app, eLenV_app, tTruV_app, sSetI_app, onL_app, fLen_ok, fTru_ok, rbK_ok, cbK_ml, eCB_cons, eCB_nil, List.nil_append, List.cons_append, outK_some, outR_ret, outR_nx, outB_s, outB_m, mConsD_app, mConsL_app, sPar_app, setAll_nil, setAll_cons, true_and, and_true, and_self, Bool.not_true, Bool.not_false, Bool.false_eq_true, reduceIte, ix_S1, len_G, s_is_index x gs.length hx]
  cases isIdx x gs.length <;> simp only [bind_ok, bind_exc, bnd_app, lift_some, eC_app, eVar_0, eVar_1, eVar_2, eVar_3, eVar_4, eVar_5, eVar_6, eVar_7, eVar_8, eVar_9, eVar_10, ap1_app, ap2_app, apA_app, aCons_app, nilA_app, tru_app, tst_app, asB_bool, truD_bool, truD_list, truD_tuple, mNot_app, mAnd_app, mOr_app, eNot_app, eAnd_app, eOr_app, andK_b, orK_b, eIf_app, eTup_app, eLst_app, lLst_app, frzL_app, eList_app, eSl_app, pN_app, pS_app, partD_int, chn_b, eChain_app, seq_nx, seq_ret, seq_brk, seq_cnt, seq_exc, sSeq_app, sRet_app, sDrop_app, sIf_app, sRaise_app, sAsg_name, sSetL_app, rxM_ok, rxM_exc, eCall_app, outP_ret, outP_nx, outP_exc, Option.map_some, len0, len1, len2, len3, len4, len5, len6, len7, len8, eq_self, sz0, sz1, sz2, sz3, sz4, sz5, sz6, sz7, sz8, sz9, sz10, sz11, freeAt_s, freeAt_n, freeAt_d, freeAt_m, sFrz_app, frzK_ml, List.getElem?_cons_zero, List.getElem?_cons_succ, List.set_cons_zero, List.set_cons_succ, sAsg_tup, asgK_some, bTup_app, bAll_nil, bAll_cons, bName_app, Option.bind_some, isMl_s, isMl_m, resK_some, onK_ml, eApp_app, ePop_app, eIdxV_app, eLenV_app, tTruV_app, sSetI_app, onL_app, fLen_ok, fTru_ok, rbK_ok, cbK_ml, eCB_cons, eCB_nil, List.nil_append, List.cons_append, outK_some, outR_ret, outR_nx, outB_s, outB_m, mConsD_app, mConsL_app, sPar_app, setAll_nil, setAll_cons, true_and, and_true, and_self, Bool.not_true, Bool.not_false, Bool.false_eq_true, reduceIte]
theorem s_common {a o : List Str} (hl : a.length ≤ sizeLine) : p_common [mkG a, mkG o] = .ok (mkG (a.filter fun z => o.contains z)) := by
  rw [p_common, runP_out, m_common, show dsG [mkG a, mkG o] 3 = [some (.d (mkG a)), some (.d (mkG o)), none] from rfl]
  have ec : eLc [2] (bName 2) (tst (ap2 inD (eVar 2) (eVar 1))) (eVar 2) (ap1 itemsD (eVar 0)) [some (.d (mkG a)), some (.d (mkG o)), none] = .ok ((a.filter fun z => o.contains z).map PyData.str) [some (.d (mkG a)), some (.d (mkG o)), none] := by
    refine lcF a PyData.str (fun z => o.contains z) PyData.str rfl hl fun z hz => ⟨_, rfl, ?_, fun _ => rfl, rfl, rfl⟩
    show tst (ap2 inD (eVar 2) (eVar 1)) [some (.d (mkG a)), some (.d (mkG o)), some (.d (.str z))] = _
    simp only [bind_ok, bind_exc, bnd_app, lift_some, eC_app, eVar_0, eVar_1, eVar_2, eVar_3, eVar_4, eVar_5, eVar_6, eVar_7, eVar_8, eVar_9, eVar_10, ap1_app, ap2_app, apA_app, aCons_app, nilA_app, tru_app, tst_app, asB_bool, truD_bool, truD_list, truD_tuple, mNot_app, mAnd_app, mOr_app, eNot_app, eAnd_app, eOr_app, andK_b, orK_b, eIf_app, eTup_app, eLst_app, lLst_app, frzL_app, eList_app, eSl_app, pN_app, pS_app, partD_int, chn_b, eChain_app, seq_nx, seq_ret, seq_brk, seq_cnt, seq_exc, sSeq_app, sRet_app, sDrop_app, sIf_app, sRaise_app, sAsg_name, sSetL_app, rxM_ok, rxM_exc, eCall_app, outP_ret, outP_nx, outP_exc, Option.map_some, len0, len1, len2, len3, len4, len5, len6, len7, len8, eq_self, sz0, sz1, sz2, sz3, sz4, sz5, sz6, sz7, sz8, sz9, sz10, sz11, freeAt_s, freeAt_n, freeAt_d, freeAt_m, sFrz_app, frzK_ml, List.getElem?_cons_zero, List.getElem?_cons_succ, List.set_cons_zero, List.set_cons_succ, sAsg_tup, asgK_some, bTup_app, bAll_nil, bAll_cons, bName_app, Option.bind_some, isMl_s, isMl_m, resK_some, onK_ml, eApp_app, ePop_app, eIdxV_app, eLenV_app, tTruV_app, sSetI_app, onL_app, fLen_ok, fTru_ok, rbK_ok, cbK_ml, eCB_cons, eCB_nil, List.nil_append, List.cons_append, outK_some, outR_ret, outR_nx, outB_s, outB_m, mConsD_app, mConsL_app, sPar_app, setAll_nil, setAll_cons, true_and, and_true, and_self, Bool.not_true, Bool.not_false, Bool.false_eq_true, reduceIte, in_strs (kx := mkG o) (known := o) rfl z]
  simp only [bind_ok, bind_exc, bnd_app, lift_some, eC_app, eVar_0, eVar_1, eVar_2, eVar_3, eVar_4, eVar_5, eVar_6, eVar_7, eVar_8, eVar_9, eVar_10, ap1_app, ap2_app, apA_app, aCons_app, nilA_app, tru_app, tst_app, asB_bool, truD_bool, truD_list, truD_tuple, mNot_app, mAnd_app, mOr_app, eNot_app, eAnd_app, eOr_app, andK_b, orK_b, eIf_app, eTup_app, eLst_app, lLst_app, frzL_app, eList_app, eSl_app, pN_app, pS_app, partD_int, chn_b, eChain_app, seq_nx, seq_ret, seq_brk, seq_cnt, seq_exc, sSeq_app, sRet_app, sDrop_app, sIf_app, sRaise_app, sAsg_name, sSetL_app, rxM_ok, rxM_exc, eCall_app, outP_ret, outP_nx, outP_exc, Option.map_some, len0, len1, len2, len3, len4, len5, len6, len7, len8, eq_self, sz0, sz1, sz2, sz3, sz4, sz5, sz6, sz7, sz8, sz9, sz10, sz11, freeAt_s, freeAt_n, freeAt_d, freeAt_m, sFrz_app, frzK_ml, List.getElem?_cons_zero, List.getElem?_cons_succ, List.set_cons_zero, List.set_cons_succ, sAsg_tup, asgK_some, bTup_app, bAll_nil, bAll_cons, bName_app, Option.bind_some, isMl_s, isMl_m, resK_some, onK_ml, eApp_app, ePop_app, eIdxV_app, eLenV_app, tTruV_app, sSetI_app, onL_app, fLen_ok, fTru_ok, rbK_ok, cbK_ml, eCB_cons, eCB_nil, List.nil_append, List.cons_append, outK_some, outR_ret, outR_nx, outB_s, outB_m, mConsD_app, mConsL_app, sPar_app, setAll_nil, setAll_cons, true_and, and_true, and_self, Bool.not_true, Bool.not_false, Bool.false_eq_true, reduceIte, ec, tup_sorted]
theorem ix_tup {xs : List D} {k : Nat} {y : D} (h : xs[k]? = some y) : ixD (.tuple xs) (.int (k : Int)) = some y := by
  have hk := (List.getElem?_eq_some_iff.mp h).1
  show L2.atI xs (k : Int) = _
  rw [L2.atI, L2.ixN, if_pos (by omega), if_pos (by omega)]
  simpa using h
theorem ix_G {gs : List (List Str)} {k : Nat} {g : List Str} (h : gs[k]? = some g) : ixD (.tuple (gs.map mkG)) (.int (k : Int)) = some (mkG g) := ix_tup (by rw [List.getElem?_map, h]; rfl)
theorem isIdx_nat {k n : Nat} (h : k < n) : isIdx (.int (k : Int)) (n : Int) = true := by
  simp only [isIdx, Bool.and_eq_true, decide_eq_true_eq]
  omega
theorem s_overlap {qs : List (Str × Int)} {gs : List (List Str)} (h : VS qs gs) {i j : Nat} {a o : List Str} (hi : gs[i]? = some a) (hj : gs[j]? = some o) : p_overlap [mkS qs gs, .int (i : Int), .int (j : Int)] = .ok (mkG (a.filter fun z => o.contains z)) := by
  have hz := sizeLine_big
  have hi' := (List.getElem?_eq_some_iff.mp hi).1
  have hj' := (List.getElem?_eq_some_iff.mp hj).1
  have ga := (h.gok a (List.mem_of_getElem? hi)).1
  rw [p_overlap, runP_out, m_overlap, show dsG [mkS qs gs, .int (i : Int), .int (j : Int)] 3 = [some (.d (mkS qs gs)), some (.d (.int (i : Int))), some (.d (.int (j : Int)))] from rfl]
  simp only [bind_ok, bind_exc, bnd_app, lift_some, eC_app, eVar_0, eVar_1, eVar_2, eVar_3, eVar_4, eVar_5, eVar_6, eVar_7, eVar_8, eVar_9, eVar_10, ap1_app, ap2_app, apA_app, aCons_app, nilA_app, tru_app, tst_app, asB_bool, truD_bool, truD_list, truD_tuple, mNot_app, mAnd_app, mOr_app, eNot_app, eAnd_app, eOr_app, andK_b, orK_b, eIf_app, eTup_app, eLst_app, lLst_app, frzL_app, eList_app, eSl_app, pN_app, pS_app, partD_int, chn_b, eChain_app, seq_nx, seq_ret, seq_brk, seq_cnt, seq_exc, sSeq_app, sRet_app, sDrop_app, sIf_app, sRaise_app, sAsg_name, sSetL_app, rxM_ok, rxM_exc, eCall_app, outP_ret, outP_nx, outP_exc, Option.map_some, len0, len1, len2, len3, len4, len5, len6, len7, len8, eq_self, sz0, sz1, sz2, sz3, sz4, sz5, sz6, sz7, sz8, sz9, sz10, sz11, freeAt_s, freeAt_n, freeAt_d, freeAt_m, sFrz_app, frzK_ml, List.getElem?_cons_zero, List.getElem?_cons_succ, List.set_cons_zero, List.set_cons_succ, sAsg_tup, asgK_some, bTup_app, bAll_nil, bAll_cons, bName_app, Option.bind_some, isMl_s, isMl_m, resK_some, onK_ml, eApp_app, ePop_app, eIdxV_app, eLenV_app, tTruV_app, sSetI_app, onL_app, fLen_ok, fTru_ok, rbK_ok, cbK_ml, eCB_cons, eCB_nil, List.nil_append, List.cons_append, outK_some, outR_ret, outR_nx, outB_s, outB_m, mConsD_app, mConsL_app, sPar_app, setAll_nil, setAll_cons, true_and, and_true, and_self, Bool.not_true, Bool.not_false, Bool.false_eq_true, reduceIte, s_require_scenario h, s_require_group (n := 0) (.int (i : Int)) trivial, s_require_group (n := 0) (.int (j : Int)) trivial, isIdx_nat hi', isIdx_nat hj', ix_S1, ix_G hi, ix_G hj, s_common (a := a) (o := o) (by omega)]
theorem s_overlap_x1 {n : Nat} {qs : List (Str × Int)} {gs : List (List Str)} (h : VS qs gs) {x y : D} (hx : Gd n x) (hb : isIdx x gs.length = false) : p_overlap [mkS qs gs, x, y] = .exc "InvalidGroup" := by
  rw [p_overlap, runP_out, m_overlap, show dsG [mkS qs gs, x, y] 3 = [some (.d (mkS qs gs)), some (.d x), some (.d y)] from rfl]
  simp only [bind_ok, bind_exc, bnd_app, lift_some, eC_app, eVar_0, eVar_1, eVar_2, eVar_3, eVar_4, eVar_5, eVar_6, eVar_7, eVar_8, eVar_9, eVar_10, ap1_app, ap2_app, apA_app, aCons_app, nilA_app, tru_app, tst_app, asB_bool, truD_bool, truD_list, truD_tuple, mNot_app, mAnd_app, mOr_app, eNot_app, eAnd_app, eOr_app, andK_b, orK_b, eIf_app, eTup_app, eLst_app, lLst_app, frzL_app, eList_app, eSl_app, pN_app, pS_app, partD_int, chn_b, eChain_app, seq_nx, seq_ret, seq_brk, seq_cnt, seq_exc, sSeq_app, sRet_app, sDrop_app, sIf_app, sRaise_app, sAsg_name, sSetL_app, rxM_ok, rxM_exc, eCall_app, outP_ret, outP_nx, outP_exc, Option.map_some, len0, len1, len2, len3, len4, len5, len6, len7, len8, eq_self, sz0, sz1, sz2, sz3, sz4, sz5, sz6, sz7, sz8, sz9, sz10, sz11, freeAt_s, freeAt_n, freeAt_d, freeAt_m, sFrz_app, frzK_ml, List.getElem?_cons_zero, List.getElem?_cons_succ, List.set_cons_zero, List.set_cons_succ, sAsg_tup, asgK_some, bTup_app, bAll_nil, bAll_cons, bName_app, Option.bind_some, isMl_s, isMl_m, resK_some, onK_ml, eApp_app, ePop_app, eIdxV_app, eLenV_app, tTruV_app, sSetI_app, onL_app, fLen_ok, fTru_ok, rbK_ok, cbK_ml, eCB_cons, eCB_nil, List.nil_append, List.cons_append, outK_some, outR_ret, outR_nx, outB_s, outB_m, mConsD_app, mConsL_app, sPar_app, setAll_nil, setAll_cons, true_and, and_true, and_self, Bool.not_true, Bool.not_false, Bool.false_eq_true, reduceIte, s_require_scenario h, s_require_group x hx, hb]
theorem s_overlap_x2 {n : Nat} {qs : List (Str × Int)} {gs : List (List Str)} (h : VS qs gs) {x : D} (hx : Gd n x) (hb : isIdx x gs.length = false) : p_overlap [mkS qs gs, .int 0, x] = .exc "InvalidGroup" := by
  have h0 : isIdx (.int 0) gs.length = true := isIdx_nat (k := 0) h.g1
  rw [p_overlap, runP_out, m_overlap, show dsG [mkS qs gs, .int 0, x] 3 = [some (.d (mkS qs gs)), some (.d (.int 0)), some (.d x)] from rfl]
  simp only [bind_ok, bind_exc, bnd_app, lift_some, eC_app, eVar_0, eVar_1, eVar_2, eVar_3, eVar_4, eVar_5, eVar_6, eVar_7, eVar_8, eVar_9, eVar_10, ap1_app, ap2_app, apA_app, aCons_app, nilA_app, tru_app, tst_app, asB_bool, truD_bool, truD_list, truD_tuple, mNot_app, mAnd_app, mOr_app, eNot_app, eAnd_app, eOr_app, andK_b, orK_b, eIf_app, eTup_app, eLst_app, lLst_app, frzL_app, eList_app, eSl_app, pN_app, pS_app, partD_int, chn_b, eChain_app, seq_nx, seq_ret, seq_brk, seq_cnt, seq_exc, sSeq_app, sRet_app, sDrop_app, sIf_app, sRaise_app, sAsg_name, sSetL_app, rxM_ok, rxM_exc, eCall_app, outP_ret, outP_nx, outP_exc, Option.map_some, len0, len1, len2, len3, len4, len5, len6, len7, len8, eq_self, sz0, sz1, sz2, sz3, sz4, sz5, sz6, sz7, sz8, sz9, sz10, sz11, freeAt_s, freeAt_n, freeAt_d, freeAt_m, sFrz_app, frzK_ml, List.getElem?_cons_zero, List.getElem?_cons_succ, List.set_cons_zero, List.set_cons_succ, sAsg_tup, asgK_some, bTup_app, bAll_nil, bAll_cons, bName_app, Option.bind_some, isMl_s, isMl_m, resK_some, onK_ml, eApp_app, ePop_app, eIdxV_app, eLenV_app, tTruV_app, sSetI_app, onL_app, fLen_ok, fTru_ok, rbK_ok, cbK_ml, eCB_cons, eCB_nil, List.nil_append, List.cons_append, outK_some, outR_ret, outR_nx, outB_s, outB_m, mConsD_app, mConsL_app, sPar_app, setAll_nil, setAll_cons, true_and, and_true, and_self, Bool.not_true, Bool.not_false, Bool.false_eq_true, reduceIte, s_require_scenario h, s_require_group (n := 0) (.int 0) trivial, s_require_group x hx, hb, h0]
theorem sTry_exc {hs : List Hd} {m : M Fl} {g g1 : Ga} {c : Str} (h : m g = .exc c g1) : sTry hs m g = hRun c g1 hs := by
  unfold sTry
  rw [h]
theorem s_are_together {qs : List (Str × Int)} {gs : List (List Str)} (hl : gs.length ≤ sizeLine) {names : List Str} (hn : names.length ≤ sizeLine) : p_are_together [mkS qs gs, mkG names] = .ok (.bool (gs.any (under names))) := by
  rw [p_are_together, runP_out, m_are_together, show dsG [mkS qs gs, mkG names] 3 = [some (.d (mkS qs gs)), some (.d (mkG names)), none] from rfl]
  have ec : eLc [2] (bName 2) (tAll) (eCall 2 p_contains (aCons (eVar 2) (aCons (eVar 1) (nilA)))) (ap1 itemsD (ap2 ixD (eVar 0) (eC (.int 1)))) [some (.d (mkS qs gs)), some (.d (mkG names)), none] = .ok (gs.map fun g => PyData.bool (under names g)) [some (.d (mkS qs gs)), some (.d (mkG names)), none] := by
    refine lcM gs mkG _ ?_ hl fun g hg => ⟨_, rfl, ?_, rfl, rfl⟩
    · simp only [bind_ok, bind_exc, bnd_app, lift_some, eC_app, eVar_0, eVar_1, eVar_2, eVar_3, eVar_4, eVar_5, eVar_6, eVar_7, eVar_8, eVar_9, eVar_10, ap1_app, ap2_app, apA_app, aCons_app, nilA_app, tru_app, tst_app, asB_bool, truD_bool, truD_list, truD_tuple, mNot_app, mAnd_app, mOr_app, eNot_app, eAnd_app, eOr_app, andK_b, orK_b, eIf_app, eTup_app, eLst_app, lLst_app, frzL_app, eList_app, eSl_app, pN_app, pS_app, partD_int, chn_b, eChain_app, seq_nx, seq_ret, seq_brk, seq_cnt, seq_exc, sSeq_app, sRet_app, sDrop_app, sIf_app, sRaise_app, sAsg_name, sSetL_app, rxM_ok, rxM_exc, eCall_app, outP_ret, outP_nx, outP_exc, Option.map_some, len0, len1, len2, len3, len4, len5, len6, len7, len8, eq_self, sz0, sz1, sz2, sz3, sz4, sz5, sz6, sz7, sz8, sz9, sz10, sz11, freeAt_s, freeAt_n, freeAt_d, freeAt_m, sFrz_app, frzK_ml, List.getElem?_cons_zero, List.getElem?_cons_succ, List.set_cons_zero, List.set_cons_succ, sAsg_tup, asgK_some, bTup_app, bAll_nil, bAll_cons, bName_app, Option.bind_some, isMl_s, isMl_m, resK_some, onK_ml, eApp_app, ePop_app, eIdxV_app, eLenV_app, tTruV_app, sSetI_app, onL_app, fLen_ok, fTru_ok, rbK_ok, cbK_ml, eCB_cons, eCB_nil, List.nil_append, List.cons_append, outK_some, outR_ret, outR_nx, outB_s, outB_m, mConsD_app, mConsL_app, sPar_app, setAll_nil, setAll_cons, true_and, and_true, and_self, Bool.not_true, Bool.not_false, Bool.false_eq_true, reduceIte, ix_S1, itemsD]
    · show eCall 2 p_contains (aCons (eVar 2) (aCons (eVar 1) (nilA))) [some (.d (mkS qs gs)), some (.d (mkG names)), some (.d (mkG g))] = _
      simp only [bind_ok, bind_exc, bnd_app, lift_some, eC_app, eVar_0, eVar_1, eVar_2, eVar_3, eVar_4, eVar_5, eVar_6, eVar_7, eVar_8, eVar_9, eVar_10, ap1_app, ap2_app, apA_app, aCons_app, nilA_app, tru_app, tst_app, asB_bool, truD_bool, truD_list, truD_tuple, mNot_app, mAnd_app, mOr_app, eNot_app, eAnd_app, eOr_app, andK_b, orK_b, eIf_app, eTup_app, eLst_app, lLst_app, frzL_app, eList_app, eSl_app, pN_app, pS_app, partD_int, chn_b, eChain_app, seq_nx, seq_ret, seq_brk, seq_cnt, seq_exc, sSeq_app, sRet_app, sDrop_app, sIf_app, sRaise_app, sAsg_name, sSetL_app, rxM_ok, rxM_exc, eCall_app, outP_ret, outP_nx, outP_exc, Option.map_some, len0, len1, len2, len3, len4, len5, len6, len7, len8, eq_self, sz0, sz1, sz2, sz3, sz4, sz5, sz6, sz7, sz8, sz9, sz10, sz11, freeAt_s, freeAt_n, freeAt_d, freeAt_m, sFrz_app, frzK_ml, List.getElem?_cons_zero, List.getElem?_cons_succ, List.set_cons_zero, List.set_cons_succ, sAsg_tup, asgK_some, bTup_app, bAll_nil, bAll_cons, bName_app, Option.bind_some, isMl_s, isMl_m, resK_some, onK_ml, eApp_app, ePop_app, eIdxV_app, eLenV_app, tTruV_app, sSetI_app, onL_app, fLen_ok, fTru_ok, rbK_ok, cbK_ml, eCB_cons, eCB_nil, List.nil_append, List.cons_append, outK_some, outR_ret, outR_nx, outB_s, outB_m, mConsD_app, mConsL_app, sPar_app, setAll_nil, setAll_cons, true_and, and_true, and_self, Bool.not_true, Bool.not_false, Bool.false_eq_true, reduceIte, s_contains (lx := mkG g) (sx := mkG names) (lg := g) (sm := names) rfl rfl hn]
      rfl
  simp only [bind_ok, bind_exc, bnd_app, lift_some, eC_app, eVar_0, eVar_1, eVar_2, eVar_3, eVar_4, eVar_5, eVar_6, eVar_7, eVar_8, eVar_9, eVar_10, ap1_app, ap2_app, apA_app, aCons_app, nilA_app, tru_app, tst_app, asB_bool, truD_bool, truD_list, truD_tuple, mNot_app, mAnd_app, mOr_app, eNot_app, eAnd_app, eOr_app, andK_b, orK_b, eIf_app, eTup_app, eLst_app, lLst_app, frzL_app, eList_app, eSl_app, pN_app, pS_app, partD_int, chn_b, eChain_app, seq_nx, seq_ret, seq_brk, seq_cnt, seq_exc, sSeq_app, sRet_app, sDrop_app, sIf_app, sRaise_app, sAsg_name, sSetL_app, rxM_ok, rxM_exc, eCall_app, outP_ret, outP_nx, outP_exc, Option.map_some, len0, len1, len2, len3, len4, len5, len6, len7, len8, eq_self, sz0, sz1, sz2, sz3, sz4, sz5, sz6, sz7, sz8, sz9, sz10, sz11, freeAt_s, freeAt_n, freeAt_d, freeAt_m, sFrz_app, frzK_ml, List.getElem?_cons_zero, List.getElem?_cons_succ, List.set_cons_zero, List.set_cons_succ, sAsg_tup, asgK_some, bTup_app, bAll_nil, bAll_cons, bName_app, Option.bind_some, isMl_s, isMl_m, resK_some, onK_ml, eApp_app, ePop_app, eIdxV_app, eLenV_app, tTruV_app, sSetI_app, onL_app, fLen_ok, fTru_ok, rbK_ok, cbK_ml, eCB_cons, eCB_nil, List.nil_append, List.cons_append, outK_some, outR_ret, outR_nx, outB_s, outB_m, mConsD_app, mConsL_app, sPar_app, setAll_nil, setAll_cons, true_and, and_true, and_self, Bool.not_true, Bool.not_false, Bool.false_eq_true, reduceIte, ec, any_bools]
theorem isNT_mkG {known g : List Str} (h1 : g ≠ []) (h2 : ∀ z ∈ g, z ∈ known) (h3 : g.Pairwise fun a b => sLt a b = true) : isNT known (mkG g) = true := by
  show (!(g.map PyData.str).isEmpty && ((g.map PyData.str).all isStrD && (ascB (g.map PyData.str) && (g.map PyData.str).all fun y => known.contains (strOf y)))) = true
  simp only [Bool.and_eq_true, List.all_eq_true]
  refine ⟨?_, fun y hy => ?_, asc_pair (k := PyData.str) h3, fun y hy => ?_⟩
  · cases g with
    | nil => exact absurd rfl h1
    | cons _ _ => rfl
  · obtain ⟨z, _, rfl⟩ := List.mem_map.mp hy
    rfl
  · obtain ⟨z, hz, rfl⟩ := List.mem_map.mp hy
    have := h2 z hz
    simpa [strOf] using this
theorem isNT_not {known g : List Str} {z : Str} (hz : z ∈ g) (hk : z ∉ known) : isNT known (mkG g) = false := by
  cases h : isNT known (mkG g) with
  | false => rfl
  | true =>
    have h' : (!(g.map PyData.str).isEmpty && ((g.map PyData.str).all isStrD && (ascB (g.map PyData.str) && (g.map PyData.str).all fun y => known.contains (strOf y)))) = true := h
    simp only [Bool.and_eq_true, List.all_eq_true] at h'
    have := h'.2.2.2 (.str z) (List.mem_map_of_mem hz)
    simp only [strOf, List.contains_eq_mem, decide_eq_true_eq] at this
    exact absurd this hk
theorem isNT_dup {known g : List Str} (hz : ¬ g.Nodup) : isNT known (mkG g) = false := by
  cases h : isNT known (mkG g) with
  | false => rfl
  | true =>
    have h' : (!(g.map PyData.str).isEmpty && ((g.map PyData.str).all isStrD && (ascB (g.map PyData.str) && (g.map PyData.str).all fun y => known.contains (strOf y)))) = true := h
    simp only [Bool.and_eq_true] at h'
    exact absurd (asc_nodup h'.2.2.1) hz
theorem s_asked {qs : List (Str × Int)} {gs : List (List Str)} (h : VS qs gs) {names : List Str} (hg : gok names) (h1 : names ≠ []) (h2 : ∀ z ∈ names, z ∈ qs.map (·.1)) (h3 : names.Pairwise fun a b => sLt a b = true) : p_is_asked_together [mkS qs gs, mkG names] = .ok (.bool (gs.any (under names))) := by
  have hz := sizeLine_big
  have := h.q5
  have := h.g10
  have := hg.1
  rw [p_is_asked_together, runP_out, m_is_asked_together, show dsG [mkS qs gs, mkG names] 2 = [some (.d (mkS qs gs)), some (.d (mkG names))] from rfl]
  simp only [bind_ok, bind_exc, bnd_app, lift_some, eC_app, eVar_0, eVar_1, eVar_2, eVar_3, eVar_4, eVar_5, eVar_6, eVar_7, eVar_8, eVar_9, eVar_10, ap1_app, ap2_app, apA_app, aCons_app, nilA_app, tru_app, tst_app, asB_bool, truD_bool, truD_list, truD_tuple, mNot_app, mAnd_app, mOr_app, eNot_app, eAnd_app, eOr_app, andK_b, orK_b, eIf_app, eTup_app, eLst_app, lLst_app, frzL_app, eList_app, eSl_app, pN_app, pS_app, partD_int, chn_b, eChain_app, seq_nx, seq_ret, seq_brk, seq_cnt, seq_exc, sSeq_app, sRet_app, sDrop_app, sIf_app, sRaise_app, sAsg_name, sSetL_app, rxM_ok, rxM_exc, eCall_app, outP_ret, outP_nx, outP_exc, Option.map_some, len0, len1, len2, len3, len4, len5, len6, len7, len8, eq_self, sz0, sz1, sz2, sz3, sz4, sz5, sz6, sz7, sz8, sz9, sz10, sz11, freeAt_s, freeAt_n, freeAt_d, freeAt_m, sFrz_app, frzK_ml, List.getElem?_cons_zero, List.getElem?_cons_succ, List.set_cons_zero, List.set_cons_succ, sAsg_tup, asgK_some, bTup_app, bAll_nil, bAll_cons, bName_app, Option.bind_some, isMl_s, isMl_m, resK_some, onK_ml, eApp_app, ePop_app, eIdxV_app, eLenV_app, tTruV_app, sSetI_app, onL_app, fLen_ok, fTru_ok, rbK_ok, cbK_ml, eCB_cons, eCB_nil, List.nil_append, List.cons_append, outK_some, outR_ret, outR_nx, outB_s, outB_m, mConsD_app, mConsL_app, sPar_app, setAll_nil, setAll_cons, true_and, and_true, and_self, Bool.not_true, Bool.not_false, Bool.false_eq_true, reduceIte, s_require_scenario h, s_require_names (n := 1) (qs := qs) (gs := gs) (by omega) (mkG names) (gd_mkG hg) (by omega), isNT_mkG h1 h2 h3, s_are_together (qs := qs) (gs := gs) (by omega) (names := names) (by omega)]
theorem loop_keep {b : Bd} {body : M Fl} {P : Ga → Prop} : ∀ (items : List D), (∀ x ∈ items, ∀ g, P g → ∃ g1 g2, b x g = some g1 ∧ body g1 = .ok .nx g2 ∧ P g2) → ∀ g, P g → ∃ g', P g' ∧ loop b body items g = .ok .nx g'
  | [], _, g, h => ⟨g, h, rfl⟩
  | x :: r, st, g, h => by
    obtain ⟨g1, g2, e1, e2, h2⟩ := st x List.mem_cons_self g h
    obtain ⟨g', h', e'⟩ := loop_keep r (fun y hy => st y (List.mem_cons_of_mem _ hy)) g2 h2
    refine ⟨g', h', ?_⟩
    rw [loop_cons, e1]
    dsimp only
    rw [e2]
    exact e'
theorem mem_rng {x : D} {n : Nat} (h : x ∈ rngD 0 n) : ∃ i : Nat, i < n ∧ x = .int (i : Int) := by
  rw [range_ints] at h
  obtain ⟨i, hi, rfl⟩ := List.mem_map.mp h
  exact ⟨i, List.mem_range.mp hi, rfl⟩
theorem rng_len {n : Nat} (h : n ≤ 1000) : rng1 [.int (n : Int)] = some (rngD 0 n) := by
  have h1 : (n : Int).toNat = n := Int.toNat_natCast n
  have h2 : 0 ≤ (n : Int) ∧ (n : Int) ≤ 1000 := by omega
  generalize (n : Int) = i at h1 h2
  rw [rng1, if_pos ⟨by omega, by omega⟩, h1]
theorem for_of_rng {b : Bd} {mi : M (List D)} {body : M Fl} {g g' : Ga} {items : List D} {r : Rs Fl} (h : mi g = .ok items g) (h2 : loop b body items g = r) : sFor b mi body g = r := by
  rw [sFor_app, h, bind_ok, h2]
end PP

namespace PP
open PySem PySem.Spec
local macro_rules
  | `(tactic| wp_walk) => `(tactic| simp only [bind_ok, bind_exc, bnd_app, lift_some, eC_app, eVar_0, eVar_1, eVar_2, eVar_3, eVar_4, eVar_5, eVar_6, eVar_7, eVar_8, eVar_9, eVar_10, ap1_app, ap2_app, apA_app, aCons_app, nilA_app, tru_app, tst_app, asB_bool, truD_bool, truD_list, truD_tuple, mNot_app, mAnd_app, mOr_app, eNot_app, eAnd_app, eOr_app, andK_b, orK_b, eIf_app, eTup_app, eLst_app, lLst_app, frzL_app, eList_app, eSl_app, pN_app, pS_app, partD_int, chn_b, eChain_app, seq_nx, seq_ret, seq_brk, seq_cnt, seq_exc, sSeq_app, sRet_app, sDrop_app, sIf_app, sRaise_app, sAsg_name, sSetL_app, rxM_ok, rxM_exc, eCall_app, outP_ret, outP_nx, outP_exc, Option.map_some, len0, len1, len2, len3, len4, len5, len6, len7, len8, eq_self, sz0, sz1, sz2, sz3, sz4, sz5, sz6, sz7, sz8, sz9, sz10, sz11, freeAt_s, freeAt_n, freeAt_d, freeAt_m, sFrz_app, frzK_ml, List.getElem?_cons_zero, List.getElem?_cons_succ, List.set_cons_zero, List.set_cons_succ, sAsg_tup, asgK_some, bTup_app, bAll_nil, bAll_cons, bName_app, Option.bind_some, isMl_s, isMl_m, resK_some, onK_ml, eApp_app, ePop_app, eIdxV_app, eLenV_app, tTruV_app, sSetI_app, onL_app, fLen_ok, fTru_ok, rbK_ok, cbK_ml, eCB_cons, eCB_nil, List.nil_append, List.cons_append, outK_some, outR_ret, outR_nx, outB_s, outB_m, mConsD_app, mConsL_app, sPar_app, setAll_nil, setAll_cons, true_and, and_true, and_self, Bool.not_true, Bool.not_false, Bool.false_eq_true, reduceIte, eVar_11, eVar_12, eVar_13, eVar_14, eVar_15, eVar_16, eVar_17, eVar_18, eVar_19, eVar_20, eVar_21, eVar_22, eVar_23, eVar_24, eVar_25, sWipe_app, wipeG_nil, wipeG_cons, sSetO_app, mConsO_app, ap2L_app, eIdx_app, eExt_app, eNewT_app, sAugI_app, augK_app, sAugT_app, augKT_app, isMt_s, isMt_m, freeAt_t, List.all_cons, List.all_nil, Bool.and_true, Bool.true_and, frzK_md])
  | `(tactic| wp_walk using $ts,*) => `(tactic| simp only [bind_ok, bind_exc, bnd_app, lift_some, eC_app, eVar_0, eVar_1, eVar_2, eVar_3, eVar_4, eVar_5, eVar_6, eVar_7, eVar_8, eVar_9, eVar_10, ap1_app, ap2_app, apA_app, aCons_app, nilA_app, tru_app, tst_app, asB_bool, truD_bool, truD_list, truD_tuple, mNot_app, mAnd_app, mOr_app, eNot_app, eAnd_app, eOr_app, andK_b, orK_b, eIf_app, eTup_app, eLst_app, lLst_app, frzL_app, eList_app, eSl_app, pN_app, pS_app, partD_int, chn_b, eChain_app, seq_nx, seq_ret, seq_brk, seq_cnt, seq_exc, sSeq_app, sRet_app, sDrop_app, sIf_app, sRaise_app, sAsg_name, sSetL_app, rxM_ok, rxM_exc, eCall_app, outP_ret, outP_nx, outP_exc, Option.map_some, len0, len1, len2, len3, len4, len5, len6, len7, len8, eq_self, sz0, sz1, sz2, sz3, sz4, sz5, sz6, sz7, sz8, sz9, sz10, sz11, freeAt_s, freeAt_n, freeAt_d, freeAt_m, sFrz_app, frzK_ml, List.getElem?_cons_zero, List.getElem?_cons_succ, List.set_cons_zero, List.set_cons_succ, sAsg_tup, asgK_some, bTup_app, bAll_nil, bAll_cons, bName_app, Option.bind_some, isMl_s, isMl_m, resK_some, onK_ml, eApp_app, ePop_app, eIdxV_app, eLenV_app, tTruV_app, sSetI_app, onL_app, fLen_ok, fTru_ok, rbK_ok, cbK_ml, eCB_cons, eCB_nil, List.nil_append, List.cons_append, outK_some, outR_ret, outR_nx, outB_s, outB_m, mConsD_app, mConsL_app, sPar_app, setAll_nil, setAll_cons, true_and, and_true, and_self, Bool.not_true, Bool.not_false, Bool.false_eq_true, reduceIte, eVar_11, eVar_12, eVar_13, eVar_14, eVar_15, eVar_16, eVar_17, eVar_18, eVar_19, eVar_20, eVar_21, eVar_22, eVar_23, eVar_24, eVar_25, sWipe_app, wipeG_nil, wipeG_cons, sSetO_app, mConsO_app, ap2L_app, eIdx_app, eExt_app, eNewT_app, sAugI_app, augK_app, sAugT_app, augKT_app, isMt_s, isMt_m, freeAt_t, List.all_cons, List.all_nil, Bool.and_true, Bool.true_and, frzK_md, $[$ts:term],*])
/-! ### the answers to fewer names -/
def pt (N : List Str) (row : List Int) (F : List Str) : List Int := F.map fun z => row.getD (N.idxOf z) 0
theorem find_str {N : List Str} {z : Str} (h : z ∈ N) : (N.map PyData.str).findIdx? (fun d => PyData.eqv d (.str z)) = some (N.idxOf z) := by
  rw [List.findIdx?_map]
  have e : ((fun d => PyData.eqv d (.str z)) ∘ PyData.str) = fun y => y == z := by
    funext y
    exact eqv_str y z
  rw [e]
  exact List.findIdx?_eq_some_of_exists (p := fun y => y == z) ⟨z, h, beq_self_eq_true z⟩
theorem seq_its {x : D} {xs : List D} (h : seqD x = some xs) : itsD x = xs := by
  cases x <;> simp [seqD] at h <;> exact h
theorem seq_idx {x : D} {N : List Str} (h : seqD x = some (N.map PyData.str)) (hN : N ≠ []) : idxOk x = true := by
  cases N with
  | nil => exact absurd rfl hN
  | cons z N =>
    cases x with
    | list xs => rfl
    | tuple xs =>
      simp [seqD] at h
      subst h
      rfl
    | _ => cases h
theorem idx_str {N : List Str} {z : Str} (h : z ∈ N) : idxL (N.map PyData.str) (.str z) = some (.int (N.idxOf z : Nat)) := by
  rw [idxL, if_pos, find_str h]
  · rfl
  · simp only [inOk, Bool.and_eq_true, decide_eq_true_eq]
    exact ⟨rfl, plain_strs id N, by show PyData.depth (.str z) ≤ 60; simp [PyData.depth]⟩
theorem ix_row {row : List Int} {k : Nat} (h : k < row.length) : ixD (mkRow row) (.int (k : Int)) = some (.int (row.getD k 0)) := by
  show L2.atI (row.map PyData.int) (k : Int) = _
  rw [L2.atI, L2.ixN, if_pos (by omega), if_pos (by simp only [List.length_map]; omega)]
  show (row.map PyData.int)[(k : Int).toNat]? = _
  rw [show (k : Int).toNat = k by omega, List.getElem?_map, List.getElem?_eq_getElem h, List.getD_eq_getElem?_getD, List.getElem?_eq_getElem h]
  rfl
theorem s_restrict {nd fd : D} {N F : List Str} {row : List Int} (hn : seqD nd = some (N.map PyData.str)) (hf : itemsD fd = some (F.map PyData.str)) (hs : ∀ z ∈ F, z ∈ N) (hr : row.length = N.length) (hl : F.length ≤ 1000) : p_restrict [nd, mkRow row, fd] = .ok (mkRow (pt N row F)) := by
  have hz := sizeLine_big
  rw [p_restrict, runP_out, m_restrict, m_restrict_s1, show dsG [nd, mkRow row, fd] 4 = [some (.d nd), some (.d (mkRow row)), some (.d fd), none] from rfl]
  wp_walk
  rw [lcM F PyData.str (fun z => .int (row.getD (N.idxOf z) 0)) ?_ ?_ ?_ ?_ ?_]
  · wp_walk using tup_list, pt, mkRow, List.map_map
    rfl
  · wp_walk using hf
  · omega
  · intro z hz'
    refine ⟨_, rfl, ?_, rfl, rfl⟩
    have hzN := hs z hz'
    wp_walk using seq_idx hn (by rintro rfl; cases hzN), seq_its hn, idx_str hzN, ix_row (row := row) (k := N.idxOf z) (by rw [hr]; exact List.idxOf_lt_length_of_mem hzN)
  · rfl
  · rfl
theorem s_law_part {nd fd : D} {N F : List Str} {row : List Int} (hn : seqD nd = some (N.map PyData.str)) (hf : itemsD fd = some (F.map PyData.str)) (hs : ∀ z ∈ F, z ∈ N) (hr : row.length = N.length) (hl : F.length ≤ 1000) : p__law_part [nd, mkRow row, fd] = .ok (mkRow (pt N row F)) := s_restrict hn hf hs hr hl
end PP

namespace PP
open PySem PySem.Spec
local macro_rules
  | `(tactic| wp_walk) => `(tactic| simp only [bind_ok, bind_exc, bnd_app, lift_some, eC_app, eVar_0, eVar_1, eVar_2, eVar_3, eVar_4, eVar_5, eVar_6, eVar_7, eVar_8, eVar_9, eVar_10, ap1_app, ap2_app, apA_app, aCons_app, nilA_app, tru_app, tst_app, asB_bool, truD_bool, truD_list, truD_tuple, mNot_app, mAnd_app, mOr_app, eNot_app, eAnd_app, eOr_app, andK_b, orK_b, eIf_app, eTup_app, eLst_app, lLst_app, frzL_app, eList_app, eSl_app, pN_app, pS_app, partD_int, chn_b, eChain_app, seq_nx, seq_ret, seq_brk, seq_cnt, seq_exc, sSeq_app, sRet_app, sDrop_app, sIf_app, sRaise_app, sAsg_name, sSetL_app, rxM_ok, rxM_exc, eCall_app, outP_ret, outP_nx, outP_exc, Option.map_some, len0, len1, len2, len3, len4, len5, len6, len7, len8, eq_self, sz0, sz1, sz2, sz3, sz4, sz5, sz6, sz7, sz8, sz9, sz10, sz11, freeAt_s, freeAt_n, freeAt_d, freeAt_m, sFrz_app, frzK_ml, List.getElem?_cons_zero, List.getElem?_cons_succ, List.set_cons_zero, List.set_cons_succ, sAsg_tup, asgK_some, bTup_app, bAll_nil, bAll_cons, bName_app, Option.bind_some, isMl_s, isMl_m, resK_some, onK_ml, eApp_app, ePop_app, eIdxV_app, eLenV_app, tTruV_app, sSetI_app, onL_app, fLen_ok, fTru_ok, rbK_ok, cbK_ml, eCB_cons, eCB_nil, List.nil_append, List.cons_append, outK_some, outR_ret, outR_nx, outB_s, outB_m, mConsD_app, mConsL_app, sPar_app, setAll_nil, setAll_cons, true_and, and_true, and_self, Bool.not_true, Bool.not_false, Bool.false_eq_true, reduceIte, eVar_11, eVar_12, eVar_13, eVar_14, eVar_15, eVar_16, eVar_17, eVar_18, eVar_19, eVar_20, eVar_21, eVar_22, eVar_23, eVar_24, eVar_25, sWipe_app, wipeG_nil, wipeG_cons, sSetO_app, mConsO_app, ap2L_app, eIdx_app, eExt_app, eNewT_app, sAugI_app, augK_app, sAugT_app, augKT_app, isMt_s, isMt_m, freeAt_t, List.all_cons, List.all_nil, Bool.and_true, Bool.true_and, frzK_md])
  | `(tactic| wp_walk using $ts,*) => `(tactic| simp only [bind_ok, bind_exc, bnd_app, lift_some, eC_app, eVar_0, eVar_1, eVar_2, eVar_3, eVar_4, eVar_5, eVar_6, eVar_7, eVar_8, eVar_9, eVar_10, ap1_app, ap2_app, apA_app, aCons_app, nilA_app, tru_app, tst_app, asB_bool, truD_bool, truD_list, truD_tuple, mNot_app, mAnd_app, mOr_app, eNot_app, eAnd_app, eOr_app, andK_b, orK_b, eIf_app, eTup_app, eLst_app, lLst_app, frzL_app, eList_app, eSl_app, pN_app, pS_app, partD_int, chn_b, eChain_app, seq_nx, seq_ret, seq_brk, seq_cnt, seq_exc, sSeq_app, sRet_app, sDrop_app, sIf_app, sRaise_app, sAsg_name, sSetL_app, rxM_ok, rxM_exc, eCall_app, outP_ret, outP_nx, outP_exc, Option.map_some, len0, len1, len2, len3, len4, len5, len6, len7, len8, eq_self, sz0, sz1, sz2, sz3, sz4, sz5, sz6, sz7, sz8, sz9, sz10, sz11, freeAt_s, freeAt_n, freeAt_d, freeAt_m, sFrz_app, frzK_ml, List.getElem?_cons_zero, List.getElem?_cons_succ, List.set_cons_zero, List.set_cons_succ, sAsg_tup, asgK_some, bTup_app, bAll_nil, bAll_cons, bName_app, Option.bind_some, isMl_s, isMl_m, resK_some, onK_ml, eApp_app, ePop_app, eIdxV_app, eLenV_app, tTruV_app, sSetI_app, onL_app, fLen_ok, fTru_ok, rbK_ok, cbK_ml, eCB_cons, eCB_nil, List.nil_append, List.cons_append, outK_some, outR_ret, outR_nx, outB_s, outB_m, mConsD_app, mConsL_app, sPar_app, setAll_nil, setAll_cons, true_and, and_true, and_self, Bool.not_true, Bool.not_false, Bool.false_eq_true, reduceIte, eVar_11, eVar_12, eVar_13, eVar_14, eVar_15, eVar_16, eVar_17, eVar_18, eVar_19, eVar_20, eVar_21, eVar_22, eVar_23, eVar_24, eVar_25, sWipe_app, wipeG_nil, wipeG_cons, sSetO_app, mConsO_app, ap2L_app, eIdx_app, eExt_app, eNewT_app, sAugI_app, augK_app, sAugT_app, augKT_app, isMt_s, isMt_m, freeAt_t, List.all_cons, List.all_nil, Bool.and_true, Bool.true_and, frzK_md, $[$ts:term],*])
/-! ### sums over rows -/
def bag (qs : List (Str × Int)) (N : List Str) (tb : List Int) (F : List Str) (cell : List Int) : Int := ((((Rw qs N).zip tb).filter fun p => pt N p.1 F == cell).map (·.2)).sum
def msum (qs : List (Str × Int)) (N : List Str) (tb : List Int) (F : List Str) : List Int := (Rw qs F).map (bag qs N tb F)
theorem eqvAll_ints : ∀ a b : List Int, PyData.eqvAll (a.map PyData.int) (b.map PyData.int) = (a == b)
  | [], [] => rfl
  | [], _ :: _ => rfl
  | _ :: _, [] => rfl
  | x :: a, y :: b => by
    rw [List.map_cons, List.map_cons, PyData.eqvAll, eqvAll_ints a b, List.cons_beq_cons]
    rfl
theorem eqv_row (a b : List Int) : PyData.eqv (mkRow a) (mkRow b) = (a == b) := by rw [mkRow, mkRow, PyData.eqv, eqvAll_ints]
theorem gd_row {r : List Int} (h : r.length ≤ sizeLine) : Gd 1 (mkRow r) := by
  refine ⟨by rw [List.length_map]; exact h, fun y hy => ?_⟩
  obtain ⟨i, _, rfl⟩ := List.mem_map.mp hy
  trivial
theorem eq_row {a b : List Int} (ha : a.length ≤ 1000) (hb : b.length ≤ 1000) : eqD (mkRow a) (mkRow b) = some (.bool (a == b)) := by
  have := sizeLine_big
  rw [eq_gd (gd_row (by omega)) (gd_row (by omega)), eqv_row]
theorem ne_row {a b : List Int} (ha : a.length ≤ 1000) (hb : b.length ≤ 1000) : neD (mkRow a) (mkRow b) = some (.bool (!(a == b))) := by
  have := sizeLine_big
  rw [ne_gd (gd_row (by omega)) (gd_row (by omega)), eqv_row]
theorem zip_maps {α β : Type} (f : α → D) (g : β → D) : ∀ (a : List α) (b : List β), zipD (a.map f) (b.map g) = (a.zip b).map fun p => .tuple [f p.1, g p.2]
  | [], _ => rfl
  | _ :: _, [] => rfl
  | x :: a, y :: b => by
    have := zip_maps f g a b
    rw [zipD] at this ⊢
    rw [List.map_cons, List.map_cons, List.zip_cons_cons, List.map_cons, this, List.zip_cons_cons, List.map_cons]
theorem zip2_of {x y : D} {xs ys : List D} (hx : seqD x = some xs) (hy : seqD y = some ys) : zip2 [x, y] = some (zipD xs ys) := by
  rw [zip2, hx, hy]
theorem mem_zip_left {α β : Type} {a : List α} {b : List β} {p : α × β} (h : p ∈ a.zip b) : p.1 ∈ a := (List.of_mem_zip h).1
theorem zip_len {α β : Type} (a : List α) (b : List β) : (a.zip b).length ≤ a.length := by rw [List.length_zip]; omega
theorem foldl_app {α β : Type} (f : α → β) : ∀ (l : List α) (acc : List β), l.foldl (fun acc x => acc ++ [f x]) acc = acc ++ l.map f
  | [], acc => by simp
  | x :: l, acc => by rw [List.foldl_cons, foldl_app f l, List.map_cons, List.append_assoc]; rfl
/-- a loop with an outcome that is only bounded; at most B turns -/
theorem loop_relB {S γ : Type} {b : Bd} {body : M Fl} {emb : S → Ga} {G : S → γ → Ga} {mk : γ → D} {I : Nat → S → Prop} {B : Nat} : ∀ (src : List γ) (n : Nat) (s : S), n + src.length ≤ B → I n s → (∀ s x, b (mk x) (emb s) = some (G s x)) → (∀ n s x, n < B → I n s → x ∈ src → ∃ s', I (n + 1) s' ∧ body (G s x) = .ok .nx (emb s')) →
    ∃ s', I (n + src.length) s' ∧ loop b body (src.map mk) (emb s) = .ok .nx (emb s')
  | [], n, s, _, hI, _, _ => ⟨s, hI, rfl⟩
  | x :: r, n, s, hB, hI, hb, h => by
    rw [List.length_cons] at hB
    obtain ⟨s1, h1, e2⟩ := h n s x (by omega) hI List.mem_cons_self
    obtain ⟨s', h2, e3⟩ := loop_relB r (n + 1) s1 (by omega) h1 hb (fun n s y hn hs hy => h n s y hn hs (List.mem_cons_of_mem _ hy))
    refine ⟨s', by rw [List.length_cons, show n + (r.length + 1) = n + 1 + r.length by omega]; exact h2, ?_⟩
    rw [List.map_cons, loop_cons, hb]
    dsimp only
    rw [e2]
    exact e3
/-- a loop with an invariant over what was walked -/
theorem loop_relP {S γ : Type} {b : Bd} {body : M Fl} {emb : S → Ga} {G : S → γ → Ga} {mk : γ → D} {I : List γ → S → Prop} {full : List γ} : ∀ (src p : List γ) (s : S), full = p ++ src → I p s → (∀ s x, b (mk x) (emb s) = some (G s x)) → (∀ p x r s, full = p ++ x :: r → I p s → ∃ s', I (p ++ [x]) s' ∧ body (G s x) = .ok .nx (emb s')) →
    ∃ s', I full s' ∧ loop b body (src.map mk) (emb s) = .ok .nx (emb s')
  | [], p, s, e, hI, _, _ => ⟨s, by rw [e, List.append_nil]; exact hI, rfl⟩
  | x :: r, p, s, e, hI, hb, h => by
    obtain ⟨s1, h1, e2⟩ := h p x r s e hI
    obtain ⟨s', h2, e3⟩ := loop_relP r (p ++ [x]) s1 (by rw [e, List.append_assoc]; rfl) h1 hb h
    refine ⟨s', h2, ?_⟩
    rw [List.map_cons, loop_cons, hb]
    dsimp only
    rw [e2]
    exact e3
/-- a loop that appends one thing at each turn -/
theorem loop_app {γ δ : Type} {b : Bd} {body : M Fl} {mk : γ → D} {E : List δ → Ga} {G : List δ → γ → Ga} {n : Nat} {f : γ → δ} : ∀ (src : List γ) (acc : List δ), acc.length + src.length ≤ n → (∀ acc x, b (mk x) (E acc) = some (G acc x)) → (∀ acc x, acc.length < n → x ∈ src → body (G acc x) = .ok .nx (E (acc ++ [f x]))) →
    loop b body (src.map mk) (E acc) = .ok .nx (E (acc ++ src.map f))
  | [], acc, _, _, _ => by simp [loop_nil]
  | x :: r, acc, hl, hb, h => by
    rw [List.length_cons] at hl
    rw [List.map_cons, loop_cons, hb]
    dsimp only
    rw [h acc x (by omega) List.mem_cons_self]
    dsimp only
    rw [loop_app r _ (by rw [List.length_append, List.length_singleton]; omega) hb (fun acc y ha hy => h acc y ha (List.mem_cons_of_mem _ hy)), List.append_assoc]
    rfl
theorem pt_len (N : List Str) (row : List Int) (F : List Str) : (pt N row F).length = F.length := by rw [pt, List.length_map]
section
variable {qs : List (Str × Int)} {gs : List (List Str)} {N F : List Str}
theorem VS.ql (h : VS qs gs) : qs.length ≤ sizeLine := by have := h.q5; have := sizeLine_big; omega
theorem row_lenN {r : List Int} (h : r ∈ Rw qs N) : r.length = N.length := by
  have := row_len h
  rw [List.length_map] at this
  exact this
theorem s_law_sums (h : VS qs gs) {ws : List Int} {wd fd : D} (hw : seqD wd = some (ws.map PyData.int)) (hF : NS qs F) (hf : itemsD fd = some (F.map PyData.str)) : p__law_sums [mkS qs gs, wd, fd] = .ok (mkRow (msum qs (qs.map (·.1)) ws F)) := by
  have hz := sizeLine_big
  have hR := Rw_len h h.ns
  have hRF := Rw_len h hF
  have hq5 := h.q5
  have hF5 := hF.len h.q5
  have sS : seqD (.tuple (qs.map mkQ)) = some (qs.map mkQ) := rfl
  have eN := s_lawcells (nd := mkG (qs.map (·.1))) h h.ns sS rfl
  have eF := s_lawcells (nd := fd) h hF sS hf
  -- one cell
  have step : ∀ (acc : List Int) (cell : List Int), acc.length < 1000 → cell ∈ Rw qs F → m__law_sums_b2 [some (.d (mkS qs gs)), some (.d wd), some (.d fd), some (.d (mkG (qs.map (·.1)))), some (.ml false (acc.map PyData.int)), some (.d (.list ((Rw qs (qs.map (·.1))).map mkRow))), some (.d (mkRow cell)), none, none] =
      .ok .nx [some (.d (mkS qs gs)), some (.d wd), some (.d fd), some (.d (mkG (qs.map (·.1)))), some (.ml false ((acc ++ [bag qs (qs.map (·.1)) ws F cell]).map PyData.int)), some (.d (.list ((Rw qs (qs.map (·.1))).map mkRow))), none, none, none] := by
    intro acc cell ha hc
    rw [m__law_sums_b2, sSeq_app, m__law_sums_s1]
    wp_walk
    rw [lcF ((Rw qs (qs.map (·.1))).zip ws) (fun p => .tuple [mkRow p.1, .int p.2]) (fun p => pt (qs.map (·.1)) p.1 F == cell) (fun p => .int p.2) ?_ ?_ ?_ ?_ ?_]
    · wp_walk using sum_ints
      have fa : fApp (acc.map PyData.int) (.int (bag qs (qs.map (·.1)) ws F cell)) = some (.none, acc.map PyData.int ++ [.int (bag qs (qs.map (·.1)) ws F cell)]) := fApp_ok (by rw [List.length_map]; omega)
      simp only [bag] at fa
      wp_walk using fa, bag, List.map_append, List.map_cons, List.map_nil
    · wp_walk using zip2_of (x := .list ((Rw qs (qs.map (·.1))).map mkRow)) rfl hw, zip_maps
    · have := zip_len (Rw qs (qs.map (·.1))) ws
      omega
    · intro p hp
      have hp1 := row_lenN (mem_zip_left hp)
      refine ⟨_, rfl, ?_, fun _ => rfl, rfl, rfl⟩
      have e := s_law_part (nd := mkG (qs.map (·.1))) (fd := fd) (row := p.1) rfl hf hF.sub hp1 (by omega)
      have ec := row_lenN hc
      wp_walk using e, eq_row (a := pt (qs.map (·.1)) p.1 F) (b := cell) (by rw [pt_len]; omega) (by omega)
    · rfl
    · rfl
  have lp3 := loop_app (E := fun acc : List Int => [some (.d (mkS qs gs)), some (.d wd), some (.d fd), some (.d (mkG (qs.map (·.1)))), some (.ml false (acc.map PyData.int)), some (.d (.list ((Rw qs (qs.map (·.1))).map mkRow))), none, none, none])
    (b := bName 6) (body := m__law_sums_b2) (n := 1000) (mk := mkRow) (f := bag qs (qs.map (·.1)) ws F) (Rw qs F) [] (by simp only [List.length_nil]; omega) (G := fun acc c => [some (.d (mkS qs gs)), some (.d wd), some (.d fd), some (.d (mkG (qs.map (·.1)))), some (.ml false (acc.map PyData.int)), some (.d (.list ((Rw qs (qs.map (·.1))).map mkRow))), some (.d (mkRow c)), none, none]) (fun _ _ => rfl) (by intro acc c ha hc; exact step acc c ha hc)
  rw [List.map_nil] at lp3
  rw [p__law_sums, runP_out, m__law_sums, m__law_sums_s6, m__law_sums_s5, m__law_sums_s4, m__law_sums_s3, show dsG [mkS qs gs, wd, fd] 9 = [some (.d (mkS qs gs)), some (.d wd), some (.d fd), none, none, none, none, none, none] from rfl]
  wp_walk using s__law_names h.ql, ix_S0, eN, eF, sFor_app, itemsD, lp3, List.nil_append, tup_list
  rfl
end
end PP

namespace PP
open PySem PySem.Spec
local macro_rules
  | `(tactic| wp_walk) => `(tactic| simp only [bind_ok, bind_exc, bnd_app, lift_some, eC_app, eVar_0, eVar_1, eVar_2, eVar_3, eVar_4, eVar_5, eVar_6, eVar_7, eVar_8, eVar_9, eVar_10, ap1_app, ap2_app, apA_app, aCons_app, nilA_app, tru_app, tst_app, asB_bool, truD_bool, truD_list, truD_tuple, mNot_app, mAnd_app, mOr_app, eNot_app, eAnd_app, eOr_app, andK_b, orK_b, eIf_app, eTup_app, eLst_app, lLst_app, frzL_app, eList_app, eSl_app, pN_app, pS_app, partD_int, chn_b, eChain_app, seq_nx, seq_ret, seq_brk, seq_cnt, seq_exc, sSeq_app, sRet_app, sDrop_app, sIf_app, sRaise_app, sAsg_name, sSetL_app, rxM_ok, rxM_exc, eCall_app, outP_ret, outP_nx, outP_exc, Option.map_some, len0, len1, len2, len3, len4, len5, len6, len7, len8, eq_self, sz0, sz1, sz2, sz3, sz4, sz5, sz6, sz7, sz8, sz9, sz10, sz11, freeAt_s, freeAt_n, freeAt_d, freeAt_m, sFrz_app, frzK_ml, List.getElem?_cons_zero, List.getElem?_cons_succ, List.set_cons_zero, List.set_cons_succ, sAsg_tup, asgK_some, bTup_app, bAll_nil, bAll_cons, bName_app, Option.bind_some, isMl_s, isMl_m, resK_some, onK_ml, eApp_app, ePop_app, eIdxV_app, eLenV_app, tTruV_app, sSetI_app, onL_app, fLen_ok, fTru_ok, rbK_ok, cbK_ml, eCB_cons, eCB_nil, List.nil_append, List.cons_append, outK_some, outR_ret, outR_nx, outB_s, outB_m, mConsD_app, mConsL_app, sPar_app, setAll_nil, setAll_cons, true_and, and_true, and_self, Bool.not_true, Bool.not_false, Bool.false_eq_true, reduceIte, eVar_11, eVar_12, eVar_13, eVar_14, eVar_15, eVar_16, eVar_17, eVar_18, eVar_19, eVar_20, eVar_21, eVar_22, eVar_23, eVar_24, eVar_25, sWipe_app, wipeG_nil, wipeG_cons, sSetO_app, mConsO_app, ap2L_app, eIdx_app, eExt_app, eNewT_app, sAugI_app, augK_app, sAugT_app, augKT_app, isMt_s, isMt_m, freeAt_t, List.all_cons, List.all_nil, Bool.and_true, Bool.true_and, frzK_md])
  | `(tactic| wp_walk using $ts,*) => `(tactic| simp only [bind_ok, bind_exc, bnd_app, lift_some, eC_app, eVar_0, eVar_1, eVar_2, eVar_3, eVar_4, eVar_5, eVar_6, eVar_7, eVar_8, eVar_9, eVar_10, ap1_app, ap2_app, apA_app, aCons_app, nilA_app, tru_app, tst_app, asB_bool, truD_bool, truD_list, truD_tuple, mNot_app, mAnd_app, mOr_app, eNot_app, eAnd_app, eOr_app, andK_b, orK_b, eIf_app, eTup_app, eLst_app, lLst_app, frzL_app, eList_app, eSl_app, pN_app, pS_app, partD_int, chn_b, eChain_app, seq_nx, seq_ret, seq_brk, seq_cnt, seq_exc, sSeq_app, sRet_app, sDrop_app, sIf_app, sRaise_app, sAsg_name, sSetL_app, rxM_ok, rxM_exc, eCall_app, outP_ret, outP_nx, outP_exc, Option.map_some, len0, len1, len2, len3, len4, len5, len6, len7, len8, eq_self, sz0, sz1, sz2, sz3, sz4, sz5, sz6, sz7, sz8, sz9, sz10, sz11, freeAt_s, freeAt_n, freeAt_d, freeAt_m, sFrz_app, frzK_ml, List.getElem?_cons_zero, List.getElem?_cons_succ, List.set_cons_zero, List.set_cons_succ, sAsg_tup, asgK_some, bTup_app, bAll_nil, bAll_cons, bName_app, Option.bind_some, isMl_s, isMl_m, resK_some, onK_ml, eApp_app, ePop_app, eIdxV_app, eLenV_app, tTruV_app, sSetI_app, onL_app, fLen_ok, fTru_ok, rbK_ok, cbK_ml, eCB_cons, eCB_nil, List.nil_append, List.cons_append, outK_some, outR_ret, outR_nx, outB_s, outB_m, mConsD_app, mConsL_app, sPar_app, setAll_nil, setAll_cons, true_and, and_true, and_self, Bool.not_true, Bool.not_false, Bool.false_eq_true, reduceIte, eVar_11, eVar_12, eVar_13, eVar_14, eVar_15, eVar_16, eVar_17, eVar_18, eVar_19, eVar_20, eVar_21, eVar_22, eVar_23, eVar_24, eVar_25, sWipe_app, wipeG_nil, wipeG_cons, sSetO_app, mConsO_app, ap2L_app, eIdx_app, eExt_app, eNewT_app, sAugI_app, augK_app, sAugT_app, augKT_app, isMt_s, isMt_m, freeAt_t, List.all_cons, List.all_nil, Bool.and_true, Bool.true_and, frzK_md, $[$ts:term],*])
/-! ### dicts with keys rows -/
abbrev kys (r : List Int) : List L2.Key := r.map Sum.inl
theorem keysD_row : ∀ r : List Int, keysD (r.map PyData.int) = some (kys r)
  | [] => rfl
  | a :: r => by rw [List.map_cons, keysD, keysD_row r]; rfl
theorem tkD_row (r : List Int) : tkD (mkRow r) = some (kys r) := keysD_row r
theorem tkI_row (r : List Int) : tkI (mkRow r) = some (kys r) := by
  show (if ((r.map PyData.int).all dKey) = true then keysD (r.map PyData.int) else none) = _
  rw [if_pos, keysD_row]
  rw [List.all_map]
  exact List.all_eq_true.mpr fun _ _ => rfl
theorem kys_inj {a b : List Int} (h : kys a = kys b) : a = b := List.map_inj_right (fun x y e => Sum.inl.inj e) |>.mp h
theorem tk_eq (r r0 : List Int) : decide (tkD (mkRow r) = some (kys r0)) = (r == r0) := by
  rw [tkD_row]
  by_cases h : r = r0
  · subst h
    simp
  · rw [decide_eq_false (fun e => h (kys_inj (Option.some.inj e)))]
    simp [h]
abbrev tbD (rows : List (List Int)) (f : List Int → Int) : List (D × D) := rows.map fun r => (mkRow r, .int (f r))
theorem tbD_get {rows : List (List Int)} {f : List Int → Int} {r0 : List Int} (h : r0 ∈ rows) : tGet (tbD rows f) (kys r0) = some (.int (f r0)) := by
  unfold tGet
  induction rows with
  | nil => cases h
  | cons r rows ih =>
    rw [tbD, List.map_cons, List.find?_cons, tk_eq]
    by_cases e : r = r0
    · subst e
      simp
    · have : (r == r0) = false := beq_eq_false_iff_ne.mpr e
      rw [this]
      exact ih ((List.mem_cons.mp h).resolve_left fun z => e z.symm)
theorem mkRow_key (r : List Int) : PyData.tuple ((kys r).map kD) = mkRow r := by
  rw [mkRow, List.map_map]
  rfl
theorem tbD_put {rows : List (List Int)} {f : List Int → Int} {r0 : List Int} {y : Int} (h : r0 ∈ rows) : putT (tbD rows f) (kys r0) (.int y) = tbD rows (fun r => if r = r0 then y else f r) := by
  unfold putT
  rw [if_pos, List.map_map]
  · apply List.map_congr_left
    intro r _
    show (if tkD (mkRow r) = some (kys r0) then (mkRow r, PyData.int y) else (mkRow r, PyData.int (f r))) = _
    by_cases e : r = r0
    · subst e
      rw [if_pos (tkD_row r)]
      dsimp only
      rw [if_pos rfl]
    · rw [if_neg (fun z => e (kys_inj (Option.some.inj ((tkD_row r).symm.trans z))))]
      dsimp only
      rw [if_neg e]
  · rw [List.any_eq_true]
    exact ⟨_, List.mem_map.mpr ⟨r0, h, rfl⟩, decide_eq_true (tkD_row r0)⟩
theorem tbD_new {rows : List (List Int)} {f : List Int → Int} {r0 : List Int} (h : r0 ∉ rows) : putT (tbD rows f) (kys r0) (.int (f r0)) = tbD (rows ++ [r0]) f := by
  unfold putT
  rw [if_neg, mkRow_key, tbD, tbD, List.map_append]
  · rfl
  rw [Bool.not_eq_true, List.any_eq_false]
  intro p hp
  obtain ⟨r, hr, rfl⟩ := List.mem_map.mp hp
  rw [tk_eq]
  have : r ≠ r0 := fun e => h (e ▸ hr)
  simp [this]
theorem tbD_build (f : List Int → Int) : ∀ (rest rows : List (List Int)), (rows ++ rest).Nodup → rest.foldl (fun L r => putT L (kys r) (.int (f r))) (tbD rows f) = tbD (rows ++ rest) f
  | [], rows, _ => by simp
  | r :: rest, rows, hn => by
    rw [List.foldl_cons, tbD_new, tbD_build f rest (rows ++ [r]) (by rw [List.append_assoc]; exact hn), List.append_assoc]
    · rfl
    · intro hr
      exact (List.nodup_append.mp hn).2.2 r hr r List.mem_cons_self rfl
/-! ### summed -/
def adds (N F : List Str) (f : List Int → Int) (p : List Int × Int) : List Int → Int := fun r => if r = pt N p.1 F then f r + p.2 else f r
theorem adds_all (N F : List Str) : ∀ (ps : List (List Int × Int)) (f : List Int → Int) (r : List Int), ps.foldl (adds N F) f r = f r + ((ps.filter fun p => pt N p.1 F == r).map (·.2)).sum
  | [], f, r => by simp
  | p :: ps, f, r => by
    rw [List.foldl_cons, adds_all N F ps]
    by_cases h : pt N p.1 F = r
    · rw [List.filter_cons_of_pos (by simp [h]), List.map_cons, List.sum_cons]
      simp only [adds, h, if_true]
      omega
    · rw [List.filter_cons_of_neg (by simp [h])]
      simp only [adds]
      rw [if_neg (fun e => h e.symm)]
section
variable {qs : List (Str × Int)} {gs : List (List Str)} {N F : List Str}
theorem rowOk_get : ∀ {r cs : List Int}, rowOk r cs → ∀ i, i < r.length → 0 ≤ r.getD i 0 ∧ r.getD i 0 < cs.getD i 0
  | [], _, _, i, h => by simp at h
  | a :: r, c :: cs, h, 0, _ => by simpa using h.1
  | a :: r, c :: cs, h, i + 1, hi => by simpa using rowOk_get h.2 i (by simpa using hi)
  | _ :: _, [], h, _, _ => h.elim
theorem rowOk_map {f g : Str → Int} : ∀ {F : List Str}, (∀ z ∈ F, 0 ≤ f z ∧ f z < g z) → rowOk (F.map f) (F.map g)
  | [], _ => trivial
  | z :: F, h => ⟨h z List.mem_cons_self, rowOk_map fun y hy => h y (List.mem_cons_of_mem _ hy)⟩
theorem pt_mem {row : List Int} (hr : row ∈ Rw qs N) (hs : ∀ z ∈ F, z ∈ N) : pt N row F ∈ Rw qs F := by
  rw [Rw, mem_rows] at hr ⊢
  refine rowOk_map fun z hz => ?_
  have hi := List.idxOf_lt_length_of_mem (hs z hz)
  have hl := rowOk_len hr
  rw [List.length_map] at hl
  have := rowOk_get hr (N.idxOf z) (by omega)
  refine ⟨this.1, ?_⟩
  have e : (N.map (cnt qs)).getD (N.idxOf z) 0 = cnt qs z := by
    rw [List.getD_eq_getElem?_getD, List.getElem?_map, List.getElem?_eq_getElem hi, List.getElem_idxOf hi]
    rfl
  rw [e] at this
  exact this.2
theorem s_summed (h : VS qs gs) {tb : List Int} {nd td fd : D} (hN : NS qs N) (hn : seqD nd = some (N.map PyData.str)) (hn' : itemsD nd = some (N.map PyData.str)) (ht : seqD td = some (tb.map PyData.int)) (hF : NS qs F) (hsub : ∀ z ∈ F, z ∈ N) (hf : itemsD fd = some (F.map PyData.str)) :
    p_summed [mkS qs gs, nd, td, fd] = .ok (mkRow (msum qs N tb F)) := by
  have hz := sizeLine_big
  have hR := Rw_len h hN
  have hRF := Rw_len h hF
  have hF5 := hF.len h.q5
  have eN := s_pcells (nd := nd) h hN hn'
  have eF := s_pcells (nd := fd) h hF hf
  have step : ∀ (f : List Int → Int) (p : List Int × Int), p.1 ∈ Rw qs N → m_summed_b2 [some (.d (mkS qs gs)), some (.d nd), some (.d td), some (.d fd), some (.md false true (tbD (Rw qs F) f)), some (.d (mkRow p.1)), some (.d (.int p.2))] =
      .ok .nx [some (.d (mkS qs gs)), some (.d nd), some (.d td), some (.d fd), some (.md false true (tbD (Rw qs F) (adds N F f p))), none, none] := by
    intro f p hp
    have hm := pt_mem hp hsub
    have e := s_restrict (nd := nd) (fd := fd) (row := p.1) hn hf hsub (row_lenN hp) (by omega)
    have eg : fGetT (tbD (Rw qs F) f) (mkRow (pt N p.1 F)) = some ((mkRow (pt N p.1 F), .int (f (pt N p.1 F))), tbD (Rw qs F) f) := by
      rw [fGetT, tkI_row]
      dsimp only
      rw [tbD_get hm]
      rfl
    have ep : ∀ y : Int, fPutT (.int y) (tbD (Rw qs F) f) (mkRow (pt N p.1 F)) = some (.none, tbD (Rw qs F) (fun r => if r = pt N p.1 F then y else f r)) := fun y => by
      rw [fPutT, tkI_row]
      dsimp only
      rw [if_pos (by rw [List.length_map]; omega), tbD_put hm]
    have ea : iopI (· + ·) (.int (f (pt N p.1 F))) (.int p.2) = some (.int (f (pt N p.1 F) + p.2)) := rfl
    rw [m_summed_b2, sSeq_app, m_summed_s1, sAugT_app]
    wp_walk using e
    rw [onKT_md _ _ _ _ _ _ _ eg]
    wp_walk using ea
    rw [onKT_md _ _ _ _ _ _ _ (ep _)]
    wp_walk
    have ef : (fun r => if r = pt N p.1 F then f (pt N p.1 F) + p.2 else f r) = adds N F f p := by
      funext r
      by_cases hr : r = pt N p.1 F
      · rw [if_pos hr, adds, if_pos hr, hr]
      · rw [if_neg hr, adds, if_neg hr]
    rw [ef]
  have lp := loop_fold (b := bTup [bName 5, bName 6]) (body := m_summed_b2) (mk := fun p : List Int × Int => PyData.tuple [mkRow p.1, .int p.2]) (emb := fun f => [some (.d (mkS qs gs)), some (.d nd), some (.d td), some (.d fd), some (.md false true (tbD (Rw qs F) f)), none, none])
    (I := fun _ => True) (step := adds N F) ((Rw qs N).zip tb) (fun _ => 0) trivial (fun f p _ hp => ⟨trivial, _, rfl, .inl (step f p (mem_zip_left hp))⟩)
  have lp := lp.1
  have ed : ∀ g1 g2 : Option Tv, eDcT [5] (bName 5) tAll (eVar 5) (eC (.int 0)) (ap1 itemsD (eCall 2 p_cells (aCons (eVar 0) (aCons (eVar 3) nilA)))) [some (.d (mkS qs gs)), some (.d nd), some (.d td), some (.d fd), none, none, none] = .ok (.md false true (tbD (Rw qs F) fun _ => 0)) [some (.d (mkS qs gs)), some (.d nd), some (.d td), some (.d fd), none, none, none] := fun _ _ => by
    rw [dcT (Rw qs F) mkRow (fun _ => true) mkRow (fun _ => .int 0) kys ?_ ?_ ?_ ?_ ?_]
    · rw [filter_tt]
      have := tbD_build (fun _ => 0) (Rw qs F) [] (by simpa using rows_nodup _)
      rw [List.nil_append] at this
      exact congrArg (fun L => Rs.ok (Tv.md false true L) _) this
    · wp_walk using eF, itemsD
    · omega
    · intro r _
      exact ⟨_, rfl, rfl, fun _ => ⟨rfl, rfl, tkI_row r⟩, rfl, rfl⟩
    · rfl
    · rfl
  rw [p_summed, runP_out, m_summed, m_summed_s5, m_summed_s4, m_summed_s3, show dsG [mkS qs gs, nd, td, fd] 7 = [some (.d (mkS qs gs)), some (.d nd), some (.d td), some (.d fd), none, none, none] from rfl]
  wp_walk using ed none none, sFor_app, eN, zip2_of (x := .list ((Rw qs N).map mkRow)) rfl ht, zip_maps, lp
  rw [lcM (Rw qs F) mkRow (fun r => .int (bag qs N tb F r)) ?_ ?_ ?_ ?_ ?_]
  · wp_walk using tup_list, msum, mkRow, List.map_map
    rfl
  · wp_walk using eF, itemsD
  · omega
  · intro r hr
    refine ⟨_, rfl, ?_, rfl, rfl⟩
    have e : ixD (.dict (tbD (Rw qs F) (((Rw qs N).zip tb).foldl (adds N F) fun _ => 0))) (mkRow r) = some (.int (bag qs N tb F r)) := by
      show dGet _ (mkRow r) = _
      rw [dGet, show keyD (mkRow r) = none from rfl, tkI_row]
      dsimp only
      rw [tbD_get hr, adds_all, bag, Int.zero_add]
    wp_walk using e
  · rfl
  · rfl
end
end PP

namespace PP
open PySem PySem.Spec
local macro_rules
  | `(tactic| wp_walk) => `(tactic| simp only [bind_ok, bind_exc, bnd_app, lift_some, eC_app, eVar_0, eVar_1, eVar_2, eVar_3, eVar_4, eVar_5, eVar_6, eVar_7, eVar_8, eVar_9, eVar_10, ap1_app, ap2_app, apA_app, aCons_app, nilA_app, tru_app, tst_app, asB_bool, truD_bool, truD_list, truD_tuple, mNot_app, mAnd_app, mOr_app, eNot_app, eAnd_app, eOr_app, andK_b, orK_b, eIf_app, eTup_app, eLst_app, lLst_app, frzL_app, eList_app, eSl_app, pN_app, pS_app, partD_int, chn_b, eChain_app, seq_nx, seq_ret, seq_brk, seq_cnt, seq_exc, sSeq_app, sRet_app, sDrop_app, sIf_app, sRaise_app, sAsg_name, sSetL_app, rxM_ok, rxM_exc, eCall_app, outP_ret, outP_nx, outP_exc, Option.map_some, len0, len1, len2, len3, len4, len5, len6, len7, len8, eq_self, sz0, sz1, sz2, sz3, sz4, sz5, sz6, sz7, sz8, sz9, sz10, sz11, freeAt_s, freeAt_n, freeAt_d, freeAt_m, sFrz_app, frzK_ml, List.getElem?_cons_zero, List.getElem?_cons_succ, List.set_cons_zero, List.set_cons_succ, sAsg_tup, asgK_some, bTup_app, bAll_nil, bAll_cons, bName_app, Option.bind_some, isMl_s, isMl_m, resK_some, onK_ml, eApp_app, ePop_app, eIdxV_app, eLenV_app, tTruV_app, sSetI_app, onL_app, fLen_ok, fTru_ok, rbK_ok, cbK_ml, eCB_cons, eCB_nil, List.nil_append, List.cons_append, outK_some, outR_ret, outR_nx, outB_s, outB_m, mConsD_app, mConsL_app, sPar_app, setAll_nil, setAll_cons, true_and, and_true, and_self, Bool.not_true, Bool.not_false, Bool.false_eq_true, reduceIte, eVar_11, eVar_12, eVar_13, eVar_14, eVar_15, eVar_16, eVar_17, eVar_18, eVar_19, eVar_20, eVar_21, eVar_22, eVar_23, eVar_24, eVar_25, sWipe_app, wipeG_nil, wipeG_cons, sSetO_app, mConsO_app, ap2L_app, eIdx_app, eExt_app, eNewT_app, sAugI_app, augK_app, sAugT_app, augKT_app, isMt_s, isMt_m, freeAt_t, List.all_cons, List.all_nil, Bool.and_true, Bool.true_and, frzK_md])
  | `(tactic| wp_walk using $ts,*) => `(tactic| simp only [bind_ok, bind_exc, bnd_app, lift_some, eC_app, eVar_0, eVar_1, eVar_2, eVar_3, eVar_4, eVar_5, eVar_6, eVar_7, eVar_8, eVar_9, eVar_10, ap1_app, ap2_app, apA_app, aCons_app, nilA_app, tru_app, tst_app, asB_bool, truD_bool, truD_list, truD_tuple, mNot_app, mAnd_app, mOr_app, eNot_app, eAnd_app, eOr_app, andK_b, orK_b, eIf_app, eTup_app, eLst_app, lLst_app, frzL_app, eList_app, eSl_app, pN_app, pS_app, partD_int, chn_b, eChain_app, seq_nx, seq_ret, seq_brk, seq_cnt, seq_exc, sSeq_app, sRet_app, sDrop_app, sIf_app, sRaise_app, sAsg_name, sSetL_app, rxM_ok, rxM_exc, eCall_app, outP_ret, outP_nx, outP_exc, Option.map_some, len0, len1, len2, len3, len4, len5, len6, len7, len8, eq_self, sz0, sz1, sz2, sz3, sz4, sz5, sz6, sz7, sz8, sz9, sz10, sz11, freeAt_s, freeAt_n, freeAt_d, freeAt_m, sFrz_app, frzK_ml, List.getElem?_cons_zero, List.getElem?_cons_succ, List.set_cons_zero, List.set_cons_succ, sAsg_tup, asgK_some, bTup_app, bAll_nil, bAll_cons, bName_app, Option.bind_some, isMl_s, isMl_m, resK_some, onK_ml, eApp_app, ePop_app, eIdxV_app, eLenV_app, tTruV_app, sSetI_app, onL_app, fLen_ok, fTru_ok, rbK_ok, cbK_ml, eCB_cons, eCB_nil, List.nil_append, List.cons_append, outK_some, outR_ret, outR_nx, outB_s, outB_m, mConsD_app, mConsL_app, sPar_app, setAll_nil, setAll_cons, true_and, and_true, and_self, Bool.not_true, Bool.not_false, Bool.false_eq_true, reduceIte, eVar_11, eVar_12, eVar_13, eVar_14, eVar_15, eVar_16, eVar_17, eVar_18, eVar_19, eVar_20, eVar_21, eVar_22, eVar_23, eVar_24, eVar_25, sWipe_app, wipeG_nil, wipeG_cons, sSetO_app, mConsO_app, ap2L_app, eIdx_app, eExt_app, eNewT_app, sAugI_app, augK_app, sAugT_app, augKT_app, isMt_s, isMt_m, freeAt_t, List.all_cons, List.all_nil, Bool.and_true, Bool.true_and, frzK_md, $[$ts:term],*])
/-! ### sums of parts -/
theorem sum_ind {α : Type} [BEq α] [LawfulBEq α] (v : Int) (k : α) : ∀ L : List α, L.Nodup → k ∈ L → (L.map fun c => if (k == c) = true then v else 0).sum = v
  | [], _, h => by cases h
  | c :: L, hn, h => by
    obtain ⟨n1, n2⟩ := List.nodup_cons.mp hn
    rw [List.map_cons, List.sum_cons]
    by_cases e : k = c
    · subst e
      have : (L.map fun c => if (k == c) = true then v else 0) = L.map fun _ => 0 := by
        apply List.map_congr_left
        intro x hx
        rw [if_neg]
        intro z
        have z' : k = x := eq_of_beq z
        exact n1 (z' ▸ hx)
      rw [if_pos (beq_self_eq_true k), this]
      have : ∀ l : List α, (l.map fun _ => (0 : Int)).sum = 0 := fun l => by
        induction l with
        | nil => rfl
        | cons a l ih => rw [List.map_cons, List.sum_cons, ih]; rfl
      rw [this, Int.add_zero]
    · rw [if_neg (fun z => e (eq_of_beq z)), sum_ind v k L n2 ((List.mem_cons.mp h).resolve_left e), Int.zero_add]
theorem sum_add {α : Type} (f g : α → Int) : ∀ L : List α, (L.map fun c => f c + g c).sum = (L.map f).sum + (L.map g).sum
  | [] => rfl
  | c :: L => by simp only [List.map_cons, List.sum_cons, sum_add f g L]; omega
theorem sum_parts {α β : Type} [BEq α] [LawfulBEq α] (κ : β → α) (v : β → Int) {L : List α} (hn : L.Nodup) : ∀ ps : List β, (∀ p ∈ ps, κ p ∈ L) → (L.map fun c => ((ps.filter fun p => κ p == c).map v).sum).sum = (ps.map v).sum
  | [], _ => by
    have : ∀ l : List α, (l.map fun _ => (0 : Int)).sum = 0 := fun l => by
      induction l with
      | nil => rfl
      | cons a l ih => rw [List.map_cons, List.sum_cons, ih]; rfl
    exact this L
  | p :: ps, h => by
    have e : (fun c => (((p :: ps).filter fun p => κ p == c).map v).sum) = fun c => (if (κ p == c) = true then v p else 0) + ((ps.filter fun p => κ p == c).map v).sum := by
      funext c
      by_cases hc : (κ p == c) = true
      · rw [List.filter_cons_of_pos (p := fun p => κ p == c) hc, if_pos hc, List.map_cons, List.sum_cons]
      · rw [List.filter_cons_of_neg (p := fun p => κ p == c) hc, if_neg hc, Int.zero_add]
    rw [e, sum_add, sum_ind _ _ L hn (h p List.mem_cons_self), sum_parts κ v hn ps (fun q hq => h q (List.mem_cons_of_mem _ hq)), List.map_cons, List.sum_cons]
theorem map_snd_zip' {α β : Type} : ∀ {a : List α} {b : List β}, a.length = b.length → (a.zip b).map (·.2) = b
  | [], [], _ => rfl
  | x :: a, y :: b, h => by rw [List.zip_cons_cons, List.map_cons, map_snd_zip' (by simpa using h)]
  | [], _ :: _, h => by simp at h
  | _ :: _, [], h => by simp at h
section
variable {qs : List (Str × Int)} {gs : List (List Str)} {N F : List Str}
theorem sum_msum {tb : List Int} (hl : tb.length = (Rw qs N).length) (hs : ∀ z ∈ F, z ∈ N) : (msum qs N tb F).sum = tb.sum := by
  have := sum_parts (κ := fun p : List Int × Int => pt N p.1 F) (v := fun p => p.2) (L := Rw qs F) (rows_nodup _) ((Rw qs N).zip tb) (fun p hp => pt_mem (mem_zip_left hp) hs)
  rw [map_snd_zip' hl.symm] at this
  exact this
theorem sum_nonneg : ∀ {l : List Int}, (∀ x ∈ l, 0 ≤ x) → 0 ≤ l.sum
  | [], _ => Int.le_refl _
  | x :: l, h => by
    rw [List.sum_cons]
    have := h x List.mem_cons_self
    have := sum_nonneg fun y hy => h y (List.mem_cons_of_mem _ hy)
    omega
theorem msum_nonneg {tb : List Int} (h : ∀ c ∈ tb, 0 ≤ c) : ∀ c ∈ msum qs N tb F, 0 ≤ c := by
  intro c hc
  obtain ⟨r, _, rfl⟩ := List.mem_map.mp hc
  refine sum_nonneg fun x hx => ?_
  obtain ⟨p, hp, rfl⟩ := List.mem_map.mp hx
  exact h _ (List.of_mem_zip (List.mem_filter.mp hp).1).2
theorem msum_len (tb : List Int) : (msum qs N tb F).length = (Rw qs F).length := by rw [msum, List.length_map]
end
/-! ### models -/
abbrev mkM (ms : List (List Int)) : D := .tuple (ms.map mkRow)
structure TbOk (qs : List (Str × Int)) (T : Int) (g : List Str) (t : List Int) : Prop where
  len : t.length = (Rw qs g).length
  nn : ∀ c ∈ t, 0 ≤ c
  sum : t.sum = T
structure VM (qs : List (Str × Int)) (gs : List (List Str)) (ms : List (List Int)) (T : Int) : Prop where
  len : ms.length = gs.length
  tb : ∀ p ∈ gs.zip ms, TbOk qs T p.1 p.2
  pos : 1 ≤ T
theorem zip_map_r {α β : Type} (f : α → β) : ∀ l : List α, l.zip (l.map f) = l.map fun a => (a, f a)
  | [] => rfl
  | a :: l => by rw [List.map_cons, List.zip_cons_cons, zip_map_r f l, List.map_cons]
/-! ### drawn weights -/
theorem mul_zeros {c : Int} (h0 : 0 ≤ c) (h : c ≤ 1000) : mulLD (.list [.int 0]) (.int c) = some ((List.replicate c.toNat 0).map PyData.int) := by
  rw [mulLD, if_pos]
  · have : ∀ m : Nat, (List.replicate m [PyData.int 0]).flatten = (List.replicate m (0 : Int)).map PyData.int := fun m => by
      induction m with
      | zero => rfl
      | succ m ih => rw [List.replicate_succ, List.flatten_cons, ih, List.replicate_succ, List.map_cons]; rfl
    rw [this]
  · simp only [Bool.and_eq_true, decide_eq_true_eq, List.length_cons, List.length_nil]
    refine ⟨⟨by omega, by omega⟩, by omega⟩
theorem sum_set : ∀ (l : List Int) (k : Nat) (h : k < l.length) (d : Int), (l.set k (l.getD k 0 + d)).sum = l.sum + d
  | x :: l, 0, _, d => by simp only [List.set_cons_zero, List.sum_cons, List.getD_cons_zero]; omega
  | x :: l, k + 1, h, d => by
    have := sum_set l k (by simpa using h) d
    simp only [List.set_cons_succ, List.sum_cons, List.getD_cons_succ, this]
    omega
theorem set_nonneg {l : List Int} {k : Nat} {d : Int} (h : ∀ c ∈ l, 0 ≤ c) (hd : 0 ≤ d) : ∀ c ∈ l.set k (l.getD k 0 + d), 0 ≤ c := by
  intro c hc
  rcases List.mem_or_eq_of_mem_set hc with h1 | h1
  · exact h c h1
  · rw [h1]
    have : 0 ≤ l.getD k 0 := by
      rw [List.getD_eq_getElem?_getD]
      cases e : l[k]? with
      | none => exact Int.le_refl _
      | some x => exact h x (List.mem_of_getElem? e)
    omega
theorem map_set' {α β : Type} (f : α → β) : ∀ (l : List α) (k : Nat) (x : α), (l.map f).set k (f x) = (l.set k x).map f
  | [], _, _ => rfl
  | _ :: _, 0, _ => rfl
  | a :: l, k + 1, x => by rw [List.map_cons, List.set_cons_succ, map_set' f l k x, List.set_cons_succ, List.map_cons]
theorem getD_at {l : List Int} {k : Nat} (h : k < l.length) : (l.map PyData.int)[k]? = some (.int (l.getD k 0)) := by
  rw [List.getElem?_map, List.getElem?_eq_getElem h, List.getD_eq_getElem?_getD, List.getElem?_eq_getElem h]
  rfl
section
variable {qs : List (Str × Int)} {gs : List (List Str)} {ns : List Int}
theorem Rw_pos (h : VS qs gs) {N : List Str} (hN : NS qs N) : 1 ≤ (Rw qs N).length := by
  have : N.map (fun _ => (0 : Int)) ∈ Rw qs N := (mem_rows _ _).mpr (rowOk_map fun z hz => ⟨Int.le_refl _, by have := h.cnt23 (hN.sub z hz); omega⟩)
  exact List.length_pos_of_mem this
theorem w_step (hn : ns.length ≤ 63) {far size : Int} {A : Option Tv} {ws : List Int} {zs : List D} {b : Nat} {k : D} (hs : Sok b zs) (hb : b + 4 ≤ sizeLine) (hsz : size = ws.length) (hp : 0 < size) (hf : 0 < far) :
    ∃ (j : Nat) (d : Int) (zs' : List D), j < ws.length ∧ 0 ≤ d ∧ d < far ∧ Sok (b + 4) zs' ∧ m__law_weights_b2 [some (.d (scr ns)), some (.ml true zs), A, some (.d (.int far)), some (.d (.int size)), some (.ml false (ws.map PyData.int)), some (.d k)] =
      .ok .nx [some (.d (scr ns)), some (.ml true zs'), A, some (.d (.int far)), some (.d (.int size)), some (.ml false ((ws.set j (ws.getD j 0 + (1 + d))).map PyData.int)), none] := by
  obtain ⟨i, z1, i0, i1, s1, e1⟩ := s_draw (ns := ns) (many := size) hs (by omega) hn hp
  obtain ⟨d, z2, d0, d1, s2, e2⟩ := s_draw (ns := ns) (many := far) s1 (by omega) hn hf
  have hj : i.toNat < ws.length := by omega
  have ei : ((i.toNat : Nat) : Int) = i := by omega
  refine ⟨i.toNat, d, z2, hj, d0, d1, s2, ?_⟩
  have f1 : fIdxP (ws.map PyData.int) (.int i) = some ((.int i, .int (ws.getD i.toNat 0)), ws.map PyData.int) := by
    have := fIdxP_ok (xs := ws.map PyData.int) (k := i.toNat) (getD_at hj)
    rw [ei] at this
    exact this
  have f2 : fSetI (.int (ws.getD i.toNat 0 + (1 + d))) (ws.map PyData.int) (.int i) = some (.none, (ws.set i.toNat (ws.getD i.toNat 0 + (1 + d))).map PyData.int) := by
    have := fSetI_ok (xs := ws.map PyData.int) (k := i.toNat) (y := .int (ws.getD i.toNat 0 + (1 + d))) (by rw [List.length_map]; exact hj)
    rw [ei, map_set' PyData.int] at this
    exact this
  have ea : iopI (· + ·) (.int (ws.getD i.toNat 0)) (.int (1 + d)) = some (.int (ws.getD i.toNat 0 + (1 + d))) := rfl
  rw [m__law_weights_b2, sSeq_app, m__law_weights_s1]
  wp_walk using e1, f1, e2, add_int, ea, f2
theorem sum_zeros : ∀ n : Nat, (List.replicate n (0 : Int)).sum = 0
  | 0 => rfl
  | n + 1 => by rw [List.replicate_succ, List.sum_cons, sum_zeros n]; rfl
theorem s_law_weights (h : VS qs gs) (hn : ns.length ≤ 63) {far : Int} (hf : 1 ≤ far ∧ far ≤ 1000) {zs : List D} {b : Nat} (hs : Sok b zs) (hb : b ≤ 900000) :
    ∃ (ws : List Int) (zs' : List D), ws.length = (Rw qs (qs.map (·.1))).length ∧ (∀ w ∈ ws, 0 ≤ w) ∧ 1 ≤ ws.sum ∧ ws.sum ≤ 6 * far ∧ Sok (b + 26) zs' ∧ b__law_weights [scr ns] zs [mkS qs gs, .int far] = .ok (mkRow ws) zs' := by
  have hz := sizeLine_big
  have hR := Rw_len h h.ns
  have hRp := Rw_pos h h.ns
  generalize hL : (Rw qs (qs.map (·.1))).length = L at hR hRp
  obtain ⟨c, hc⟩ : ∃ c : Int, c = (L : Int) := ⟨_, rfl⟩
  obtain ⟨i, z1, i0, i1, s1, e1⟩ := s_draw (ns := ns) (many := 6) hs (by omega) hn (by decide)
  obtain ⟨⟨ws, z2⟩, ⟨hl, hnn, h1, h2, h3⟩, lp⟩ := loop_relB (b := bName 6) (body := m__law_weights_b2) (mk := fun a : Nat => PyData.int (a : Int)) (emb := fun s : List Int × List D => [some (.d (scr ns)), some (.ml true s.2), some (.d (mkS qs gs)), some (.d (.int far)), some (.d (.int c)), some (.ml false (s.1.map PyData.int)), none])
    (G := fun s (a : Nat) => [some (.d (scr ns)), some (.ml true s.2), some (.d (mkS qs gs)), some (.d (.int far)), some (.d (.int c)), some (.ml false (s.1.map PyData.int)), some (.d (.int (a : Int)))])
    (I := fun n s => s.1.length = L ∧ (∀ w ∈ s.1, 0 ≤ w) ∧ (n : Int) ≤ s.1.sum ∧ s.1.sum ≤ n * far ∧ Sok (b + 2 + 4 * n) s.2) (B := 6)
    (List.range (1 + i).toNat) 0 (List.replicate L 0, z1) (by rw [List.length_range]; omega) ⟨List.length_replicate, fun w hw => by rw [List.eq_of_mem_replicate hw]; exact Int.le_refl _, by rw [sum_zeros]; exact Int.le_refl _, by rw [sum_zeros]; omega, s1⟩ (fun _ _ => rfl) (by
      rintro n ⟨ws, zs1⟩ a hn1 ⟨hl, hnn, h1, h2, h3⟩ ha
      dsimp only at hl hnn h1 h2 h3
      obtain ⟨j, d, zs', hj, d0, d1, s2, e⟩ := w_step (ns := ns) hn (far := far) (size := c) (A := some (.d (mkS qs gs))) (ws := ws) (k := .int (a : Int)) h3 (by omega) (by rw [hc, ← hl]) (by omega) (by omega)
      refine ⟨(ws.set j (ws.getD j 0 + (1 + d)), zs'), ⟨by rw [List.length_set]; exact hl, set_nonneg hnn (by omega), ?_, ?_, s2.mono (by omega)⟩, e⟩
      · dsimp only
        rw [sum_set ws j hj]
        push_cast
        omega
      · dsimp only
        rw [sum_set ws j hj]
        have : ((n + 1 : Nat) : Int) * far = n * far + far := by push_cast; rw [Int.add_mul, Int.one_mul]
        rw [this]
        omega)
  dsimp only at hl hnn h1 h2 h3
  rw [List.length_range, Nat.zero_add] at h1 h2 h3
  have hi6 : ((1 + i).toNat : Int) = 1 + i := by omega
  refine ⟨ws, z2, hl, hnn, by omega, ?_, h3.mono (by omega), ?_⟩
  · have : ((1 + i).toNat : Int) * far ≤ 6 * far := Int.mul_le_mul_of_nonneg_right (by omega) (by omega)
    omega
  · have sS : seqD (.tuple (qs.map mkQ)) = some (qs.map mkQ) := rfl
    have eN := s_lawcells (nd := mkG (qs.map (·.1))) h h.ns sS rfl
    have el : lenD [.list ((Rw qs (qs.map (·.1))).map mkRow)] = some (.int c) := by rw [len_lst, List.length_map, hL, hc]
    dsimp only at lp
    rw [b__law_weights, runB_out, m__law_weights, show bG [scr ns] zs [mkS qs gs, .int far] 7 = [some (.d (scr ns)), some (.ml true zs), some (.d (mkS qs gs)), some (.d (.int far)), none, none, none] from rfl]
    have st6 : m__law_weights_s6 [some (.d (scr ns)), some (.ml true zs), some (.d (mkS qs gs)), some (.d (.int far)), none, none, none] = .ok .nx [some (.d (scr ns)), some (.ml true zs), some (.d (mkS qs gs)), some (.d (.int far)), some (.d (.int c)), none, none] := by
      rw [m__law_weights_s6]
      wp_walk using s__law_names h.ql, ix_S0, eN, el
    have st5 : m__law_weights_s5 [some (.d (scr ns)), some (.ml true zs), some (.d (mkS qs gs)), some (.d (.int far)), some (.d (.int c)), none, none] = .ok .nx [some (.d (scr ns)), some (.ml true zs), some (.d (mkS qs gs)), some (.d (.int far)), some (.d (.int c)), some (.ml false ((List.replicate L 0).map PyData.int)), none] := by
      rw [m__law_weights_s5]
      wp_walk using mul_zeros (c := c) (by omega) (by omega), show c.toNat = L by omega
    have st4 : m__law_weights_s4 [some (.d (scr ns)), some (.ml true zs), some (.d (mkS qs gs)), some (.d (.int far)), some (.d (.int c)), some (.ml false ((List.replicate L 0).map PyData.int)), none] = .ok .nx [some (.d (scr ns)), some (.ml true z2), some (.d (mkS qs gs)), some (.d (.int far)), some (.d (.int c)), some (.ml false (ws.map PyData.int)), none] := by
      rw [m__law_weights_s4, sFor_app]
      wp_walk using e1, add_int, rng_int (show 0 ≤ 1 + i by omega) (show 1 + i ≤ 1000000 by omega), lp
    rw [sSeq_app, st6, seq_nx, sSeq_app, st5, seq_nx, sSeq_app, st4, seq_nx, m__law_weights_s3]
    wp_walk using tup_list
    rfl
end
end PP

namespace PP
open PySem PySem.Spec
local macro_rules
  | `(tactic| wp_walk) => `(tactic| simp only [bind_ok, bind_exc, bnd_app, lift_some, eC_app, eVar_0, eVar_1, eVar_2, eVar_3, eVar_4, eVar_5, eVar_6, eVar_7, eVar_8, eVar_9, eVar_10, ap1_app, ap2_app, apA_app, aCons_app, nilA_app, tru_app, tst_app, asB_bool, truD_bool, truD_list, truD_tuple, mNot_app, mAnd_app, mOr_app, eNot_app, eAnd_app, eOr_app, andK_b, orK_b, eIf_app, eTup_app, eLst_app, lLst_app, frzL_app, eList_app, eSl_app, pN_app, pS_app, partD_int, chn_b, eChain_app, seq_nx, seq_ret, seq_brk, seq_cnt, seq_exc, sSeq_app, sRet_app, sDrop_app, sIf_app, sRaise_app, sAsg_name, sSetL_app, rxM_ok, rxM_exc, eCall_app, outP_ret, outP_nx, outP_exc, Option.map_some, len0, len1, len2, len3, len4, len5, len6, len7, len8, eq_self, sz0, sz1, sz2, sz3, sz4, sz5, sz6, sz7, sz8, sz9, sz10, sz11, freeAt_s, freeAt_n, freeAt_d, freeAt_m, sFrz_app, frzK_ml, List.getElem?_cons_zero, List.getElem?_cons_succ, List.set_cons_zero, List.set_cons_succ, sAsg_tup, asgK_some, bTup_app, bAll_nil, bAll_cons, bName_app, Option.bind_some, isMl_s, isMl_m, resK_some, onK_ml, eApp_app, ePop_app, eIdxV_app, eLenV_app, tTruV_app, sSetI_app, onL_app, fLen_ok, fTru_ok, rbK_ok, cbK_ml, eCB_cons, eCB_nil, List.nil_append, List.cons_append, outK_some, outR_ret, outR_nx, outB_s, outB_m, mConsD_app, mConsL_app, sPar_app, setAll_nil, setAll_cons, true_and, and_true, and_self, Bool.not_true, Bool.not_false, Bool.false_eq_true, reduceIte, eVar_11, eVar_12, eVar_13, eVar_14, eVar_15, eVar_16, eVar_17, eVar_18, eVar_19, eVar_20, eVar_21, eVar_22, eVar_23, eVar_24, eVar_25, sWipe_app, wipeG_nil, wipeG_cons, sSetO_app, mConsO_app, ap2L_app, eIdx_app, eExt_app, eNewT_app, sAugI_app, augK_app, sAugT_app, augKT_app, isMt_s, isMt_m, freeAt_t, List.all_cons, List.all_nil, Bool.and_true, Bool.true_and, frzK_md])
  | `(tactic| wp_walk using $ts,*) => `(tactic| simp only [bind_ok, bind_exc, bnd_app, lift_some, eC_app, eVar_0, eVar_1, eVar_2, eVar_3, eVar_4, eVar_5, eVar_6, eVar_7, eVar_8, eVar_9, eVar_10, ap1_app, ap2_app, apA_app, aCons_app, nilA_app, tru_app, tst_app, asB_bool, truD_bool, truD_list, truD_tuple, mNot_app, mAnd_app, mOr_app, eNot_app, eAnd_app, eOr_app, andK_b, orK_b, eIf_app, eTup_app, eLst_app, lLst_app, frzL_app, eList_app, eSl_app, pN_app, pS_app, partD_int, chn_b, eChain_app, seq_nx, seq_ret, seq_brk, seq_cnt, seq_exc, sSeq_app, sRet_app, sDrop_app, sIf_app, sRaise_app, sAsg_name, sSetL_app, rxM_ok, rxM_exc, eCall_app, outP_ret, outP_nx, outP_exc, Option.map_some, len0, len1, len2, len3, len4, len5, len6, len7, len8, eq_self, sz0, sz1, sz2, sz3, sz4, sz5, sz6, sz7, sz8, sz9, sz10, sz11, freeAt_s, freeAt_n, freeAt_d, freeAt_m, sFrz_app, frzK_ml, List.getElem?_cons_zero, List.getElem?_cons_succ, List.set_cons_zero, List.set_cons_succ, sAsg_tup, asgK_some, bTup_app, bAll_nil, bAll_cons, bName_app, Option.bind_some, isMl_s, isMl_m, resK_some, onK_ml, eApp_app, ePop_app, eIdxV_app, eLenV_app, tTruV_app, sSetI_app, onL_app, fLen_ok, fTru_ok, rbK_ok, cbK_ml, eCB_cons, eCB_nil, List.nil_append, List.cons_append, outK_some, outR_ret, outR_nx, outB_s, outB_m, mConsD_app, mConsL_app, sPar_app, setAll_nil, setAll_cons, true_and, and_true, and_self, Bool.not_true, Bool.not_false, Bool.false_eq_true, reduceIte, eVar_11, eVar_12, eVar_13, eVar_14, eVar_15, eVar_16, eVar_17, eVar_18, eVar_19, eVar_20, eVar_21, eVar_22, eVar_23, eVar_24, eVar_25, sWipe_app, wipeG_nil, wipeG_cons, sSetO_app, mConsO_app, ap2L_app, eIdx_app, eExt_app, eNewT_app, sAugI_app, augK_app, sAugT_app, augKT_app, isMt_s, isMt_m, freeAt_t, List.all_cons, List.all_nil, Bool.and_true, Bool.true_and, frzK_md, $[$ts:term],*])
section
variable {qs : List (Str × Int)} {gs : List (List Str)} {ns : List Int}
theorem VM.of_weights (h : VS qs gs) {ws : List Int} (hl : ws.length = (Rw qs (qs.map (·.1))).length) (hn : ∀ w ∈ ws, 0 ≤ w) (hp : 1 ≤ ws.sum) : VM qs gs (gs.map (msum qs (qs.map (·.1)) ws)) ws.sum := by
  refine ⟨by rw [List.length_map], fun p hp => ?_, hp⟩
  rw [zip_map_r] at hp
  obtain ⟨g, hg, rfl⟩ := List.mem_map.mp hp
  exact ⟨msum_len ws, msum_nonneg hn, sum_msum hl (h.gns hg).sub⟩
theorem sums_comp (h : VS qs gs) {A B C : Option Tv} {ws : List Int} : eLc [4] (bName 4) (tAll) (eCall 3 p__law_sums (aCons (eVar 2) (aCons (eVar 3) (aCons (eVar 4) (nilA))))) (ap1 itemsD (ap2 ixD (eVar 2) (eC (.int 1)))) [A, B, some (.d (mkS qs gs)), some (.d (mkRow ws)), none] =
    .ok ((gs.map (msum qs (qs.map (·.1)) ws)).map mkRow) [A, B, some (.d (mkS qs gs)), some (.d (mkRow ws)), none] := by
  have hz := sizeLine_big
  have := h.g10
  rw [lcM gs mkG (fun g => mkRow (msum qs (qs.map (·.1)) ws g)) ?_ ?_ ?_ ?_ ?_, List.map_map]
  · rfl
  · wp_walk using ix_S1, itemsD
  · omega
  · intro g hg
    refine ⟨_, rfl, ?_, rfl, rfl⟩
    have e := s_law_sums (wd := mkRow ws) (ws := ws) (fd := mkG g) h rfl (h.gns hg) rfl
    wp_walk using e
  · rfl
  · rfl
theorem s_law_joint_model (h : VS qs gs) (hn : ns.length ≤ 63) {zs : List D} {b : Nat} (hs : Sok b zs) (hb : b ≤ 900000) :
    ∃ (ws : List Int) (zs' : List D), ws.length = (Rw qs (qs.map (·.1))).length ∧ (∀ w ∈ ws, 0 ≤ w) ∧ 1 ≤ ws.sum ∧ ws.sum ≤ 18 ∧ Sok (b + 26) zs' ∧ b__law_joint_model [scr ns] zs [mkS qs gs] = .ok (mkM (gs.map (msum qs (qs.map (·.1)) ws))) zs' := by
  obtain ⟨ws, z1, h1, h2, h3, h4, h5, e⟩ := s_law_weights (ns := ns) (far := 3) h hn (by omega) hs hb
  refine ⟨ws, z1, h1, h2, h3, by omega, h5, ?_⟩
  rw [b__law_joint_model, runB_out, m__law_joint_model, m__law_joint_model_s2, m__law_joint_model_s1, show bG [scr ns] zs [mkS qs gs] 5 = [some (.d (scr ns)), some (.ml true zs), some (.d (mkS qs gs)), none, none] from rfl]
  wp_walk using e, sums_comp h (C := none), tup_list
/-! ### loose models -/
theorem lo_step (hn : ns.length ≤ 63) {A B C E : Option Tv} {size : Int} {ws : List Int} {zs : List D} {b : Nat} {k : D} (hs : Sok b zs) (hb : b + 2 ≤ sizeLine) (hsz : size = ws.length) (hp : 0 < size) :
    ∃ (j : Nat) (zs' : List D), j < ws.length ∧ Sok (b + 2) zs' ∧ m__law_loose_model_b2 [some (.d (scr ns)), some (.ml true zs), A, B, C, E, some (.d (.int size)), some (.ml false (ws.map PyData.int)), some (.d k)] =
      .ok .nx [some (.d (scr ns)), some (.ml true zs'), A, B, C, E, some (.d (.int size)), some (.ml false ((ws.set j (ws.getD j 0 + 1)).map PyData.int)), none] := by
  obtain ⟨i, z1, i0, i1, s1, e1⟩ := s_draw (ns := ns) (many := size) hs (by omega) hn hp
  have hj : i.toNat < ws.length := by omega
  have ei : ((i.toNat : Nat) : Int) = i := by omega
  refine ⟨i.toNat, z1, hj, s1, ?_⟩
  have f1 : fIdxP (ws.map PyData.int) (.int i) = some ((.int i, .int (ws.getD i.toNat 0)), ws.map PyData.int) := by
    have := fIdxP_ok (xs := ws.map PyData.int) (k := i.toNat) (getD_at hj)
    rw [ei] at this
    exact this
  have f2 : fSetI (.int (ws.getD i.toNat 0 + 1)) (ws.map PyData.int) (.int i) = some (.none, (ws.set i.toNat (ws.getD i.toNat 0 + 1)).map PyData.int) := by
    have := fSetI_ok (xs := ws.map PyData.int) (k := i.toNat) (y := .int (ws.getD i.toNat 0 + 1)) (by rw [List.length_map]; exact hj)
    rw [ei, map_set' PyData.int] at this
    exact this
  have ea : iopI (· + ·) (.int (ws.getD i.toNat 0)) (.int 1) = some (.int (ws.getD i.toNat 0 + 1)) := rfl
  rw [m__law_loose_model_b2, sSeq_app, m__law_loose_model_s1]
  wp_walk using e1, f1, ea, f2
theorem lo_table (h : VS qs gs) (hn : ns.length ≤ 63) {goal : Int} (hg0 : 1 ≤ goal) (hg6 : goal ≤ 6) {g : List Str} (hg : g ∈ gs) {ms : List (List Int)} (hm : ms.length ≤ 1000) {zs : List D} {b : Nat} (hs : Sok b zs) (hb : b ≤ 900000) :
    ∃ (t : List Int) (zs' : List D), TbOk qs goal g t ∧ Sok (b + 12) zs' ∧ m__law_loose_model_b7 [some (.d (scr ns)), some (.ml true zs), some (.d (mkS qs gs)), some (.d (.int goal)), some (.ml false (ms.map mkRow)), some (.d (mkG g)), none, none, none] =
      .ok .nx [some (.d (scr ns)), some (.ml true zs'), some (.d (mkS qs gs)), some (.d (.int goal)), some (.ml false ((ms ++ [t]).map mkRow)), none, none, none, none] := by
  have hz := sizeLine_big
  have hN := h.gns hg
  have hR := Rw_len h hN
  have hRp := Rw_pos h hN
  generalize hL : (Rw qs g).length = L at hR hRp
  obtain ⟨c, hc⟩ : ∃ c : Int, c = (L : Int) := ⟨_, rfl⟩
  obtain ⟨⟨ws, z2⟩, ⟨hl, hnn, h1, h3⟩, lp⟩ := loop_relB (b := bName 8) (body := m__law_loose_model_b2) (mk := fun a : Nat => PyData.int (a : Int)) (emb := fun s : List Int × List D => [some (.d (scr ns)), some (.ml true s.2), some (.d (mkS qs gs)), some (.d (.int goal)), some (.ml false (ms.map mkRow)), some (.d (mkG g)), some (.d (.int c)), some (.ml false (s.1.map PyData.int)), none])
    (G := fun s (a : Nat) => [some (.d (scr ns)), some (.ml true s.2), some (.d (mkS qs gs)), some (.d (.int goal)), some (.ml false (ms.map mkRow)), some (.d (mkG g)), some (.d (.int c)), some (.ml false (s.1.map PyData.int)), some (.d (.int (a : Int)))])
    (I := fun n s => s.1.length = L ∧ (∀ w ∈ s.1, 0 ≤ w) ∧ s.1.sum = n ∧ Sok (b + 2 * n) s.2) (B := 6)
    (List.range goal.toNat) 0 (List.replicate L 0, zs) (by rw [List.length_range]; omega) ⟨List.length_replicate, fun w hw => by rw [List.eq_of_mem_replicate hw]; exact Int.le_refl _, by rw [sum_zeros]; rfl, hs⟩ (fun _ _ => rfl) (by
      rintro n ⟨ws, zs1⟩ a hn1 ⟨hl, hnn, h1, h3⟩ ha
      dsimp only at hl hnn h1 h3
      obtain ⟨j, zs', hj, s2, e⟩ := lo_step (ns := ns) hn (size := c) (A := some (.d (mkS qs gs))) (B := some (.d (.int goal))) (C := some (.ml false (ms.map mkRow))) (E := some (.d (mkG g))) (ws := ws) (k := .int (a : Int)) h3 (by omega) (by rw [hc, ← hl]) (by omega)
      refine ⟨(ws.set j (ws.getD j 0 + 1), zs'), ⟨by rw [List.length_set]; exact hl, set_nonneg hnn (by omega), ?_, s2.mono (by omega)⟩, e⟩
      dsimp only
      rw [sum_set ws j hj]
      push_cast
      omega)
  dsimp only at hl hnn h1 h3
  rw [List.length_range, Nat.zero_add] at h1 h3
  refine ⟨ws, z2, ⟨by rw [hl, hL], hnn, by omega⟩, h3.mono (by omega), ?_⟩
  have sS : seqD (.tuple (qs.map mkQ)) = some (qs.map mkQ) := rfl
  have eN := s_lawcells (nd := mkG g) h hN sS rfl
  have el : lenD [.list ((Rw qs g).map mkRow)] = some (.int c) := by rw [len_lst, List.length_map, hL, hc]
  dsimp only at lp
  have st6 : m__law_loose_model_s6 [some (.d (scr ns)), some (.ml true zs), some (.d (mkS qs gs)), some (.d (.int goal)), some (.ml false (ms.map mkRow)), some (.d (mkG g)), none, none, none] = .ok .nx [some (.d (scr ns)), some (.ml true zs), some (.d (mkS qs gs)), some (.d (.int goal)), some (.ml false (ms.map mkRow)), some (.d (mkG g)), some (.d (.int c)), none, none] := by
    rw [m__law_loose_model_s6]
    wp_walk using ix_S0, eN, el
  have st5 : m__law_loose_model_s5 [some (.d (scr ns)), some (.ml true zs), some (.d (mkS qs gs)), some (.d (.int goal)), some (.ml false (ms.map mkRow)), some (.d (mkG g)), some (.d (.int c)), none, none] = .ok .nx [some (.d (scr ns)), some (.ml true zs), some (.d (mkS qs gs)), some (.d (.int goal)), some (.ml false (ms.map mkRow)), some (.d (mkG g)), some (.d (.int c)), some (.ml false ((List.replicate L 0).map PyData.int)), none] := by
    rw [m__law_loose_model_s5]
    wp_walk using mul_zeros (c := c) (by omega) (by omega), show c.toNat = L by omega
  have st4 : m__law_loose_model_s4 [some (.d (scr ns)), some (.ml true zs), some (.d (mkS qs gs)), some (.d (.int goal)), some (.ml false (ms.map mkRow)), some (.d (mkG g)), some (.d (.int c)), some (.ml false ((List.replicate L 0).map PyData.int)), none] = .ok .nx [some (.d (scr ns)), some (.ml true z2), some (.d (mkS qs gs)), some (.d (.int goal)), some (.ml false (ms.map mkRow)), some (.d (mkG g)), some (.d (.int c)), some (.ml false (ws.map PyData.int)), none] := by
    rw [m__law_loose_model_s4, sFor_app]
    wp_walk using rng_int (show 0 ≤ goal by omega) (show goal ≤ 1000000 by omega), lp
  have fa : fApp (ms.map mkRow) (mkRow ws) = some (.none, ms.map mkRow ++ [mkRow ws]) := fApp_ok (by rw [List.length_map]; omega)
  rw [m__law_loose_model_b7, sSeq_app, st6, seq_nx, sSeq_app, st5, seq_nx, sSeq_app, st4, seq_nx, sSeq_app, m__law_loose_model_s3]
  have e3 : PyData.tuple (ws.map PyData.int) = mkRow ws := rfl
  wp_walk using tup_list, e3, fa, List.map_append, List.map_cons, List.map_nil
theorem s_law_loose_model (h : VS qs gs) (hn : ns.length ≤ 63) {zs : List D} {b : Nat} (hs : Sok b zs) (hb : b ≤ 800000) :
    ∃ (ms : List (List Int)) (T : Int) (zs' : List D), VM qs gs ms T ∧ T ≤ 6 ∧ Sok (b + 122) zs' ∧ b__law_loose_model [scr ns] zs [mkS qs gs] = .ok (mkM ms) zs' := by
  have hz := sizeLine_big
  have hg10 := h.g10
  obtain ⟨i, z1, i0, i1, s1, e1⟩ := s_draw (ns := ns) (many := 6) hs (by omega) hn (by decide)
  obtain ⟨⟨ms, z2⟩, ⟨hl, ht, h3⟩, lp⟩ := loop_relP (b := bName 5) (body := m__law_loose_model_b7) (mk := mkG) (full := gs) (emb := fun s : List (List Int) × List D => [some (.d (scr ns)), some (.ml true s.2), some (.d (mkS qs gs)), some (.d (.int (1 + i))), some (.ml false (s.1.map mkRow)), none, none, none, none])
    (G := fun s g => [some (.d (scr ns)), some (.ml true s.2), some (.d (mkS qs gs)), some (.d (.int (1 + i))), some (.ml false (s.1.map mkRow)), some (.d (mkG g)), none, none, none])
    (I := fun p s => s.1.length = p.length ∧ (∀ q ∈ p.zip s.1, TbOk qs (1 + i) q.1 q.2) ∧ Sok (b + 2 + 12 * p.length) s.2)
    gs [] ([], z1) rfl ⟨rfl, fun q hq => by simp at hq, s1⟩ (fun _ _ => rfl) (by
      rintro p g r ⟨ms, zs1⟩ ef ⟨hl, ht, h3⟩
      dsimp only at hl ht h3
      have hgl : p.length < gs.length := by rw [ef, List.length_append, List.length_cons]; omega
      obtain ⟨t, zs', ok, s2, e⟩ := lo_table (ns := ns) h hn (goal := 1 + i) (by omega) (by omega) (g := g) (by rw [ef]; simp) (ms := ms) (by omega) h3 (by omega)
      refine ⟨(ms ++ [t], zs'), ⟨by rw [List.length_append, List.length_append, hl]; rfl, fun q hq => ?_, s2.mono (by rw [List.length_append, List.length_singleton]; omega)⟩, e⟩
      dsimp only at hq
      rw [List.zip_append hl.symm] at hq
      rcases List.mem_append.mp hq with hq | hq
      · exact ht q hq
      · simp at hq
        subst hq
        exact ok)
  dsimp only at hl ht h3 lp
  refine ⟨ms, 1 + i, z2, ⟨hl, ht, by omega⟩, by omega, h3.mono (by omega), ?_⟩
  rw [List.map_nil] at lp
  rw [b__law_loose_model, runB_out, m__law_loose_model, m__law_loose_model_s10, m__law_loose_model_s9, m__law_loose_model_s8, show bG [scr ns] zs [mkS qs gs] 9 = [some (.d (scr ns)), some (.ml true zs), some (.d (mkS qs gs)), none, none, none, none, none, none] from rfl]
  wp_walk using e1, add_int, sFor_app, ix_S1, itemsD, lp, tup_list
theorem s_law_model (h : VS qs gs) (hn : ns.length ≤ 63) {zs : List D} {b : Nat} (hs : Sok b zs) (hb : b ≤ 700000) :
    ∃ (ms : List (List Int)) (T : Int) (zs' : List D), VM qs gs ms T ∧ T ≤ 18 ∧ Sok (b + 124) zs' ∧ b__law_model [scr ns] zs [mkS qs gs] = .ok (mkM ms) zs' := by
  have hz := sizeLine_big
  obtain ⟨i, z1, i0, i1, s1, e1⟩ := s_draw (ns := ns) (many := 3) hs (by omega) hn (by decide)
  rw [b__law_model, runB_out, m__law_model, m__law_model_s3, m__law_model_s1, m__law_model_s2, show bG [scr ns] zs [mkS qs gs] 3 = [some (.d (scr ns)), some (.ml true zs), some (.d (mkS qs gs))] from rfl]
  by_cases hi : i = 0
  · subst hi
    obtain ⟨ms, T, z2, vm, hT, s2, e2⟩ := s_law_loose_model (ns := ns) h hn s1 (by omega)
    refine ⟨ms, T, z2, vm, by omega, s2.mono (by omega), ?_⟩
    have eb : ((0 : Int) == 0) = true := rfl
    wp_walk using e1, eq_int, eb, e2
  · obtain ⟨ws, z2, h1, h2, h3, h4, s2, e2⟩ := s_law_joint_model (ns := ns) h hn s1 (by omega)
    refine ⟨_, ws.sum, z2, VM.of_weights h h1 h2 h3, h4, s2.mono (by omega), ?_⟩
    have eb : (i == 0) = false := beq_eq_false_iff_ne.mpr hi
    wp_walk using e1, eq_int, eb, e2
end
end PP

namespace PP
open PySem PySem.Spec
local macro_rules
  | `(tactic| wp_walk) => `(tactic| simp only [bind_ok, bind_exc, bnd_app, lift_some, eC_app, eVar_0, eVar_1, eVar_2, eVar_3, eVar_4, eVar_5, eVar_6, eVar_7, eVar_8, eVar_9, eVar_10, ap1_app, ap2_app, apA_app, aCons_app, nilA_app, tru_app, tst_app, asB_bool, truD_bool, truD_list, truD_tuple, mNot_app, mAnd_app, mOr_app, eNot_app, eAnd_app, eOr_app, andK_b, orK_b, eIf_app, eTup_app, eLst_app, lLst_app, frzL_app, eList_app, eSl_app, pN_app, pS_app, partD_int, chn_b, eChain_app, seq_nx, seq_ret, seq_brk, seq_cnt, seq_exc, sSeq_app, sRet_app, sDrop_app, sIf_app, sRaise_app, sAsg_name, sSetL_app, rxM_ok, rxM_exc, eCall_app, outP_ret, outP_nx, outP_exc, Option.map_some, len0, len1, len2, len3, len4, len5, len6, len7, len8, eq_self, sz0, sz1, sz2, sz3, sz4, sz5, sz6, sz7, sz8, sz9, sz10, sz11, freeAt_s, freeAt_n, freeAt_d, freeAt_m, sFrz_app, frzK_ml, List.getElem?_cons_zero, List.getElem?_cons_succ, List.set_cons_zero, List.set_cons_succ, sAsg_tup, asgK_some, bTup_app, bAll_nil, bAll_cons, bName_app, Option.bind_some, isMl_s, isMl_m, resK_some, onK_ml, eApp_app, ePop_app, eIdxV_app, eLenV_app, tTruV_app, sSetI_app, onL_app, fLen_ok, fTru_ok, rbK_ok, cbK_ml, eCB_cons, eCB_nil, List.nil_append, List.cons_append, outK_some, outR_ret, outR_nx, outB_s, outB_m, mConsD_app, mConsL_app, sPar_app, setAll_nil, setAll_cons, true_and, and_true, and_self, Bool.not_true, Bool.not_false, Bool.false_eq_true, reduceIte, eVar_11, eVar_12, eVar_13, eVar_14, eVar_15, eVar_16, eVar_17, eVar_18, eVar_19, eVar_20, eVar_21, eVar_22, eVar_23, eVar_24, eVar_25, sWipe_app, wipeG_nil, wipeG_cons, sSetO_app, mConsO_app, ap2L_app, eIdx_app, eExt_app, eNewT_app, sAugI_app, augK_app, sAugT_app, augKT_app, isMt_s, isMt_m, freeAt_t, List.all_cons, List.all_nil, Bool.and_true, Bool.true_and, frzK_md])
  | `(tactic| wp_walk using $ts,*) => `(tactic| simp only [bind_ok, bind_exc, bnd_app, lift_some, eC_app, eVar_0, eVar_1, eVar_2, eVar_3, eVar_4, eVar_5, eVar_6, eVar_7, eVar_8, eVar_9, eVar_10, ap1_app, ap2_app, apA_app, aCons_app, nilA_app, tru_app, tst_app, asB_bool, truD_bool, truD_list, truD_tuple, mNot_app, mAnd_app, mOr_app, eNot_app, eAnd_app, eOr_app, andK_b, orK_b, eIf_app, eTup_app, eLst_app, lLst_app, frzL_app, eList_app, eSl_app, pN_app, pS_app, partD_int, chn_b, eChain_app, seq_nx, seq_ret, seq_brk, seq_cnt, seq_exc, sSeq_app, sRet_app, sDrop_app, sIf_app, sRaise_app, sAsg_name, sSetL_app, rxM_ok, rxM_exc, eCall_app, outP_ret, outP_nx, outP_exc, Option.map_some, len0, len1, len2, len3, len4, len5, len6, len7, len8, eq_self, sz0, sz1, sz2, sz3, sz4, sz5, sz6, sz7, sz8, sz9, sz10, sz11, freeAt_s, freeAt_n, freeAt_d, freeAt_m, sFrz_app, frzK_ml, List.getElem?_cons_zero, List.getElem?_cons_succ, List.set_cons_zero, List.set_cons_succ, sAsg_tup, asgK_some, bTup_app, bAll_nil, bAll_cons, bName_app, Option.bind_some, isMl_s, isMl_m, resK_some, onK_ml, eApp_app, ePop_app, eIdxV_app, eLenV_app, tTruV_app, sSetI_app, onL_app, fLen_ok, fTru_ok, rbK_ok, cbK_ml, eCB_cons, eCB_nil, List.nil_append, List.cons_append, outK_some, outR_ret, outR_nx, outB_s, outB_m, mConsD_app, mConsL_app, sPar_app, setAll_nil, setAll_cons, true_and, and_true, and_self, Bool.not_true, Bool.not_false, Bool.false_eq_true, reduceIte, eVar_11, eVar_12, eVar_13, eVar_14, eVar_15, eVar_16, eVar_17, eVar_18, eVar_19, eVar_20, eVar_21, eVar_22, eVar_23, eVar_24, eVar_25, sWipe_app, wipeG_nil, wipeG_cons, sSetO_app, mConsO_app, ap2L_app, eIdx_app, eExt_app, eNewT_app, sAugI_app, augK_app, sAugT_app, augKT_app, isMt_s, isMt_m, freeAt_t, List.all_cons, List.all_nil, Bool.and_true, Bool.true_and, frzK_md, $[$ts:term],*])
/-! ### bent things -/
def BT : Nat → D → Prop
  | _, .int i => i.natAbs < 2 ^ 64
  | _, .str z => z.length ≤ 1000
  | n + 1, .tuple xs => xs.length ≤ 1000 ∧ ∀ y ∈ xs, BT n y
  | _, _ => False
theorem BT.gd : ∀ {n : Nat} {x : D}, BT n x → Gd n x
  | _, .int i, _ => by simp [Gd]
  | _, .str z, h => by
    have := sizeLine_big
    have h : z.length ≤ 1000 := by cases ‹Nat› <;> exact h
    simp only [Gd]
    omega
  | 0, .tuple xs, h => by exact h.elim
  | n + 1, .tuple xs, h => by
    have := sizeLine_big
    exact ⟨by have := h.1; omega, fun y hy => BT.gd (h.2 y hy)⟩
  | 0, .none, h => h.elim
  | n + 1, .none, h => h.elim
  | 0, .bool _, h => h.elim
  | n + 1, .bool _, h => h.elim
  | 0, .list _, h => h.elim
  | n + 1, .list _, h => h.elim
  | 0, .dict _, h => h.elim
  | n + 1, .dict _, h => h.elim
theorem cut_sub {α : Type} {xs : List α} {lo hi : Option Int} : ∀ y ∈ cutD xs lo hi, y ∈ xs := fun y hy => List.mem_of_mem_drop (List.mem_of_mem_take hy)
theorem cut_len {α : Type} {xs : List α} {lo hi : Option Int} : (cutD xs lo hi).length ≤ xs.length := by
  unfold cutD
  rw [List.length_take, List.length_drop]
  omega
theorem add_lsts {xs ys : List D} (h : xs.length + ys.length ≤ 100000) : addD (.list xs) (.list ys) = some (.list (xs ++ ys)) := add_lists (by have := sizeLine_big; omega)
theorem mul_two {xs : List D} (h : xs.length ≤ 1000) : mulD (.list xs) (.int 2) = some (.list (xs ++ xs)) := by
  rw [mulD, if_pos]
  · rw [show (2 : Int).toNat = 2 from rfl]
    simp [List.replicate]
  · simp only [Bool.and_eq_true, decide_eq_true_eq]
    refine ⟨⟨by decide, by decide⟩, ?_⟩
    rw [show (2 : Int).toNat = 2 from rfl]
    omega
theorem str_ok {i : Int} (h : i.natAbs < 2 ^ 64) : ∃ z : Str, z.length ≤ sizeLine ∧ strD [.int i] = some (.str z) := by
  have hl : i.natAbs.log2 < 1920 := by
    by_cases h0 : i.natAbs = 0
    · rw [h0]; decide
    · exact (Nat.log2_lt h0).mpr (Nat.lt_of_lt_of_le h (Nat.pow_le_pow_right (by decide) (by decide)))
  refine ⟨_, PySem.int_text_fits hl, ?_⟩
  rw [strD, if_pos hl]
def L19 : List D := [.none, .bool true, .bool false, .int 0, .int 1, .int (-1), .int 3, .int 10, .str "a", .str "b", .str "", .str "A", .str "abcd", .tuple [], .list [], .tuple [.str "a"], .tuple [.str "a", .str "b"], .tuple [.str "b", .str "a"], .tuple [.str "a", .int 2]]
theorem L19_gd : ∀ y ∈ L19, Gd 1 y := by
  have hz := sizeLine_big
  have e1 : ("a" : Str).length = 1 := by decide
  have e2 : ("b" : Str).length = 1 := by decide
  have e3 : ("" : Str).length = 0 := by decide
  have e4 : ("A" : Str).length = 1 := by decide
  have e5 : ("abcd" : Str).length = 4 := by decide
  intro y hy
  simp only [L19, List.mem_cons, List.not_mem_nil, or_false] at hy
  rcases hy with rfl | rfl | rfl | rfl | rfl | rfl | rfl | rfl | rfl | rfl | rfl | rfl | rfl | rfl | rfl | rfl | rfl | rfl | rfl <;> simp [Gd, e1, e2, e3, e4, e5] <;> omega
theorem neg_one : negD (.int 1) = some (.int (-1)) := rfl
theorem sub_one (i : Int) : subD (.int i) (.int 1) = some (.int (i - 1)) := rfl
theorem truD_int (i : Int) : truD (.int i) = some (i != 0) := rfl
section
variable {ns : List Int} {rec : BF}
theorem len12 (a b c d e f h i j k l m : D) : [a, b, c, d, e, f, h, i, j, k, l, m].length = 12 := rfl
theorem bent_s7 {A B C E : Option Tv} (hE : dat E = true) : m__law_bent_s7 rec [A, B, C, none, E] = .ok .nx [A, B, C, none, some (.d (.list (L19.take 15)))] := by
  have f4 : freeAt [A, B, C, none, E] 4 = true := freeAt_dat (o := E) rfl hE
  have hz := sizeLine_big
  have z : ∀ xs : List D, xs.length = 15 → (if xs.length ≤ sizeLine then some (PyData.list xs) else none) = some (.list xs) := fun xs h => if_pos (by omega)
  rw [m__law_bent_s7]
  wp_walk using neg_one, f4
  rw [z _ rfl]
  wp_walk using f4
  rfl
theorem bent_s6 {A B C : Option Tv} : m__law_bent_s6 rec [A, B, C, none, some (.d (.list (L19.take 15)))] = .ok .nx [A, B, C, none, some (.d (.list L19))] := by
  have e : addD (.list (L19.take 15)) (.list (L19.drop 15)) = some (.list L19) := by
    rw [add_lsts (by decide), List.take_append_drop]
  have e2 : L19.drop 15 = [.tuple [.str "a"], .tuple [.str "a", .str "b"], .tuple [.str "b", .str "a"], .tuple [.str "a", .int 2]] := rfl
  rw [e2] at e
  rw [m__law_bent_s6]
  wp_walk using e
theorem bent_pick (hn : ns.length ≤ 63) {n : Nat} {x : D} (hx : BT n x) {zs : List D} {b : Nat} (hs : Sok b zs) (hb : b + 2 ≤ sizeLine) {E : Option Tv} (hE : dat E = true) :
    ∃ (y : D) (zs' : List D) (E' : Option Tv), Gd (n + 2) y ∧ Sok (b + 2) zs' ∧ sSeq (m__law_bent_s7 rec) (sSeq (m__law_bent_s6 rec) (sSeq (m__law_bent_s5 rec) (sSeq (m__law_bent_s4 rec) (m__law_bent_s3 rec)))) [some (.d (scr ns)), some (.ml true zs), some (.d x), none, E] = .ok (.ret y) [some (.d (scr ns)), some (.ml true zs'), some (.d x), none, E'] := by
  have hz := sizeLine_big
  have hgx := hx.gd
  -- what is picked from
  have key : ∃ L : List D, L ≠ [] ∧ (∀ y ∈ L, Gd (n + 2) y) ∧ ∀ A B : Option Tv, (sSeq (m__law_bent_s5 rec) (sSeq (m__law_bent_s4 rec) (m__law_bent_s3 rec))) [A, B, some (.d x), none, some (.d (.list L19))] = m__law_bent_s3 rec [A, B, some (.d x), none, some (.d (.list L))] := by
    have g19 : ∀ y ∈ L19, Gd (n + 2) y := fun y hy => (L19_gd y hy).mono (by omega)
    cases x with
    | int i =>
      have hi : i.natAbs < 2 ^ 64 := by cases n <;> exact hx
      obtain ⟨z, hzl, ez⟩ := str_ok hi
      obtain ⟨W, hW⟩ : ∃ W : List D, W = [.int (i + 1), .int (i - 1), .bool (!(i != 0)), .tuple [.int i], .str z] ++ [.int (i + 1), .int (i - 1), .bool (!(i != 0)), .tuple [.int i], .str z] := ⟨_, rfl⟩
      refine ⟨L19 ++ W, by simp [L19], fun y hy => ?_, fun A B => ?_⟩
      · rcases List.mem_append.mp hy with h | h
        · exact g19 y h
        · rw [hW] at h
          simp only [List.mem_append, List.mem_cons, List.not_mem_nil, or_false] at h
          have h : y = .int (i + 1) ∨ y = .int (i - 1) ∨ y = .bool (!(i != 0)) ∨ y = .tuple [.int i] ∨ y = .str z := by
            rcases h with h | h <;> exact h
          rcases h with rfl | rfl | rfl | rfl | rfl <;> simp [Gd] <;> omega
      · have e0 : isiD "tuple" (.int i) = some (.bool false) := isi_tuple rfl
        have e1 : isiD "int" (.int i) = some (.bool true) := isi_int rfl
        have e2 := mul_two (xs := [.int (i + 1), .int (i - 1), .bool (!(i != 0)), .tuple [.int i], .str z]) (by simp)
        rw [← hW] at e2
        have e3 := add_lsts (xs := L19) (ys := W) (by rw [hW]; simp [L19])
        rw [sSeq_app, m__law_bent_s5]
        wp_walk using e0
        rw [m__law_bent_s4, m__law_bent_s2]
        wp_walk using e1, add_int, sub_one, truD_int, ez, e2, e3
    | str z =>
      refine ⟨L19, by simp [L19], g19, fun A B => ?_⟩
      have e0 : isiD "tuple" (.str z) = some (.bool false) := isi_tuple rfl
      have e1 : isiD "int" (.str z) = some (.bool false) := isi_int rfl
      rw [sSeq_app, m__law_bent_s5]
      wp_walk using e0
      rw [m__law_bent_s4]
      wp_walk using e1
    | tuple xs =>
      cases n with
      | zero => exact hx.elim
      | succ n =>
        obtain ⟨hl, hy⟩ := hx
        have hyg : ∀ y ∈ xs, Gd (n + 2) y := fun y h => ((hy y h).gd).mono (by omega)
        refine ⟨L19 ++ [.list xs, .tuple (cutD xs none (some (-1))), .tuple (xs ++ cutD xs (some (-1)) none), .tuple (cutD xs (some 1) none), .tuple xs.reverse, .tuple (xs ++ [.none])], by simp [L19], fun y h => ?_, fun A B => ?_⟩
        · rcases List.mem_append.mp h with h | h
          · exact g19 y h
          · have c1 := cut_len (xs := xs) (lo := none) (hi := some (-1))
            have c2 := cut_len (xs := xs) (lo := some (-1)) (hi := none)
            have c3 := cut_len (xs := xs) (lo := some 1) (hi := none)
            simp only [List.mem_cons, List.not_mem_nil, or_false] at h
            rcases h with rfl | rfl | rfl | rfl | rfl | rfl
            · exact ⟨by omega, hyg⟩
            · exact ⟨by omega, fun y hy => hyg y (cut_sub y hy)⟩
            · refine ⟨by rw [List.length_append]; omega, fun y hy => ?_⟩
              rcases List.mem_append.mp hy with hy | hy
              · exact hyg y hy
              · exact hyg y (cut_sub y hy)
            · exact ⟨by omega, fun y hy => hyg y (cut_sub y hy)⟩
            · exact ⟨by rw [List.length_reverse]; omega, fun y hy => hyg y (List.mem_reverse.mp hy)⟩
            · refine ⟨by rw [List.length_append, List.length_singleton]; omega, fun y hy => ?_⟩
              rcases List.mem_append.mp hy with hy | hy
              · exact hyg y hy
              · simp at hy
                rw [hy]
                simp [Gd]
        · have c2 := cut_len (xs := xs) (lo := some (-1)) (hi := none)
          have e0 : isiD "tuple" (.tuple xs) = some (.bool true) := isi_tuple rfl
          have e1 : isiD "int" (.tuple xs) = some (.bool false) := isi_int rfl
          have s1 : slD (.tuple xs) none (some (-1)) = some (.tuple (cutD xs none (some (-1)))) := rfl
          have s2 : slD (.tuple xs) (some (-1)) none = some (.tuple (cutD xs (some (-1)) none)) := rfl
          have s3 : slD (.tuple xs) (some 1) none = some (.tuple (cutD xs (some 1) none)) := rfl
          have s4 : addD (.tuple xs) (.tuple (cutD xs (some (-1)) none)) = some (.tuple (xs ++ cutD xs (some (-1)) none)) := add_tups (by omega)
          have s5 : addD (.tuple xs) (.tuple [.none]) = some (.tuple (xs ++ [.none])) := add_tups (by rw [List.length_singleton]; omega)
          have s6 : revD (.tuple xs) = some (.tuple xs.reverse) := rfl
          have s7 : seqD (.tuple xs) = some xs := rfl
          have e3 := add_lsts (xs := L19) (ys := [.list xs, .tuple (cutD xs none (some (-1))), .tuple (xs ++ cutD xs (some (-1)) none), .tuple (cutD xs (some 1) none), .tuple xs.reverse, .tuple (xs ++ [.none])]) (by simp [L19])
          rw [sSeq_app, m__law_bent_s5, m__law_bent_s1]
          wp_walk using e0, seqA, neg_one, s1, s2, s3, s4, s5, s6, s7, e3
          rw [m__law_bent_s4]
          wp_walk using e1
    | _ => cases n <;> exact hx.elim
  obtain ⟨L, hne, hL, ek⟩ := key
  obtain ⟨y, zs', hy, s1, ep⟩ := s_pick (ns := ns) (xs := L) hs hb hn hne
  refine ⟨y, zs', some (.d (.list L)), hL y hy, s1, ?_⟩
  rw [sSeq_app, bent_s7 hE, seq_nx, sSeq_app, bent_s6, seq_nx, ek, m__law_bent_s3]
  wp_walk using ep
theorem s_bent (hn : ns.length ≤ 63) : ∀ (n f : Nat) (x : D) (zs : List D) (b : Nat), n < f → BT n x → Sok b zs → b + 6 * n + 6 ≤ sizeLine → ∃ (y : D) (zs' : List D), Gd (n + 2) y ∧ Sok (b + 6 * n + 6) zs' ∧ b__law_bent f [scr ns] zs [x] = .ok y zs' := by
  intro n
  induction n with
  | zero =>
    intro f x zs b hf hx hs hb
    cases f with
    | zero => omega
    | succ f =>
      obtain ⟨y, zs', E', hy, s1, e⟩ := bent_pick (rec := b__law_bent f) hn hx hs (by omega) (E := none) rfl
      refine ⟨y, zs', hy, s1.mono (by omega), ?_⟩
      have e0 : isiD "tuple" x = some (.bool false) := by
        cases x with
        | int i => exact isi_tuple rfl
        | str z => exact isi_tuple rfl
        | _ => exact hx.elim
      rw [b__law_bent, runB_out, m__law_bent, m__law_bent_s10, show bG [scr ns] zs [x] 5 = [some (.d (scr ns)), some (.ml true zs), some (.d x), none, none] from rfl]
      rw [sSeq_app, sIf_app]
      simp only [mOr_app, mNot_app, tru_app, ap1_app, eVar_2, bind_ok, e0, lift_some, truD_bool, Bool.not_false, reduceIte]
      rw [e]
      wp_walk
  | succ n ih =>
    intro f x zs b hf hx hs hb
    cases f with
    | zero => omega
    | succ f =>
      have pick : ∀ (zs1 : List D) (b1 : Nat), Sok b1 zs1 → b1 + 2 ≤ b + 6 * (n + 1) + 6 → ∃ (y : D) (zs' : List D) (E' : Option Tv), Gd (n + 3) y ∧ Sok (b + 6 * (n + 1) + 6) zs' ∧ sSeq (m__law_bent_s7 (b__law_bent f)) (sSeq (m__law_bent_s6 (b__law_bent f)) (sSeq (m__law_bent_s5 (b__law_bent f)) (sSeq (m__law_bent_s4 (b__law_bent f)) (m__law_bent_s3 (b__law_bent f))))) [some (.d (scr ns)), some (.ml true zs1), some (.d x), none, none] = .ok (.ret y) [some (.d (scr ns)), some (.ml true zs'), some (.d x), none, E'] := by
        intro zs1 b1 h1 h2
        obtain ⟨y, zs', E', hy, s1, e⟩ := bent_pick (rec := b__law_bent f) hn hx h1 (by omega) (E := none) rfl
        exact ⟨y, zs', E', hy, s1.mono (by omega), e⟩
      rw [b__law_bent, show ∀ xs zs ys, runB 1 5 (m__law_bent (b__law_bent f)) xs zs ys = outR 1 (m__law_bent (b__law_bent f) (bG xs zs ys 5)) from fun xs zs ys => runB_out 1 5 _ xs zs ys, m__law_bent, m__law_bent_s10, show bG [scr ns] zs [x] 5 = [some (.d (scr ns)), some (.ml true zs), some (.d x), none, none] from rfl]
      by_cases ht : isiD "tuple" x = some (.bool true)
      · cases x with
        | tuple xs =>
          obtain ⟨hl, hy⟩ := hx
          by_cases hne : xs = []
          · subst hne
            obtain ⟨y, zs', E', h1, s1, e⟩ := pick zs b hs (by omega)
            refine ⟨y, zs', h1, s1, ?_⟩
            rw [sSeq_app, sIf_app]
            simp only [mOr_app, mNot_app, tru_app, ap1_app, eVar_2, bind_ok, ht, lift_some, truD_bool, Bool.not_true, Bool.false_eq_true, reduceIte, truD_tuple, List.isEmpty_nil, Bool.not_false]
            rw [e]
            wp_walk
          · have hemp : xs.isEmpty = false := by cases xs with | nil => exact absurd rfl hne | cons _ _ => rfl
            have hpos : 0 < xs.length := List.length_pos_iff.mpr hne
            have hz := sizeLine_big
            obtain ⟨i, z1, i0, i1, s1, e1⟩ := s_draw (ns := ns) (many := 4) hs (by omega) hn (by decide)
            rw [sSeq_app, sIf_app]
            by_cases hi : i = 0
            · subst hi
              obtain ⟨y, zs', E', h1, s2, e⟩ := pick z1 (b + 2) s1 (by omega)
              refine ⟨y, zs', h1, s2, ?_⟩
              have eb : ((0 : Int) == 0) = true := rfl
              wp_walk using mOr_app, mNot_app, tru_app, tst_app, ap1_app, ap2_app, ht, hemp, e1, eq_int, eb
              rw [sSeq_app] at e
              rw [e]
              wp_walk
            · have eb : (i == 0) = false := beq_eq_false_iff_ne.mpr hi
              obtain ⟨c, hc⟩ : ∃ c : Int, c = (xs.length : Int) := ⟨_, rfl⟩
              have el : lenD [.tuple xs] = some (.int c) := by rw [len_tup, hc]
              obtain ⟨k, z2, k0, k1, s2, e2⟩ := s_draw (ns := ns) (many := c) s1 (by omega) hn (by omega)
              have hk : k.toNat < xs.length := by omega
              have ek : ((k.toNat : Nat) : Int) = k := by omega
              obtain ⟨y, z3, gy, s3, e3⟩ := ih f (xs[k.toNat]) z2 (b + 4) (by omega) (hy _ (List.getElem_mem hk)) s2 (by omega)
              have ix : ixD (.tuple xs) (.int k) = some xs[k.toNat] := by
                have := ix_tup (xs := xs) (k := k.toNat) (List.getElem?_eq_getElem hk)
                rw [ek] at this
                exact this
              have c1 := cut_len (xs := xs) (lo := none) (hi := some k)
              have c2 := cut_len (xs := xs) (lo := some (k + 1)) (hi := none)
              have q1 : slD (.tuple xs) none (some k) = some (.tuple (cutD xs none (some k))) := rfl
              have q2 : slD (.tuple xs) (some (k + 1)) none = some (.tuple (cutD xs (some (k + 1)) none)) := rfl
              have q3 : addD (.tuple (cutD xs none (some k))) (.tuple [y]) = some (.tuple (cutD xs none (some k) ++ [y])) := add_tups (by rw [List.length_singleton]; omega)
              have q4 : addD (.tuple (cutD xs none (some k) ++ [y])) (.tuple (cutD xs (some (k + 1)) none)) = some (.tuple (cutD xs none (some k) ++ [y] ++ cutD xs (some (k + 1)) none)) := add_tups (by rw [List.length_append, List.length_singleton]; omega)
              refine ⟨.tuple (cutD xs none (some k) ++ [y] ++ cutD xs (some (k + 1)) none), z3, ⟨by rw [List.length_append, List.length_append, List.length_singleton]; omega, fun w hw => ?_⟩, s3.mono (by omega), ?_⟩
              · rcases List.mem_append.mp hw with hw | hw
                · rcases List.mem_append.mp hw with hw | hw
                  · exact ((hy w (cut_sub w hw)).gd).mono (by omega)
                  · simp at hw
                    rw [hw]
                    exact gy
                · exact ((hy w (cut_sub w hw)).gd).mono (by omega)
              · wp_walk using ht, hemp, e1, eq_int, eb
                rw [m__law_bent_s9, m__law_bent_s8]
                wp_walk using el, e2, ix, e3, add_int, q1, q2, q3, q4
        | _ => first | exact hx.elim | (exact absurd ht (by rw [isi_tuple rfl]; simp [isTupD]))
      · have e0 : isiD "tuple" x = some (.bool false) := by
          cases x with
          | int i => exact isi_tuple rfl
          | str z => exact isi_tuple rfl
          | tuple xs => exact absurd (isi_tuple rfl) ht
          | _ => exact hx.elim
        obtain ⟨y, zs', E', h1, s1, e⟩ := pick zs b hs (by omega)
        refine ⟨y, zs', h1, s1, ?_⟩
        rw [sSeq_app, sIf_app]
        simp only [mOr_app, mNot_app, tru_app, ap1_app, eVar_2, bind_ok, e0, lift_some, truD_bool, Bool.not_false, reduceIte]
        rw [e]
        wp_walk
end
end PP

namespace PP
open PySem PySem.Spec
local macro_rules
  | `(tactic| wp_walk) => `(tactic| simp only [bind_ok, bind_exc, bnd_app, lift_some, eC_app, eVar_0, eVar_1, eVar_2, eVar_3, eVar_4, eVar_5, eVar_6, eVar_7, eVar_8, eVar_9, eVar_10, ap1_app, ap2_app, apA_app, aCons_app, nilA_app, tru_app, tst_app, asB_bool, truD_bool, truD_list, truD_tuple, mNot_app, mAnd_app, mOr_app, eNot_app, eAnd_app, eOr_app, andK_b, orK_b, eIf_app, eTup_app, eLst_app, lLst_app, frzL_app, eList_app, eSl_app, pN_app, pS_app, partD_int, chn_b, eChain_app, seq_nx, seq_ret, seq_brk, seq_cnt, seq_exc, sSeq_app, sRet_app, sDrop_app, sIf_app, sRaise_app, sAsg_name, sSetL_app, rxM_ok, rxM_exc, eCall_app, outP_ret, outP_nx, outP_exc, Option.map_some, len0, len1, len2, len3, len4, len5, len6, len7, len8, eq_self, sz0, sz1, sz2, sz3, sz4, sz5, sz6, sz7, sz8, sz9, sz10, sz11, freeAt_s, freeAt_n, freeAt_d, freeAt_m, sFrz_app, frzK_ml, List.getElem?_cons_zero, List.getElem?_cons_succ, List.set_cons_zero, List.set_cons_succ, sAsg_tup, asgK_some, bTup_app, bAll_nil, bAll_cons, bName_app, Option.bind_some, isMl_s, isMl_m, resK_some, onK_ml, eApp_app, ePop_app, eIdxV_app, eLenV_app, tTruV_app, sSetI_app, onL_app, fLen_ok, fTru_ok, rbK_ok, cbK_ml, eCB_cons, eCB_nil, List.nil_append, List.cons_append, outK_some, outR_ret, outR_nx, outB_s, outB_m, mConsD_app, mConsL_app, sPar_app, setAll_nil, setAll_cons, true_and, and_true, and_self, Bool.not_true, Bool.not_false, Bool.false_eq_true, reduceIte, eVar_11, eVar_12, eVar_13, eVar_14, eVar_15, eVar_16, eVar_17, eVar_18, eVar_19, eVar_20, eVar_21, eVar_22, eVar_23, eVar_24, eVar_25, sWipe_app, wipeG_nil, wipeG_cons, sSetO_app, mConsO_app, ap2L_app, eIdx_app, eExt_app, eNewT_app, sAugI_app, augK_app, sAugT_app, augKT_app, isMt_s, isMt_m, freeAt_t, List.all_cons, List.all_nil, Bool.and_true, Bool.true_and, frzK_md])
  | `(tactic| wp_walk using $ts,*) => `(tactic| simp only [bind_ok, bind_exc, bnd_app, lift_some, eC_app, eVar_0, eVar_1, eVar_2, eVar_3, eVar_4, eVar_5, eVar_6, eVar_7, eVar_8, eVar_9, eVar_10, ap1_app, ap2_app, apA_app, aCons_app, nilA_app, tru_app, tst_app, asB_bool, truD_bool, truD_list, truD_tuple, mNot_app, mAnd_app, mOr_app, eNot_app, eAnd_app, eOr_app, andK_b, orK_b, eIf_app, eTup_app, eLst_app, lLst_app, frzL_app, eList_app, eSl_app, pN_app, pS_app, partD_int, chn_b, eChain_app, seq_nx, seq_ret, seq_brk, seq_cnt, seq_exc, sSeq_app, sRet_app, sDrop_app, sIf_app, sRaise_app, sAsg_name, sSetL_app, rxM_ok, rxM_exc, eCall_app, outP_ret, outP_nx, outP_exc, Option.map_some, len0, len1, len2, len3, len4, len5, len6, len7, len8, eq_self, sz0, sz1, sz2, sz3, sz4, sz5, sz6, sz7, sz8, sz9, sz10, sz11, freeAt_s, freeAt_n, freeAt_d, freeAt_m, sFrz_app, frzK_ml, List.getElem?_cons_zero, List.getElem?_cons_succ, List.set_cons_zero, List.set_cons_succ, sAsg_tup, asgK_some, bTup_app, bAll_nil, bAll_cons, bName_app, Option.bind_some, isMl_s, isMl_m, resK_some, onK_ml, eApp_app, ePop_app, eIdxV_app, eLenV_app, tTruV_app, sSetI_app, onL_app, fLen_ok, fTru_ok, rbK_ok, cbK_ml, eCB_cons, eCB_nil, List.nil_append, List.cons_append, outK_some, outR_ret, outR_nx, outB_s, outB_m, mConsD_app, mConsL_app, sPar_app, setAll_nil, setAll_cons, true_and, and_true, and_self, Bool.not_true, Bool.not_false, Bool.false_eq_true, reduceIte, eVar_11, eVar_12, eVar_13, eVar_14, eVar_15, eVar_16, eVar_17, eVar_18, eVar_19, eVar_20, eVar_21, eVar_22, eVar_23, eVar_24, eVar_25, sWipe_app, wipeG_nil, wipeG_cons, sSetO_app, mConsO_app, ap2L_app, eIdx_app, eExt_app, eNewT_app, sAugI_app, augK_app, sAugT_app, augKT_app, isMt_s, isMt_m, freeAt_t, List.all_cons, List.all_nil, Bool.and_true, Bool.true_and, frzK_md, $[$ts:term],*])
/-! ### tuples of counts -/
def cN : D → Bool
  | .int i => decide (0 ≤ i)
  | _ => false
def isCT (k : Nat) : D → Bool
  | .tuple xs => xs.length == k && xs.all cN
  | _ => false
def intOf : D → Int
  | .int i => i
  | _ => 0
theorem cN_row {xs : List D} (h : xs.all cN = true) : ∃ r : List Int, xs = r.map PyData.int ∧ ∀ c ∈ r, 0 ≤ c := by
  induction xs with
  | nil => exact ⟨[], rfl, fun c hc => nomatch hc⟩
  | cons x xs ih =>
    rw [List.all_cons, Bool.and_eq_true] at h
    obtain ⟨r, e, hr⟩ := ih h.2
    cases x with
    | int i =>
      have hi : 0 ≤ i := of_decide_eq_true h.1
      refine ⟨i :: r, by rw [e]; rfl, fun c hc => ?_⟩
      rcases List.mem_cons.mp hc with rfl | hc
      · exact hi
      · exact hr c hc
    | _ => cases h.1
theorem isCT_inv {k : Nat} {x : D} (h : isCT k x = true) : ∃ r : List Int, x = mkRow r ∧ r.length = k ∧ ∀ c ∈ r, 0 ≤ c := by
  cases x with
  | tuple xs =>
    rw [isCT, Bool.and_eq_true] at h
    obtain ⟨r, e, hr⟩ := cN_row h.2
    refine ⟨r, by rw [e]; rfl, ?_, hr⟩
    have := eq_of_beq h.1
    rw [e, List.length_map] at this
    exact this
  | _ => cases h
theorem isCT_row {r : List Int} (hr : ∀ c ∈ r, 0 ≤ c) : isCT r.length (mkRow r) = true := by
  rw [mkRow, isCT, List.length_map, beq_self_eq_true, Bool.true_and, List.all_map]
  exact List.all_eq_true.mpr fun c hc => decide_eq_true (hr c hc)
theorem tup_gd {n : Nat} {xs : List D} (h : Gd n (.tuple xs)) : xs.length ≤ sizeLine ∧ ∃ m, n = m + 1 ∧ ∀ y ∈ xs, Gd m y := by
  cases n with
  | zero => exact h.elim
  | succ m => exact ⟨h.1, m, rfl, h.2⟩
theorem isi_tup_of {x : D} (h : isDict x = false) : isiD "tuple" x = some (.bool (isTupD x)) := isi_tuple h
theorem is_count {n : Nat} {y : D} (h : Gd n y) {A B : Option Tv} : eAnd (eCall 1 p_is_integer (aCons (eVar 2) nilA)) (ap2 geD (eVar 2) (eC (.int 0))) [A, B, some (.d y)] = .ok (.bool (cN y)) [A, B, some (.d y)] := by
  wp_walk using s_is_integer y h
  cases y with
  | int i => wp_walk using isIntD, ge_int, cN
  | _ => wp_walk using isIntD, cN
theorem s_is_count_tuple {n : Nat} (x : D) (h : Gd n x) {c : Int} {k : Nat} (hc : c = (k : Int)) : p_is_count_tuple [x, .int c] = .ok (.bool (isCT k x)) := by
  have hz := sizeLine_big
  rw [p_is_count_tuple, runP_out, m_is_count_tuple, show dsG [x, .int c] 3 = [some (.d x), some (.d (.int c)), none] from rfl]
  have et := isi_tup_of h.nd
  by_cases ht : isTupD x = true
  · cases x with
    | tuple xs =>
      obtain ⟨hl, m, rfl, hy⟩ := tup_gd h
      rw [ht] at et
      obtain ⟨d, hd⟩ : ∃ d : Int, d = (xs.length : Int) := ⟨_, rfl⟩
      have el : lenD [.tuple xs] = some (.int d) := by rw [len_tup, hd]
      by_cases he : xs.length = k
      · have eb : (d == c) = true := by rw [hd, hc, he]; exact beq_self_eq_true _
        have s2 : m_is_count_tuple_s2 [some (.d (.tuple xs)), some (.d (.int c)), none] = .ok .nx [some (.d (.tuple xs)), some (.d (.int c)), none] := by
          rw [m_is_count_tuple_s2]
          wp_walk using et, el, ne_int, eb
        rw [sSeq_app, s2, seq_nx, m_is_count_tuple_s1]
        wp_walk
        rw [lcM xs id (fun y => .bool (cN y)) ?_ ?_ ?_ ?_ ?_]
        · wp_walk using all_bools, isCT, he, beq_self_eq_true
        · wp_walk using itemsD, List.map_id
        · exact hl
        · intro y hy'
          refine ⟨_, rfl, ?_, rfl, rfl⟩
          exact is_count (hy y hy')
        · rfl
        · rfl
      · have eb : (d == c) = false := by rw [hd, hc]; exact beq_eq_false_iff_ne.mpr (by omega)
        have s2 : m_is_count_tuple_s2 [some (.d (.tuple xs)), some (.d (.int c)), none] = .ok (.ret (.bool false)) [some (.d (.tuple xs)), some (.d (.int c)), none] := by
          rw [m_is_count_tuple_s2]
          wp_walk using et, el, ne_int, eb
        rw [sSeq_app, s2]
        have : (xs.length == k) = false := beq_eq_false_iff_ne.mpr he
        wp_walk using isCT, this, Bool.false_and
    | _ => cases ht
  · have ht : isTupD x = false := by simpa using ht
    rw [ht] at et
    have s2 : m_is_count_tuple_s2 [some (.d x), some (.d (.int c)), none] = .ok (.ret (.bool false)) [some (.d x), some (.d (.int c)), none] := by
      rw [m_is_count_tuple_s2]
      wp_walk using et
    rw [sSeq_app, s2]
    cases x with
    | tuple xs => cases ht
    | _ => rfl
theorem sum_row (r : List Int) : sumD [mkRow r] = some (.int r.sum) := by
  have e : intsD (r.map PyData.int) = some r := intsD_ints r
  show (intsD (r.map PyData.int)).map _ = _
  rw [e]
  rfl
end PP

namespace PP
open PySem PySem.Spec
local macro_rules
  | `(tactic| wp_walk) => `(tactic| simp only [bind_ok, bind_exc, bnd_app, lift_some, eC_app, eVar_0, eVar_1, eVar_2, eVar_3, eVar_4, eVar_5, eVar_6, eVar_7, eVar_8, eVar_9, eVar_10, ap1_app, ap2_app, apA_app, aCons_app, nilA_app, tru_app, tst_app, asB_bool, truD_bool, truD_list, truD_tuple, mNot_app, mAnd_app, mOr_app, eNot_app, eAnd_app, eOr_app, andK_b, orK_b, eIf_app, eTup_app, eLst_app, lLst_app, frzL_app, eList_app, eSl_app, pN_app, pS_app, partD_int, chn_b, eChain_app, seq_nx, seq_ret, seq_brk, seq_cnt, seq_exc, sSeq_app, sRet_app, sDrop_app, sIf_app, sRaise_app, sAsg_name, sSetL_app, rxM_ok, rxM_exc, eCall_app, outP_ret, outP_nx, outP_exc, Option.map_some, len0, len1, len2, len3, len4, len5, len6, len7, len8, eq_self, sz0, sz1, sz2, sz3, sz4, sz5, sz6, sz7, sz8, sz9, sz10, sz11, freeAt_s, freeAt_n, freeAt_d, freeAt_m, sFrz_app, frzK_ml, List.getElem?_cons_zero, List.getElem?_cons_succ, List.set_cons_zero, List.set_cons_succ, sAsg_tup, asgK_some, bTup_app, bAll_nil, bAll_cons, bName_app, Option.bind_some, isMl_s, isMl_m, resK_some, onK_ml, eApp_app, ePop_app, eIdxV_app, eLenV_app, tTruV_app, sSetI_app, onL_app, fLen_ok, fTru_ok, rbK_ok, cbK_ml, eCB_cons, eCB_nil, List.nil_append, List.cons_append, outK_some, outR_ret, outR_nx, outB_s, outB_m, mConsD_app, mConsL_app, sPar_app, setAll_nil, setAll_cons, true_and, and_true, and_self, Bool.not_true, Bool.not_false, Bool.false_eq_true, reduceIte, eVar_11, eVar_12, eVar_13, eVar_14, eVar_15, eVar_16, eVar_17, eVar_18, eVar_19, eVar_20, eVar_21, eVar_22, eVar_23, eVar_24, eVar_25, sWipe_app, wipeG_nil, wipeG_cons, sSetO_app, mConsO_app, ap2L_app, eIdx_app, eExt_app, eNewT_app, sAugI_app, augK_app, sAugT_app, augKT_app, isMt_s, isMt_m, freeAt_t, List.all_cons, List.all_nil, Bool.and_true, Bool.true_and, frzK_md])
  | `(tactic| wp_walk using $ts,*) => `(tactic| simp only [bind_ok, bind_exc, bnd_app, lift_some, eC_app, eVar_0, eVar_1, eVar_2, eVar_3, eVar_4, eVar_5, eVar_6, eVar_7, eVar_8, eVar_9, eVar_10, ap1_app, ap2_app, apA_app, aCons_app, nilA_app, tru_app, tst_app, asB_bool, truD_bool, truD_list, truD_tuple, mNot_app, mAnd_app, mOr_app, eNot_app, eAnd_app, eOr_app, andK_b, orK_b, eIf_app, eTup_app, eLst_app, lLst_app, frzL_app, eList_app, eSl_app, pN_app, pS_app, partD_int, chn_b, eChain_app, seq_nx, seq_ret, seq_brk, seq_cnt, seq_exc, sSeq_app, sRet_app, sDrop_app, sIf_app, sRaise_app, sAsg_name, sSetL_app, rxM_ok, rxM_exc, eCall_app, outP_ret, outP_nx, outP_exc, Option.map_some, len0, len1, len2, len3, len4, len5, len6, len7, len8, eq_self, sz0, sz1, sz2, sz3, sz4, sz5, sz6, sz7, sz8, sz9, sz10, sz11, freeAt_s, freeAt_n, freeAt_d, freeAt_m, sFrz_app, frzK_ml, List.getElem?_cons_zero, List.getElem?_cons_succ, List.set_cons_zero, List.set_cons_succ, sAsg_tup, asgK_some, bTup_app, bAll_nil, bAll_cons, bName_app, Option.bind_some, isMl_s, isMl_m, resK_some, onK_ml, eApp_app, ePop_app, eIdxV_app, eLenV_app, tTruV_app, sSetI_app, onL_app, fLen_ok, fTru_ok, rbK_ok, cbK_ml, eCB_cons, eCB_nil, List.nil_append, List.cons_append, outK_some, outR_ret, outR_nx, outB_s, outB_m, mConsD_app, mConsL_app, sPar_app, setAll_nil, setAll_cons, true_and, and_true, and_self, Bool.not_true, Bool.not_false, Bool.false_eq_true, reduceIte, eVar_11, eVar_12, eVar_13, eVar_14, eVar_15, eVar_16, eVar_17, eVar_18, eVar_19, eVar_20, eVar_21, eVar_22, eVar_23, eVar_24, eVar_25, sWipe_app, wipeG_nil, wipeG_cons, sSetO_app, mConsO_app, ap2L_app, eIdx_app, eExt_app, eNewT_app, sAugI_app, augK_app, sAugT_app, augKT_app, isMt_s, isMt_m, freeAt_t, List.all_cons, List.all_nil, Bool.and_true, Bool.true_and, frzK_md, $[$ts:term],*])
/-! ### models recognized -/
def sumT : D → Int
  | .tuple xs => (xs.map intOf).sum
  | _ => 0
theorem sumT_row (r : List Int) : sumT (mkRow r) = r.sum := by
  rw [mkRow, sumT, List.map_map]
  have : (intOf ∘ PyData.int) = id := rfl
  rw [this, List.map_id]
def tabsB (qs : List (Str × Int)) (gs : List (List Str)) (ts : List D) : Bool := (gs.zip ts).all fun p => isCT (Rw qs p.1).length p.2
def sumsB (ts : List D) : Bool := ts.all (fun t => sumT t == sumT (ts.headD .none)) && (decide (1 ≤ sumT (ts.headD .none)) && decide (sumT (ts.headD .none) ≤ 9999))
def isMdl (qs : List (Str × Int)) (gs : List (List Str)) : D → Bool
  | .tuple ts => ts.length == gs.length && (tabsB qs gs ts && sumsB ts)
  | _ => false
theorem rows_of : ∀ {gs : List (List Str)} {ts : List D} {qs : List (Str × Int)}, ts.length = gs.length → tabsB qs gs ts = true → ∃ ms : List (List Int), ts = ms.map mkRow ∧ ∀ p ∈ gs.zip ms, p.2.length = (Rw qs p.1).length ∧ ∀ c ∈ p.2, 0 ≤ c
  | [], [], _, _, _ => ⟨[], rfl, fun p hp => by simp at hp⟩
  | g :: gs, t :: ts, qs, hl, h => by
    rw [tabsB, List.zip_cons_cons, List.all_cons, Bool.and_eq_true] at h
    obtain ⟨r, e, h1, h2⟩ := isCT_inv h.1
    obtain ⟨ms, e2, h3⟩ := rows_of (gs := gs) (ts := ts) (qs := qs) (by simpa using hl) h.2
    have e : t = mkRow r := e
    refine ⟨r :: ms, by rw [e, e2]; rfl, fun p hp => ?_⟩
    rw [List.zip_cons_cons] at hp
    rcases List.mem_cons.mp hp with rfl | hp
    · exact ⟨h1, h2⟩
    · exact h3 p hp
  | [], _ :: _, _, h, _ => by simp at h
  | _ :: _, [], _, h, _ => by simp at h
theorem sumsB_rows (r : List Int) (ms : List (List Int)) : sumsB ((r :: ms).map mkRow) = ((r :: ms).all (fun t => t.sum == r.sum) && (decide (1 ≤ r.sum) && decide (r.sum ≤ 9999))) := by
  rw [sumsB, List.map_cons, List.headD_cons, sumT_row, ← List.map_cons (f := mkRow), List.all_map]
  congr 2
  funext t
  simp [Function.comp, sumT_row]
section
variable {qs : List (Str × Int)} {gs : List (List Str)}
theorem zip_tabs (gs : List (List Str)) (ts : List D) : zipD (gs.map mkG) ts = (gs.zip ts).map fun p => .tuple [mkG p.1, p.2] := by
  have := zip_maps mkG id gs ts
  rw [List.map_id] at this
  exact this
theorem len_S (h : VS qs gs) : ∃ c : Int, c = (gs.length : Int) ∧ lenD [.tuple (gs.map mkG)] = some (.int c) := ⟨_, rfl, by rw [len_G]⟩
theorem mem_zip_r {α β : Type} {a : List α} {b : List β} {p : α × β} (h : p ∈ a.zip b) : p.2 ∈ b := (List.of_mem_zip h).2
theorem is_model_b2 (h : VS qs gs) {n : Nat} {x : D} {g : List Str} (hg : g ∈ gs) {t : D} (ht : Gd n t) : ∃ g2, m_is_model_of_b2 [some (.d (mkS qs gs)), some (.d x), some (.d (mkG g)), some (.d t)] = if (!isCT (Rw qs g).length t) = true then .ok (.ret (.bool false)) g2 else .ok .nx [some (.d (mkS qs gs)), some (.d x), none, none] := by
  have eN := s_pcells (nd := mkG g) h (h.gns hg) rfl
  obtain ⟨c, hc⟩ : ∃ c : Int, c = ((Rw qs g).length : Int) := ⟨_, rfl⟩
  have el : lenD [.list ((Rw qs g).map mkRow)] = some (.int c) := by rw [len_lst, List.length_map, hc]
  have ect := s_is_count_tuple t ht hc
  rw [m_is_model_of_b2, sSeq_app, m_is_model_of_s1]
  cases hb : isCT (Rw qs g).length t with
  | true =>
    rw [hb] at ect
    refine ⟨[], ?_⟩
    wp_walk using eN, el, ect
  | false =>
    rw [hb] at ect
    refine ⟨[some (.d (mkS qs gs)), some (.d x), some (.d (mkG g)), some (.d t)], ?_⟩
    wp_walk using eN, el, ect
theorem le_chain {a b c : Int} {g : Ga} : (chn (leD (.int a) (.int b)) (bnd (eC (.int c)) fun z => lift (leD (.int b) z)) g : Rs D) = .ok (.bool (decide (a ≤ b) && decide (b ≤ c))) g := by
  rw [le_int, chn_b]
  by_cases h : a ≤ b
  · wp_walk using decide_eq_true h, le_int
  · wp_walk using decide_eq_false h, Bool.false_and
theorem s_is_model_of (h : VS qs gs) {n : Nat} (x : D) (hx : Gd n x) : p_is_model_of [mkS qs gs, x] = .ok (.bool (isMdl qs gs x)) := by
  have hz := sizeLine_big
  have hg1 := h.g1
  have hg10 := h.g10
  obtain ⟨c, hc, elS⟩ := len_S h
  have et := isi_tup_of hx.nd
  rw [p_is_model_of, runP_out, m_is_model_of, show dsG [mkS qs gs, x] 4 = [some (.d (mkS qs gs)), some (.d x), none, none] from rfl]
  by_cases ht : isTupD x = true
  · cases x with
    | tuple ts =>
      obtain ⟨hl, m, rfl, hy⟩ := tup_gd hx
      rw [ht] at et
      obtain ⟨d, hd⟩ : ∃ d : Int, d = (ts.length : Int) := ⟨_, rfl⟩
      have el : lenD [.tuple ts] = some (.int d) := by rw [len_tup, hd]
      by_cases he : ts.length = gs.length
      · have eb : (d == c) = true := by rw [hd, hc, he]; exact beq_self_eq_true _
        have s5 : m_is_model_of_s5 [some (.d (mkS qs gs)), some (.d (.tuple ts)), none, none] = .ok .nx [some (.d (mkS qs gs)), some (.d (.tuple ts)), none, none] := by
          rw [m_is_model_of_s5]
          wp_walk using et, el, ix_S1, elS, ne_int, eb
        obtain ⟨g2, lp⟩ := loop_find (b := bTup [bName 2, bName 3]) (body := m_is_model_of_b2) (mk := fun p : List Str × D => .tuple [mkG p.1, p.2]) (c := fun p => !isCT (Rw qs p.1).length p.2) (v := .bool false) (g := [some (.d (mkS qs gs)), some (.d (.tuple ts)), none, none]) (gs.zip ts) (fun p hp => by
          obtain ⟨g2, e⟩ := is_model_b2 h (x := .tuple ts) (mem_zip_left hp) (hy p.2 (mem_zip_r hp))
          exact ⟨_, g2, rfl, e⟩)
        have s4 : m_is_model_of_s4 [some (.d (mkS qs gs)), some (.d (.tuple ts)), none, none] = if (gs.zip ts).any (fun p => !isCT (Rw qs p.1).length p.2) = true then .ok (.ret (.bool false)) g2 else .ok .nx [some (.d (mkS qs gs)), some (.d (.tuple ts)), none, none] := by
          rw [m_is_model_of_s4, sFor_app]
          wp_walk using ix_S1, zip2_of (x := .tuple (gs.map mkG)) (y := .tuple ts) rfl rfl, zip_tabs, lp
        have eany : (gs.zip ts).any (fun p => !isCT (Rw qs p.1).length p.2) = !tabsB qs gs ts := by
          rw [tabsB, List.any_eq_not_all_not]
          congr 2
          funext p
          rw [Bool.not_not]
        rw [sSeq_app, s5, seq_nx, sSeq_app, s4, eany]
        cases hb : tabsB qs gs ts with
        | false => wp_walk using isMdl, he, beq_self_eq_true, hb, Bool.false_and, Bool.and_false
        | true =>
          obtain ⟨ms, e, hms⟩ := rows_of he hb
          subst e
          cases ms with
          | nil => rw [List.map_nil, List.length_nil] at he; omega
          | cons r ms =>
            wp_walk
            rw [m_is_model_of_s3]
            wp_walk
            rw [lcM (r :: ms) mkRow (fun t => .bool (t.sum == r.sum)) ?_ ?_ ?_ ?_ ?_]
            · have ea := all_bools (r :: ms) (fun t => t.sum == r.sum)
              have e0 : ixD (.tuple ((r :: ms).map mkRow)) (.int 0) = some (mkRow r) := ix_t0 _ _
              have es : isMdl qs gs (.tuple ((r :: ms).map mkRow)) = ((r :: ms).all (fun t => t.sum == r.sum) && (decide (1 ≤ r.sum) && decide (r.sum ≤ 9999))) := by
                rw [isMdl, he, beq_self_eq_true, hb, sumsB_rows, Bool.true_and, Bool.true_and]
              rw [es]
              simp only [bind_ok, bnd_app, frzL_app, aCons_app, nilA_app, apA_app, ea, lift_some, andK_b]
              cases (r :: ms).all (fun t => t.sum == r.sum) with
              | false => wp_walk using Bool.false_and
              | true => wp_walk using e0, sum_row, le_chain
            · wp_walk using itemsD
            · rw [List.length_map] at hl; exact hl
            · intro t _
              refine ⟨_, rfl, ?_, rfl, rfl⟩
              have e0 : ixD (.tuple ((r :: ms).map mkRow)) (.int 0) = some (mkRow r) := ix_t0 _ _
              wp_walk using sum_row, e0, eq_int
            · rfl
            · rfl
      · have eb : (d == c) = false := by rw [hd, hc]; exact beq_eq_false_iff_ne.mpr (by omega)
        have s5 : m_is_model_of_s5 [some (.d (mkS qs gs)), some (.d (.tuple ts)), none, none] = .ok (.ret (.bool false)) [some (.d (mkS qs gs)), some (.d (.tuple ts)), none, none] := by
          rw [m_is_model_of_s5]
          wp_walk using et, el, ix_S1, elS, ne_int, eb
        have : (ts.length == gs.length) = false := beq_eq_false_iff_ne.mpr he
        rw [sSeq_app, s5]
        wp_walk using isMdl, this, Bool.false_and
    | _ => cases ht
  · have ht : isTupD x = false := by simpa using ht
    rw [ht] at et
    have s5 : m_is_model_of_s5 [some (.d (mkS qs gs)), some (.d x), none, none] = .ok (.ret (.bool false)) [some (.d (mkS qs gs)), some (.d x), none, none] := by
      rw [m_is_model_of_s5]
      wp_walk using et
    rw [sSeq_app, s5]
    cases x with
    | tuple xs => cases ht
    | _ => rfl
theorem s_is_model (h : VS qs gs) {n : Nat} (x : D) (hx : Gd n x) : p_is_model [mkS qs gs, x] = .ok (.bool (isMdl qs gs x)) := by
  rw [p_is_model, runP_out, m_is_model, m_is_model_s1, m_is_model_s2, show dsG [mkS qs gs, x] 2 = [some (.d (mkS qs gs)), some (.d x)] from rfl]
  wp_walk using s_require_scenario h, s_is_model_of h x hx
theorem s_require_model (h : VS qs gs) {n : Nat} (x : D) (hx : Gd n x) : p_require_model [mkS qs gs, x] = if isMdl qs gs x = true then .ok .none else .exc "InvalidModel" := by
  rw [p_require_model, runP_out, m_require_model, m_require_model_s1, m_require_model_s2, show dsG [mkS qs gs, x] 2 = [some (.d (mkS qs gs)), some (.d x)] from rfl]
  cases hb : isMdl qs gs x with
  | true => wp_walk using s_require_scenario h, s_is_model_of h x hx, hb
  | false => wp_walk using s_require_scenario h, s_is_model_of h x hx, hb
theorem isMdl_inv {x : D} (hx : isMdl qs gs x = true) (hg : 1 ≤ gs.length) : ∃ ms T, x = mkM ms ∧ VM qs gs ms T ∧ T ≤ 9999 := by
  cases x with
  | tuple ts =>
    rw [isMdl, Bool.and_eq_true, Bool.and_eq_true] at hx
    have he := eq_of_beq hx.1
    obtain ⟨ms, e, hms⟩ := rows_of he hx.2.1
    subst e
    cases ms with
    | nil => rw [List.map_nil, List.length_nil] at he; omega
    | cons r ms =>
      have hs := hx.2.2
      rw [sumsB_rows, Bool.and_eq_true, Bool.and_eq_true, decide_eq_true_eq, decide_eq_true_eq] at hs
      refine ⟨r :: ms, r.sum, rfl, ⟨by rw [List.length_map] at he; exact he, fun p hp => ⟨(hms p hp).1, (hms p hp).2, ?_⟩, hs.2.1⟩, hs.2.2⟩
      exact eq_of_beq (List.all_eq_true.mp hs.1 p.2 (mem_zip_r hp))
  | _ => cases hx
theorem isMdl_of {ms : List (List Int)} {T : Int} (h : VM qs gs ms T) (hT : T ≤ 9999) (hg : 1 ≤ gs.length) : isMdl qs gs (mkM ms) = true := by
  cases ms with
  | nil => have := h.len; rw [List.length_nil] at this; omega
  | cons r ms =>
    have hsum : ∀ t ∈ r :: ms, t.sum = T := fun t ht => by
      obtain ⟨i, hi, rfl⟩ := List.mem_iff_getElem.mp ht
      have hi' : i < gs.length := by rw [← h.len]; exact hi
      have : (gs[i], (r :: ms)[i]) ∈ gs.zip (r :: ms) := by
        rw [← List.getElem_zip (h := by rw [List.length_zip]; omega)]
        exact List.getElem_mem _
      exact (h.tb _ this).sum
    rw [mkM, isMdl, List.length_map, h.len, beq_self_eq_true, Bool.true_and, sumsB_rows, Bool.and_eq_true, Bool.and_eq_true, Bool.and_eq_true, decide_eq_true_eq, decide_eq_true_eq]
    have hr := hsum r List.mem_cons_self
    refine ⟨?_, List.all_eq_true.mpr fun t ht => by rw [hsum t ht, hr]; exact beq_self_eq_true T, by rw [hr]; exact h.pos, by rw [hr]; exact hT⟩
    rw [tabsB, List.all_eq_true]
    intro p hp
    have e : gs.zip ((r :: ms).map mkRow) = (gs.zip (r :: ms)).map fun p => (p.1, mkRow p.2) := by rw [List.zip_map_right]; rfl
    rw [e] at hp
    obtain ⟨q, hq, rfl⟩ := List.mem_map.mp hp
    have ok := h.tb q hq
    rw [← ok.len]
    exact isCT_row ok.nn
end
end PP

namespace PP
open PySem PySem.Spec
local macro_rules
  | `(tactic| wp_walk) => `(tactic| simp only [bind_ok, bind_exc, bnd_app, lift_some, eC_app, eVar_0, eVar_1, eVar_2, eVar_3, eVar_4, eVar_5, eVar_6, eVar_7, eVar_8, eVar_9, eVar_10, ap1_app, ap2_app, apA_app, aCons_app, nilA_app, tru_app, tst_app, asB_bool, truD_bool, truD_list, truD_tuple, mNot_app, mAnd_app, mOr_app, eNot_app, eAnd_app, eOr_app, andK_b, orK_b, eIf_app, eTup_app, eLst_app, lLst_app, frzL_app, eList_app, eSl_app, pN_app, pS_app, partD_int, chn_b, eChain_app, seq_nx, seq_ret, seq_brk, seq_cnt, seq_exc, sSeq_app, sRet_app, sDrop_app, sIf_app, sRaise_app, sAsg_name, sSetL_app, rxM_ok, rxM_exc, eCall_app, outP_ret, outP_nx, outP_exc, Option.map_some, len0, len1, len2, len3, len4, len5, len6, len7, len8, eq_self, sz0, sz1, sz2, sz3, sz4, sz5, sz6, sz7, sz8, sz9, sz10, sz11, freeAt_s, freeAt_n, freeAt_d, freeAt_m, sFrz_app, frzK_ml, List.getElem?_cons_zero, List.getElem?_cons_succ, List.set_cons_zero, List.set_cons_succ, sAsg_tup, asgK_some, bTup_app, bAll_nil, bAll_cons, bName_app, Option.bind_some, isMl_s, isMl_m, resK_some, onK_ml, eApp_app, ePop_app, eIdxV_app, eLenV_app, tTruV_app, sSetI_app, onL_app, fLen_ok, fTru_ok, rbK_ok, cbK_ml, eCB_cons, eCB_nil, List.nil_append, List.cons_append, outK_some, outR_ret, outR_nx, outB_s, outB_m, mConsD_app, mConsL_app, sPar_app, setAll_nil, setAll_cons, true_and, and_true, and_self, Bool.not_true, Bool.not_false, Bool.false_eq_true, reduceIte, eVar_11, eVar_12, eVar_13, eVar_14, eVar_15, eVar_16, eVar_17, eVar_18, eVar_19, eVar_20, eVar_21, eVar_22, eVar_23, eVar_24, eVar_25, sWipe_app, wipeG_nil, wipeG_cons, sSetO_app, mConsO_app, ap2L_app, eIdx_app, eExt_app, eNewT_app, sAugI_app, augK_app, sAugT_app, augKT_app, isMt_s, isMt_m, freeAt_t, List.all_cons, List.all_nil, Bool.and_true, Bool.true_and, frzK_md])
  | `(tactic| wp_walk using $ts,*) => `(tactic| simp only [bind_ok, bind_exc, bnd_app, lift_some, eC_app, eVar_0, eVar_1, eVar_2, eVar_3, eVar_4, eVar_5, eVar_6, eVar_7, eVar_8, eVar_9, eVar_10, ap1_app, ap2_app, apA_app, aCons_app, nilA_app, tru_app, tst_app, asB_bool, truD_bool, truD_list, truD_tuple, mNot_app, mAnd_app, mOr_app, eNot_app, eAnd_app, eOr_app, andK_b, orK_b, eIf_app, eTup_app, eLst_app, lLst_app, frzL_app, eList_app, eSl_app, pN_app, pS_app, partD_int, chn_b, eChain_app, seq_nx, seq_ret, seq_brk, seq_cnt, seq_exc, sSeq_app, sRet_app, sDrop_app, sIf_app, sRaise_app, sAsg_name, sSetL_app, rxM_ok, rxM_exc, eCall_app, outP_ret, outP_nx, outP_exc, Option.map_some, len0, len1, len2, len3, len4, len5, len6, len7, len8, eq_self, sz0, sz1, sz2, sz3, sz4, sz5, sz6, sz7, sz8, sz9, sz10, sz11, freeAt_s, freeAt_n, freeAt_d, freeAt_m, sFrz_app, frzK_ml, List.getElem?_cons_zero, List.getElem?_cons_succ, List.set_cons_zero, List.set_cons_succ, sAsg_tup, asgK_some, bTup_app, bAll_nil, bAll_cons, bName_app, Option.bind_some, isMl_s, isMl_m, resK_some, onK_ml, eApp_app, ePop_app, eIdxV_app, eLenV_app, tTruV_app, sSetI_app, onL_app, fLen_ok, fTru_ok, rbK_ok, cbK_ml, eCB_cons, eCB_nil, List.nil_append, List.cons_append, outK_some, outR_ret, outR_nx, outB_s, outB_m, mConsD_app, mConsL_app, sPar_app, setAll_nil, setAll_cons, true_and, and_true, and_self, Bool.not_true, Bool.not_false, Bool.false_eq_true, reduceIte, eVar_11, eVar_12, eVar_13, eVar_14, eVar_15, eVar_16, eVar_17, eVar_18, eVar_19, eVar_20, eVar_21, eVar_22, eVar_23, eVar_24, eVar_25, sWipe_app, wipeG_nil, wipeG_cons, sSetO_app, mConsO_app, ap2L_app, eIdx_app, eExt_app, eNewT_app, sAugI_app, augK_app, sAugT_app, augKT_app, isMt_s, isMt_m, freeAt_t, List.all_cons, List.all_nil, Bool.and_true, Bool.true_and, frzK_md, $[$ts:term],*])
section
variable {qs : List (Str × Int)} {gs : List (List Str)}
theorem mem_zip_of {α β : Type} {a : List α} {b : List β} (hl : a.length = b.length) {y : β} (hy : y ∈ b) : ∃ x ∈ a, (x, y) ∈ a.zip b := by
  obtain ⟨i, hi, rfl⟩ := List.mem_iff_getElem.mp hy
  have hi' : i < a.length := by omega
  refine ⟨a[i], List.getElem_mem hi', ?_⟩
  have : (a.zip b)[i]'(by rw [List.length_zip]; omega) = (a[i], b[i]) := List.getElem_zip
  rw [← this]
  exact List.getElem_mem _
theorem not_cN {n : Nat} {y : D} (h : Gd n y) {A B C E : Option Tv} : mOr (mNot (tru (ap1 (isiD "int") (eVar 4)))) (mOr (tru (ap1 (isiD "bool") (eVar 4))) (tst (ap2 ltD (eVar 4) (eC (.int 0))))) [A, B, C, E, some (.d y)] = .ok (!cN y) [A, B, C, E, some (.d y)] := by
  have e1 := isi_int h.nd
  have e2 := isi_bool h.nd
  cases y with
  | int i =>
    wp_walk using e1, e2, isIB, isBoolD, lt_int, cN
    congr 1
    by_cases hi : 0 ≤ i
    · rw [decide_eq_true hi, decide_eq_false (by omega)]; rfl
    · rw [decide_eq_false hi, decide_eq_true (by omega)]; rfl
  | _ => wp_walk using e1, e2, isIB, isBoolD, cN
theorem filter_emp {α : Type} (p : α → Bool) (xs : List α) : ((xs.filter fun y => !p y).isEmpty) = xs.all p := by
  rw [filter_isEmpty, List.any_eq_not_all_not, Bool.not_not]
  congr 1
  funext y
  exact Bool.not_not (p y)
theorem lim_s23 (h : VS qs gs) {n : Nat} {x : D} {g : List Str} (hg : g ∈ gs) {t : D} (ht : Gd n t) : sSeq m__law_is_model_s3 (sSeq m__law_is_model_s2 (fun g => .ok .nx g)) [some (.d (mkS qs gs)), some (.d x), some (.d (mkG g)), some (.d t), none] =
    if isCT (Rw qs g).length t = true then .ok .nx [some (.d (mkS qs gs)), some (.d x), some (.d (mkG g)), some (.d t), none] else .ok (.ret (.bool false)) [some (.d (mkS qs gs)), some (.d x), some (.d (mkG g)), some (.d t), none] := by
  have sS : seqD (.tuple (qs.map mkQ)) = some (qs.map mkQ) := rfl
  have eN := s_lawcells (nd := mkG g) h (h.gns hg) sS rfl
  obtain ⟨c, hc⟩ : ∃ c : Int, c = ((Rw qs g).length : Int) := ⟨_, rfl⟩
  have el : lenD [.list ((Rw qs g).map mkRow)] = some (.int c) := by rw [len_lst, List.length_map, hc]
  have et := isi_tup_of ht.nd
  by_cases hT : isTupD t = true
  · cases t with
    | tuple xs =>
      rw [hT] at et
      obtain ⟨hl, m, rfl, hy⟩ := tup_gd ht
      obtain ⟨d, hd⟩ : ∃ d : Int, d = (xs.length : Int) := ⟨_, rfl⟩
      have elx : lenD [.tuple xs] = some (.int d) := by rw [len_tup, hd]
      by_cases he : xs.length = (Rw qs g).length
      · have eb : (d == c) = true := by rw [hd, hc, he]; exact beq_self_eq_true _
        have s3 : m__law_is_model_s3 [some (.d (mkS qs gs)), some (.d x), some (.d (mkG g)), some (.d (.tuple xs)), none] = .ok .nx [some (.d (mkS qs gs)), some (.d x), some (.d (mkG g)), some (.d (.tuple xs)), none] := by
          rw [m__law_is_model_s3]
          wp_walk using et, elx, ix_S0, eN, el, ne_int, eb
        rw [sSeq_app, s3, seq_nx, sSeq_app, m__law_is_model_s2, sIf_app, tru_app, frzL_app]
        rw [lcF xs id (fun y => !cN y) id ?_ ?_ ?_ ?_ ?_]
        · rw [bind_ok, bind_ok, List.map_id, truD_list, filter_emp]
          have eC : isCT (Rw qs g).length (.tuple xs) = xs.all cN := by rw [isCT, he, beq_self_eq_true, Bool.true_and]
          rw [eC]
          cases xs.all cN with
          | true => wp_walk
          | false => wp_walk
        · wp_walk using itemsD, List.map_id
        · exact hl
        · intro y hy'
          exact ⟨_, rfl, not_cN (hy y hy'), fun _ => rfl, rfl, rfl⟩
        · rfl
        · rfl
      · have eb : (d == c) = false := by rw [hd, hc]; exact beq_eq_false_iff_ne.mpr (by omega)
        have eC : isCT (Rw qs g).length (.tuple xs) = false := by rw [isCT, beq_eq_false_iff_ne.mpr he, Bool.false_and]
        rw [eC, sSeq_app, m__law_is_model_s3]
        wp_walk using et, elx, ix_S0, eN, el, ne_int, eb
    | _ => cases hT
  · have hT : isTupD t = false := by simpa using hT
    rw [hT] at et
    have eC : isCT (Rw qs g).length t = false := by
      cases t with
      | tuple xs => cases hT
      | _ => rfl
    rw [eC, sSeq_app, m__law_is_model_s3]
    wp_walk using et
theorem seq3 {m1 m2 k : M Fl} {g : Ga} : sSeq m1 (sSeq m2 k) g = (sSeq m1 (sSeq m2 fun g => .ok .nx g) g).seq k := by
  simp only [sSeq_app]
  cases h1 : m1 g with
  | stuck => rfl
  | exc c g1 => rfl
  | ok f g1 =>
    cases f with
    | nx =>
      simp only [seq_nx, sSeq_app]
      cases h2 : m2 g1 with
      | stuck => rfl
      | exc c g2 => rfl
      | ok f g2 => cases f <;> rfl
    | _ => rfl
theorem lim_bad (h : VS qs gs) {n : Nat} {x : D} {g : List Str} (hg : g ∈ gs) {t : D} (ht : Gd n t) (hb : isCT (Rw qs g).length t = false) : ∃ g2, m__law_is_model_b4 [some (.d (mkS qs gs)), some (.d x), some (.d (mkG g)), some (.d t), none] = .ok (.ret (.bool false)) g2 := by
  refine ⟨[some (.d (mkS qs gs)), some (.d x), some (.d (mkG g)), some (.d t), none], ?_⟩
  rw [m__law_is_model_b4, seq3, lim_s23 h hg ht, hb]
  wp_walk
theorem lim_good (h : VS qs gs) {n : Nat} {r0 : List Int} {xs : List D} {g : List Str} (hg : g ∈ gs) {r : List Int} (ht : Gd n (mkRow r)) (hb : isCT (Rw qs g).length (mkRow r) = true) :
    ∃ g2, m__law_is_model_b4 [some (.d (mkS qs gs)), some (.d (.tuple (mkRow r0 :: xs))), some (.d (mkG g)), some (.d (mkRow r)), none] = if (!(r.sum == r0.sum && (decide (1 ≤ r.sum) && decide (r.sum ≤ 9999)))) = true then .ok (.ret (.bool false)) g2 else .ok .nx [some (.d (mkS qs gs)), some (.d (.tuple (mkRow r0 :: xs))), none, none, none] := by
  refine ⟨[some (.d (mkS qs gs)), some (.d (.tuple (mkRow r0 :: xs))), some (.d (mkG g)), some (.d (mkRow r)), none], ?_⟩
  rw [m__law_is_model_b4, seq3, lim_s23 h hg ht, hb, if_pos rfl, seq_nx, sSeq_app, m__law_is_model_s1]
  simp only [sIf_app, mOr_app, mNot_app, tst_app, ap2_app, apA_app, aCons_app, nilA_app, eVar_3, eVar_1, bind_ok, bnd_app, lift_some, sum_row, eC_app, ix_t0, ne_int, asB_bool, eChain_app]
  cases (r.sum == r0.sum) with
  | false => wp_walk using Bool.false_and
  | true =>
    wp_walk using Bool.not_true, Bool.false_eq_true, reduceIte, le_chain, mNot_app, tst_app, eChain_app, apA_app, aCons_app, nilA_app, eVar_3, bind_ok, bnd_app, lift_some, sum_row, eC_app
    cases (decide (1 ≤ r.sum) && decide (r.sum ≤ 9999)) with
    | true => wp_walk
    | false => wp_walk
theorem s_law_is_model (h : VS qs gs) {n : Nat} (x : D) (hx : Gd n x) : p__law_is_model [mkS qs gs, x] = .ok (.bool (isMdl qs gs x)) := by
  have hz := sizeLine_big
  have hg1 := h.g1
  have hg10 := h.g10
  obtain ⟨c, hc, elS⟩ := len_S h
  have et := isi_tup_of hx.nd
  rw [p__law_is_model, runP_out, m__law_is_model, show dsG [mkS qs gs, x] 5 = [some (.d (mkS qs gs)), some (.d x), none, none, none] from rfl]
  by_cases ht : isTupD x = true
  · cases x with
    | tuple ts =>
      obtain ⟨hl, m, rfl, hy⟩ := tup_gd hx
      rw [ht] at et
      obtain ⟨d, hd⟩ : ∃ d : Int, d = (ts.length : Int) := ⟨_, rfl⟩
      have el : lenD [.tuple ts] = some (.int d) := by rw [len_tup, hd]
      by_cases he : ts.length = gs.length
      · have eb : (d == c) = true := by rw [hd, hc, he]; exact beq_self_eq_true _
        have s6 : m__law_is_model_s6 [some (.d (mkS qs gs)), some (.d (.tuple ts)), none, none, none] = .ok .nx [some (.d (mkS qs gs)), some (.d (.tuple ts)), none, none, none] := by
          rw [m__law_is_model_s6]
          wp_walk using et, el, ix_S1, elS, ne_int, eb
        rw [sSeq_app, s6, seq_nx, sSeq_app, m__law_is_model_s5, sFor_app]
        wp_walk using ix_S1, zip2_of (x := .tuple (gs.map mkG)) (y := .tuple ts) rfl rfl, zip_tabs
        cases ts with
        | nil => rw [List.length_nil] at he; omega
        | cons t0 ts =>
          cases hgs : gs with
          | nil => rw [hgs, List.length_nil] at hg1; omega
          | cons g0 gs' =>
            have hg0 : g0 ∈ gs := by rw [hgs]; exact List.mem_cons_self
            have ht0 : Gd m t0 := hy t0 List.mem_cons_self
            by_cases hb : isCT (Rw qs g0).length t0 = true
            · obtain ⟨r0, e0, _, _⟩ := isCT_inv hb
              subst e0
              rw [← hgs]
              obtain ⟨g2, lp⟩ := loop_find (b := bTup [bName 2, bName 3]) (body := m__law_is_model_b4) (mk := fun p : List Str × D => .tuple [mkG p.1, p.2]) (c := fun p => !(isCT (Rw qs p.1).length p.2 && (sumT p.2 == r0.sum && (decide (1 ≤ sumT p.2) && decide (sumT p.2 ≤ 9999))))) (v := .bool false) (g := [some (.d (mkS qs gs)), some (.d (.tuple (mkRow r0 :: ts))), none, none, none]) (gs.zip (mkRow r0 :: ts)) (fun p hp => by
                have hp1 := mem_zip_left hp
                have hp2 := hy p.2 (mem_zip_r hp)
                cases hC : isCT (Rw qs p.1).length p.2 with
                | false =>
                  obtain ⟨g2, e⟩ := lim_bad h (x := .tuple (mkRow r0 :: ts)) hp1 hp2 hC
                  refine ⟨_, g2, rfl, ?_⟩
                  rw [Bool.false_and, Bool.not_false, if_pos rfl]
                  exact e
                | true =>
                  obtain ⟨r, er, _, _⟩ := isCT_inv hC
                  rw [er] at hp2 hC
                  obtain ⟨g2, e⟩ := lim_good h (r0 := r0) (xs := ts) hp1 hp2 hC
                  refine ⟨_, g2, rfl, ?_⟩
                  rw [er, sumT_row, Bool.true_and]
                  exact e)
              rw [lp]
              have key : (gs.zip (mkRow r0 :: ts)).any (fun p => !(isCT (Rw qs p.1).length p.2 && (sumT p.2 == r0.sum && (decide (1 ≤ sumT p.2) && decide (sumT p.2 ≤ 9999))))) = !isMdl qs gs (.tuple (mkRow r0 :: ts)) := by
                rw [List.any_eq_not_all_not]
                congr 1
                rw [Bool.eq_iff_iff, isMdl, he, beq_self_eq_true, Bool.true_and, Bool.and_eq_true, List.all_eq_true, tabsB, List.all_eq_true, sumsB, Bool.and_eq_true, List.all_eq_true, Bool.and_eq_true, List.headD_cons, sumT_row]
                simp only [Bool.not_not, Bool.and_eq_true, decide_eq_true_eq, beq_iff_eq]
                constructor
                · intro H
                  obtain ⟨g1, hg1', hz1⟩ := mem_zip_of he.symm (y := mkRow r0) List.mem_cons_self
                  have h1 := H _ hz1
                  rw [sumT_row] at h1
                  exact ⟨fun p hp => (H p hp).1, fun t ht => by
                    obtain ⟨g, _, hz'⟩ := mem_zip_of he.symm ht
                    exact (H _ hz').2.1, h1.2.2⟩
                · rintro ⟨H1, H2, H3⟩ p hp
                  have := H2 p.2 (mem_zip_r hp)
                  exact ⟨H1 p hp, this, by rw [this]; exact H3.1, by rw [this]; exact H3.2⟩
              rw [key]
              cases isMdl qs gs (.tuple (mkRow r0 :: ts)) with
              | true => wp_walk
              | false => wp_walk
            · have hb : isCT (Rw qs g0).length t0 = false := by simpa using hb
              obtain ⟨g2, e⟩ := lim_bad h (x := .tuple (t0 :: ts)) hg0 ht0 hb
              rw [hgs] at e
              have eM : isMdl qs (g0 :: gs') (.tuple (t0 :: ts)) = false := by
                rw [isMdl, tabsB, List.zip_cons_cons, List.all_cons, hb, Bool.false_and, Bool.false_and, Bool.and_false]
              rw [List.zip_cons_cons, List.map_cons, loop_cons, eM]
              wp_walk
              rw [e]
              wp_walk
      · have eb : (d == c) = false := by rw [hd, hc]; exact beq_eq_false_iff_ne.mpr (by omega)
        have : (ts.length == gs.length) = false := beq_eq_false_iff_ne.mpr he
        rw [sSeq_app, m__law_is_model_s6]
        wp_walk using et, el, ix_S1, elS, ne_int, eb, isMdl, this, Bool.false_and
    | _ => cases ht
  · have ht : isTupD x = false := by simpa using ht
    rw [ht] at et
    rw [sSeq_app, m__law_is_model_s6]
    wp_walk using et
    cases x with
    | tuple xs => cases ht
    | _ => rfl
end
end PP

namespace PP
open PySem PySem.Spec
local macro_rules
  | `(tactic| wp_walk) => `(tactic| simp only [bind_ok, bind_exc, bnd_app, lift_some, eC_app, eVar_0, eVar_1, eVar_2, eVar_3, eVar_4, eVar_5, eVar_6, eVar_7, eVar_8, eVar_9, eVar_10, ap1_app, ap2_app, apA_app, aCons_app, nilA_app, tru_app, tst_app, asB_bool, truD_bool, truD_list, truD_tuple, mNot_app, mAnd_app, mOr_app, eNot_app, eAnd_app, eOr_app, andK_b, orK_b, eIf_app, eTup_app, eLst_app, lLst_app, frzL_app, eList_app, eSl_app, pN_app, pS_app, partD_int, chn_b, eChain_app, seq_nx, seq_ret, seq_brk, seq_cnt, seq_exc, sSeq_app, sRet_app, sDrop_app, sIf_app, sRaise_app, sAsg_name, sSetL_app, rxM_ok, rxM_exc, eCall_app, outP_ret, outP_nx, outP_exc, Option.map_some, len0, len1, len2, len3, len4, len5, len6, len7, len8, eq_self, sz0, sz1, sz2, sz3, sz4, sz5, sz6, sz7, sz8, sz9, sz10, sz11, freeAt_s, freeAt_n, freeAt_d, freeAt_m, sFrz_app, frzK_ml, List.getElem?_cons_zero, List.getElem?_cons_succ, List.set_cons_zero, List.set_cons_succ, sAsg_tup, asgK_some, bTup_app, bAll_nil, bAll_cons, bName_app, Option.bind_some, isMl_s, isMl_m, resK_some, onK_ml, eApp_app, ePop_app, eIdxV_app, eLenV_app, tTruV_app, sSetI_app, onL_app, fLen_ok, fTru_ok, rbK_ok, cbK_ml, eCB_cons, eCB_nil, List.nil_append, List.cons_append, outK_some, outR_ret, outR_nx, outB_s, outB_m, mConsD_app, mConsL_app, sPar_app, setAll_nil, setAll_cons, true_and, and_true, and_self, Bool.not_true, Bool.not_false, Bool.false_eq_true, reduceIte, eVar_11, eVar_12, eVar_13, eVar_14, eVar_15, eVar_16, eVar_17, eVar_18, eVar_19, eVar_20, eVar_21, eVar_22, eVar_23, eVar_24, eVar_25, sWipe_app, wipeG_nil, wipeG_cons, sSetO_app, mConsO_app, ap2L_app, eIdx_app, eExt_app, eNewT_app, sAugI_app, augK_app, sAugT_app, augKT_app, isMt_s, isMt_m, freeAt_t, List.all_cons, List.all_nil, Bool.and_true, Bool.true_and, frzK_md])
  | `(tactic| wp_walk using $ts,*) => `(tactic| simp only [bind_ok, bind_exc, bnd_app, lift_some, eC_app, eVar_0, eVar_1, eVar_2, eVar_3, eVar_4, eVar_5, eVar_6, eVar_7, eVar_8, eVar_9, eVar_10, ap1_app, ap2_app, apA_app, aCons_app, nilA_app, tru_app, tst_app, asB_bool, truD_bool, truD_list, truD_tuple, mNot_app, mAnd_app, mOr_app, eNot_app, eAnd_app, eOr_app, andK_b, orK_b, eIf_app, eTup_app, eLst_app, lLst_app, frzL_app, eList_app, eSl_app, pN_app, pS_app, partD_int, chn_b, eChain_app, seq_nx, seq_ret, seq_brk, seq_cnt, seq_exc, sSeq_app, sRet_app, sDrop_app, sIf_app, sRaise_app, sAsg_name, sSetL_app, rxM_ok, rxM_exc, eCall_app, outP_ret, outP_nx, outP_exc, Option.map_some, len0, len1, len2, len3, len4, len5, len6, len7, len8, eq_self, sz0, sz1, sz2, sz3, sz4, sz5, sz6, sz7, sz8, sz9, sz10, sz11, freeAt_s, freeAt_n, freeAt_d, freeAt_m, sFrz_app, frzK_ml, List.getElem?_cons_zero, List.getElem?_cons_succ, List.set_cons_zero, List.set_cons_succ, sAsg_tup, asgK_some, bTup_app, bAll_nil, bAll_cons, bName_app, Option.bind_some, isMl_s, isMl_m, resK_some, onK_ml, eApp_app, ePop_app, eIdxV_app, eLenV_app, tTruV_app, sSetI_app, onL_app, fLen_ok, fTru_ok, rbK_ok, cbK_ml, eCB_cons, eCB_nil, List.nil_append, List.cons_append, outK_some, outR_ret, outR_nx, outB_s, outB_m, mConsD_app, mConsL_app, sPar_app, setAll_nil, setAll_cons, true_and, and_true, and_self, Bool.not_true, Bool.not_false, Bool.false_eq_true, reduceIte, eVar_11, eVar_12, eVar_13, eVar_14, eVar_15, eVar_16, eVar_17, eVar_18, eVar_19, eVar_20, eVar_21, eVar_22, eVar_23, eVar_24, eVar_25, sWipe_app, wipeG_nil, wipeG_cons, sSetO_app, mConsO_app, ap2L_app, eIdx_app, eExt_app, eNewT_app, sAugI_app, augK_app, sAugT_app, augKT_app, isMt_s, isMt_m, freeAt_t, List.all_cons, List.all_nil, Bool.and_true, Bool.true_and, frzK_md, $[$ts:term],*])
/-! ### the law's own loop -/
theorem law_turns {ns : List Int} {body : M Fl} {rest : Ga} {C B : Nat} (step : ∀ (zs : List D) (b : Nat) (k : Int), 0 ≤ k → Sok b zs → b ≤ B → ∃ zs', Sok (b + C) zs' ∧ body (some (.d (scr ns)) :: some (.ml false zs) :: some (.d (.int k)) :: rest) = .ok .nx (some (.d (scr ns)) :: some (.ml false zs') :: none :: rest)) :
    ∀ (ks : List Nat) (zs : List D) (b : Nat), Sok b zs → b + C * ks.length ≤ B → ∃ zs', loop (bName 2) body (ks.map fun (k : Nat) => .int (k : Int)) (some (.d (scr ns)) :: some (.ml false zs) :: none :: rest) = .ok .nx (some (.d (scr ns)) :: some (.ml false zs') :: none :: rest)
  | [], zs, b, _, _ => ⟨zs, rfl⟩
  | k :: ks, zs, b, hs, hb => by
    rw [List.length_cons, Nat.mul_succ] at hb
    obtain ⟨z1, s1, e1⟩ := step zs b (k : Int) (by omega) hs (by omega)
    obtain ⟨z2, e2⟩ := law_turns step ks z1 (b + C) s1 (by omega)
    refine ⟨z2, ?_⟩
    rw [List.map_cons, loop_cons, show bName 2 (.int (k : Int)) (some (.d (scr ns)) :: some (.ml false zs) :: none :: rest) = some (some (.d (scr ns)) :: some (.ml false zs) :: some (.d (.int (k : Int))) :: rest) from rfl]
    dsimp only
    rw [e1]
    exact e2
theorem law_done {ns : List Int} {body : M Fl} {m : Nat} {N : Nat} {C B : Nat} (hN : N ≤ 1000) (hC : C * N ≤ B) (step : ∀ (zs : List D) (b : Nat) (k : Int), 0 ≤ k → Sok b zs → b ≤ B → ∃ zs', Sok (b + C) zs' ∧ body (some (.d (scr ns)) :: some (.ml false zs) :: some (.d (.int k)) :: List.replicate m none) = .ok .nx (some (.d (scr ns)) :: some (.ml false zs') :: none :: List.replicate m none))
    {c : Int} (hc : c = (N : Int)) {k : Nat} (hk : k = m + 3) : runP k (sSeq (sSetL 1 (lLst nilA)) (sSeq (sFor (bName 2) (apA rng1 (aCons (eC (.int c)) nilA)) body) (sRet (eC (.bool true))))) [.list (ns.map PyData.int)] = .ok (.bool true) := by
  subst hk
  obtain ⟨z, e⟩ := law_turns step (List.range N) [] 0 ⟨by simp, .inl rfl⟩ (by rw [List.length_range]; omega)
  have er := rng_int (c := c) (by omega) (by omega)
  rw [show c.toNat = N by omega] at er
  rw [runP_out, show dsG [.list (ns.map PyData.int)] (m + 3) = some (.d (scr ns)) :: none :: none :: List.replicate m none by
    show [some (Tv.d (scr ns))] ++ List.replicate (m + 3 - 1) none = _
    rw [show m + 3 - 1 = m + 2 by omega]; rfl]
  have st0 : sSetL 1 (lLst nilA) (some (.d (scr ns)) :: none :: none :: List.replicate m none) = .ok .nx (some (.d (scr ns)) :: some (.ml false []) :: none :: List.replicate m none) := by
    wp_walk
  rw [sSeq_app, st0, seq_nx, sSeq_app, sFor_app]
  wp_walk using er, e
theorem loop_same {γ : Type} {b : Bd} {body : M Fl} {mk : γ → D} {g : Ga} : ∀ (src : List γ), (∀ x ∈ src, ∃ g1, b (mk x) g = some g1 ∧ body g1 = .ok .nx g) → loop b body (src.map mk) g = .ok .nx g
  | [], _ => rfl
  | x :: r, h => by
    obtain ⟨g1, e1, e2⟩ := h x List.mem_cons_self
    rw [List.map_cons, loop_cons, e1]
    dsimp only
    rw [e2]
    exact loop_same r fun y hy => h y (List.mem_cons_of_mem _ hy)
section
variable {qs : List (Str × Int)} {gs : List (List Str)}
theorem isScn_rev (h : VS qs gs) : isScn (.tuple [.tuple (gs.map mkG), .tuple (qs.map mkQ)]) = false := by
  have hg := h.g1
  rw [isScn, areQ]
  have : (gs.map mkG).all isQ = false := by
    cases gs with
    | nil => simp at hg
    | cons g gs =>
      rw [List.map_cons, List.all_cons]
      have : isQ (mkG g) = false := by
        rw [mkG]
        match g with
        | [] => rfl
        | [_] => rfl
        | [a, b] => show (isNm (.str a) && false) = false; exact Bool.and_false _
        | _ :: _ :: _ :: _ => rfl
      rw [this, Bool.false_and]
  rw [this, Bool.false_and, Bool.and_false, Bool.false_and]
theorem req_bad {n : Nat} {x : D} (hx : Gd n x) (hn : n ≤ 59) (hb : isScn x = false) : p_require_scenario [x] = .exc "InvalidScenario" := by
  rw [p_require_scenario, runP_out, m_require_scenario, show dsG [x] 1 = [some (.d x)] from rfl]
  wp_walk using s_is_scenario x hx hn, hb
theorem s_total (h : VS qs gs) {n : Nat} (x : D) (hx : Gd n x) : p_total [mkS qs gs, x] = if isMdl qs gs x = true then .ok (.int (sumT (match x with | .tuple ts => ts.headD .none | _ => .none))) else .exc "InvalidModel" := by
  rw [p_total, runP_out, m_total, m_total_s1, m_total_s2, show dsG [mkS qs gs, x] 2 = [some (.d (mkS qs gs)), some (.d x)] from rfl]
  have er := s_require_model h x hx
  cases hb : isMdl qs gs x with
  | false =>
    rw [hb] at er
    wp_walk using er
  | true =>
    rw [hb, if_pos rfl] at er
    obtain ⟨ms, T, rfl, vm, _⟩ := isMdl_inv hb h.g1
    cases ms with
    | nil => have := vm.len; have := h.g1; rw [List.length_nil] at *; omega
    | cons r ms =>
      have e0 : ixD (mkM (r :: ms)) (.int 0) = some (mkRow r) := ix_t0 _ _
      have es : sumT (match mkM (r :: ms) with | .tuple ts => ts.headD .none | _ => .none) = r.sum := sumT_row r
      rw [es]
      wp_walk using er, e0, sum_row
end
end PP

namespace PP
open PySem PySem.Spec
local macro_rules
  | `(tactic| wp_walk) => `(tactic| simp only [bind_ok, bind_exc, bnd_app, lift_some, eC_app, eVar_0, eVar_1, eVar_2, eVar_3, eVar_4, eVar_5, eVar_6, eVar_7, eVar_8, eVar_9, eVar_10, ap1_app, ap2_app, apA_app, aCons_app, nilA_app, tru_app, tst_app, asB_bool, truD_bool, truD_list, truD_tuple, mNot_app, mAnd_app, mOr_app, eNot_app, eAnd_app, eOr_app, andK_b, orK_b, eIf_app, eTup_app, eLst_app, lLst_app, frzL_app, eList_app, eSl_app, pN_app, pS_app, partD_int, chn_b, eChain_app, seq_nx, seq_ret, seq_brk, seq_cnt, seq_exc, sSeq_app, sRet_app, sDrop_app, sIf_app, sRaise_app, sAsg_name, sSetL_app, rxM_ok, rxM_exc, eCall_app, outP_ret, outP_nx, outP_exc, Option.map_some, len0, len1, len2, len3, len4, len5, len6, len7, len8, eq_self, sz0, sz1, sz2, sz3, sz4, sz5, sz6, sz7, sz8, sz9, sz10, sz11, freeAt_s, freeAt_n, freeAt_d, freeAt_m, sFrz_app, frzK_ml, List.getElem?_cons_zero, List.getElem?_cons_succ, List.set_cons_zero, List.set_cons_succ, sAsg_tup, asgK_some, bTup_app, bAll_nil, bAll_cons, bName_app, Option.bind_some, isMl_s, isMl_m, resK_some, onK_ml, eApp_app, ePop_app, eIdxV_app, eLenV_app, tTruV_app, sSetI_app, onL_app, fLen_ok, fTru_ok, rbK_ok, cbK_ml, eCB_cons, eCB_nil, List.nil_append, List.cons_append, outK_some, outR_ret, outR_nx, outB_s, outB_m, mConsD_app, mConsL_app, sPar_app, setAll_nil, setAll_cons, true_and, and_true, and_self, Bool.not_true, Bool.not_false, Bool.false_eq_true, reduceIte, eVar_11, eVar_12, eVar_13, eVar_14, eVar_15, eVar_16, eVar_17, eVar_18, eVar_19, eVar_20, eVar_21, eVar_22, eVar_23, eVar_24, eVar_25, sWipe_app, wipeG_nil, wipeG_cons, sSetO_app, mConsO_app, ap2L_app, eIdx_app, eExt_app, eNewT_app, sAugI_app, augK_app, sAugT_app, augKT_app, isMt_s, isMt_m, freeAt_t, List.all_cons, List.all_nil, Bool.and_true, Bool.true_and, frzK_md])
  | `(tactic| wp_walk using $ts,*) => `(tactic| simp only [bind_ok, bind_exc, bnd_app, lift_some, eC_app, eVar_0, eVar_1, eVar_2, eVar_3, eVar_4, eVar_5, eVar_6, eVar_7, eVar_8, eVar_9, eVar_10, ap1_app, ap2_app, apA_app, aCons_app, nilA_app, tru_app, tst_app, asB_bool, truD_bool, truD_list, truD_tuple, mNot_app, mAnd_app, mOr_app, eNot_app, eAnd_app, eOr_app, andK_b, orK_b, eIf_app, eTup_app, eLst_app, lLst_app, frzL_app, eList_app, eSl_app, pN_app, pS_app, partD_int, chn_b, eChain_app, seq_nx, seq_ret, seq_brk, seq_cnt, seq_exc, sSeq_app, sRet_app, sDrop_app, sIf_app, sRaise_app, sAsg_name, sSetL_app, rxM_ok, rxM_exc, eCall_app, outP_ret, outP_nx, outP_exc, Option.map_some, len0, len1, len2, len3, len4, len5, len6, len7, len8, eq_self, sz0, sz1, sz2, sz3, sz4, sz5, sz6, sz7, sz8, sz9, sz10, sz11, freeAt_s, freeAt_n, freeAt_d, freeAt_m, sFrz_app, frzK_ml, List.getElem?_cons_zero, List.getElem?_cons_succ, List.set_cons_zero, List.set_cons_succ, sAsg_tup, asgK_some, bTup_app, bAll_nil, bAll_cons, bName_app, Option.bind_some, isMl_s, isMl_m, resK_some, onK_ml, eApp_app, ePop_app, eIdxV_app, eLenV_app, tTruV_app, sSetI_app, onL_app, fLen_ok, fTru_ok, rbK_ok, cbK_ml, eCB_cons, eCB_nil, List.nil_append, List.cons_append, outK_some, outR_ret, outR_nx, outB_s, outB_m, mConsD_app, mConsL_app, sPar_app, setAll_nil, setAll_cons, true_and, and_true, and_self, Bool.not_true, Bool.not_false, Bool.false_eq_true, reduceIte, eVar_11, eVar_12, eVar_13, eVar_14, eVar_15, eVar_16, eVar_17, eVar_18, eVar_19, eVar_20, eVar_21, eVar_22, eVar_23, eVar_24, eVar_25, sWipe_app, wipeG_nil, wipeG_cons, sSetO_app, mConsO_app, ap2L_app, eIdx_app, eExt_app, eNewT_app, sAugI_app, augK_app, sAugT_app, augKT_app, isMt_s, isMt_m, freeAt_t, List.all_cons, List.all_nil, Bool.and_true, Bool.true_and, frzK_md, $[$ts:term],*])
/-! ### models of weights -/
section
variable {qs : List (Str × Int)} {gs : List (List Str)}
theorem s_all_assignments (h : VS qs gs) : p_all_assignments [mkS qs gs] = .ok (.list ((Rw qs (qs.map (·.1))).map mkRow)) := by
  have e := s_pcells (nd := mkG (qs.map (·.1))) h h.ns rfl
  rw [p_all_assignments, runP_out, m_all_assignments, show dsG [mkS qs gs] 1 = [some (.d (mkS qs gs))] from rfl]
  first
    | (rw [m_all_assignments_s1]; wp_walk using s_known_names h.ql, e)
    | wp_walk using s_known_names h.ql, e
theorem s_tables_of (h : VS qs gs) {ws : List Int} {wd : D} (hw : seqD wd = some (ws.map PyData.int)) : p_tables_of [mkS qs gs, wd] = .ok (mkM (gs.map (msum qs (qs.map (·.1)) ws))) := by
  have hz := sizeLine_big
  have := h.g10
  rw [p_tables_of, runP_out, m_tables_of, show dsG [mkS qs gs, wd] 4 = [some (.d (mkS qs gs)), some (.d wd), none, none] from rfl]
  have st : m_tables_of_s2 [some (.d (mkS qs gs)), some (.d wd), none, none] = .ok .nx [some (.d (mkS qs gs)), some (.d wd), some (.d (mkG (qs.map (·.1)))), none] := by
    rw [m_tables_of_s2]
    wp_walk using s_known_names h.ql
  rw [sSeq_app, st, seq_nx, m_tables_of_s1, sRet_app, apA_app, aCons_app, frzL_app]
  rw [lcM gs mkG (fun g => mkRow (msum qs (qs.map (·.1)) ws g)) ?_ ?_ ?_ ?_ ?_]
  · have e : (gs.map fun g => mkRow (msum qs (qs.map (·.1)) ws g)) = (gs.map (msum qs (qs.map (·.1)) ws)).map mkRow := by rw [List.map_map]; rfl
    wp_walk using tup_list, e
  · wp_walk using ix_S1, itemsD
  · omega
  · intro g hg
    refine ⟨_, rfl, ?_, rfl, rfl⟩
    have e := s_summed (nd := mkG (qs.map (·.1))) (td := wd) (fd := mkG g) h h.ns rfl rfl hw (h.gns hg) (h.gns hg).sub rfl
    wp_walk using e
  · rfl
  · rfl
def isW (qs : List (Str × Int)) (x : D) : Bool := isCT (Rw qs (qs.map (·.1))).length x && (decide (1 ≤ sumT x) && decide (sumT x ≤ 9999))
theorem s_model_of (h : VS qs gs) {n : Nat} (x : D) (hx : Gd n x) : p_model_of [mkS qs gs, x] = if isW qs x = true then .ok (mkM (gs.map (msum qs (qs.map (·.1)) ((itsD x).map intOf)))) else .exc "InvalidWeights" := by
  obtain ⟨c, hc⟩ : ∃ c : Int, c = ((Rw qs (qs.map (·.1))).length : Int) := ⟨_, rfl⟩
  have el : lenD [.list ((Rw qs (qs.map (·.1))).map mkRow)] = some (.int c) := by rw [len_lst, List.length_map, hc]
  have ect := s_is_count_tuple x hx hc
  rw [p_model_of, runP_out, m_model_of, show dsG [mkS qs gs, x] 2 = [some (.d (mkS qs gs)), some (.d x)] from rfl]
  have st3 : m_model_of_s3 [some (.d (mkS qs gs)), some (.d x)] = .ok .nx [some (.d (mkS qs gs)), some (.d x)] := by
    rw [m_model_of_s3]
    wp_walk using s_require_scenario h
  rw [sSeq_app, st3, seq_nx, sSeq_app, m_model_of_s2, m_model_of_s1]
  cases hb : isCT (Rw qs (qs.map (·.1))).length x with
  | false =>
    rw [hb] at ect
    have : isW qs x = false := by rw [isW, hb, Bool.false_and]
    rw [this]
    wp_walk using s_all_assignments h, el, ect
  | true =>
    rw [hb] at ect
    obtain ⟨r, e, _, _⟩ := isCT_inv hb
    subst e
    have ei : (itsD (mkRow r)).map intOf = r := by
      show (r.map PyData.int).map intOf = r
      rw [List.map_map]
      exact List.map_id' r
    have ew : isW qs (mkRow r) = (decide (1 ≤ r.sum) && decide (r.sum ≤ 9999)) := by rw [isW, hb, Bool.true_and, sumT_row]
    rw [ew, ei]
    have et := s_tables_of (wd := mkRow r) (ws := r) h rfl
    wp_walk using sIf_app, mOr_app, mNot_app, tst_app, s_all_assignments h, el, ect, sum_row, le_chain
    cases (decide (1 ≤ r.sum) && decide (r.sum ≤ 9999)) with
    | true => wp_walk using et
    | false => wp_walk
end
/-! ### the same data -/
def ST : Nat → D → Prop
  | _, .none => True
  | _, .bool _ => True
  | _, .int _ => True
  | _, .str z => z.length ≤ sizeLine
  | n + 1, .tuple xs => xs.length ≤ sizeLine ∧ ∀ y ∈ xs, ST n y
  | _, _ => False
theorem ST.gd : ∀ {n : Nat} {x : D}, ST n x → Gd n x
  | _, .none, _ => by simp [Gd]
  | _, .bool _, _ => by simp [Gd]
  | _, .int _, _ => by simp [Gd]
  | 0, .str z, h => h
  | n + 1, .str z, h => h
  | 0, .tuple xs, h => h.elim
  | n + 1, .tuple xs, h => ⟨h.1, fun y hy => ST.gd (h.2 y hy)⟩
  | 0, .list _, h => h.elim
  | n + 1, .list _, h => h.elim
  | 0, .dict _, h => h.elim
  | n + 1, .dict _, h => h.elim
theorem zip_self {α : Type} : ∀ l : List α, l.zip l = l.map fun x => (x, x)
  | [] => rfl
  | x :: l => by rw [List.zip_cons_cons, zip_self l, List.map_cons]
theorem isE_none (x : D) : isE x .none = some (.bool (isNo x)) := by cases x <;> rfl
theorem eq_self_gd {n : Nat} {x : D} (h : Gd n x) (hn : n ≤ 59) : eqD x x = some (.bool true) := by
  rw [eq_gd h h hn, SeqAt.eqv_refl_plain x h.plain]
theorem ne_self_gd {n : Nat} {x : D} (h : Gd n x) (hn : n ≤ 59) : neD x x = some (.bool false) := by
  rw [ne_gd h h hn, SeqAt.eqv_refl_plain x h.plain]
  rfl
theorem same_leaf {rec : PF} {x : D} {n : Nat} (hx : ST n x) (ht : isTupD x = false) : outP (m__law_same rec [some (.d x), some (.d x), none, none]) = .ok (.bool true) := by
  have hg := hx.gd
  have e1 := isi_bool hg.nd
  have e2 := isi_tup_of hg.nd
  have e3 := isi_str hg.nd
  have e4 := isi_int hg.nd
  rw [m__law_same, m__law_same_s10, m__law_same_s9, m__law_same_s8, m__law_same_s7, m__law_same_s6, m__law_same_s5, m__law_same_s2, m__law_same_s1]
  cases x with
  | none => wp_walk using isE_none, isNo
  | bool b =>
    have e5 := eq_self_gd (n := 0) (x := .bool b) trivial (by omega)
    wp_walk using isE_none, isNo, e1, isBoolD, e5
  | int i =>
    have e5 := eq_self_gd (n := 0) (x := .int i) trivial (by omega)
    wp_walk using isE_none, isNo, e1, e2, e3, e4, isBoolD, isTupD, isStrD, isIB, e5
  | str z =>
    have hz : z.length ≤ sizeLine := by cases n <;> exact hx
    have e5 := eq_self_gd (n := 0) (x := .str z) hz (by omega)
    wp_walk using isE_none, isNo, e1, e2, e3, e4, isBoolD, isTupD, isStrD, isIB, e5
  | tuple xs => cases ht
  | list _ => cases n <;> exact hx.elim
  | dict _ => cases n <;> exact hx.elim
theorem s_same_refl : ∀ (n f : Nat) (x : D), n < f → n ≤ 50 → ST n x → p__law_same f [x, x] = .ok (.bool true) := by
  intro n
  induction n with
  | zero =>
    intro f x hf hn hx
    cases f with
    | zero => omega
    | succ f =>
      rw [p__law_same, runP_out, show dsG [x, x] 4 = [some (.d x), some (.d x), none, none] from rfl]
      refine same_leaf hx ?_
      cases x with
      | tuple xs => exact hx.elim
      | _ => rfl
  | succ n ih =>
    intro f x hf hn hx
    cases f with
    | zero => omega
    | succ f =>
      rw [p__law_same, runP_out, show dsG [x, x] 4 = [some (.d x), some (.d x), none, none] from rfl]
      by_cases ht : isTupD x = true
      · cases x with
        | tuple xs =>
          have hg := hx.gd
          have e1 := isi_bool hg.nd
          have e2 := isi_tup_of hg.nd
          obtain ⟨c, hc⟩ : ∃ c : Int, lenD [.tuple xs] = some (.int c) := ⟨_, len_tup xs⟩
          have en : neD (.int c) (.int c) = some (.bool false) := by rw [ne_int, beq_self_eq_true]; rfl
          have e10 : m__law_same_s10 (p__law_same f) [some (.d (.tuple xs)), some (.d (.tuple xs)), none, none] = .ok .nx [some (.d (.tuple xs)), some (.d (.tuple xs)), none, none] := by
            rw [m__law_same_s10]
            wp_walk using isE_none, isNo
          have e9 : m__law_same_s9 (p__law_same f) [some (.d (.tuple xs)), some (.d (.tuple xs)), none, none] = .ok .nx [some (.d (.tuple xs)), some (.d (.tuple xs)), none, none] := by
            rw [m__law_same_s9]
            wp_walk using e1, isBoolD
          have e4 : m__law_same_s4 (p__law_same f) [some (.d (.tuple xs)), some (.d (.tuple xs)), none, none] = .ok .nx [some (.d (.tuple xs)), some (.d (.tuple xs)), none, none] := by
            rw [m__law_same_s4]
            wp_walk using e2, isTupD, hc, en
          have e3 : m__law_same_s3 (p__law_same f) [some (.d (.tuple xs)), some (.d (.tuple xs)), none, none] = .ok (.ret (.bool true)) [some (.d (.tuple xs)), some (.d (.tuple xs)), none, none] := by
            rw [m__law_same_s3, sRet_app, apA_app, aCons_app, frzL_app]
            rw [lcM xs (fun y => .tuple [y, y]) (fun _ => .bool true) ?_ ?_ ?_ ?_ ?_]
            · have ea := all_bools xs (fun _ => true)
              have et : xs.all (fun _ => true) = true := List.all_eq_true.mpr fun _ _ => rfl
              rw [et] at ea
              wp_walk using ea
            · have ez : zipD xs xs = xs.map fun y => .tuple [y, y] := by
                rw [zipD, zip_self, List.map_map]
                rfl
              wp_walk using zip2_of (x := .tuple xs) (y := .tuple xs) rfl rfl, ez
            · exact hx.1
            · intro y hy
              refine ⟨_, rfl, ?_, rfl, rfl⟩
              have e := ih f y (by omega) (by omega) (hx.2 y hy)
              wp_walk using e
            · rfl
            · rfl
          rw [m__law_same, sSeq_app, e10, seq_nx, sSeq_app, e9, seq_nx, sSeq_app, m__law_same_s8, sIf_app]
          simp only [tru_app, ap1_app, eVar_1, bind_ok, e2, isTupD, lift_some, truD_bool, reduceIte]
          rw [sSeq_app, e4, seq_nx, e3]
          rfl
        | _ => cases ht
      · exact same_leaf hx (by simpa using ht)
theorem st_row {r : List Int} (h : r.length ≤ sizeLine) : ST 1 (mkRow r) := by
  refine ⟨by rw [List.length_map]; exact h, fun y hy => ?_⟩
  obtain ⟨i, _, rfl⟩ := List.mem_map.mp hy
  trivial
theorem st_tabs {ms : List (List Int)} (hl : ms.length ≤ sizeLine) (h : ∀ t ∈ ms, t.length ≤ sizeLine) : ST 2 (mkM ms) := by
  refine ⟨by rw [List.length_map]; exact hl, fun y hy => ?_⟩
  obtain ⟨t, ht, rfl⟩ := List.mem_map.mp hy
  exact st_row (h t ht)
end PP

namespace PP
open PySem
def m__law_model_of_or_s1 : M Fl := sRet (eCall 2 p_model_of (aCons (eVar 0) (aCons (eVar 1) (nilA))))
def m__law_model_of_or_s2 : M Fl := sTry [("InvalidScenario", [("InvalidScenario", true), ("InvalidWeights", false)], "InvalidScenario"), ("InvalidWeights", [("InvalidScenario", false), ("InvalidWeights", true)], "InvalidWeights")] (m__law_model_of_or_s1)
def m__law_model_of_or : M Fl := m__law_model_of_or_s2
def p__law_model_of_or : PF := runP 2 m__law_model_of_or
def m_law_s1 : M Fl := sIf (tst (ap2 neD (eCall 2 p__law_model_of_or (aCons (eVar 3) (aCons (eVar 10) (nilA)))) (eC (.str "InvalidWeights")))) (sRet (eC (.bool false))) ((fun g => .ok .nx g))
def m_law_b2 : M Fl := sSeq (m_law_s1) (sSeq (sWipe [10]) (fun g => .ok .nx g))
def m_law_s3 : M Fl := sFor (bName 10) (ap1 itemsD (eLst (aCons (eVar 7) (aCons (eVar 8) (aCons (eVar 9) (aCons (frzL (eList (aCons (eVar 4) (nilA)))) (aCons (ap2 addD (eVar 4) (eTup (aCons (eC (.int 0)) (nilA)))) (aCons (eSl (eVar 4) (pS (eC (.int 1))) (pN)) (aCons (ap2 addD (eSl (eVar 4) (pN) (pS (ap1 negD (eC (.int 1))))) (eTup (aCons (eC (.bool true)) (nilA)))) (aCons (eC .none) (nilA))))))))))) (m_law_b2)
def m_law_s4 : M Fl := sAsg (bName 9) (apA tupD (aCons (frzL (eLc [12] (bName 12) (tAll) (eC (.int 0)) (ap1 itemsD (eVar 4)))) (nilA)))
def m_law_s5 : M Fl := sAsg (bName 8) (ap2 addD (eTup (aCons (ap2 subD (ap2 subD (ap2 ixD (eVar 4) (eC (.int 0))) (apA sumD (aCons (eVar 4) (nilA)))) (eC (.int 1))) (nilA))) (eSl (eVar 4) (pS (eC (.int 1))) (pN)))
def m_law_s6 : M Fl := sAsg (bName 7) (ap2 addD (eSl (eVar 6) (pN) (pS (ap1 negD (eC (.int 1))))) (eTup (aCons (ap2 addD (ap2 ixD (eVar 6) (ap1 negD (eC (.int 1)))) (eC (.int 1))) (nilA))))
def m_law_s7 : M Fl := sIf (tst (ap2 neD (ap2 ixD (eCall 2 p_model_of (aCons (eVar 3) (aCons (eVar 6) (nilA)))) (eC (.int 0))) (eCall 3 p__law_sums (aCons (eVar 3) (aCons (eVar 6) (aCons (ap2 ixD (ap2 ixD (eVar 3) (eC (.int 1))) (eC (.int 0))) (nilA))))))) (sRet (eC (.bool false))) ((fun g => .ok .nx g))
def m_law_s8 : M Fl := sAsg (bName 6) (ap2 addD (eSl (eVar 4) (pN) (pS (ap1 negD (eC (.int 1))))) (eTup (aCons (ap2 subD (ap2 addD (ap2 ixD (eVar 4) (ap1 negD (eC (.int 1)))) (eC (.int 9999))) (apA sumD (aCons (eVar 4) (nilA)))) (nilA))))
def m_law_s9 : M Fl := sIf (mNot (tru (eCall 2 (p__law_same 12) (aCons (eCall 2 p_model_of (aCons (eVar 3) (aCons (eVar 4) (nilA)))) (aCons (eVar 5) (nilA)))))) (sRet (eC (.bool false))) ((fun g => .ok .nx g))
def m_law_s10 : M Fl := sAsg (bName 5) (apA tupD (aCons (frzL (eLc [11] (bName 11) (tAll) (eCall 3 p__law_sums (aCons (eVar 3) (aCons (eVar 4) (aCons (eVar 11) (nilA))))) (ap1 itemsD (ap2 ixD (eVar 3) (eC (.int 1)))))) (nilA)))
def m_law_s11 : M Fl := sAsg (bName 4) (eCB 1 2 b__law_weights 1 (aCons (eVar 3) (aCons (eC (.int 5)) (nilA))) [] [eVar 0])
def m_law_s12 : M Fl := sAsg (bName 3) (eCB 1 2 b__law_scenario 1 (aCons (eC (.int 5)) (aCons (eC (.int 32)) (nilA))) [] [eVar 0])
def m_law_b13 : M Fl := sSeq (m_law_s12) (sSeq (m_law_s11) (sSeq (m_law_s10) (sSeq (m_law_s9) (sSeq (m_law_s8) (sSeq (m_law_s7) (sSeq (m_law_s6) (sSeq (m_law_s5) (sSeq (m_law_s4) (sSeq (m_law_s3) (sSeq (sWipe [2, 3, 4, 5, 6, 7, 8, 9, 10]) (fun g => .ok .nx g)))))))))))
def m_law_s14 : M Fl := sFor (bName 2) (apA rng1 (aCons (eC (.int 8)) (nilA))) (m_law_b13)
def m_law : M Fl := sSeq (sSetL 1 (lLst (nilA))) (sSeq (m_law_s14) (sRet (eC (.bool true))))
def p_law : PF := runP 13 m_law
end PP

namespace PP
open PySem PySem.Spec
local macro_rules
  | `(tactic| wp_walk) => `(tactic| simp only [bind_ok, bind_exc, bnd_app, lift_some, eC_app, eVar_0, eVar_1, eVar_2, eVar_3, eVar_4, eVar_5, eVar_6, eVar_7, eVar_8, eVar_9, eVar_10, ap1_app, ap2_app, apA_app, aCons_app, nilA_app, tru_app, tst_app, asB_bool, truD_bool, truD_list, truD_tuple, mNot_app, mAnd_app, mOr_app, eNot_app, eAnd_app, eOr_app, andK_b, orK_b, eIf_app, eTup_app, eLst_app, lLst_app, frzL_app, eList_app, eSl_app, pN_app, pS_app, partD_int, chn_b, eChain_app, seq_nx, seq_ret, seq_brk, seq_cnt, seq_exc, sSeq_app, sRet_app, sDrop_app, sIf_app, sRaise_app, sAsg_name, sSetL_app, rxM_ok, rxM_exc, eCall_app, outP_ret, outP_nx, outP_exc, Option.map_some, len0, len1, len2, len3, len4, len5, len6, len7, len8, eq_self, sz0, sz1, sz2, sz3, sz4, sz5, sz6, sz7, sz8, sz9, sz10, sz11, freeAt_s, freeAt_n, freeAt_d, freeAt_m, sFrz_app, frzK_ml, List.getElem?_cons_zero, List.getElem?_cons_succ, List.set_cons_zero, List.set_cons_succ, sAsg_tup, asgK_some, bTup_app, bAll_nil, bAll_cons, bName_app, Option.bind_some, isMl_s, isMl_m, resK_some, onK_ml, eApp_app, ePop_app, eIdxV_app, eLenV_app, tTruV_app, sSetI_app, onL_app, fLen_ok, fTru_ok, rbK_ok, cbK_ml, eCB_cons, eCB_nil, List.nil_append, List.cons_append, outK_some, outR_ret, outR_nx, outB_s, outB_m, mConsD_app, mConsL_app, sPar_app, setAll_nil, setAll_cons, true_and, and_true, and_self, Bool.not_true, Bool.not_false, Bool.false_eq_true, reduceIte, eVar_11, eVar_12, eVar_13, eVar_14, eVar_15, eVar_16, eVar_17, eVar_18, eVar_19, eVar_20, eVar_21, eVar_22, eVar_23, eVar_24, eVar_25, sWipe_app, wipeG_nil, wipeG_cons, sSetO_app, mConsO_app, ap2L_app, eIdx_app, eExt_app, eNewT_app, sAugI_app, augK_app, sAugT_app, augKT_app, isMt_s, isMt_m, freeAt_t, List.all_cons, List.all_nil, Bool.and_true, Bool.true_and, frzK_md])
  | `(tactic| wp_walk using $ts,*) => `(tactic| simp only [bind_ok, bind_exc, bnd_app, lift_some, eC_app, eVar_0, eVar_1, eVar_2, eVar_3, eVar_4, eVar_5, eVar_6, eVar_7, eVar_8, eVar_9, eVar_10, ap1_app, ap2_app, apA_app, aCons_app, nilA_app, tru_app, tst_app, asB_bool, truD_bool, truD_list, truD_tuple, mNot_app, mAnd_app, mOr_app, eNot_app, eAnd_app, eOr_app, andK_b, orK_b, eIf_app, eTup_app, eLst_app, lLst_app, frzL_app, eList_app, eSl_app, pN_app, pS_app, partD_int, chn_b, eChain_app, seq_nx, seq_ret, seq_brk, seq_cnt, seq_exc, sSeq_app, sRet_app, sDrop_app, sIf_app, sRaise_app, sAsg_name, sSetL_app, rxM_ok, rxM_exc, eCall_app, outP_ret, outP_nx, outP_exc, Option.map_some, len0, len1, len2, len3, len4, len5, len6, len7, len8, eq_self, sz0, sz1, sz2, sz3, sz4, sz5, sz6, sz7, sz8, sz9, sz10, sz11, freeAt_s, freeAt_n, freeAt_d, freeAt_m, sFrz_app, frzK_ml, List.getElem?_cons_zero, List.getElem?_cons_succ, List.set_cons_zero, List.set_cons_succ, sAsg_tup, asgK_some, bTup_app, bAll_nil, bAll_cons, bName_app, Option.bind_some, isMl_s, isMl_m, resK_some, onK_ml, eApp_app, ePop_app, eIdxV_app, eLenV_app, tTruV_app, sSetI_app, onL_app, fLen_ok, fTru_ok, rbK_ok, cbK_ml, eCB_cons, eCB_nil, List.nil_append, List.cons_append, outK_some, outR_ret, outR_nx, outB_s, outB_m, mConsD_app, mConsL_app, sPar_app, setAll_nil, setAll_cons, true_and, and_true, and_self, Bool.not_true, Bool.not_false, Bool.false_eq_true, reduceIte, eVar_11, eVar_12, eVar_13, eVar_14, eVar_15, eVar_16, eVar_17, eVar_18, eVar_19, eVar_20, eVar_21, eVar_22, eVar_23, eVar_24, eVar_25, sWipe_app, wipeG_nil, wipeG_cons, sSetO_app, mConsO_app, ap2L_app, eIdx_app, eExt_app, eNewT_app, sAugI_app, augK_app, sAugT_app, augKT_app, isMt_s, isMt_m, freeAt_t, List.all_cons, List.all_nil, Bool.and_true, Bool.true_and, frzK_md, $[$ts:term],*])
theorem cut_init {α : Type} (xs : List α) (x : α) : cutD (xs ++ [x]) none (some (-1)) = xs := by
  have e1 : HT.sIx (xs ++ [x]).length 0 none = 0 := rfl
  have e2 : HT.sIx (xs ++ [x]).length (xs ++ [x]).length (some (-1)) = xs.length := by
    simp only [HT.sIx, List.length_append, List.length_singleton]
    split <;> omega
  rw [cutD, e1, e2]
  simp
theorem sl_init (us : List Int) (w : Int) : slD (mkRow (us ++ [w])) none (some (-1)) = some (mkRow us) := by
  show some (PyData.tuple (cutD ((us ++ [w]).map PyData.int) none (some (-1)))) = _
  rw [List.map_append, List.map_cons, List.map_nil, cut_init]
  rfl
theorem ix_lastR (us : List Int) (w : Int) : ixD (mkRow (us ++ [w])) (.int (-1)) = some (.int w) := by
  show L2.atI ((us ++ [w]).map PyData.int) (-1) = _
  rw [L2.atI, L2.ixN, if_neg (by decide), if_pos (by rw [List.length_map, List.length_append, List.length_singleton]; omega)]
  show ((us ++ [w]).map PyData.int)[((-1 : Int) + ((us ++ [w]).map PyData.int).length).toNat]? = _
  rw [List.length_map, List.length_append, List.length_singleton, show ((-1 : Int) + ((us.length + 1 : Nat) : Int)).toNat = us.length by omega, List.getElem?_map, List.getElem?_append_right (Nat.le_refl _), Nat.sub_self]
  rfl
theorem sl_tailR (w : Int) (us : List Int) : slD (mkRow (w :: us)) (some 1) none = some (mkRow us) := sl_from (k := 1) _
theorem add_rows {a b : List Int} (h : a.length + b.length ≤ 100000) : addD (mkRow a) (mkRow b) = some (mkRow (a ++ b)) := by
  have := sizeLine_big
  rw [mkRow, mkRow, add_tups (by rw [List.length_map, List.length_map]; omega), mkRow, List.map_append]
theorem one_row (i : Int) : PyData.tuple [.int i] = mkRow [i] := rfl
theorem sub_int (i j : Int) : subD (.int i) (.int j) = some (.int (i - j)) := rfl
section
variable {qs : List (Str × Int)} {gs : List (List Str)} {ns : List Int}
theorem k7_or (h : VS qs gs) {n : Nat} (x : D) (hx : Gd n x) (hb : isW qs x = false) : p__law_model_of_or [mkS qs gs, x] = .ok (.str "InvalidWeights") := by
  have et := s_model_of h x hx
  rw [hb] at et
  have e : m__law_model_of_or_s1 [some (.d (mkS qs gs)), some (.d x)] = .exc "InvalidWeights" [some (.d (mkS qs gs)), some (.d x)] := by
    rw [m__law_model_of_or_s1]
    wp_walk using et
  rw [p__law_model_of_or, runP_out, m__law_model_of_or, m__law_model_of_or_s2, show dsG [mkS qs gs, x] 2 = [some (.d (mkS qs gs)), some (.d x)] from rfl, sTry_exc e]
  rfl
theorem ne_strs (z : Str) (hz : z.length ≤ sizeLine) : neD (.str z) (.str z) = some (.bool false) := by
  rw [ne_gd (n := 0) (m := 0) (x := .str z) (y := .str z) hz hz, eqv_str, beq_self_eq_true]
  rfl
theorem k7_wrong (h : VS qs gs) {n : Nat} (x : D) (hx : Gd n x) (hb : isW qs x = false) {a0 a1 a2 a4 a5 a6 a7 a8 a9 : Option Tv} : m_law_b2 [a0, a1, a2, some (.d (mkS qs gs)), a4, a5, a6, a7, a8, a9, some (.d x), none, none] = .ok .nx [a0, a1, a2, some (.d (mkS qs gs)), a4, a5, a6, a7, a8, a9, none, none, none] := by
  have hz := sizeLine_big
  have hs : ("InvalidWeights" : Str).length ≤ sizeLine := by
    have : ("InvalidWeights" : Str).length = 14 := by decide
    omega
  rw [m_law_b2, m_law_s1]
  wp_walk using k7_or h x hx hb, ne_strs _ hs
theorem isW_row {r : List Int} (hl : r.length = (Rw qs (qs.map (·.1))).length) (hn : ∀ c ∈ r, 0 ≤ c) (h1 : 1 ≤ r.sum) (h2 : r.sum ≤ 9999) : isW qs (mkRow r) = true := by
  rw [isW, ← hl, isCT_row hn, sumT_row, decide_eq_true h1, decide_eq_true h2]
  rfl
theorem its_row (r : List Int) : (itsD (mkRow r)).map intOf = r := by
  show (r.map PyData.int).map intOf = r
  rw [List.map_map]
  exact List.map_id' r
theorem isW_len {xs : List D} (hl : xs.length ≠ (Rw qs (qs.map (·.1))).length) : isW qs (.tuple xs) = false := by
  rw [isW, isCT, beq_eq_false_iff_ne.mpr hl, Bool.false_and, Bool.false_and]
theorem isW_mem {xs : List D} {y : D} (hy : y ∈ xs) (hc : cN y = false) : isW qs (.tuple xs) = false := by
  have : xs.all cN = false := by
    rw [List.all_eq_false]
    exact ⟨y, hy, by rw [hc]; decide⟩
  rw [isW, isCT, this, Bool.and_false, Bool.false_and]
theorem isW_sum {r : List Int} (h : r.sum < 1 ∨ 9999 < r.sum) : isW qs (mkRow r) = false := by
  rw [isW, sumT_row]
  rcases h with h | h
  · rw [decide_eq_false (by omega), Bool.false_and, Bool.and_false]
  · rw [decide_eq_false (p := r.sum ≤ 9999) (by omega), Bool.and_false, Bool.and_false]
theorem k7_body (hn : ns.length ≤ 63) {zs : List D} {b : Nat} {k : Int} (hs : Sok b zs) (hb : b ≤ 500000) :
    ∃ zs', Sok (b + 200) zs' ∧ m_law_b13 [some (.d (scr ns)), some (.ml false zs), some (.d (.int k)), none, none, none, none, none, none, none, none, none, none] = .ok .nx [some (.d (scr ns)), some (.ml false zs'), none, none, none, none, none, none, none, none, none, none, none] := by
  have hz := sizeLine_big
  obtain ⟨qs, gs, z1, h, _, _, s1, e1⟩ := s_scenario hn (most := 5) (cap := 32) (by omega) (by omega) hs (by omega)
  obtain ⟨ws, z2, hl, hnn, hp, hm, s2, e2⟩ := s_law_weights (far := 5) h hn (by omega) s1 (by omega)
  have hR := Rw_len h h.ns
  have hRp := Rw_pos h h.ns
  have hg1 := h.g1
  have hg10 := h.g10
  -- the weights, from both ends
  obtain ⟨us, w, hus⟩ : ∃ us w, ws = us ++ [w] := ⟨ws.dropLast, ws.getLast (by intro e; rw [e] at hl; simp at hl; omega), (List.dropLast_concat_getLast _).symm⟩
  obtain ⟨w0, vs, hvs⟩ : ∃ w0 vs, ws = w0 :: vs := by
    cases ws with
    | nil => rw [List.length_nil] at hl; omega
    | cons a l => exact ⟨a, l, rfl⟩
  obtain ⟨g0, gs', hgs⟩ : ∃ g0 gs', gs = g0 :: gs' := by
    cases gs with
    | nil => rw [List.length_nil] at hg1; omega
    | cons a l => exact ⟨a, l, rfl⟩
  have hg0 : g0 ∈ gs := by rw [hgs]; exact List.mem_cons_self
  have hul : us.length + 1 = ws.length := by rw [hus, List.length_append, List.length_singleton]
  have hvl : vs.length + 1 = ws.length := by rw [hvs, List.length_cons]
  have hsu : us.sum + w = ws.sum := by rw [hus, List.sum_append, List.sum_singleton]
  have hsv : w0 + vs.sum = ws.sum := by rw [hvs, List.sum_cons]
  have nus : ∀ c ∈ us, 0 ≤ c := fun c hc => hnn c (by rw [hus]; exact List.mem_append_left _ hc)
  have nvs : ∀ c ∈ vs, 0 ≤ c := fun c hc => hnn c (by rw [hvs]; exact List.mem_cons_of_mem _ hc)
  have hw : 0 ≤ w := hnn w (by rw [hus]; simp)
  have pus := sum_nonneg nus
  have pvs := sum_nonneg nvs
  have hlr : ws.length ≤ 243 := by omega
  have i1 : ixD (mkRow ws) (.int (-1)) = some (.int w) := by rw [hus]; exact ix_lastR us w
  have i2 : slD (mkRow ws) none (some (-1)) = some (mkRow us) := by rw [hus]; exact sl_init us w
  have i3 : ixD (mkRow ws) (.int 0) = some (.int w0) := by rw [hvs]; exact ix_t0 _ _
  have i4 : slD (mkRow ws) (some 1) none = some (mkRow vs) := by rw [hvs]; exact sl_tailR w0 vs
  -- the model of the weights
  have gw : Gd 1 (mkRow ws) := gd_row (by omega)
  have em := s_model_of h (mkRow ws) gw
  rw [isW_row hl hnn hp (by omega), if_pos rfl, its_row] at em
  have hML : ∀ t ∈ gs.map (msum qs (qs.map (·.1)) ws), t.length ≤ sizeLine := fun t ht => by
    obtain ⟨g, hg, rfl⟩ := List.mem_map.mp ht
    rw [msum_len]
    have := Rw_len h (h.gns hg)
    omega
  have esame := s_same_refl 2 12 (mkM (gs.map (msum qs (qs.map (·.1)) ws))) (by omega) (by omega) (st_tabs (by rw [List.length_map]; omega) hML)
  -- the full weights
  obtain ⟨F, hF⟩ : ∃ F : List Int, F = us ++ [w + 9999 - ws.sum] := ⟨_, rfl⟩
  have hFl : F.length = ws.length := by rw [hF, List.length_append, List.length_singleton]; omega
  have hFs : F.sum = 9999 := by rw [hF, List.sum_append, List.sum_singleton]; omega
  have hFn : ∀ c ∈ F, 0 ≤ c := fun c hc => by
    rw [hF] at hc
    rcases List.mem_append.mp hc with hc | hc
    · exact nus c hc
    · simp at hc; omega
  have gF : Gd 1 (mkRow F) := gd_row (by omega)
  have eF := s_model_of h (mkRow F) gF
  rw [isW_row (by rw [hFl, hl]) hFn (by omega) (by omega), if_pos rfl, its_row] at eF
  have eS := s_law_sums (wd := mkRow F) (ws := F) (fd := mkG g0) h rfl (h.gns hg0) rfl
  have a1 : addD (mkRow us) (mkRow [w + 9999 - ws.sum]) = some (mkRow F) := by rw [add_rows (by rw [List.length_singleton]; omega), hF]
  have i5 : ixD (mkM (gs.map (msum qs (qs.map (·.1)) F))) (.int 0) = some (mkRow (msum qs (qs.map (·.1)) F g0)) := by rw [hgs]; exact ix_t0 _ _
  have i6 : ixD (.tuple (gs.map mkG)) (.int 0) = some (mkG g0) := by rw [hgs]; exact ix_t0 _ _
  have nF : neD (mkRow (msum qs (qs.map (·.1)) F g0)) (mkRow (msum qs (qs.map (·.1)) F g0)) = some (.bool false) := ne_self_gd (gd_row (by rw [msum_len]; have := Rw_len h (h.gns hg0); omega)) (by omega)
  have i7 : ixD (mkRow F) (.int (-1)) = some (.int (w + 9999 - ws.sum)) := by rw [hF]; exact ix_lastR us _
  have i8 : slD (mkRow F) none (some (-1)) = some (mkRow us) := by rw [hF]; exact sl_init us _
  have a2 : addD (mkRow us) (mkRow [w + 9999 - ws.sum + 1]) = some (mkRow (us ++ [w + 9999 - ws.sum + 1])) := add_rows (by rw [List.length_singleton]; omega)
  have a3 : addD (mkRow [w0 - ws.sum - 1]) (mkRow vs) = some (mkRow ([w0 - ws.sum - 1] ++ vs)) := add_rows (by rw [List.length_singleton]; omega)
  have a4 : addD (mkRow ws) (mkRow [0]) = some (mkRow (ws ++ [0])) := add_rows (by rw [List.length_singleton]; omega)
  have a5 : addD (mkRow us) (.tuple [.bool true]) = some (.tuple (us.map PyData.int ++ [.bool true])) := add_tups (by rw [List.length_map, List.length_singleton]; omega)
  have st12 : m_law_s12 [some (.d (scr ns)), some (.ml false zs), some (.d (.int k)), none, none, none, none, none, none, none, none, none, none] = .ok .nx [some (.d (scr ns)), some (.ml false z1), some (.d (.int k)), some (.d (mkS qs gs)), none, none, none, none, none, none, none, none, none] := by
    rw [m_law_s12]
    wp_walk using e1
  have st11 : m_law_s11 [some (.d (scr ns)), some (.ml false z1), some (.d (.int k)), some (.d (mkS qs gs)), none, none, none, none, none, none, none, none, none] = .ok .nx [some (.d (scr ns)), some (.ml false z2), some (.d (.int k)), some (.d (mkS qs gs)), some (.d (mkRow ws)), none, none, none, none, none, none, none, none] := by
    rw [m_law_s11]
    wp_walk using e2
  have st10 : m_law_s10 [some (.d (scr ns)), some (.ml false z2), some (.d (.int k)), some (.d (mkS qs gs)), some (.d (mkRow ws)), none, none, none, none, none, none, none, none] = .ok .nx [some (.d (scr ns)), some (.ml false z2), some (.d (.int k)), some (.d (mkS qs gs)), some (.d (mkRow ws)), some (.d (mkM (gs.map (msum qs (qs.map (·.1)) ws)))), none, none, none, none, none, none, none] := by
    rw [m_law_s10, sAsg_name, apA_app, aCons_app, frzL_app]
    rw [lcM gs mkG (fun g => mkRow (msum qs (qs.map (·.1)) ws g)) ?_ ?_ ?_ ?_ ?_]
    · have e : (gs.map fun g => mkRow (msum qs (qs.map (·.1)) ws g)) = (gs.map (msum qs (qs.map (·.1)) ws)).map mkRow := by rw [List.map_map]; rfl
      wp_walk using tup_list, e
    · wp_walk using ix_S1, itemsD
    · omega
    · intro g hg
      refine ⟨_, rfl, ?_, rfl, rfl⟩
      have e := s_law_sums (wd := mkRow ws) (ws := ws) (fd := mkG g) h rfl (h.gns hg) rfl
      wp_walk using e
    · rfl
    · rfl
  have st9 : m_law_s9 [some (.d (scr ns)), some (.ml false z2), some (.d (.int k)), some (.d (mkS qs gs)), some (.d (mkRow ws)), some (.d (mkM (gs.map (msum qs (qs.map (·.1)) ws)))), none, none, none, none, none, none, none] = .ok .nx [some (.d (scr ns)), some (.ml false z2), some (.d (.int k)), some (.d (mkS qs gs)), some (.d (mkRow ws)), some (.d (mkM (gs.map (msum qs (qs.map (·.1)) ws)))), none, none, none, none, none, none, none] := by
    rw [m_law_s9]
    wp_walk using em, esame
  generalize hdue : some (Tv.d (mkM (gs.map (msum qs (qs.map (·.1)) ws)))) = DU at st10 st9
  have st8 : m_law_s8 [some (.d (scr ns)), some (.ml false z2), some (.d (.int k)), some (.d (mkS qs gs)), some (.d (mkRow ws)), DU, none, none, none, none, none, none, none] = .ok .nx [some (.d (scr ns)), some (.ml false z2), some (.d (.int k)), some (.d (mkS qs gs)), some (.d (mkRow ws)), DU, some (.d (mkRow F)), none, none, none, none, none, none] := by
    rw [m_law_s8]
    wp_walk using neg_one, i2, i1, add_int, sum_row, sub_int, one_row, a1
  have st7 : m_law_s7 [some (.d (scr ns)), some (.ml false z2), some (.d (.int k)), some (.d (mkS qs gs)), some (.d (mkRow ws)), DU, some (.d (mkRow F)), none, none, none, none, none, none] = .ok .nx [some (.d (scr ns)), some (.ml false z2), some (.d (.int k)), some (.d (mkS qs gs)), some (.d (mkRow ws)), DU, some (.d (mkRow F)), none, none, none, none, none, none] := by
    rw [m_law_s7]
    wp_walk using eF, i5, ix_S1, i6, eS, nF
  have st6 : m_law_s6 [some (.d (scr ns)), some (.ml false z2), some (.d (.int k)), some (.d (mkS qs gs)), some (.d (mkRow ws)), DU, some (.d (mkRow F)), none, none, none, none, none, none] = .ok .nx [some (.d (scr ns)), some (.ml false z2), some (.d (.int k)), some (.d (mkS qs gs)), some (.d (mkRow ws)), DU, some (.d (mkRow F)), some (.d (mkRow (us ++ [w + 9999 - ws.sum + 1]))), none, none, none, none, none] := by
    rw [m_law_s6]
    wp_walk using neg_one, i8, i7, add_int, one_row, a2
  generalize hov : us ++ [w + 9999 - ws.sum + 1] = OV at st6
  have st5 : m_law_s5 [some (.d (scr ns)), some (.ml false z2), some (.d (.int k)), some (.d (mkS qs gs)), some (.d (mkRow ws)), DU, some (.d (mkRow F)), some (.d (mkRow OV)), none, none, none, none, none] = .ok .nx [some (.d (scr ns)), some (.ml false z2), some (.d (.int k)), some (.d (mkS qs gs)), some (.d (mkRow ws)), DU, some (.d (mkRow F)), some (.d (mkRow OV)), some (.d (mkRow ((w0 - ws.sum - 1) :: vs))), none, none, none, none] := by
    rw [m_law_s5]
    wp_walk using i3, sum_row, sub_int, one_row, i4, a3
  have st4 : m_law_s4 [some (.d (scr ns)), some (.ml false z2), some (.d (.int k)), some (.d (mkS qs gs)), some (.d (mkRow ws)), DU, some (.d (mkRow F)), some (.d (mkRow OV)), some (.d (mkRow ((w0 - ws.sum - 1) :: vs))), none, none, none, none] = .ok .nx [some (.d (scr ns)), some (.ml false z2), some (.d (.int k)), some (.d (mkS qs gs)), some (.d (mkRow ws)), DU, some (.d (mkRow F)), some (.d (mkRow OV)), some (.d (mkRow ((w0 - ws.sum - 1) :: vs))), some (.d (mkRow (ws.map fun _ => 0))), none, none, none] := by
    rw [m_law_s4, sAsg_name, apA_app, aCons_app, frzL_app]
    rw [lcM ws PyData.int (fun _ => .int 0) ?_ ?_ ?_ ?_ ?_]
    · have e : PyData.tuple (ws.map fun _ => PyData.int 0) = mkRow (ws.map fun _ => 0) := by rw [mkRow, List.map_map]; rfl
      wp_walk using tup_list, e
    · wp_walk using itemsD, mkRow
    · omega
    · intro c _
      exact ⟨_, rfl, rfl, rfl, rfl⟩
    · rfl
    · rfl
  have zsum : ∀ l : List Int, (l.map fun _ => (0 : Int)).sum = 0 := fun l => by
    induction l with
    | nil => rfl
    | cons a l ih => rw [List.map_cons, List.sum_cons, ih]; rfl
  have hwrong : ∀ x ∈ [mkRow OV, mkRow ((w0 - ws.sum - 1) :: vs), mkRow (ws.map fun _ => 0), .list (ws.map PyData.int), mkRow (ws ++ [0]), mkRow vs, .tuple (us.map PyData.int ++ [.bool true]), .none], Gd 1 x ∧ isW qs x = false := by
    intro x hx
    simp only [List.mem_cons, List.not_mem_nil, or_false] at hx
    rcases hx with rfl | rfl | rfl | rfl | rfl | rfl | rfl | rfl
    · refine ⟨gd_row (by rw [← hov, List.length_append, List.length_singleton]; omega), isW_sum (.inr ?_)⟩
      rw [← hov, List.sum_append, List.sum_singleton]
      omega
    · refine ⟨gd_row (by rw [List.length_cons]; omega), isW_mem (y := .int (w0 - ws.sum - 1)) List.mem_cons_self ?_⟩
      exact decide_eq_false (by omega)
    · exact ⟨gd_row (by rw [List.length_map]; omega), isW_sum (.inl (by rw [zsum]; omega))⟩
    · refine ⟨⟨by rw [List.length_map]; omega, fun y hy => ?_⟩, rfl⟩
      obtain ⟨i, _, rfl⟩ := List.mem_map.mp hy
      trivial
    · exact ⟨gd_row (by rw [List.length_append, List.length_singleton]; omega), isW_len (by rw [List.length_map, List.length_append, List.length_singleton]; omega)⟩
    · exact ⟨gd_row (by omega), isW_len (by rw [List.length_map]; omega)⟩
    · refine ⟨⟨by rw [List.length_append, List.length_map, List.length_singleton]; omega, fun y hy => ?_⟩, isW_mem (y := .bool true) (by simp) rfl⟩
      rcases List.mem_append.mp hy with hy | hy
      · obtain ⟨i, _, rfl⟩ := List.mem_map.mp hy
        trivial
      · simp at hy
        rw [hy]
        trivial
    · exact ⟨trivial, rfl⟩
  have st3 : m_law_s3 [some (.d (scr ns)), some (.ml false z2), some (.d (.int k)), some (.d (mkS qs gs)), some (.d (mkRow ws)), DU, some (.d (mkRow F)), some (.d (mkRow OV)), some (.d (mkRow ((w0 - ws.sum - 1) :: vs))), some (.d (mkRow (ws.map fun _ => 0))), none, none, none] = .ok .nx [some (.d (scr ns)), some (.ml false z2), some (.d (.int k)), some (.d (mkS qs gs)), some (.d (mkRow ws)), DU, some (.d (mkRow F)), some (.d (mkRow OV)), some (.d (mkRow ((w0 - ws.sum - 1) :: vs))), some (.d (mkRow (ws.map fun _ => 0))), none, none, none] := by
    have lp := loop_same (b := bName 10) (body := m_law_b2) (mk := id) (g := [some (.d (scr ns)), some (.ml false z2), some (.d (.int k)), some (.d (mkS qs gs)), some (.d (mkRow ws)), DU, some (.d (mkRow F)), some (.d (mkRow OV)), some (.d (mkRow ((w0 - ws.sum - 1) :: vs))), some (.d (mkRow (ws.map fun _ => 0))), none, none, none]) [mkRow OV, mkRow ((w0 - ws.sum - 1) :: vs), mkRow (ws.map fun _ => 0), .list (ws.map PyData.int), mkRow (ws ++ [0]), mkRow vs, .tuple (us.map PyData.int ++ [.bool true]), .none] (fun x hx => by
      refine ⟨_, rfl, ?_⟩
      exact k7_wrong h x (hwrong x hx).1 (hwrong x hx).2)
    rw [List.map_id] at lp
    have sq : seqD (mkRow ws) = some (ws.map PyData.int) := rfl
    rw [m_law_s3, sFor_app]
    wp_walk using seqA, sq, one_row, a4, i4, neg_one, i2, a5, itemsD, lp
  refine ⟨z2, s2.mono (by omega), ?_⟩
  rw [m_law_b13, sSeq_app, st12, seq_nx, sSeq_app, st11, seq_nx, sSeq_app, st10, seq_nx, sSeq_app, st9, seq_nx, sSeq_app, st8, seq_nx, sSeq_app, st7, seq_nx, sSeq_app, st6, seq_nx, sSeq_app, st5, seq_nx, sSeq_app, st4, seq_nx, sSeq_app, st3, seq_nx]
  rw [← hdue]
  wp_walk
theorem k7_law (ns : List Int) (hn : ns.length ≤ 63) : runP 13 m_law [.list (ns.map PyData.int)] = .ok (.bool true) := by
  rw [m_law, m_law_s14]
  exact law_done (m := 10) (N := 8) (C := 200) (B := 500000) (by omega) (by omega) (fun zs b k _ hs hb => k7_body hn hs hb) rfl rfl
end
end PP

namespace Hd
open PySem PySem.Spec PyProof.Rows L2
def top (i : Nat) : Stmt := PySem.Challenge.pw_jointtables_k07_models_from_weights.main.body.getD i (.Pass ⟨0, 0, 0, 0⟩)
def dd (i : Nat) (n : Str) : He.DefD := ⟨(n, none), n, n, defArgs (top i), defBody (top i), defScope (top i), [], []⟩
def fn : List He.DefD := [dd 5 "is_integer", dd 6 "is_ascending", dd 7 "is_name", dd 8 "is_question", dd 9 "product", dd 10 "are_questions", dd 11 "is_name_tuple", dd 12 "contains", dd 13 "cell_count", dd 14 "is_scenario", dd 15 "require_scenario", dd 16 "known_names", dd 17 "cells", dd 18 "all_assignments", dd 19 "restrict", dd 21 "is_count_tuple", dd 22 "summed", dd 23 "tables_of", dd 24 "model_of", dd 26 "_law_same", dd 27 "_law_draw", dd 28 "_law_pick", dd 29 "_law_shuffled", dd 30 "_law_cells", dd 31 "_law_part", dd 32 "_law_names", dd 33 "_law_groups_from", dd 34 "_law_scenario", dd 35 "_law_sums", dd 36 "_law_weights", dd 37 "_law_model_of_or", dd 38 "law"]
def fa : List He.Fa := [.glo "is_integer", .glo "is_ascending", .glo "is_name", .glo "is_question", .glo "product", .glo "are_questions", .glo "is_name_tuple", .glo "contains", .glo "cell_count", .glo "is_scenario", .glo "require_scenario", .glo "known_names", .glo "cells", .glo "all_assignments", .glo "restrict", .glo "is_count_tuple", .glo "summed", .glo "tables_of", .glo "model_of", .glo "_law_same", .glo "_law_draw", .glo "_law_pick", .glo "_law_shuffled", .glo "_law_cells", .glo "_law_part", .glo "_law_names", .glo "_law_groups_from", .glo "_law_scenario", .glo "_law_sums", .glo "_law_weights", .glo "_law_model_of_or", .glo "law", .glo "TableError", .glo "InvalidScenario", .glo "InvalidWeights", .free "ValueError", .free "abs", .free "all", .free "any", .free "bool", .free "dict", .free "enumerate", .free "int", .free "isinstance", .free "len", .free "list", .free "max", .free "range", .free "sorted", .free "str", .free "sum", .free "tuple", .free "zip", .exc "InvalidScenario", .exc "InvalidWeights", .exm "InvalidScenario" "InvalidScenario" true, .exm "InvalidScenario" "InvalidWeights" false, .exm "InvalidWeights" "InvalidScenario" false, .exm "InvalidWeights" "InvalidWeights" true]
abbrev R : PySem.W.OpenRow := PySem.W.OpenLaw.row PySem.Challenge.rw_jointtables_k07_models_from_weights
abbrev hk : PySem.W.Hook := He.hookD 4 fa fn
def ob (s : PySem.W.SharedT) : He.AlD := He.obsDG 4 fa fn (HandSHeadRun.getT s)
theorem ob_eq (s : PySem.W.SharedT) : ob s = hk.obs s.abs := He.obsDG_eq (HandSHeadRun.getT_eq s)
def names : List PySem.Str := [("is_integer" : PySem.Str), ("is_ascending" : PySem.Str), ("is_name" : PySem.Str), ("is_question" : PySem.Str), ("product" : PySem.Str), ("are_questions" : PySem.Str), ("is_name_tuple" : PySem.Str), ("contains" : PySem.Str), ("cell_count" : PySem.Str), ("is_scenario" : PySem.Str), ("require_scenario" : PySem.Str), ("known_names" : PySem.Str), ("cells" : PySem.Str), ("all_assignments" : PySem.Str), ("restrict" : PySem.Str), ("is_count_tuple" : PySem.Str), ("summed" : PySem.Str), ("tables_of" : PySem.Str), ("model_of" : PySem.Str), ("_law_same" : PySem.Str), ("_law_draw" : PySem.Str), ("_law_pick" : PySem.Str), ("_law_shuffled" : PySem.Str), ("_law_cells" : PySem.Str), ("_law_part" : PySem.Str), ("_law_names" : PySem.Str), ("_law_groups_from" : PySem.Str), ("_law_scenario" : PySem.Str), ("_law_sums" : PySem.Str), ("_law_weights" : PySem.Str), ("_law_model_of_or" : PySem.Str), ("TableError" : PySem.Str), ("InvalidScenario" : PySem.Str), ("InvalidWeights" : PySem.Str)]
theorem run (w : World) : HandSHeadRun.RunEq R (PySem.W.view R.prog [38]) hk ob 4000 names w := by
  intro os
  kernel_rfl
end Hd

namespace PP
open PySem PySem.Spec L2
open PyProof.Rows hiding St
abbrev excs : List Str := ["InvalidScenario", "InvalidWeights"]
theorem sc_is_integer : FnScope ["candidate"] ["candidate"] (defScope (Hd.top 5)) := ⟨rfl, rfl, rfl, by decide +kernel, rfl, by decide +kernel, by decide +kernel⟩
theorem w_is_integer {P : Program} {w : World} {K : PySem.W.Frag} {mg : Str → Option Value} {base h : Heap} (KX : K.In h) (G : h.Ns mainGlobals mg) (c : He.SaysD Hd.fa Hd.fn K) (EX : ExcF K mg excs) (EM : ExcM K excs) : Has P w K mg base 1 "is_integer" 1 p_is_integer := by
  obtain ⟨fd, F⟩ := c.def_ 0 (d := Hd.dd 5 "is_integer") rfl
  refine ⟨_, fd, ["candidate"], ?_, He.glo_ok KX G (c.fact 0 (f := .glo "is_integer") rfl), F.kp, F.bindsN fun _ _ _ _ _ _ us hl => match us, hl with | [_], _ => rfl⟩
  have g_bool : mg "bool" = none := He.free_ok KX G (c.fact 39 (f := .free "bool") rfl)
  have g_int : mg "int" = none := He.free_ok KX G (c.fact 42 (f := .free "int") rfl)
  have g_isinstance : mg "isinstance" = none := He.free_ok KX G (c.fact 43 (f := .free "isinstance") rfl)
  have hN := sc_is_integer.nd
  refine fn_pure F sc_is_integer ?_
  rintro ⟨prog, w', K', mg', bs, A, N, s0, H0, ⟨scope, locs, gls, cells, qual, func, code, frame, blts⟩, outer, stack, ex, fn, calm, pn, xe⟩ E h1 h2 h3 h4 h5 h6 h7 hc hf hst hfr hr tk hp
  cases h1; cases h2; cases h3; cases h4; cases h5; cases h6; cases h7; cases hc; cases hf
  have hu : A.units + 64 < cLine := by have := hr.un; simp only at this; omega
  exact r_end (r_ret (r_and (r_isi (T := "int") g_isinstance g_int (by rfl) (r_var 0)) (r_one (r_not (r_isi (T := "bool") g_isinstance g_bool (by rfl) (r_var 0))))))
theorem sc_is_ascending : FnScope ["row", "one", "other"] ["row"] (defScope (Hd.top 6)) := ⟨rfl, rfl, rfl, by decide +kernel, rfl, by decide +kernel, by decide +kernel⟩
theorem w_is_ascending {P : Program} {w : World} {K : PySem.W.Frag} {mg : Str → Option Value} {base h : Heap} (KX : K.In h) (G : h.Ns mainGlobals mg) (c : He.SaysD Hd.fa Hd.fn K) (EX : ExcF K mg excs) (EM : ExcM K excs) : Has P w K mg base 1 "is_ascending" 1 p_is_ascending := by
  obtain ⟨fd, F⟩ := c.def_ 1 (d := Hd.dd 6 "is_ascending") rfl
  refine ⟨_, fd, ["row"], ?_, He.glo_ok KX G (c.fact 1 (f := .glo "is_ascending") rfl), F.kp, F.bindsN fun _ _ _ _ _ _ us hl => match us, hl with | [_], _ => rfl⟩
  have g_all : mg "all" = none := He.free_ok KX G (c.fact 37 (f := .free "all") rfl)
  have g_zip : mg "zip" = none := He.free_ok KX G (c.fact 52 (f := .free "zip") rfl)
  have hN := sc_is_ascending.nd
  refine fn_pure F sc_is_ascending ?_
  rintro ⟨prog, w', K', mg', bs, A, N, s0, H0, ⟨scope, locs, gls, cells, qual, func, code, frame, blts⟩, outer, stack, ex, fn, calm, pn, xe⟩ E h1 h2 h3 h4 h5 h6 h7 hc hf hst hfr hr tk hp
  cases h1; cases h2; cases h3; cases h4; cases h5; cases h6; cases h7; cases hc; cases hf
  have hu : A.units + 64 < cLine := by have := hr.un; simp only at this; omega
  exact r_end (r_ret (r_blt (c_all rfl) g_all (by rfl) (r_cons (r_fzL (r_lc  rfl hN (r_zip g_zip (r_cons (r_var 0) (r_cons (r_sl (r_var 0) (r_ps (r_int)) (r_pn)) (r_nil)))) (own := [("one", 1), ("other", 2)]) (us := [1, 2]) (blk_of (by kernel_rfl)) (by decide) (fun s H C cl fp => r_gtup rfl (r_gcons (r_name hN) (r_gcons (r_name hN) (r_gnil)))) (fun s H C cl fp => r_ifs0) (fun s H C cl fp => r_cmp (o_lt hu) (r_var 1) (r_var 2)))) (r_nil))))
theorem sc_is_name : FnScope ["candidate", "sign"] ["candidate"] (defScope (Hd.top 7)) := ⟨rfl, rfl, rfl, by decide +kernel, rfl, by decide +kernel, by decide +kernel⟩
theorem w_is_name {P : Program} {w : World} {K : PySem.W.Frag} {mg : Str → Option Value} {base h : Heap} (KX : K.In h) (G : h.Ns mainGlobals mg) (c : He.SaysD Hd.fa Hd.fn K) (EX : ExcF K mg excs) (EM : ExcM K excs) : Has P w K mg base 1 "is_name" 1 p_is_name := by
  obtain ⟨fd, F⟩ := c.def_ 2 (d := Hd.dd 7 "is_name") rfl
  refine ⟨_, fd, ["candidate"], ?_, He.glo_ok KX G (c.fact 2 (f := .glo "is_name") rfl), F.kp, F.bindsN fun _ _ _ _ _ _ us hl => match us, hl with | [_], _ => rfl⟩
  have g_all : mg "all" = none := He.free_ok KX G (c.fact 37 (f := .free "all") rfl)
  have g_isinstance : mg "isinstance" = none := He.free_ok KX G (c.fact 43 (f := .free "isinstance") rfl)
  have g_len : mg "len" = none := He.free_ok KX G (c.fact 44 (f := .free "len") rfl)
  have g_str : mg "str" = none := He.free_ok KX G (c.fact 49 (f := .free "str") rfl)
  have hN := sc_is_name.nd
  refine fn_pure F sc_is_name ?_
  rintro ⟨prog, w', K', mg', bs, A, N, s0, H0, ⟨scope, locs, gls, cells, qual, func, code, frame, blts⟩, outer, stack, ex, fn, calm, pn, xe⟩ E h1 h2 h3 h4 h5 h6 h7 hc hf hst hfr hr tk hp
  cases h1; cases h2; cases h3; cases h4; cases h5; cases h6; cases h7; cases hc; cases hf
  have hu : A.units + 64 < cLine := by have := hr.un; simp only at this; omega
  exact r_end (r_ret (r_and (r_isi (T := "str") g_isinstance g_str (by rfl) (r_var 0)) (r_and (r_chain (o_le hu) (o_le hu) (r_int) (r_blt (c_len) g_len (by rfl) (r_cons (r_var 0) (r_nil))) (r_int)) (r_one (r_blt (c_all rfl) g_all (by rfl) (r_cons (r_fzL (r_lc  rfl hN (r_iter (r_var 0)) (own := [("sign", 1)]) (us := [1]) (blk_of (by kernel_rfl)) (by decide) (fun s H C cl fp => r_name hN) (fun s H C cl fp => r_ifs0) (fun s H C cl fp => r_chain (o_le hu) (o_le hu) (r_str) (r_var 1) (r_str)))) (r_nil)))))))
theorem sc_is_question : FnScope ["candidate"] ["candidate"] (defScope (Hd.top 8)) := ⟨rfl, rfl, rfl, by decide +kernel, rfl, by decide +kernel, by decide +kernel⟩
theorem w_is_question {P : Program} {w : World} {K : PySem.W.Frag} {mg : Str → Option Value} {base h : Heap} (KX : K.In h) (G : h.Ns mainGlobals mg) (c : He.SaysD Hd.fa Hd.fn K) (EX : ExcF K mg excs) (EM : ExcM K excs) : Has P w K mg base 2 "is_question" 1 p_is_question := by
  obtain ⟨fd, F⟩ := c.def_ 3 (d := Hd.dd 8 "is_question") rfl
  refine ⟨_, fd, ["candidate"], ?_, He.glo_ok KX G (c.fact 3 (f := .glo "is_question") rfl), F.kp, F.bindsN fun _ _ _ _ _ _ us hl => match us, hl with | [_], _ => rfl⟩
  have g_isinstance : mg "isinstance" = none := He.free_ok KX G (c.fact 43 (f := .free "isinstance") rfl)
  have g_len : mg "len" = none := He.free_ok KX G (c.fact 44 (f := .free "len") rfl)
  have g_tuple : mg "tuple" = none := He.free_ok KX G (c.fact 51 (f := .free "tuple") rfl)
  have F_is_integer := w_is_integer (P := P) (w := w) (base := base) KX G c EX EM
  have F_is_name := w_is_name (P := P) (w := w) (base := base) KX G c EX EM
  have hN := sc_is_question.nd
  refine fn_pure F sc_is_question ?_
  rintro ⟨prog, w', K', mg', bs, A, N, s0, H0, ⟨scope, locs, gls, cells, qual, func, code, frame, blts⟩, outer, stack, ex, fn, calm, pn, xe⟩ E h1 h2 h3 h4 h5 h6 h7 hc hf hst hfr hr tk hp
  cases h1; cases h2; cases h3; cases h4; cases h5; cases h6; cases h7; cases hc; cases hf
  have hu : A.units + 64 < cLine := by have := hr.un; simp only at this; omega
  exact r_seq (r_if (r_tw (r_tor (r_tnot (r_tru (r_isi (T := "tuple") g_isinstance g_tuple (by rfl) (r_var 0)))) (r_tor (r_tcmp (o_ne hu) (r_blt (c_len) g_len (by rfl) (r_cons (r_var 0) (r_nil))) (r_int)) (r_tor1 (r_tnot (r_tru (r_call F_is_name (hr.mono (by omega)) tk (r_cons (r_ix hu (r_var 0) (r_int)) (r_nil))))))))) (r_end (r_ret (r_bl))) (r_empty)) (r_end (r_ret (r_and (r_call F_is_integer (hr.mono (by omega)) tk (r_cons (r_ix hu (r_var 0) (r_int)) (r_nil))) (r_one (r_chain (o_le hu) (o_le hu) (r_int) (r_ix hu (r_var 0) (r_int)) (r_int))))))
theorem sc_product : FnScope ["numbers", "result", "number"] ["numbers"] (defScope (Hd.top 9)) := ⟨rfl, rfl, rfl, by decide +kernel, rfl, by decide +kernel, by decide +kernel⟩
theorem w_product {P : Program} {w : World} {K : PySem.W.Frag} {mg : Str → Option Value} {base h : Heap} (KX : K.In h) (G : h.Ns mainGlobals mg) (c : He.SaysD Hd.fa Hd.fn K) (EX : ExcF K mg excs) (EM : ExcM K excs) : Has P w K mg base 1 "product" 1 p_product := by
  obtain ⟨fd, F⟩ := c.def_ 4 (d := Hd.dd 9 "product") rfl
  refine ⟨_, fd, ["numbers"], ?_, He.glo_ok KX G (c.fact 4 (f := .glo "product") rfl), F.kp, F.bindsN fun _ _ _ _ _ _ us hl => match us, hl with | [_], _ => rfl⟩
  have hN := sc_product.nd
  refine fn_pure F sc_product ?_
  rintro ⟨prog, w', K', mg', bs, A, N, s0, H0, ⟨scope, locs, gls, cells, qual, func, code, frame, blts⟩, outer, stack, ex, fn, calm, pn, xe⟩ E h1 h2 h3 h4 h5 h6 h7 hc hf hst hfr hr tk hp
  cases h1; cases h2; cases h3; cases h4; cases h5; cases h6; cases h7; cases hc; cases hf
  have hu : A.units + 64 < cLine := by have := hr.un; simp only at this; omega
  exact r_seq (r_set (i := 1) hN (r_int)) (r_seq (r_for hp rfl (r_iter (r_var 0)) (r_name hN) (r_end (r_aug (i := 1) io_mul hN (r_var 2)))) (r_end (r_ret (r_var 1))))
theorem sc_are_questions : FnScope ["candidate", "one"] ["candidate"] (defScope (Hd.top 10)) := ⟨rfl, rfl, rfl, by decide +kernel, rfl, by decide +kernel, by decide +kernel⟩
theorem w_are_questions {P : Program} {w : World} {K : PySem.W.Frag} {mg : Str → Option Value} {base h : Heap} (KX : K.In h) (G : h.Ns mainGlobals mg) (c : He.SaysD Hd.fa Hd.fn K) (EX : ExcF K mg excs) (EM : ExcM K excs) : Has P w K mg base 3 "are_questions" 1 p_are_questions := by
  obtain ⟨fd, F⟩ := c.def_ 5 (d := Hd.dd 10 "are_questions") rfl
  refine ⟨_, fd, ["candidate"], ?_, He.glo_ok KX G (c.fact 5 (f := .glo "are_questions") rfl), F.kp, F.bindsN fun _ _ _ _ _ _ us hl => match us, hl with | [_], _ => rfl⟩
  have g_all : mg "all" = none := He.free_ok KX G (c.fact 37 (f := .free "all") rfl)
  have g_isinstance : mg "isinstance" = none := He.free_ok KX G (c.fact 43 (f := .free "isinstance") rfl)
  have g_len : mg "len" = none := He.free_ok KX G (c.fact 44 (f := .free "len") rfl)
  have g_tuple : mg "tuple" = none := He.free_ok KX G (c.fact 51 (f := .free "tuple") rfl)
  have F_is_ascending := w_is_ascending (P := P) (w := w) (base := base) KX G c EX EM
  have F_is_question := w_is_question (P := P) (w := w) (base := base) KX G c EX EM
  have F_product := w_product (P := P) (w := w) (base := base) KX G c EX EM
  have hN := sc_are_questions.nd
  refine fn_pure F sc_are_questions ?_
  rintro ⟨prog, w', K', mg', bs, A, N, s0, H0, ⟨scope, locs, gls, cells, qual, func, code, frame, blts⟩, outer, stack, ex, fn, calm, pn, xe⟩ E h1 h2 h3 h4 h5 h6 h7 hc hf hst hfr hr tk hp
  cases h1; cases h2; cases h3; cases h4; cases h5; cases h6; cases h7; cases hc; cases hf
  have hu : A.units + 64 < cLine := by have := hr.un; simp only at this; omega
  exact r_seq (r_if (r_tw (r_tor (r_tnot (r_tru (r_isi (T := "tuple") g_isinstance g_tuple (by rfl) (r_var 0)))) (r_tor1 (r_tnot (r_tchain (o_le hu) (o_le hu) (r_int) (r_blt (c_len) g_len (by rfl) (r_cons (r_var 0) (r_nil))) (r_int)))))) (r_end (r_ret (r_bl))) (r_empty)) (r_seq (r_if (r_tnot (r_tru (r_blt (c_all rfl) g_all (by rfl) (r_cons (r_fzL (r_lc  rfl hN (r_iter (r_var 0)) (own := [("one", 1)]) (us := [1]) (blk_of (by kernel_rfl)) (by decide) (fun s H C cl fp => r_name hN) (fun s H C cl fp => r_ifs0) (fun s H C cl fp => r_call F_is_question (hr.mono (by omega)) takesF (r_cons (r_var 1) (r_nil))))) (r_nil))))) (r_end (r_ret (r_bl))) (r_empty)) (r_end (r_ret (r_and (r_call F_is_ascending (hr.mono (by omega)) tk (r_cons (r_fzL (r_lc  rfl hN (r_iter (r_var 0)) (own := [("one", 1)]) (us := [1]) (blk_of (by kernel_rfl)) (by decide) (fun s H C cl fp => r_name hN) (fun s H C cl fp => r_ifs0) (fun s H C cl fp => r_ix hu (r_var 1) (r_int)))) (r_nil))) (r_one (r_cmp (o_le hu) (r_call F_product (hr.mono (by omega)) tk (r_cons (r_fzL (r_lc  rfl hN (r_iter (r_var 0)) (own := [("one", 1)]) (us := [1]) (blk_of (by kernel_rfl)) (by decide) (fun s H C cl fp => r_name hN) (fun s H C cl fp => r_ifs0) (fun s H C cl fp => r_ix hu (r_var 1) (r_int)))) (r_nil))) (r_int)))))))
theorem sc_is_name_tuple : FnScope ["known", "candidate", "one"] ["known", "candidate"] (defScope (Hd.top 11)) := ⟨rfl, rfl, rfl, by decide +kernel, rfl, by decide +kernel, by decide +kernel⟩
theorem w_is_name_tuple {P : Program} {w : World} {K : PySem.W.Frag} {mg : Str → Option Value} {base h : Heap} (KX : K.In h) (G : h.Ns mainGlobals mg) (c : He.SaysD Hd.fa Hd.fn K) (EX : ExcF K mg excs) (EM : ExcM K excs) : Has P w K mg base 2 "is_name_tuple" 2 p_is_name_tuple := by
  obtain ⟨fd, F⟩ := c.def_ 6 (d := Hd.dd 11 "is_name_tuple") rfl
  refine ⟨_, fd, ["known", "candidate"], ?_, He.glo_ok KX G (c.fact 6 (f := .glo "is_name_tuple") rfl), F.kp, F.bindsN fun _ _ _ _ _ _ us hl => match us, hl with | [_, _], _ => rfl⟩
  have g_all : mg "all" = none := He.free_ok KX G (c.fact 37 (f := .free "all") rfl)
  have g_isinstance : mg "isinstance" = none := He.free_ok KX G (c.fact 43 (f := .free "isinstance") rfl)
  have g_str : mg "str" = none := He.free_ok KX G (c.fact 49 (f := .free "str") rfl)
  have g_tuple : mg "tuple" = none := He.free_ok KX G (c.fact 51 (f := .free "tuple") rfl)
  have F_is_ascending := w_is_ascending (P := P) (w := w) (base := base) KX G c EX EM
  have hN := sc_is_name_tuple.nd
  refine fn_pure F sc_is_name_tuple ?_
  rintro ⟨prog, w', K', mg', bs, A, N, s0, H0, ⟨scope, locs, gls, cells, qual, func, code, frame, blts⟩, outer, stack, ex, fn, calm, pn, xe⟩ E h1 h2 h3 h4 h5 h6 h7 hc hf hst hfr hr tk hp
  cases h1; cases h2; cases h3; cases h4; cases h5; cases h6; cases h7; cases hc; cases hf
  have hu : A.units + 64 < cLine := by have := hr.un; simp only at this; omega
  exact r_seq (r_if (r_tw (r_tor (r_tnot (r_tru (r_isi (T := "tuple") g_isinstance g_tuple (by rfl) (r_var 1)))) (r_tor (r_tcmp (o_eq hu) (r_var 1) (r_tup (r_nil))) (r_tor1 (r_tnot (r_tru (r_blt (c_all rfl) g_all (by rfl) (r_cons (r_fzL (r_lc  rfl hN (r_iter (r_var 1)) (own := [("one", 2)]) (us := [2]) (blk_of (by kernel_rfl)) (by decide) (fun s H C cl fp => r_name hN) (fun s H C cl fp => r_ifs0) (fun s H C cl fp => r_isi (T := "str") g_isinstance g_str (by rfl) (r_var 2)))) (r_nil))))))))) (r_end (r_ret (r_bl))) (r_empty)) (r_end (r_ret (r_and (r_call F_is_ascending (hr.mono (by omega)) tk (r_cons (r_var 1) (r_nil))) (r_one (r_blt (c_all rfl) g_all (by rfl) (r_cons (r_fzL (r_lc  rfl hN (r_iter (r_var 1)) (own := [("one", 2)]) (us := [2]) (blk_of (by kernel_rfl)) (by decide) (fun s H C cl fp => r_name hN) (fun s H C cl fp => r_ifs0) (fun s H C cl fp => r_cmp (o_in hu) (r_var 2) (r_var 0)))) (r_nil)))))))
theorem sc_contains : FnScope ["larger", "smaller", "name"] ["larger", "smaller"] (defScope (Hd.top 12)) := ⟨rfl, rfl, rfl, by decide +kernel, rfl, by decide +kernel, by decide +kernel⟩
theorem w_contains {P : Program} {w : World} {K : PySem.W.Frag} {mg : Str → Option Value} {base h : Heap} (KX : K.In h) (G : h.Ns mainGlobals mg) (c : He.SaysD Hd.fa Hd.fn K) (EX : ExcF K mg excs) (EM : ExcM K excs) : Has P w K mg base 1 "contains" 2 p_contains := by
  obtain ⟨fd, F⟩ := c.def_ 7 (d := Hd.dd 12 "contains") rfl
  refine ⟨_, fd, ["larger", "smaller"], ?_, He.glo_ok KX G (c.fact 7 (f := .glo "contains") rfl), F.kp, F.bindsN fun _ _ _ _ _ _ us hl => match us, hl with | [_, _], _ => rfl⟩
  have g_all : mg "all" = none := He.free_ok KX G (c.fact 37 (f := .free "all") rfl)
  have hN := sc_contains.nd
  refine fn_pure F sc_contains ?_
  rintro ⟨prog, w', K', mg', bs, A, N, s0, H0, ⟨scope, locs, gls, cells, qual, func, code, frame, blts⟩, outer, stack, ex, fn, calm, pn, xe⟩ E h1 h2 h3 h4 h5 h6 h7 hc hf hst hfr hr tk hp
  cases h1; cases h2; cases h3; cases h4; cases h5; cases h6; cases h7; cases hc; cases hf
  have hu : A.units + 64 < cLine := by have := hr.un; simp only at this; omega
  exact r_end (r_ret (r_blt (c_all rfl) g_all (by rfl) (r_cons (r_fzL (r_lc  rfl hN (r_iter (r_var 1)) (own := [("name", 2)]) (us := [2]) (blk_of (by kernel_rfl)) (by decide) (fun s H C cl fp => r_name hN) (fun s H C cl fp => r_ifs0) (fun s H C cl fp => r_cmp (o_in hu) (r_var 2) (r_var 0)))) (r_nil))))
theorem sc_cell_count : FnScope ["questions", "groups", "counts", "group", "name"] ["questions", "groups"] (defScope (Hd.top 13)) := ⟨rfl, rfl, rfl, by decide +kernel, rfl, by decide +kernel, by decide +kernel⟩
theorem w_cell_count {P : Program} {w : World} {K : PySem.W.Frag} {mg : Str → Option Value} {base h : Heap} (KX : K.In h) (G : h.Ns mainGlobals mg) (c : He.SaysD Hd.fa Hd.fn K) (EX : ExcF K mg excs) (EM : ExcM K excs) : Has P w K mg base 2 "cell_count" 2 p_cell_count := by
  obtain ⟨fd, F⟩ := c.def_ 8 (d := Hd.dd 13 "cell_count") rfl
  refine ⟨_, fd, ["questions", "groups"], ?_, He.glo_ok KX G (c.fact 8 (f := .glo "cell_count") rfl), F.kp, F.bindsN fun _ _ _ _ _ _ us hl => match us, hl with | [_, _], _ => rfl⟩
  have g_dict : mg "dict" = none := He.free_ok KX G (c.fact 40 (f := .free "dict") rfl)
  have g_sum : mg "sum" = none := He.free_ok KX G (c.fact 50 (f := .free "sum") rfl)
  have F_product := w_product (P := P) (w := w) (base := base) KX G c EX EM
  have hN := sc_cell_count.nd
  refine fn_pure F sc_cell_count ?_
  rintro ⟨prog, w', K', mg', bs, A, N, s0, H0, ⟨scope, locs, gls, cells, qual, func, code, frame, blts⟩, outer, stack, ex, fn, calm, pn, xe⟩ E h1 h2 h3 h4 h5 h6 h7 hc hf hst hfr hr tk hp
  cases h1; cases h2; cases h3; cases h4; cases h5; cases h6; cases h7; cases hc; cases hf
  have hu : A.units + 64 < cLine := by have := hr.un; simp only at this; omega
  exact r_seq (r_set (i := 2) hN (r_typ (c_dict rfl) g_dict (by rfl) (r_cons (r_var 0) (r_nil)))) (r_end (r_ret (r_blt (c_sum rfl) g_sum (by rfl) (r_cons (r_fzL (r_lc  rfl hN (r_iter (r_var 1)) (own := [("group", 3)]) (us := [3]) (blk_of (by kernel_rfl)) (by decide) (fun s H C cl fp => r_name hN) (fun s H C cl fp => r_ifs0) (fun s H C cl fp => r_call F_product (hr.mono (by omega)) takesF (r_cons (r_fzL (r_lc  rfl hN (r_iter (r_var 3)) (own := [("name", 4)]) (us := [4]) (blk_of (by kernel_rfl)) (by decide) (fun s H C cl fp => r_name hN) (fun s H C cl fp => r_ifs0) (fun s H C cl fp => r_ix hu (r_var 2) (r_var 4)))) (r_nil))))) (r_nil)))))
theorem sc_is_scenario : FnScope ["candidate", "questions", "groups", "known", "index", "group", "question", "other", "name"] ["candidate"] (defScope (Hd.top 14)) := ⟨rfl, rfl, rfl, by decide +kernel, rfl, by decide +kernel, by decide +kernel⟩
theorem w_is_scenario {P : Program} {w : World} {K : PySem.W.Frag} {mg : Str → Option Value} {base h : Heap} (KX : K.In h) (G : h.Ns mainGlobals mg) (c : He.SaysD Hd.fa Hd.fn K) (EX : ExcF K mg excs) (EM : ExcM K excs) : Has P w K mg base 4 "is_scenario" 1 p_is_scenario := by
  obtain ⟨fd, F⟩ := c.def_ 9 (d := Hd.dd 14 "is_scenario") rfl
  refine ⟨_, fd, ["candidate"], ?_, He.glo_ok KX G (c.fact 9 (f := .glo "is_scenario") rfl), F.kp, F.bindsN fun _ _ _ _ _ _ us hl => match us, hl with | [_], _ => rfl⟩
  have g_all : mg "all" = none := He.free_ok KX G (c.fact 37 (f := .free "all") rfl)
  have g_any : mg "any" = none := He.free_ok KX G (c.fact 38 (f := .free "any") rfl)
  have g_enumerate : mg "enumerate" = none := He.free_ok KX G (c.fact 41 (f := .free "enumerate") rfl)
  have g_isinstance : mg "isinstance" = none := He.free_ok KX G (c.fact 43 (f := .free "isinstance") rfl)
  have g_len : mg "len" = none := He.free_ok KX G (c.fact 44 (f := .free "len") rfl)
  have g_tuple : mg "tuple" = none := He.free_ok KX G (c.fact 51 (f := .free "tuple") rfl)
  have F_are_questions := w_are_questions (P := P) (w := w) (base := base) KX G c EX EM
  have F_cell_count := w_cell_count (P := P) (w := w) (base := base) KX G c EX EM
  have F_contains := w_contains (P := P) (w := w) (base := base) KX G c EX EM
  have F_is_ascending := w_is_ascending (P := P) (w := w) (base := base) KX G c EX EM
  have F_is_name_tuple := w_is_name_tuple (P := P) (w := w) (base := base) KX G c EX EM
  have hN := sc_is_scenario.nd
  refine fn_pure F sc_is_scenario ?_
  rintro ⟨prog, w', K', mg', bs, A, N, s0, H0, ⟨scope, locs, gls, cells, qual, func, code, frame, blts⟩, outer, stack, ex, fn, calm, pn, xe⟩ E h1 h2 h3 h4 h5 h6 h7 hc hf hst hfr hr tk hp
  cases h1; cases h2; cases h3; cases h4; cases h5; cases h6; cases h7; cases hc; cases hf
  have hu : A.units + 64 < cLine := by have := hr.un; simp only at this; omega
  exact r_seq (r_if (r_tw (r_tor (r_tnot (r_tru (r_isi (T := "tuple") g_isinstance g_tuple (by rfl) (r_var 0)))) (r_tor (r_tcmp (o_ne hu) (r_blt (c_len) g_len (by rfl) (r_cons (r_var 0) (r_nil))) (r_int)) (r_tor1 (r_tnot (r_tru (r_call F_are_questions (hr.mono (by omega)) tk (r_cons (r_ix hu (r_var 0) (r_int)) (r_nil))))))))) (r_end (r_ret (r_bl))) (r_empty)) (r_seq (r_asg (r_var 0) (r_gtup rfl (r_gcons (r_name hN) (r_gcons (r_name hN) (r_gnil))))) (r_seq ((by first | exact r_setLc (i := 3) (hsw := rfl) rfl hN (r_iter (r_var 1)) (own := [("question", 6)]) (us := [6]) (blk_of (by kernel_rfl)) (by decide) (fun s H C cl fp => r_name hN) (fun s H C cl fp => r_ifs0) (fun s H C cl fp => r_ix hu (r_var 6) (r_int)) | exact r_setL (i := 3) hN (r_lc  rfl hN (r_iter (r_var 1)) (own := [("question", 6)]) (us := [6]) (blk_of (by kernel_rfl)) (by decide) (fun s H C cl fp => r_name hN) (fun s H C cl fp => r_ifs0) (fun s H C cl fp => r_ix hu (r_var 6) (r_int))))) (r_frz (i := 3) (r_seq (r_if (r_tw (r_tor (r_tnot (r_tru (r_isi (T := "tuple") g_isinstance g_tuple (by rfl) (r_var 2)))) (r_tor1 (r_tnot (r_tchain (o_le hu) (o_le hu) (r_int) (r_blt (c_len) g_len (by rfl) (r_cons (r_var 2) (r_nil))) (r_int)))))) (r_end (r_ret (r_bl))) (r_empty)) (r_seq (r_if (r_tw (r_tor (r_tnot (r_tru (r_blt (c_all rfl) g_all (by rfl) (r_cons (r_fzL (r_lc  rfl hN (r_iter (r_var 2)) (own := [("group", 5)]) (us := [5]) (blk_of (by kernel_rfl)) (by decide) (fun s H C cl fp => r_name hN) (fun s H C cl fp => r_ifs0) (fun s H C cl fp => r_call F_is_name_tuple (hr.mono (by omega)) takesF (r_cons (r_var 3) (r_cons (r_var 5) (r_nil)))))) (r_nil))))) (r_tor1 (r_tnot (r_tru (r_call F_is_ascending (hr.mono (by omega)) tk (r_cons (r_var 2) (r_nil)))))))) (r_end (r_ret (r_bl))) (r_empty)) (r_seq (r_for hp rfl (r_enum g_enumerate (r_cons (r_var 2) (r_nil))) (r_gtup rfl (r_gcons (r_name hN) (r_gcons (r_name hN) (r_gnil)))) (r_end (r_if (r_tru (r_blt (c_any rfl) g_any (by rfl) (r_cons (r_fzL (r_lc  rfl hN (r_iter (r_bin o_add (r_sl (r_var 2) (r_pn) (r_ps (r_var 4))) (r_sl (r_var 2) (r_ps (r_bin o_add (r_var 4) (r_int))) (r_pn)))) (own := [("other", 7)]) (us := [7]) (blk_of (by kernel_rfl)) (by decide) (fun s H C cl fp => r_name hN) (fun s H C cl fp => r_ifs0) (fun s H C cl fp => r_call F_contains (hr.mono (by omega)) takesF (r_cons (r_var 7) (r_cons (r_var 5) (r_nil)))))) (r_nil)))) (r_end (r_ret (r_bl))) (r_empty)))) (r_seq (r_if (r_tnot (r_tru (r_blt (c_all rfl) g_all (by rfl) (r_cons (r_fzL (r_lc  rfl hN (r_iter (r_var 3)) (own := [("name", 8)]) (us := [8]) (blk_of (by kernel_rfl)) (by decide) (fun s H C cl fp => r_name hN) (fun s H C cl fp => r_ifs0) (fun s H C cl fp => r_blt (c_any rfl) g_any (by rfl) (r_cons (r_fzL (r_lc  rfl hN (r_iter (r_var 2)) (own := [("group", 5)]) (us := [5]) (blk_of (by kernel_rfl)) (by decide) (fun s H C cl fp => r_name hN) (fun s H C cl fp => r_ifs0) (fun s H C cl fp => r_cmp (o_in hu) (r_var 8) (r_var 5)))) (r_nil))))) (r_nil))))) (r_end (r_ret (r_bl))) (r_empty)) (r_end (r_ret (r_cmp (o_le hu) (r_call F_cell_count (hr.mono (by omega)) tk (r_cons (r_var 1) (r_cons (r_var 2) (r_nil)))) (r_int)))))))))))
theorem sc_require_scenario : FnScope ["scenario"] ["scenario"] (defScope (Hd.top 15)) := ⟨rfl, rfl, rfl, by decide +kernel, rfl, by decide +kernel, by decide +kernel⟩
theorem w_require_scenario {P : Program} {w : World} {K : PySem.W.Frag} {mg : Str → Option Value} {base h : Heap} (KX : K.In h) (G : h.Ns mainGlobals mg) (c : He.SaysD Hd.fa Hd.fn K) (EX : ExcF K mg excs) (EM : ExcM K excs) : Has P w K mg base 5 "require_scenario" 1 p_require_scenario := by
  obtain ⟨fd, F⟩ := c.def_ 10 (d := Hd.dd 15 "require_scenario") rfl
  refine ⟨_, fd, ["scenario"], ?_, He.glo_ok KX G (c.fact 10 (f := .glo "require_scenario") rfl), F.kp, F.bindsN fun _ _ _ _ _ _ us hl => match us, hl with | [_], _ => rfl⟩
  have F_is_scenario := w_is_scenario (P := P) (w := w) (base := base) KX G c EX EM
  have hN := sc_require_scenario.nd
  refine fn_pure F sc_require_scenario ?_
  rintro ⟨prog, w', K', mg', bs, A, N, s0, H0, ⟨scope, locs, gls, cells, qual, func, code, frame, blts⟩, outer, stack, ex, fn, calm, pn, xe⟩ E h1 h2 h3 h4 h5 h6 h7 hc hf hst hfr hr tk hp
  cases h1; cases h2; cases h3; cases h4; cases h5; cases h6; cases h7; cases hc; cases hf
  have hu : A.units + 64 < cLine := by have := hr.un; simp only at this; omega
  exact r_end (r_if (r_tnot (r_tru (r_call F_is_scenario (hr.mono (by omega)) tk (r_cons (r_var 0) (r_nil))))) (r_end (r_raise rfl tk (exc_ok (EX "InvalidScenario" (by decide +kernel))))) (r_empty))
theorem sc_known_names : FnScope ["scenario", "question"] ["scenario"] (defScope (Hd.top 16)) := ⟨rfl, rfl, rfl, by decide +kernel, rfl, by decide +kernel, by decide +kernel⟩
theorem w_known_names {P : Program} {w : World} {K : PySem.W.Frag} {mg : Str → Option Value} {base h : Heap} (KX : K.In h) (G : h.Ns mainGlobals mg) (c : He.SaysD Hd.fa Hd.fn K) (EX : ExcF K mg excs) (EM : ExcM K excs) : Has P w K mg base 1 "known_names" 1 p_known_names := by
  obtain ⟨fd, F⟩ := c.def_ 11 (d := Hd.dd 16 "known_names") rfl
  refine ⟨_, fd, ["scenario"], ?_, He.glo_ok KX G (c.fact 11 (f := .glo "known_names") rfl), F.kp, F.bindsN fun _ _ _ _ _ _ us hl => match us, hl with | [_], _ => rfl⟩
  have g_tuple : mg "tuple" = none := He.free_ok KX G (c.fact 51 (f := .free "tuple") rfl)
  have hN := sc_known_names.nd
  refine fn_pure F sc_known_names ?_
  rintro ⟨prog, w', K', mg', bs, A, N, s0, H0, ⟨scope, locs, gls, cells, qual, func, code, frame, blts⟩, outer, stack, ex, fn, calm, pn, xe⟩ E h1 h2 h3 h4 h5 h6 h7 hc hf hst hfr hr tk hp
  cases h1; cases h2; cases h3; cases h4; cases h5; cases h6; cases h7; cases hc; cases hf
  have hu : A.units + 64 < cLine := by have := hr.un; simp only at this; omega
  exact r_end (r_ret (r_typ (c_tup) g_tuple (by rfl) (r_cons (r_fzL (r_lc  rfl hN (r_iter (r_ix hu (r_var 0) (r_int))) (own := [("question", 1)]) (us := [1]) (blk_of (by kernel_rfl)) (by decide) (fun s H C cl fp => r_name hN) (fun s H C cl fp => r_ifs0) (fun s H C cl fp => r_ix hu (r_var 1) (r_int)))) (r_nil))))
theorem sc_cells : FnScope ["scenario", "names", "counts", "rows", "name", "row", "answer"] ["scenario", "names"] (defScope (Hd.top 17)) := ⟨rfl, rfl, rfl, by decide +kernel, rfl, by decide +kernel, by decide +kernel⟩
theorem w_cells {P : Program} {w : World} {K : PySem.W.Frag} {mg : Str → Option Value} {base h : Heap} (KX : K.In h) (G : h.Ns mainGlobals mg) (c : He.SaysD Hd.fa Hd.fn K) (EX : ExcF K mg excs) (EM : ExcM K excs) : Has P w K mg base 1 "cells" 2 p_cells := by
  obtain ⟨fd, F⟩ := c.def_ 12 (d := Hd.dd 17 "cells") rfl
  refine ⟨_, fd, ["scenario", "names"], ?_, He.glo_ok KX G (c.fact 12 (f := .glo "cells") rfl), F.kp, F.bindsN fun _ _ _ _ _ _ us hl => match us, hl with | [_, _], _ => rfl⟩
  have g_dict : mg "dict" = none := He.free_ok KX G (c.fact 40 (f := .free "dict") rfl)
  have g_range : mg "range" = none := He.free_ok KX G (c.fact 47 (f := .free "range") rfl)
  have hN := sc_cells.nd
  refine fn_pure F sc_cells ?_
  rintro ⟨prog, w', K', mg', bs, A, N, s0, H0, ⟨scope, locs, gls, cells, qual, func, code, frame, blts⟩, outer, stack, ex, fn, calm, pn, xe⟩ E h1 h2 h3 h4 h5 h6 h7 hc hf hst hfr hr tk hp
  cases h1; cases h2; cases h3; cases h4; cases h5; cases h6; cases h7; cases hc; cases hf
  have hu : A.units + 64 < cLine := by have := hr.un; simp only at this; omega
  exact r_seq (r_asg (r_tup (r_cons (r_typ (c_dict rfl) g_dict (by rfl) (r_cons (r_ix hu (r_var 0) (r_int)) (r_nil))) (r_cons (r_lst (r_cons (r_tup (r_nil)) (r_nil))) (r_nil)))) (r_gtup rfl (r_gcons (r_name hN) (r_gcons (r_name hN) (r_gnil))))) (r_seq (r_for hp rfl (r_iter (r_var 1)) (r_name hN) (r_seq ((by first | exact r_setLc2 (i := 3) (hsw := rfl) rfl hN (r_iter (r_var 3)) (own := [("row", 5), ("answer", 6)]) (us := [5]) (us1 := [6]) (vs1 := [6]) (blk_of (by kernel_rfl)) (by decide) (by decide) (by decide) (fun s H C cl fp => r_name hN) (fun s H C cl fp => r_ifs0) (fun s H C cl fp => r_rng1 g_range (r_cons (r_ix hu (r_var 2) (r_var 4)) (r_nil))) (fun s H C cl fp => r_name hN) (fun s H C cl fp => r_ifs0) (fun s H C cl fp => r_bin o_add (r_var 5) (r_tup (r_cons (r_var 6) (r_nil)))) | exact r_setL (i := 3) hN (r_lc2  rfl hN (r_iter (r_var 3)) (own := [("row", 5), ("answer", 6)]) (us := [5]) (us1 := [6]) (vs1 := [6]) (blk_of (by kernel_rfl)) (by decide) (by decide) (by decide) (fun s H C cl fp => r_name hN) (fun s H C cl fp => r_ifs0) (fun s H C cl fp => r_rng1 g_range (r_cons (r_ix hu (r_var 2) (r_var 4)) (r_nil))) (fun s H C cl fp => r_name hN) (fun s H C cl fp => r_ifs0) (fun s H C cl fp => r_bin o_add (r_var 5) (r_tup (r_cons (r_var 6) (r_nil))))))) (r_frz (i := 3) (r_wipe (vs := [4]) r_empty)))) (r_end (r_ret (r_var 3))))
theorem sc_all_assignments : FnScope ["scenario"] ["scenario"] (defScope (Hd.top 18)) := ⟨rfl, rfl, rfl, by decide +kernel, rfl, by decide +kernel, by decide +kernel⟩
theorem w_all_assignments {P : Program} {w : World} {K : PySem.W.Frag} {mg : Str → Option Value} {base h : Heap} (KX : K.In h) (G : h.Ns mainGlobals mg) (c : He.SaysD Hd.fa Hd.fn K) (EX : ExcF K mg excs) (EM : ExcM K excs) : Has P w K mg base 2 "all_assignments" 1 p_all_assignments := by
  obtain ⟨fd, F⟩ := c.def_ 13 (d := Hd.dd 18 "all_assignments") rfl
  refine ⟨_, fd, ["scenario"], ?_, He.glo_ok KX G (c.fact 13 (f := .glo "all_assignments") rfl), F.kp, F.bindsN fun _ _ _ _ _ _ us hl => match us, hl with | [_], _ => rfl⟩
  have F_cells := w_cells (P := P) (w := w) (base := base) KX G c EX EM
  have F_known_names := w_known_names (P := P) (w := w) (base := base) KX G c EX EM
  have hN := sc_all_assignments.nd
  refine fn_pure F sc_all_assignments ?_
  rintro ⟨prog, w', K', mg', bs, A, N, s0, H0, ⟨scope, locs, gls, cells, qual, func, code, frame, blts⟩, outer, stack, ex, fn, calm, pn, xe⟩ E h1 h2 h3 h4 h5 h6 h7 hc hf hst hfr hr tk hp
  cases h1; cases h2; cases h3; cases h4; cases h5; cases h6; cases h7; cases hc; cases hf
  have hu : A.units + 64 < cLine := by have := hr.un; simp only at this; omega
  exact r_end (r_ret (r_call F_cells (hr.mono (by omega)) tk (r_cons (r_var 0) (r_cons (r_call F_known_names (hr.mono (by omega)) tk (r_cons (r_var 0) (r_nil))) (r_nil)))))
theorem sc_restrict : FnScope ["names", "combination", "fewer", "name"] ["names", "combination", "fewer"] (defScope (Hd.top 19)) := ⟨rfl, rfl, rfl, by decide +kernel, rfl, by decide +kernel, by decide +kernel⟩
theorem w_restrict {P : Program} {w : World} {K : PySem.W.Frag} {mg : Str → Option Value} {base h : Heap} (KX : K.In h) (G : h.Ns mainGlobals mg) (c : He.SaysD Hd.fa Hd.fn K) (EX : ExcF K mg excs) (EM : ExcM K excs) : Has P w K mg base 1 "restrict" 3 p_restrict := by
  obtain ⟨fd, F⟩ := c.def_ 14 (d := Hd.dd 19 "restrict") rfl
  refine ⟨_, fd, ["names", "combination", "fewer"], ?_, He.glo_ok KX G (c.fact 14 (f := .glo "restrict") rfl), F.kp, F.bindsN fun _ _ _ _ _ _ us hl => match us, hl with | [_, _, _], _ => rfl⟩
  have g_tuple : mg "tuple" = none := He.free_ok KX G (c.fact 51 (f := .free "tuple") rfl)
  have hN := sc_restrict.nd
  refine fn_pure F sc_restrict ?_
  rintro ⟨prog, w', K', mg', bs, A, N, s0, H0, ⟨scope, locs, gls, cells, qual, func, code, frame, blts⟩, outer, stack, ex, fn, calm, pn, xe⟩ E h1 h2 h3 h4 h5 h6 h7 hc hf hst hfr hr tk hp
  cases h1; cases h2; cases h3; cases h4; cases h5; cases h6; cases h7; cases hc; cases hf
  have hu : A.units + 64 < cLine := by have := hr.un; simp only at this; omega
  exact r_end (r_ret (r_typ (c_tup) g_tuple (by rfl) (r_cons (r_fzL (r_lc  rfl hN (r_iter (r_var 2)) (own := [("name", 3)]) (us := [3]) (blk_of (by kernel_rfl)) (by decide) (fun s H C cl fp => r_name hN) (fun s H C cl fp => r_ifs0) (fun s H C cl fp => r_ix hu (r_var 1) (pe_idx hu (r_var 0) (r_var 3))))) (r_nil))))
theorem sc_is_count_tuple : FnScope ["candidate", "size", "count"] ["candidate", "size"] (defScope (Hd.top 21)) := ⟨rfl, rfl, rfl, by decide +kernel, rfl, by decide +kernel, by decide +kernel⟩
theorem w_is_count_tuple {P : Program} {w : World} {K : PySem.W.Frag} {mg : Str → Option Value} {base h : Heap} (KX : K.In h) (G : h.Ns mainGlobals mg) (c : He.SaysD Hd.fa Hd.fn K) (EX : ExcF K mg excs) (EM : ExcM K excs) : Has P w K mg base 2 "is_count_tuple" 2 p_is_count_tuple := by
  obtain ⟨fd, F⟩ := c.def_ 15 (d := Hd.dd 21 "is_count_tuple") rfl
  refine ⟨_, fd, ["candidate", "size"], ?_, He.glo_ok KX G (c.fact 15 (f := .glo "is_count_tuple") rfl), F.kp, F.bindsN fun _ _ _ _ _ _ us hl => match us, hl with | [_, _], _ => rfl⟩
  have g_all : mg "all" = none := He.free_ok KX G (c.fact 37 (f := .free "all") rfl)
  have g_isinstance : mg "isinstance" = none := He.free_ok KX G (c.fact 43 (f := .free "isinstance") rfl)
  have g_len : mg "len" = none := He.free_ok KX G (c.fact 44 (f := .free "len") rfl)
  have g_tuple : mg "tuple" = none := He.free_ok KX G (c.fact 51 (f := .free "tuple") rfl)
  have F_is_integer := w_is_integer (P := P) (w := w) (base := base) KX G c EX EM
  have hN := sc_is_count_tuple.nd
  refine fn_pure F sc_is_count_tuple ?_
  rintro ⟨prog, w', K', mg', bs, A, N, s0, H0, ⟨scope, locs, gls, cells, qual, func, code, frame, blts⟩, outer, stack, ex, fn, calm, pn, xe⟩ E h1 h2 h3 h4 h5 h6 h7 hc hf hst hfr hr tk hp
  cases h1; cases h2; cases h3; cases h4; cases h5; cases h6; cases h7; cases hc; cases hf
  have hu : A.units + 64 < cLine := by have := hr.un; simp only at this; omega
  exact r_seq (r_if (r_tw (r_tor (r_tnot (r_tru (r_isi (T := "tuple") g_isinstance g_tuple (by rfl) (r_var 0)))) (r_tor1 (r_tcmp (o_ne hu) (r_blt (c_len) g_len (by rfl) (r_cons (r_var 0) (r_nil))) (r_var 1))))) (r_end (r_ret (r_bl))) (r_empty)) (r_end (r_ret (r_blt (c_all rfl) g_all (by rfl) (r_cons (r_fzL (r_lc  rfl hN (r_iter (r_var 0)) (own := [("count", 2)]) (us := [2]) (blk_of (by kernel_rfl)) (by decide) (fun s H C cl fp => r_name hN) (fun s H C cl fp => r_ifs0) (fun s H C cl fp => r_and (r_call F_is_integer (hr.mono (by omega)) takesF (r_cons (r_var 2) (r_nil))) (r_one (r_cmp (o_ge hu) (r_var 2) (r_int)))))) (r_nil)))))
theorem sc_summed : FnScope ["scenario", "names", "table", "fewer", "sums", "cell", "count"] ["scenario", "names", "table", "fewer"] (defScope (Hd.top 22)) := ⟨rfl, rfl, rfl, by decide +kernel, rfl, by decide +kernel, by decide +kernel⟩
theorem w_summed {P : Program} {w : World} {K : PySem.W.Frag} {mg : Str → Option Value} {base h : Heap} (KX : K.In h) (G : h.Ns mainGlobals mg) (c : He.SaysD Hd.fa Hd.fn K) (EX : ExcF K mg excs) (EM : ExcM K excs) : Has P w K mg base 2 "summed" 4 p_summed := by
  obtain ⟨fd, F⟩ := c.def_ 16 (d := Hd.dd 22 "summed") rfl
  refine ⟨_, fd, ["scenario", "names", "table", "fewer"], ?_, He.glo_ok KX G (c.fact 16 (f := .glo "summed") rfl), F.kp, F.bindsN fun _ _ _ _ _ _ us hl => match us, hl with | [_, _, _, _], _ => rfl⟩
  have g_tuple : mg "tuple" = none := He.free_ok KX G (c.fact 51 (f := .free "tuple") rfl)
  have g_zip : mg "zip" = none := He.free_ok KX G (c.fact 52 (f := .free "zip") rfl)
  have F_cells := w_cells (P := P) (w := w) (base := base) KX G c EX EM
  have F_restrict := w_restrict (P := P) (w := w) (base := base) KX G c EX EM
  have hN := sc_summed.nd
  refine fn_pure F sc_summed ?_
  rintro ⟨prog, w', K', mg', bs, A, N, s0, H0, ⟨scope, locs, gls, cells, qual, func, code, frame, blts⟩, outer, stack, ex, fn, calm, pn, xe⟩ E h1 h2 h3 h4 h5 h6 h7 hc hf hst hfr hr tk hp
  cases h1; cases h2; cases h3; cases h4; cases h5; cases h6; cases h7; cases hc; cases hf
  have hu : A.units + 64 < cLine := by have := hr.un; simp only at this; omega
  exact r_seq (r_setO (i := 4) hN (r_dcT hu rfl hN (r_iter (r_call F_cells (hr.mono (by omega)) tk (r_cons (r_var 0) (r_cons (r_var 3) (r_nil))))) (own := [("cell", 5)]) (us := [5]) (blk_of (by kernel_rfl)) (by decide) (fun s H C cl fp => r_name hN) (fun s H C cl fp => r_ifs0) (fun s H C cl fp => r_var 5) (fun s H C cl fp => r_int))) (r_seq (r_for hp rfl (r_zip g_zip (r_cons (r_call F_cells (hr.mono (by omega)) tk (r_cons (r_var 0) (r_cons (r_var 1) (r_nil)))) (r_cons (r_var 2) (r_nil)))) (r_gtup rfl (r_gcons (r_name hN) (r_gcons (r_name hN) (r_gnil)))) (r_seq (r_augT (i := 4) hu io_add (r_call F_restrict (hr.mono (by omega)) tk (r_cons (r_var 1) (r_cons (r_var 5) (r_cons (r_var 3) (r_nil))))) (r_var 6)) (r_wipe (vs := [5, 6]) r_empty))) (r_frz (i := 4) (r_end (r_ret (r_typ (c_tup) g_tuple (by rfl) (r_cons (r_fzL (r_lc  rfl hN (r_iter (r_call F_cells (hr.mono (by omega)) tk (r_cons (r_var 0) (r_cons (r_var 3) (r_nil))))) (own := [("cell", 5)]) (us := [5]) (blk_of (by kernel_rfl)) (by decide) (fun s H C cl fp => r_name hN) (fun s H C cl fp => r_ifs0) (fun s H C cl fp => r_ix hu (r_var 4) (r_var 5)))) (r_nil)))))))
theorem sc_tables_of : FnScope ["scenario", "weights", "names", "group"] ["scenario", "weights"] (defScope (Hd.top 23)) := ⟨rfl, rfl, rfl, by decide +kernel, rfl, by decide +kernel, by decide +kernel⟩
theorem w_tables_of {P : Program} {w : World} {K : PySem.W.Frag} {mg : Str → Option Value} {base h : Heap} (KX : K.In h) (G : h.Ns mainGlobals mg) (c : He.SaysD Hd.fa Hd.fn K) (EX : ExcF K mg excs) (EM : ExcM K excs) : Has P w K mg base 3 "tables_of" 2 p_tables_of := by
  obtain ⟨fd, F⟩ := c.def_ 17 (d := Hd.dd 23 "tables_of") rfl
  refine ⟨_, fd, ["scenario", "weights"], ?_, He.glo_ok KX G (c.fact 17 (f := .glo "tables_of") rfl), F.kp, F.bindsN fun _ _ _ _ _ _ us hl => match us, hl with | [_, _], _ => rfl⟩
  have g_tuple : mg "tuple" = none := He.free_ok KX G (c.fact 51 (f := .free "tuple") rfl)
  have F_known_names := w_known_names (P := P) (w := w) (base := base) KX G c EX EM
  have F_summed := w_summed (P := P) (w := w) (base := base) KX G c EX EM
  have hN := sc_tables_of.nd
  refine fn_pure F sc_tables_of ?_
  rintro ⟨prog, w', K', mg', bs, A, N, s0, H0, ⟨scope, locs, gls, cells, qual, func, code, frame, blts⟩, outer, stack, ex, fn, calm, pn, xe⟩ E h1 h2 h3 h4 h5 h6 h7 hc hf hst hfr hr tk hp
  cases h1; cases h2; cases h3; cases h4; cases h5; cases h6; cases h7; cases hc; cases hf
  have hu : A.units + 64 < cLine := by have := hr.un; simp only at this; omega
  exact r_seq (r_set (i := 2) hN (r_call F_known_names (hr.mono (by omega)) tk (r_cons (r_var 0) (r_nil)))) (r_end (r_ret (r_typ (c_tup) g_tuple (by rfl) (r_cons (r_fzL (r_lc  rfl hN (r_iter (r_ix hu (r_var 0) (r_int))) (own := [("group", 3)]) (us := [3]) (blk_of (by kernel_rfl)) (by decide) (fun s H C cl fp => r_name hN) (fun s H C cl fp => r_ifs0) (fun s H C cl fp => r_call F_summed (hr.mono (by omega)) takesF (r_cons (r_var 0) (r_cons (r_var 2) (r_cons (r_var 1) (r_cons (r_var 3) (r_nil)))))))) (r_nil)))))
theorem sc_model_of : FnScope ["scenario", "weights"] ["scenario", "weights"] (defScope (Hd.top 24)) := ⟨rfl, rfl, rfl, by decide +kernel, rfl, by decide +kernel, by decide +kernel⟩
theorem w_model_of {P : Program} {w : World} {K : PySem.W.Frag} {mg : Str → Option Value} {base h : Heap} (KX : K.In h) (G : h.Ns mainGlobals mg) (c : He.SaysD Hd.fa Hd.fn K) (EX : ExcF K mg excs) (EM : ExcM K excs) : Has P w K mg base 6 "model_of" 2 p_model_of := by
  obtain ⟨fd, F⟩ := c.def_ 18 (d := Hd.dd 24 "model_of") rfl
  refine ⟨_, fd, ["scenario", "weights"], ?_, He.glo_ok KX G (c.fact 18 (f := .glo "model_of") rfl), F.kp, F.bindsN fun _ _ _ _ _ _ us hl => match us, hl with | [_, _], _ => rfl⟩
  have g_len : mg "len" = none := He.free_ok KX G (c.fact 44 (f := .free "len") rfl)
  have g_sum : mg "sum" = none := He.free_ok KX G (c.fact 50 (f := .free "sum") rfl)
  have F_all_assignments := w_all_assignments (P := P) (w := w) (base := base) KX G c EX EM
  have F_is_count_tuple := w_is_count_tuple (P := P) (w := w) (base := base) KX G c EX EM
  have F_require_scenario := w_require_scenario (P := P) (w := w) (base := base) KX G c EX EM
  have F_tables_of := w_tables_of (P := P) (w := w) (base := base) KX G c EX EM
  have hN := sc_model_of.nd
  refine fn_pure F sc_model_of ?_
  rintro ⟨prog, w', K', mg', bs, A, N, s0, H0, ⟨scope, locs, gls, cells, qual, func, code, frame, blts⟩, outer, stack, ex, fn, calm, pn, xe⟩ E h1 h2 h3 h4 h5 h6 h7 hc hf hst hfr hr tk hp
  cases h1; cases h2; cases h3; cases h4; cases h5; cases h6; cases h7; cases hc; cases hf
  have hu : A.units + 64 < cLine := by have := hr.un; simp only at this; omega
  exact r_seq (r_expr (r_call F_require_scenario (hr.mono (by omega)) tk (r_cons (r_var 0) (r_nil)))) (r_seq (r_if (r_tw (r_tor (r_tnot (r_tru (r_call F_is_count_tuple (hr.mono (by omega)) tk (r_cons (r_var 1) (r_cons (r_blt (c_len) g_len (by rfl) (r_cons (r_call F_all_assignments (hr.mono (by omega)) tk (r_cons (r_var 0) (r_nil))) (r_nil))) (r_nil)))))) (r_tor1 (r_tnot (r_tchain (o_le hu) (o_le hu) (r_int) (r_blt (c_sum rfl) g_sum (by rfl) (r_cons (r_var 1) (r_nil))) (r_int)))))) (r_end (r_raise rfl tk (exc_ok (EX "InvalidWeights" (by decide +kernel))))) (r_empty)) (r_end (r_ret (r_call F_tables_of (hr.mono (by omega)) tk (r_cons (r_var 0) (r_cons (r_var 1) (r_nil)))))))
theorem sc__law_same : FnScope ["got", "due", "one", "other"] ["got", "due"] (defScope (Hd.top 26)) := ⟨rfl, rfl, rfl, by decide +kernel, rfl, by decide +kernel, by decide +kernel⟩
theorem wr__law_same {P : Program} {w : World} {K : PySem.W.Frag} {mg : Str → Option Value} {base h : Heap} (KX : K.In h) (G : h.Ns mainGlobals mg) (c : He.SaysD Hd.fa Hd.fn K) (EX : ExcF K mg excs) (EM : ExcM K excs) : ∀ n : Nat, Has P w K mg base (1 + n) "_law_same" 2 (p__law_same n) := by
  intro n
  induction n with
  | zero =>
    obtain ⟨fd, F⟩ := c.def_ 19 (d := Hd.dd 26 "_law_same") rfl
    refine ⟨_, fd, ["got", "due"], ?_, He.glo_ok KX G (c.fact 19 (f := .glo "_law_same") rfl), F.kp, F.bindsN fun _ _ _ _ _ _ us hl => match us, hl with | [_, _], _ => rfl⟩
    refine fn_pure (k := 0) F sc__law_same ?_
    exact fun _ _ _ _ _ _ _ _ _ _ _ _ _ _ _ _ => r_stuck
  | succ n F__law_same =>
    obtain ⟨fd, F⟩ := c.def_ 19 (d := Hd.dd 26 "_law_same") rfl
    refine ⟨_, fd, ["got", "due"], ?_, He.glo_ok KX G (c.fact 19 (f := .glo "_law_same") rfl), F.kp, F.bindsN fun _ _ _ _ _ _ us hl => match us, hl with | [_, _], _ => rfl⟩
    have g_all : mg "all" = none := He.free_ok KX G (c.fact 37 (f := .free "all") rfl)
    have g_bool : mg "bool" = none := He.free_ok KX G (c.fact 39 (f := .free "bool") rfl)
    have g_int : mg "int" = none := He.free_ok KX G (c.fact 42 (f := .free "int") rfl)
    have g_isinstance : mg "isinstance" = none := He.free_ok KX G (c.fact 43 (f := .free "isinstance") rfl)
    have g_len : mg "len" = none := He.free_ok KX G (c.fact 44 (f := .free "len") rfl)
    have g_str : mg "str" = none := He.free_ok KX G (c.fact 49 (f := .free "str") rfl)
    have g_tuple : mg "tuple" = none := He.free_ok KX G (c.fact 51 (f := .free "tuple") rfl)
    have g_zip : mg "zip" = none := He.free_ok KX G (c.fact 52 (f := .free "zip") rfl)
    have hN := sc__law_same.nd
    refine fn_pure (k := 1 + n) F sc__law_same ?_
    rintro ⟨prog, w', K', mg', bs, A, N, s0, H0, ⟨scope, locs, gls, cells, qual, func, code, frame, blts⟩, outer, stack, ex, fn, calm, pn, xe⟩ E h1 h2 h3 h4 h5 h6 h7 hc hf hst hfr hr tk hp
    cases h1; cases h2; cases h3; cases h4; cases h5; cases h6; cases h7; cases hc; cases hf
    have hu : A.units + 64 < cLine := by have := hr.un; simp only at this; omega
    exact r_seq (r_if (r_tcmp (o_is) (r_var 1) (r_non)) (r_end (r_ret (r_cmp (o_is) (r_var 0) (r_non)))) (r_empty)) (r_seq (r_if (r_tru (r_isi (T := "bool") g_isinstance g_bool (by rfl) (r_var 1))) (r_end (r_ret (r_and (r_isi (T := "bool") g_isinstance g_bool (by rfl) (r_var 0)) (r_one (r_cmp (o_eq hu) (r_var 0) (r_var 1)))))) (r_empty)) (r_seq (r_if (r_tru (r_isi (T := "tuple") g_isinstance g_tuple (by rfl) (r_var 1))) (r_seq (r_if (r_tw (r_tor (r_tnot (r_tru (r_isi (T := "tuple") g_isinstance g_tuple (by rfl) (r_var 0)))) (r_tor1 (r_tcmp (o_ne hu) (r_blt (c_len) g_len (by rfl) (r_cons (r_var 0) (r_nil))) (r_blt (c_len) g_len (by rfl) (r_cons (r_var 1) (r_nil))))))) (r_end (r_ret (r_bl))) (r_empty)) (r_end (r_ret (r_blt (c_all rfl) g_all (by rfl) (r_cons (r_fzL (r_lc  rfl hN (r_zip g_zip (r_cons (r_var 0) (r_cons (r_var 1) (r_nil)))) (own := [("one", 2), ("other", 3)]) (us := [2, 3]) (blk_of (by kernel_rfl)) (by decide) (fun s H C cl fp => r_gtup rfl (r_gcons (r_name hN) (r_gcons (r_name hN) (r_gnil)))) (fun s H C cl fp => r_ifs0) (fun s H C cl fp => r_call F__law_same (hr.mono (by omega)) takesF (r_cons (r_var 2) (r_cons (r_var 3) (r_nil)))))) (r_nil)))))) (r_empty)) (r_seq (r_if (r_tru (r_isi (T := "str") g_isinstance g_str (by rfl) (r_var 1))) (r_end (r_ret (r_and (r_isi (T := "str") g_isinstance g_str (by rfl) (r_var 0)) (r_one (r_cmp (o_eq hu) (r_var 0) (r_var 1)))))) (r_empty)) (r_end (r_ret (r_and (r_isi (T := "int") g_isinstance g_int (by rfl) (r_var 0)) (r_and (r_not (r_isi (T := "bool") g_isinstance g_bool (by rfl) (r_var 0))) (r_one (r_cmp (o_eq hu) (r_var 0) (r_var 1))))))))))
theorem w__law_same {P : Program} {w : World} {K : PySem.W.Frag} {mg : Str → Option Value} {base h : Heap} (KX : K.In h) (G : h.Ns mainGlobals mg) (c : He.SaysD Hd.fa Hd.fn K) (EX : ExcF K mg excs) (EM : ExcM K excs) : Has P w K mg base 13 "_law_same" 2 (p__law_same 12) := wr__law_same KX G c EX EM 12
theorem sc__law_draw : FnScope ["script", "state", "many", "k", "cell", "digits", "number", "more"] ["script", "state", "many"] (defScope (Hd.top 27)) := ⟨rfl, rfl, rfl, by decide +kernel, rfl, by decide +kernel, by decide +kernel⟩
theorem w__law_draw {P : Program} {w : World} {K : PySem.W.Frag} {mg : Str → Option Value} {base h : Heap} (KX : K.In h) (G : h.Ns mainGlobals mg) (c : He.SaysD Hd.fa Hd.fn K) (EX : ExcF K mg excs) (EM : ExcM K excs) : HasB P w K mg base 1 "_law_draw" 1 1 b__law_draw := by
  obtain ⟨fd, F⟩ := c.def_ 20 (d := Hd.dd 27 "_law_draw") rfl
  refine ⟨_, fd, ["script", "state", "many"], ?_, He.glo_ok KX G (c.fact 20 (f := .glo "_law_draw") rfl), F.kp, F.bindsN fun _ _ _ _ _ _ us hl => match us, hl with | [_, _, _], _ => rfl⟩
  have g_abs : mg "abs" = none := He.free_ok KX G (c.fact 36 (f := .free "abs") rfl)
  have g_len : mg "len" = none := He.free_ok KX G (c.fact 44 (f := .free "len") rfl)
  have g_max : mg "max" = none := He.free_ok KX G (c.fact 46 (f := .free "max") rfl)
  have hN := sc__law_draw.nd
  refine fn_ref (np := 1) (nq := 1) F sc__law_draw rfl ?_
  rintro ⟨prog, w', K', mg', bs, A, N, s0, H0, ⟨scope, locs, gls, cells, qual, func, code, frame, blts⟩, outer, stack, ex, fn, calm, pn, xe⟩ E h1 h2 h3 h4 h5 h6 h7 hc hf hst hfr hr tk hp
  cases h1; cases h2; cases h3; cases h4; cases h5; cases h6; cases h7; cases hc; cases hf
  have hu : A.units + 64 < cLine := by have := hr.un; simp only at this; omega
  exact r_seq (r_if (r_tnot (r_truV (i := 1))) (r_end (r_expr (r_app (i := 1) (r_blt (c_max rfl hu) g_max (by rfl) (r_cons (r_bin o_add (r_fzL (r_lc  rfl hN (r_iter (r_var 0)) (own := [("cell", 4)]) (us := [4]) (blk_of (by kernel_rfl)) (by decide) (fun s H C cl fp => r_name hN) (fun s H C cl fp => r_ifs0) (fun s H C cl fp => r_blt (c_abs) g_abs (by rfl) (r_cons (r_var 4) (r_nil))))) (r_lst (r_cons (r_int) (r_nil)))) (r_nil)))))) (r_empty)) (r_seq (r_expr (r_app (i := 1) (r_int))) (r_seq (r_set (i := 3) hN (r_lenV (i := 1) g_len)) (r_seq (r_set (i := 4) hN (r_ifE (r_tru (r_var 0)) (r_ix hu (r_var 0) (r_bin o_mod (r_var 3) (r_blt (c_len) g_len (by rfl) (r_cons (r_var 0) (r_nil))))) (r_int))) (r_seq (r_set (i := 5) hN (r_bin o_mod (r_idxV (i := 1) (r_int)) (r_int))) (r_seq (r_setI (i := 1) (r_bin o_fdiv (r_idxV (i := 1) (r_int)) (r_int)) (r_int)) (r_seq (r_set (i := 6) hN (r_bin o_mod (r_bin o_add (r_bin o_add (r_var 4) (r_bin o_mul (r_int) (r_var 5))) (r_bin o_mul (r_int) (r_var 3))) (r_int))) (r_seq (r_set (i := 6) hN (r_bin o_mod (r_bin o_mul (r_bin o_mod (r_bin o_mul (r_var 6) (r_var 6)) (r_int)) (r_int)) (r_int))) (r_seq (r_set (i := 7) hN (r_bin o_mod (r_bin o_mul (r_bin o_mod (r_bin o_mul (r_var 6) (r_var 6)) (r_int)) (r_int)) (r_int))) (r_end (r_ret (r_bin o_mod (r_bin o_add (r_bin o_mul (r_bin o_fdiv (r_var 6) (r_int)) (r_int)) (r_bin o_fdiv (r_var 7) (r_int))) (r_var 2))))))))))))
theorem sc__law_pick : FnScope ["script", "state", "some"] ["script", "state", "some"] (defScope (Hd.top 28)) := ⟨rfl, rfl, rfl, by decide +kernel, rfl, by decide +kernel, by decide +kernel⟩
theorem w__law_pick {P : Program} {w : World} {K : PySem.W.Frag} {mg : Str → Option Value} {base h : Heap} (KX : K.In h) (G : h.Ns mainGlobals mg) (c : He.SaysD Hd.fa Hd.fn K) (EX : ExcF K mg excs) (EM : ExcM K excs) : HasB P w K mg base 2 "_law_pick" 1 1 b__law_pick := by
  obtain ⟨fd, F⟩ := c.def_ 21 (d := Hd.dd 28 "_law_pick") rfl
  refine ⟨_, fd, ["script", "state", "some"], ?_, He.glo_ok KX G (c.fact 21 (f := .glo "_law_pick") rfl), F.kp, F.bindsN fun _ _ _ _ _ _ us hl => match us, hl with | [_, _, _], _ => rfl⟩
  have g_len : mg "len" = none := He.free_ok KX G (c.fact 44 (f := .free "len") rfl)
  have F__law_draw := w__law_draw (P := P) (w := w) (base := base) KX G c EX EM
  have hN := sc__law_pick.nd
  refine fn_ref (np := 1) (nq := 1) F sc__law_pick rfl ?_
  rintro ⟨prog, w', K', mg', bs, A, N, s0, H0, ⟨scope, locs, gls, cells, qual, func, code, frame, blts⟩, outer, stack, ex, fn, calm, pn, xe⟩ E h1 h2 h3 h4 h5 h6 h7 hc hf hst hfr hr tk hp
  cases h1; cases h2; cases h3; cases h4; cases h5; cases h6; cases h7; cases hc; cases hf
  have hu : A.units + 64 < cLine := by have := hr.un; simp only at this; omega
  exact r_end (r_ret (r_ix hu (r_var 2) (r_callB F__law_draw (hr.mono (by omega)) tk (r_bc (r_var 0) (r_b0 (i := 1) (r_cons (r_blt (c_len) g_len (by rfl) (r_cons (r_var 2) (r_nil))) (r_nil)))))))
theorem sc__law_shuffled : FnScope ["script", "state", "things", "rest", "found"] ["script", "state", "things"] (defScope (Hd.top 29)) := ⟨rfl, rfl, rfl, by decide +kernel, rfl, by decide +kernel, by decide +kernel⟩
theorem w__law_shuffled {P : Program} {w : World} {K : PySem.W.Frag} {mg : Str → Option Value} {base h : Heap} (KX : K.In h) (G : h.Ns mainGlobals mg) (c : He.SaysD Hd.fa Hd.fn K) (EX : ExcF K mg excs) (EM : ExcM K excs) : HasB P w K mg base 2 "_law_shuffled" 1 1 b__law_shuffled := by
  obtain ⟨fd, F⟩ := c.def_ 22 (d := Hd.dd 29 "_law_shuffled") rfl
  refine ⟨_, fd, ["script", "state", "things"], ?_, He.glo_ok KX G (c.fact 22 (f := .glo "_law_shuffled") rfl), F.kp, F.bindsN fun _ _ _ _ _ _ us hl => match us, hl with | [_, _, _], _ => rfl⟩
  have g_len : mg "len" = none := He.free_ok KX G (c.fact 44 (f := .free "len") rfl)
  have g_list : mg "list" = none := He.free_ok KX G (c.fact 45 (f := .free "list") rfl)
  have F__law_draw := w__law_draw (P := P) (w := w) (base := base) KX G c EX EM
  have hN := sc__law_shuffled.nd
  refine fn_ref (np := 1) (nq := 1) F sc__law_shuffled rfl ?_
  rintro ⟨prog, w', K', mg', bs, A, N, s0, H0, ⟨scope, locs, gls, cells, qual, func, code, frame, blts⟩, outer, stack, ex, fn, calm, pn, xe⟩ E h1 h2 h3 h4 h5 h6 h7 hc hf hst hfr hr tk hp
  cases h1; cases h2; cases h3; cases h4; cases h5; cases h6; cases h7; cases hc; cases hf
  have hu : A.units + 64 < cLine := by have := hr.un; simp only at this; omega
  exact r_seq (r_par2 (i := 3) (j := 4) rfl hN (m_consL (r_list g_list (r_cons (r_var 2) (r_nil))) (m_consL (r_lstL (r_nil)) (m_nil)))) (r_seq (r_while (fuelL 3) hp (r_truV (i := 3)) (r_end (r_expr (r_app (i := 4) (r_pop (i := 3) (r_callB F__law_draw (hr.mono (by omega)) tk (r_bc (r_var 0) (r_b0 (i := 1) (r_cons (r_lenV (i := 3) g_len) (r_nil)))))))))) (r_frz (i := 4) (r_end (r_ret (r_var 4)))))
theorem sc__law_cells : FnScope ["questions", "names", "counts", "rows", "name", "longer", "row", "answer"] ["questions", "names"] (defScope (Hd.top 30)) := ⟨rfl, rfl, rfl, by decide +kernel, rfl, by decide +kernel, by decide +kernel⟩
theorem w__law_cells {P : Program} {w : World} {K : PySem.W.Frag} {mg : Str → Option Value} {base h : Heap} (KX : K.In h) (G : h.Ns mainGlobals mg) (c : He.SaysD Hd.fa Hd.fn K) (EX : ExcF K mg excs) (EM : ExcM K excs) : Has P w K mg base 1 "_law_cells" 2 p__law_cells := by
  obtain ⟨fd, F⟩ := c.def_ 23 (d := Hd.dd 30 "_law_cells") rfl
  refine ⟨_, fd, ["questions", "names"], ?_, He.glo_ok KX G (c.fact 23 (f := .glo "_law_cells") rfl), F.kp, F.bindsN fun _ _ _ _ _ _ us hl => match us, hl with | [_, _], _ => rfl⟩
  have g_dict : mg "dict" = none := He.free_ok KX G (c.fact 40 (f := .free "dict") rfl)
  have g_list : mg "list" = none := He.free_ok KX G (c.fact 45 (f := .free "list") rfl)
  have g_range : mg "range" = none := He.free_ok KX G (c.fact 47 (f := .free "range") rfl)
  have hN := sc__law_cells.nd
  refine fn_pure F sc__law_cells ?_
  rintro ⟨prog, w', K', mg', bs, A, N, s0, H0, ⟨scope, locs, gls, cells, qual, func, code, frame, blts⟩, outer, stack, ex, fn, calm, pn, xe⟩ E h1 h2 h3 h4 h5 h6 h7 hc hf hst hfr hr tk hp
  cases h1; cases h2; cases h3; cases h4; cases h5; cases h6; cases h7; cases hc; cases hf
  have hu : A.units + 64 < cLine := by have := hr.un; simp only at this; omega
  exact r_seq (r_par2 (i := 2) (j := 3) rfl hN (m_consD (r_typ (c_dict rfl) g_dict (by rfl) (r_cons (r_fzL (r_list g_list (r_cons (r_var 0) (r_nil)))) (r_nil))) (m_consD (r_lst (r_cons (r_tup (r_nil)) (r_nil))) (m_nil)))) (r_seq (r_for hp rfl (r_iter (r_var 1)) (r_name hN) (r_seq (r_set (i := 5) hN (r_lst (r_nil))) (r_seq (r_for hp rfl (r_iter (r_var 3)) (r_name hN) (r_end (r_set (i := 5) hN (r_bin o_add (r_var 5) (r_fzL (r_lc  rfl hN (r_rng1 g_range (r_cons (r_ix hu (r_var 2) (r_var 4)) (r_nil))) (own := [("answer", 7)]) (us := [7]) (blk_of (by kernel_rfl)) (by decide) (fun s H C cl fp => r_name hN) (fun s H C cl fp => r_ifs0) (fun s H C cl fp => r_bin o_add (r_var 6) (r_tup (r_cons (r_var 7) (r_nil)))))))))) (r_end (r_set (i := 3) hN (r_var 5)))))) (r_end (r_ret (r_var 3))))
theorem sc__law_part : FnScope ["names", "row", "fewer", "name"] ["names", "row", "fewer"] (defScope (Hd.top 31)) := ⟨rfl, rfl, rfl, by decide +kernel, rfl, by decide +kernel, by decide +kernel⟩
theorem w__law_part {P : Program} {w : World} {K : PySem.W.Frag} {mg : Str → Option Value} {base h : Heap} (KX : K.In h) (G : h.Ns mainGlobals mg) (c : He.SaysD Hd.fa Hd.fn K) (EX : ExcF K mg excs) (EM : ExcM K excs) : Has P w K mg base 1 "_law_part" 3 p__law_part := by
  obtain ⟨fd, F⟩ := c.def_ 24 (d := Hd.dd 31 "_law_part") rfl
  refine ⟨_, fd, ["names", "row", "fewer"], ?_, He.glo_ok KX G (c.fact 24 (f := .glo "_law_part") rfl), F.kp, F.bindsN fun _ _ _ _ _ _ us hl => match us, hl with | [_, _, _], _ => rfl⟩
  have g_tuple : mg "tuple" = none := He.free_ok KX G (c.fact 51 (f := .free "tuple") rfl)
  have hN := sc__law_part.nd
  refine fn_pure F sc__law_part ?_
  rintro ⟨prog, w', K', mg', bs, A, N, s0, H0, ⟨scope, locs, gls, cells, qual, func, code, frame, blts⟩, outer, stack, ex, fn, calm, pn, xe⟩ E h1 h2 h3 h4 h5 h6 h7 hc hf hst hfr hr tk hp
  cases h1; cases h2; cases h3; cases h4; cases h5; cases h6; cases h7; cases hc; cases hf
  have hu : A.units + 64 < cLine := by have := hr.un; simp only at this; omega
  exact r_end (r_ret (r_typ (c_tup) g_tuple (by rfl) (r_cons (r_fzL (r_lc  rfl hN (r_iter (r_var 2)) (own := [("name", 3)]) (us := [3]) (blk_of (by kernel_rfl)) (by decide) (fun s H C cl fp => r_name hN) (fun s H C cl fp => r_ifs0) (fun s H C cl fp => r_ix hu (r_var 1) (pe_idx hu (r_var 0) (r_var 3))))) (r_nil))))
theorem sc__law_names : FnScope ["scenario", "question"] ["scenario"] (defScope (Hd.top 32)) := ⟨rfl, rfl, rfl, by decide +kernel, rfl, by decide +kernel, by decide +kernel⟩
theorem w__law_names {P : Program} {w : World} {K : PySem.W.Frag} {mg : Str → Option Value} {base h : Heap} (KX : K.In h) (G : h.Ns mainGlobals mg) (c : He.SaysD Hd.fa Hd.fn K) (EX : ExcF K mg excs) (EM : ExcM K excs) : Has P w K mg base 1 "_law_names" 1 p__law_names := by
  obtain ⟨fd, F⟩ := c.def_ 25 (d := Hd.dd 32 "_law_names") rfl
  refine ⟨_, fd, ["scenario"], ?_, He.glo_ok KX G (c.fact 25 (f := .glo "_law_names") rfl), F.kp, F.bindsN fun _ _ _ _ _ _ us hl => match us, hl with | [_], _ => rfl⟩
  have g_tuple : mg "tuple" = none := He.free_ok KX G (c.fact 51 (f := .free "tuple") rfl)
  have hN := sc__law_names.nd
  refine fn_pure F sc__law_names ?_
  rintro ⟨prog, w', K', mg', bs, A, N, s0, H0, ⟨scope, locs, gls, cells, qual, func, code, frame, blts⟩, outer, stack, ex, fn, calm, pn, xe⟩ E h1 h2 h3 h4 h5 h6 h7 hc hf hst hfr hr tk hp
  cases h1; cases h2; cases h3; cases h4; cases h5; cases h6; cases h7; cases hc; cases hf
  have hu : A.units + 64 < cLine := by have := hr.un; simp only at this; omega
  exact r_end (r_ret (r_typ (c_tup) g_tuple (by rfl) (r_cons (r_fzL (r_lc  rfl hN (r_iter (r_ix hu (r_var 0) (r_int))) (own := [("question", 1)]) (us := [1]) (blk_of (by kernel_rfl)) (by decide) (fun s H C cl fp => r_name hN) (fun s H C cl fp => r_ifs0) (fun s H C cl fp => r_ix hu (r_var 1) (r_int)))) (r_nil))))
theorem sc__law_groups_from : FnScope ["questions", "drawn", "most", "names", "groups", "size", "group", "kept", "cells_here", "inside", "single", "larger", "question", "name", "other"] ["questions", "drawn", "most"] (defScope (Hd.top 33)) := ⟨rfl, rfl, rfl, by decide +kernel, rfl, by decide +kernel, by decide +kernel⟩
theorem w__law_groups_from {P : Program} {w : World} {K : PySem.W.Frag} {mg : Str → Option Value} {base h : Heap} (KX : K.In h) (G : h.Ns mainGlobals mg) (c : He.SaysD Hd.fa Hd.fn K) (EX : ExcF K mg excs) (EM : ExcM K excs) : Has P w K mg base 2 "_law_groups_from" 3 p__law_groups_from := by
  obtain ⟨fd, F⟩ := c.def_ 26 (d := Hd.dd 33 "_law_groups_from") rfl
  refine ⟨_, fd, ["questions", "drawn", "most"], ?_, He.glo_ok KX G (c.fact 26 (f := .glo "_law_groups_from") rfl), F.kp, F.bindsN fun _ _ _ _ _ _ us hl => match us, hl with | [_, _, _], _ => rfl⟩
  have g_int : mg "int" = none := He.free_ok KX G (c.fact 42 (f := .free "int") rfl)
  have g_len : mg "len" = none := He.free_ok KX G (c.fact 44 (f := .free "len") rfl)
  have g_sorted : mg "sorted" = none := He.free_ok KX G (c.fact 48 (f := .free "sorted") rfl)
  have g_tuple : mg "tuple" = none := He.free_ok KX G (c.fact 51 (f := .free "tuple") rfl)
  have F__law_cells := w__law_cells (P := P) (w := w) (base := base) KX G c EX EM
  have hN := sc__law_groups_from.nd
  refine fn_pure F sc__law_groups_from ?_
  rintro ⟨prog, w', K', mg', bs, A, N, s0, H0, ⟨scope, locs, gls, cells, qual, func, code, frame, blts⟩, outer, stack, ex, fn, calm, pn, xe⟩ E h1 h2 h3 h4 h5 h6 h7 hc hf hst hfr hr tk hp
  cases h1; cases h2; cases h3; cases h4; cases h5; cases h6; cases h7; cases hc; cases hf
  have hu : A.units + 64 < cLine := by have := hr.un; simp only at this; omega
  exact r_seq (r_par3 (i := 3) (j := 4) (l := 5) rfl hN (m_consD (r_fzL (r_lc  rfl hN (r_iter (r_var 0)) (own := [("question", 12)]) (us := [12]) (blk_of (by kernel_rfl)) (by decide) (fun s H C cl fp => r_name hN) (fun s H C cl fp => r_ifs0) (fun s H C cl fp => r_ix hu (r_var 12) (r_int)))) (m_consL (r_lstL (r_nil)) (m_consD (r_int) (m_nil))))) (r_seq (r_for hp rfl (r_iter (r_bin o_add (r_var 1) (r_fzL (r_lc  rfl hN (r_iter (r_var 3)) (own := [("name", 13)]) (us := [13]) (blk_of (by kernel_rfl)) (by decide) (fun s H C cl fp => r_name hN) (fun s H C cl fp => r_ifs0) (fun s H C cl fp => r_tup (r_cons (r_var 13) (r_nil))))))) (r_name hN) (r_seq (r_set (i := 8) hN (r_blt (c_len) g_len (by rfl) (r_cons (r_call F__law_cells (hr.mono (by omega)) tk (r_cons (r_var 0) (r_cons (r_var 6) (r_nil)))) (r_nil)))) (r_seq ((by first | exact r_setLcV (i := 9) (hsw := rfl) (j := 4) rfl hN (own := [("other", 14)]) (us := [14]) (blk_of (by kernel_rfl)) (by decide) (fun s H C cl fp => r_name hN) (fun s H C cl fp => r_ifs1 (r_tcmp (o_eq hu) (r_fzL (r_lc  rfl hN (r_iter (r_var 6)) (own := [("name", 13)]) (us := [13]) (blk_of (by kernel_rfl)) (by decide) (fun s H C cl fp => r_name hN) (fun s H C cl fp => r_ifs1 (r_tcmp (o_nin hu) (r_var 13) (r_var 14))) (fun s H C cl fp => r_var 13))) (r_lst (r_nil)))) (fun s H C cl fp => r_int) | exact r_setL (i := 9) hN (r_lcV  (j := 4) rfl hN (own := [("other", 14)]) (us := [14]) (blk_of (by kernel_rfl)) (by decide) (fun s H C cl fp => r_name hN) (fun s H C cl fp => r_ifs1 (r_tcmp (o_eq hu) (r_fzL (r_lc  rfl hN (r_iter (r_var 6)) (own := [("name", 13)]) (us := [13]) (blk_of (by kernel_rfl)) (by decide) (fun s H C cl fp => r_name hN) (fun s H C cl fp => r_ifs1 (r_tcmp (o_nin hu) (r_var 13) (r_var 14))) (fun s H C cl fp => r_var 13))) (r_lst (r_nil)))) (fun s H C cl fp => r_int)))) (r_frz (i := 9) (r_seq (r_set (i := 10) hN (r_cmp (o_eq hu) (r_blt (c_len) g_len (by rfl) (r_cons (r_var 6) (r_nil))) (r_int))) (r_end (r_if (r_tw (r_tand (r_tcmp (o_eq hu) (r_var 9) (r_lst (r_nil))) (r_tand1 (r_tw (r_tor (r_tru (r_var 10)) (r_tor1 (r_tcmp (o_le hu) (r_bin o_add (r_bin o_add (r_var 5) (r_var 8)) (r_bin o_mul (r_int) (r_blt (c_len) g_len (by rfl) (r_cons (r_var 3) (r_nil))))) (r_var 2)))))))) (r_seq (r_expr (r_app (i := 4) (r_var 6))) (r_end (r_set (i := 5) hN (r_bin o_add (r_var 5) (r_var 8))))) (r_empty)))))))) (r_seq (r_set (i := 7) hN (r_lst (r_nil))) (r_frz (i := 4) (r_seq (r_for hp rfl (r_iter (r_var 4)) (r_name hN) (r_seq ((by first | exact r_setLc (i := 11) (hsw := rfl) rfl hN (r_iter (r_var 4)) (own := [("other", 14)]) (us := [14]) (blk_of (by kernel_rfl)) (by decide) (fun s H C cl fp => r_name hN) (fun s H C cl fp => r_ifs1 (r_tw (r_tand (r_tcmp (o_ne hu) (r_var 14) (r_var 6)) (r_tand1 (r_tcmp (o_eq hu) (r_fzL (r_lc  rfl hN (r_iter (r_var 6)) (own := [("name", 13)]) (us := [13]) (blk_of (by kernel_rfl)) (by decide) (fun s H C cl fp => r_name hN) (fun s H C cl fp => r_ifs1 (r_tcmp (o_nin hu) (r_var 13) (r_var 14))) (fun s H C cl fp => r_var 13))) (r_lst (r_nil))))))) (fun s H C cl fp => r_int) | exact r_setL (i := 11) hN (r_lc  rfl hN (r_iter (r_var 4)) (own := [("other", 14)]) (us := [14]) (blk_of (by kernel_rfl)) (by decide) (fun s H C cl fp => r_name hN) (fun s H C cl fp => r_ifs1 (r_tw (r_tand (r_tcmp (o_ne hu) (r_var 14) (r_var 6)) (r_tand1 (r_tcmp (o_eq hu) (r_fzL (r_lc  rfl hN (r_iter (r_var 6)) (own := [("name", 13)]) (us := [13]) (blk_of (by kernel_rfl)) (by decide) (fun s H C cl fp => r_name hN) (fun s H C cl fp => r_ifs1 (r_tcmp (o_nin hu) (r_var 13) (r_var 14))) (fun s H C cl fp => r_var 13))) (r_lst (r_nil))))))) (fun s H C cl fp => r_int)))) (r_frz (i := 11) (r_end (r_set (i := 7) hN (r_bin o_add (r_var 7) (r_bin o_mul (r_lst (r_cons (r_var 6) (r_nil))) (r_typ (c_int) g_int (by rfl) (r_cons (r_cmp (o_eq hu) (r_var 11) (r_lst (r_nil))) (r_nil)))))))))) (r_end (r_ret (r_typ (c_tup) g_tuple (by rfl) (r_cons (r_blt (c_sorted hu) g_sorted (by rfl) (r_cons (r_var 7) (r_nil))) (r_nil)))))))))
theorem sc__law_scenario : FnScope ["script", "state", "most", "cap", "names", "questions", "size", "name", "drawn", "k", "count", "question"] ["script", "state", "most", "cap"] (defScope (Hd.top 34)) := ⟨rfl, rfl, rfl, by decide +kernel, rfl, by decide +kernel, by decide +kernel⟩
theorem w__law_scenario {P : Program} {w : World} {K : PySem.W.Frag} {mg : Str → Option Value} {base h : Heap} (KX : K.In h) (G : h.Ns mainGlobals mg) (c : He.SaysD Hd.fa Hd.fn K) (EX : ExcF K mg excs) (EM : ExcM K excs) : HasB P w K mg base 3 "_law_scenario" 1 2 b__law_scenario := by
  obtain ⟨fd, F⟩ := c.def_ 27 (d := Hd.dd 34 "_law_scenario") rfl
  refine ⟨_, fd, ["script", "state", "most", "cap"], ?_, He.glo_ok KX G (c.fact 27 (f := .glo "_law_scenario") rfl), F.kp, F.bindsN fun _ _ _ _ _ _ us hl => match us, hl with | [_, _, _, _], _ => rfl⟩
  have g_range : mg "range" = none := He.free_ok KX G (c.fact 47 (f := .free "range") rfl)
  have g_sorted : mg "sorted" = none := He.free_ok KX G (c.fact 48 (f := .free "sorted") rfl)
  have g_tuple : mg "tuple" = none := He.free_ok KX G (c.fact 51 (f := .free "tuple") rfl)
  have F__law_draw := w__law_draw (P := P) (w := w) (base := base) KX G c EX EM
  have F__law_groups_from := w__law_groups_from (P := P) (w := w) (base := base) KX G c EX EM
  have F__law_pick := w__law_pick (P := P) (w := w) (base := base) KX G c EX EM
  have F__law_shuffled := w__law_shuffled (P := P) (w := w) (base := base) KX G c EX EM
  have hN := sc__law_scenario.nd
  refine fn_ref (np := 1) (nq := 2) F sc__law_scenario rfl ?_
  rintro ⟨prog, w', K', mg', bs, A, N, s0, H0, ⟨scope, locs, gls, cells, qual, func, code, frame, blts⟩, outer, stack, ex, fn, calm, pn, xe⟩ E h1 h2 h3 h4 h5 h6 h7 hc hf hst hfr hr tk hp
  cases h1; cases h2; cases h3; cases h4; cases h5; cases h6; cases h7; cases hc; cases hf
  have hu : A.units + 64 < cLine := by have := hr.un; simp only at this; omega
  exact r_seq (r_set (i := 4) hN (r_blt (c_sorted hu) g_sorted (by rfl) (r_cons (r_sl (r_callB F__law_shuffled (hr.mono (by omega)) tk (r_bc (r_var 0) (r_b0 (i := 1) (r_cons (r_lst (r_cons (r_str) (r_cons (r_str) (r_cons (r_str) (r_cons (r_str) (r_cons (r_str) (r_cons (r_str) (r_nil)))))))) (r_nil))))) (r_pn) (r_ps (r_bin o_add (r_int) (r_callB F__law_draw (hr.mono (by omega)) tk (r_bc (r_var 0) (r_b0 (i := 1) (r_cons (r_var 2) (r_nil)))))))) (r_nil)))) (r_seq (r_par2 (i := 5) (j := 6) rfl hN (m_consL (r_lstL (r_nil)) (m_consD (r_int) (m_nil)))) (r_seq (r_for hp rfl (r_iter (r_var 4)) (r_name hN) (r_seq (r_set (i := 10) hN (r_callB F__law_pick (hr.mono (by omega)) tk (r_bc (r_var 0) (r_b0 (i := 1) (r_cons (r_lst (r_cons (r_int) (r_cons (r_int) (r_cons (r_int) (r_cons (r_int) (r_nil)))))) (r_nil)))))) (r_seq (r_if (r_tcmp (o_gt hu) (r_bin o_mul (r_var 6) (r_var 10)) (r_var 3)) (r_end (r_set (i := 10) hN (r_int))) (r_empty)) (r_end (r_if (r_tcmp (o_le hu) (r_bin o_mul (r_var 6) (r_var 10)) (r_var 3)) (r_seq (r_expr (r_app (i := 5) (r_tup (r_cons (r_var 7) (r_cons (r_var 10) (r_nil)))))) (r_end (r_set (i := 6) hN (r_bin o_mul (r_var 6) (r_var 10))))) (r_empty)))))) (r_seq (r_par2 (i := 4) (j := 8) rfl hN (m_consD (r_fzL (r_lcV  (j := 5) rfl hN (own := [("question", 11)]) (us := [11]) (blk_of (by kernel_rfl)) (by decide) (fun s H C cl fp => r_name hN) (fun s H C cl fp => r_ifs0) (fun s H C cl fp => r_ix hu (r_var 11) (r_int)))) (m_consL (r_lstL (r_nil)) (m_nil)))) (r_seq (r_for hp rfl (r_rng1 g_range (r_cons (r_callB F__law_draw (hr.mono (by omega)) tk (r_bc (r_var 0) (r_b0 (i := 1) (r_cons (r_int) (r_nil))))) (r_nil))) (r_name hN) (r_end (r_expr (r_app (i := 8) (r_typ (c_tup) g_tuple (by rfl) (r_cons (r_blt (c_sorted hu) g_sorted (by rfl) (r_cons (r_sl (r_callB F__law_shuffled (hr.mono (by omega)) tk (r_bc (r_var 0) (r_b0 (i := 1) (r_cons (r_var 4) (r_nil))))) (r_pn) (r_ps (r_callB F__law_pick (hr.mono (by omega)) tk (r_bc (r_var 0) (r_b0 (i := 1) (r_cons (r_lst (r_cons (r_int) (r_cons (r_int) (r_cons (r_int) (r_cons (r_int) (r_cons (r_int) (r_cons (r_int) (r_nil)))))))) (r_nil))))))) (r_nil))) (r_nil))))))) (r_frz (i := 5) (r_frz (i := 8) (r_end (r_ret (r_tup (r_cons (r_typ (c_tup) g_tuple (by rfl) (r_cons (r_var 5) (r_nil))) (r_cons (r_call F__law_groups_from (hr.mono (by omega)) tk (r_cons (r_var 5) (r_cons (r_var 8) (r_cons (r_int) (r_nil))))) (r_nil))))))))))))
theorem sc__law_sums : FnScope ["scenario", "weights", "group", "names", "found", "rows", "cell", "row", "weight"] ["scenario", "weights", "group"] (defScope (Hd.top 35)) := ⟨rfl, rfl, rfl, by decide +kernel, rfl, by decide +kernel, by decide +kernel⟩
theorem w__law_sums {P : Program} {w : World} {K : PySem.W.Frag} {mg : Str → Option Value} {base h : Heap} (KX : K.In h) (G : h.Ns mainGlobals mg) (c : He.SaysD Hd.fa Hd.fn K) (EX : ExcF K mg excs) (EM : ExcM K excs) : Has P w K mg base 2 "_law_sums" 3 p__law_sums := by
  obtain ⟨fd, F⟩ := c.def_ 28 (d := Hd.dd 35 "_law_sums") rfl
  refine ⟨_, fd, ["scenario", "weights", "group"], ?_, He.glo_ok KX G (c.fact 28 (f := .glo "_law_sums") rfl), F.kp, F.bindsN fun _ _ _ _ _ _ us hl => match us, hl with | [_, _, _], _ => rfl⟩
  have g_sum : mg "sum" = none := He.free_ok KX G (c.fact 50 (f := .free "sum") rfl)
  have g_tuple : mg "tuple" = none := He.free_ok KX G (c.fact 51 (f := .free "tuple") rfl)
  have g_zip : mg "zip" = none := He.free_ok KX G (c.fact 52 (f := .free "zip") rfl)
  have F__law_cells := w__law_cells (P := P) (w := w) (base := base) KX G c EX EM
  have F__law_names := w__law_names (P := P) (w := w) (base := base) KX G c EX EM
  have F__law_part := w__law_part (P := P) (w := w) (base := base) KX G c EX EM
  have hN := sc__law_sums.nd
  refine fn_pure F sc__law_sums ?_
  rintro ⟨prog, w', K', mg', bs, A, N, s0, H0, ⟨scope, locs, gls, cells, qual, func, code, frame, blts⟩, outer, stack, ex, fn, calm, pn, xe⟩ E h1 h2 h3 h4 h5 h6 h7 hc hf hst hfr hr tk hp
  cases h1; cases h2; cases h3; cases h4; cases h5; cases h6; cases h7; cases hc; cases hf
  have hu : A.units + 64 < cLine := by have := hr.un; simp only at this; omega
  exact r_seq (r_parT2 (i := 3) (j := 4) rfl hN (m_consD (r_call F__law_names (hr.mono (by omega)) tk (r_cons (r_var 0) (r_nil))) (m_consL (r_lstL (r_nil)) (m_nil)))) (r_seq (r_set (i := 5) hN (r_call F__law_cells (hr.mono (by omega)) tk (r_cons (r_ix hu (r_var 0) (r_int)) (r_cons (r_var 3) (r_nil))))) (r_seq (r_for hp rfl (r_iter (r_call F__law_cells (hr.mono (by omega)) tk (r_cons (r_ix hu (r_var 0) (r_int)) (r_cons (r_var 2) (r_nil))))) (r_name hN) (r_seq (r_expr (r_app (i := 4) (r_blt (c_sum rfl) g_sum (by rfl) (r_cons (r_fzL (r_lc  rfl hN (r_zip g_zip (r_cons (r_var 5) (r_cons (r_var 1) (r_nil)))) (own := [("row", 7), ("weight", 8)]) (us := [7, 8]) (blk_of (by kernel_rfl)) (by decide) (fun s H C cl fp => r_gtup rfl (r_gcons (r_name hN) (r_gcons (r_name hN) (r_gnil)))) (fun s H C cl fp => r_ifs1 (r_tcmp (o_eq hu) (r_call F__law_part (hr.mono (by omega)) takesF (r_cons (r_var 3) (r_cons (r_var 7) (r_cons (r_var 2) (r_nil))))) (r_var 6))) (fun s H C cl fp => r_var 8))) (r_nil))))) (r_wipe (vs := [6]) r_empty))) (r_frz (i := 4) (r_end (r_ret (r_typ (c_tup) g_tuple (by rfl) (r_cons (r_var 4) (r_nil))))))))
theorem sc__law_weights : FnScope ["script", "state", "scenario", "far", "size", "weights", "k"] ["script", "state", "scenario", "far"] (defScope (Hd.top 36)) := ⟨rfl, rfl, rfl, by decide +kernel, rfl, by decide +kernel, by decide +kernel⟩
theorem w__law_weights {P : Program} {w : World} {K : PySem.W.Frag} {mg : Str → Option Value} {base h : Heap} (KX : K.In h) (G : h.Ns mainGlobals mg) (c : He.SaysD Hd.fa Hd.fn K) (EX : ExcF K mg excs) (EM : ExcM K excs) : HasB P w K mg base 2 "_law_weights" 1 2 b__law_weights := by
  obtain ⟨fd, F⟩ := c.def_ 29 (d := Hd.dd 36 "_law_weights") rfl
  refine ⟨_, fd, ["script", "state", "scenario", "far"], ?_, He.glo_ok KX G (c.fact 29 (f := .glo "_law_weights") rfl), F.kp, F.bindsN fun _ _ _ _ _ _ us hl => match us, hl with | [_, _, _, _], _ => rfl⟩
  have g_len : mg "len" = none := He.free_ok KX G (c.fact 44 (f := .free "len") rfl)
  have g_range : mg "range" = none := He.free_ok KX G (c.fact 47 (f := .free "range") rfl)
  have g_tuple : mg "tuple" = none := He.free_ok KX G (c.fact 51 (f := .free "tuple") rfl)
  have F__law_cells := w__law_cells (P := P) (w := w) (base := base) KX G c EX EM
  have F__law_draw := w__law_draw (P := P) (w := w) (base := base) KX G c EX EM
  have F__law_names := w__law_names (P := P) (w := w) (base := base) KX G c EX EM
  have hN := sc__law_weights.nd
  refine fn_ref (np := 1) (nq := 2) F sc__law_weights rfl ?_
  rintro ⟨prog, w', K', mg', bs, A, N, s0, H0, ⟨scope, locs, gls, cells, qual, func, code, frame, blts⟩, outer, stack, ex, fn, calm, pn, xe⟩ E h1 h2 h3 h4 h5 h6 h7 hc hf hst hfr hr tk hp
  cases h1; cases h2; cases h3; cases h4; cases h5; cases h6; cases h7; cases hc; cases hf
  have hu : A.units + 64 < cLine := by have := hr.un; simp only at this; omega
  exact r_seq (r_set (i := 4) hN (r_blt (c_len) g_len (by rfl) (r_cons (r_call F__law_cells (hr.mono (by omega)) tk (r_cons (r_ix hu (r_var 2) (r_int)) (r_cons (r_call F__law_names (hr.mono (by omega)) tk (r_cons (r_var 2) (r_nil))) (r_nil)))) (r_nil)))) (r_seq (r_setL (i := 5) hN (r_binL o_mulL (r_lst (r_cons (r_int) (r_nil))) (r_var 4))) (r_seq (r_for hp rfl (r_rng1 g_range (r_cons (r_bin o_add (r_int) (r_callB F__law_draw (hr.mono (by omega)) tk (r_bc (r_var 0) (r_b0 (i := 1) (r_cons (r_int) (r_nil)))))) (r_nil))) (r_name hN) (r_seq (r_augI (i := 5) io_add (r_callB F__law_draw (hr.mono (by omega)) tk (r_bc (r_var 0) (r_b0 (i := 1) (r_cons (r_var 4) (r_nil))))) (r_bin o_add (r_int) (r_callB F__law_draw (hr.mono (by omega)) tk (r_bc (r_var 0) (r_b0 (i := 1) (r_cons (r_var 3) (r_nil))))))) (r_wipe (vs := [6]) r_empty))) (r_frz (i := 5) (r_end (r_ret (r_typ (c_tup) g_tuple (by rfl) (r_cons (r_var 5) (r_nil))))))))
theorem sc__law_model_of_or : FnScope ["scenario", "weights"] ["scenario", "weights"] (defScope (Hd.top 37)) := ⟨rfl, rfl, rfl, by decide +kernel, rfl, by decide +kernel, by decide +kernel⟩
theorem w__law_model_of_or {P : Program} {w : World} {K : PySem.W.Frag} {mg : Str → Option Value} {base h : Heap} (KX : K.In h) (G : h.Ns mainGlobals mg) (c : He.SaysD Hd.fa Hd.fn K) (EX : ExcF K mg excs) (EM : ExcM K excs) : Has P w K mg base 7 "_law_model_of_or" 2 p__law_model_of_or := by
  obtain ⟨fd, F⟩ := c.def_ 30 (d := Hd.dd 37 "_law_model_of_or") rfl
  refine ⟨_, fd, ["scenario", "weights"], ?_, He.glo_ok KX G (c.fact 30 (f := .glo "_law_model_of_or") rfl), F.kp, F.bindsN fun _ _ _ _ _ _ us hl => match us, hl with | [_, _], _ => rfl⟩
  have F_model_of := w_model_of (P := P) (w := w) (base := base) KX G c EX EM
  have hN := sc__law_model_of_or.nd
  refine fn_pure F sc__law_model_of_or ?_
  rintro ⟨prog, w', K', mg', bs, A, N, s0, H0, ⟨scope, locs, gls, cells, qual, func, code, frame, blts⟩, outer, stack, ex, fn, calm, pn, xe⟩ E h1 h2 h3 h4 h5 h6 h7 hc hf hst hfr hr tk hp
  cases h1; cases h2; cases h3; cases h4; cases h5; cases h6; cases h7; cases hc; cases hf
  have hu : A.units + 64 < cLine := by have := hr.un; simp only at this; omega
  exact r_end (r_try hst hfr tk (fun W2 pn2 xe2 tk2 hp2 => r_end (r_ret (r_call F_model_of (hr.mono (by omega)) tk2 (r_cons (r_var 0) (r_cons (r_var 1) (r_nil)))))) (.cons (EX "InvalidScenario" (by decide +kernel)).mg (EM "InvalidScenario" (by decide +kernel) _ (by kernel_rfl)) (.cons (EX "InvalidWeights" (by decide +kernel)).mg (EM "InvalidWeights" (by decide +kernel) _ (by kernel_rfl)) (.nil))))
theorem sc_law : FnScope ["script", "state", "k", "scenario", "weights", "due", "full", "over", "lower", "zero", "wrong", "group", "weight"] ["script"] (defScope (Hd.top 38)) := ⟨rfl, rfl, rfl, by decide +kernel, rfl, by decide +kernel, by decide +kernel⟩
theorem w_law {P : Program} {w : World} {K : PySem.W.Frag} {mg : Str → Option Value} {h : Heap} {fA : Addr} (KX : K.In h) (G : h.Ns mainGlobals mg) (c : He.SaysD Hd.fa Hd.fn K) (EX : ExcF K mg excs) (EM : ExcM K excs) (hfa : mg ("law" : Str) = some (.ref fA)) (HM : ∀ ns : List Int, ns.length ≤ 63 → runP 13 m_law [.list (ns.map PyData.int)] = .ok (.bool true)) : ∃ fd : FuncData, (∀ (s : Shared) (v : Value), BindsTo s fd ⟨[v], []⟩ [("script", v)]) ∧ ∀ base : Heap, FnOk P w K mg base (L2.CX P w) 14 fA fd ["script"] (spLaw K) := by
  obtain ⟨fd, F⟩ := c.def_ 31 (d := Hd.dd 38 "law") rfl
  have e := hfa.symm.trans (He.glo_ok KX G (c.fact 31 (f := .glo "law") rfl))
  cases e
  have b := FunD.bindsA (ps := ["script"]) F fun _ _ _ _ _ _ us hl => match us, hl with | [_], _ => rfl
  refine ⟨fd, fun s v => b s [v] rfl, fun base => ?_⟩
  have g_list : mg "list" = none := He.free_ok KX G (c.fact 45 (f := .free "list") rfl)
  have g_range : mg "range" = none := He.free_ok KX G (c.fact 47 (f := .free "range") rfl)
  have g_sum : mg "sum" = none := He.free_ok KX G (c.fact 50 (f := .free "sum") rfl)
  have g_tuple : mg "tuple" = none := He.free_ok KX G (c.fact 51 (f := .free "tuple") rfl)
  have F__law_model_of_or := w__law_model_of_or (P := P) (w := w) (base := base) KX G c EX EM
  have F__law_same := w__law_same (P := P) (w := w) (base := base) KX G c EX EM
  have F__law_scenario := w__law_scenario (P := P) (w := w) (base := base) KX G c EX EM
  have F__law_sums := w__law_sums (P := P) (w := w) (base := base) KX G c EX EM
  have F__law_weights := w__law_weights (P := P) (w := w) (base := base) KX G c EX EM
  have F_model_of := w_model_of (P := P) (w := w) (base := base) KX G c EX EM
  have hN := sc_law.nd
  refine fn_law F sc_law ?_ HM
  rintro ⟨prog, w', K', mg', bs, A, N, s0, H0, ⟨scope, locs, gls, cells, qual, func, code, frame, blts⟩, outer, stack, ex, fn, calm, pn, xe⟩ E h1 h2 h3 h4 h5 h6 h7 hc hf hst hfr hr tk hp
  cases h1; cases h2; cases h3; cases h4; cases h5; cases h6; cases h7; cases hc; cases hf
  have hu : A.units + 64 < cLine := by have := hr.un; simp only at this; omega
  exact r_seq (r_setL (i := 1) hN (r_lstL (r_nil))) (r_seq (r_for hp rfl (r_rng1 g_range (r_cons (r_int) (r_nil))) (r_name hN) (r_seq (r_set (i := 3) hN (r_callB F__law_scenario (hr.mono (by omega)) tk (r_bc (r_var 0) (r_b0 (i := 1) (r_cons (r_int) (r_cons (r_int) (r_nil))))))) (r_seq (r_set (i := 4) hN (r_callB F__law_weights (hr.mono (by omega)) tk (r_bc (r_var 0) (r_b0 (i := 1) (r_cons (r_var 3) (r_cons (r_int) (r_nil))))))) (r_seq (r_set (i := 5) hN (r_typ (c_tup) g_tuple (by rfl) (r_cons (r_fzL (r_lc  rfl hN (r_iter (r_ix hu (r_var 3) (r_int))) (own := [("group", 11)]) (us := [11]) (blk_of (by kernel_rfl)) (by decide) (fun s H C cl fp => r_name hN) (fun s H C cl fp => r_ifs0) (fun s H C cl fp => r_call F__law_sums (hr.mono (by omega)) takesF (r_cons (r_var 3) (r_cons (r_var 4) (r_cons (r_var 11) (r_nil))))))) (r_nil)))) (r_seq (r_if (r_tnot (r_tru (r_call F__law_same (hr.mono (by omega)) tk (r_cons (r_call F_model_of (hr.mono (by omega)) tk (r_cons (r_var 3) (r_cons (r_var 4) (r_nil)))) (r_cons (r_var 5) (r_nil)))))) (r_end (r_ret (r_bl))) (r_empty)) (r_seq (r_set (i := 6) hN (r_bin o_add (r_sl (r_var 4) (r_pn) (r_ps (r_un u_neg (r_int)))) (r_tup (r_cons (r_bin o_sub (r_bin o_add (r_ix hu (r_var 4) (r_un u_neg (r_int))) (r_int)) (r_blt (c_sum rfl) g_sum (by rfl) (r_cons (r_var 4) (r_nil)))) (r_nil))))) (r_seq (r_if (r_tcmp (o_ne hu) (r_ix hu (r_call F_model_of (hr.mono (by omega)) tk (r_cons (r_var 3) (r_cons (r_var 6) (r_nil)))) (r_int)) (r_call F__law_sums (hr.mono (by omega)) tk (r_cons (r_var 3) (r_cons (r_var 6) (r_cons (r_ix hu (r_ix hu (r_var 3) (r_int)) (r_int)) (r_nil)))))) (r_end (r_ret (r_bl))) (r_empty)) (r_seq (r_set (i := 7) hN (r_bin o_add (r_sl (r_var 6) (r_pn) (r_ps (r_un u_neg (r_int)))) (r_tup (r_cons (r_bin o_add (r_ix hu (r_var 6) (r_un u_neg (r_int))) (r_int)) (r_nil))))) (r_seq (r_set (i := 8) hN (r_bin o_add (r_tup (r_cons (r_bin o_sub (r_bin o_sub (r_ix hu (r_var 4) (r_int)) (r_blt (c_sum rfl) g_sum (by rfl) (r_cons (r_var 4) (r_nil)))) (r_int)) (r_nil))) (r_sl (r_var 4) (r_ps (r_int)) (r_pn)))) (r_seq (r_set (i := 9) hN (r_typ (c_tup) g_tuple (by rfl) (r_cons (r_fzL (r_lc  rfl hN (r_iter (r_var 4)) (own := [("weight", 12)]) (us := [12]) (blk_of (by kernel_rfl)) (by decide) (fun s H C cl fp => r_name hN) (fun s H C cl fp => r_ifs0) (fun s H C cl fp => r_int))) (r_nil)))) (r_seq (r_for hp rfl (r_iter (r_lst (r_cons (r_var 7) (r_cons (r_var 8) (r_cons (r_var 9) (r_cons (r_fzL (r_list g_list (r_cons (r_var 4) (r_nil)))) (r_cons (r_bin o_add (r_var 4) (r_tup (r_cons (r_int) (r_nil)))) (r_cons (r_sl (r_var 4) (r_ps (r_int)) (r_pn)) (r_cons (r_bin o_add (r_sl (r_var 4) (r_pn) (r_ps (r_un u_neg (r_int)))) (r_tup (r_cons (r_bl) (r_nil)))) (r_cons (r_non) (r_nil))))))))))) (r_name hN) (r_seq (r_if (r_tcmp (o_ne hu) (r_call F__law_model_of_or (hr.mono (by omega)) tk (r_cons (r_var 3) (r_cons (r_var 10) (r_nil)))) (r_str)) (r_end (r_ret (r_bl))) (r_empty)) (r_wipe (vs := [10]) r_empty))) (r_wipe (vs := [2, 3, 4, 5, 6, 7, 8, 9, 10]) r_empty)))))))))))) (r_end (r_ret (r_bl))))
end PP

namespace PP
open PySem PySem.Spec L2
open PyProof.Rows hiding St
theorem exF {K : PySem.W.Frag} {mg : Str → Option Value} {h : Heap} (KX : K.In h) (G : h.Ns mainGlobals mg) (c : He.SaysD Hd.fa Hd.fn K) : ExcF K mg excs := ExcF.cons (ExcK.of KX G (c.fact 33 (f := .glo "InvalidScenario") rfl) (c.fact 53 (f := .exc "InvalidScenario") rfl)) (ExcF.cons (ExcK.of KX G (c.fact 34 (f := .glo "InvalidWeights") rfl) (c.fact 54 (f := .exc "InvalidWeights") rfl)) (ExcF.nil))
theorem exM {K : PySem.W.Frag} (c : He.SaysD Hd.fa Hd.fn K) : ExcM K excs := ExcM.of ⟨ExmR.cons (c.fact 55 (f := .exm "InvalidScenario" "InvalidScenario" true) rfl) (ExmR.cons (c.fact 57 (f := .exm "InvalidWeights" "InvalidScenario" false) rfl) (ExmR.nil)), ⟨ExmR.cons (c.fact 56 (f := .exm "InvalidScenario" "InvalidWeights" false) rfl) (ExmR.cons (c.fact 58 (f := .exm "InvalidWeights" "InvalidWeights" true) rfl) (ExmR.nil)), trivial⟩⟩
end PP
open PySem PySem.W PySem.Calls PyProof.Rows
theorem PySem.Challenge.cw_jointtables_k07_models_from_weights_holds : PySem.Challenge.rw_jointtables_k07_models_from_weights.Holds := by
  w_on; o_law
  refine HandSHeadRun.head_any (r := OpenLaw.row PySem.Challenge.rw_jointtables_k07_models_from_weights) (q := view (OpenLaw.row PySem.Challenge.rw_jointtables_k07_models_from_weights).prog [38]) (H := Hd.hk) (ob := Hd.ob) (M := 4000) (loose := Hd.names) (d := HandSHeadRun.topDef (OpenLaw.row PySem.Challenge.rw_jointtables_k07_models_from_weights).prog 38) (kwd := []) Hd.ob_eq
    (by kernel_rfl) (fun s => by kernel_rfl) Hd.run (by kernel_rfl) (by kernel_rfl) (by kernel_rfl) (by rfl) (by first | assumption | decide +kernel) (by decide +kernel) ⟨rfl, rfl, rfl, rfl, rfl, by decide +kernel⟩ ?hw ?hc
  case hw => w_witness2
  case hc =>
    refine PP.walk_ofW (l := PySem.Challenge.rw_jointtables_k07_models_from_weights) (n := 63) (k := 14) (x := "script") rfl (by decide) (by kernel_rfl) ⟨rfl, by decide, by decide⟩ ?F
    intro w mg fa h Y G hmg0
    obtain ⟨K, KX, c⟩ := Y
    have hmg : mg ("law" : PySem.Str) = some (.ref fa) := by
      have e : (HandSHeadRun.topDef (OpenLaw.row PySem.Challenge.rw_jointtables_k07_models_from_weights).prog 38).name = ("law" : PySem.Str) := by kernel_rfl
      rw [← e]
      exact hmg0
    obtain ⟨fd, hb, hF⟩ := PP.w_law (P := (PySem.Challenge.rw_jointtables_k07_models_from_weights).prog) (w := w) KX G c (PP.exF KX G c) (PP.exM c) hmg PP.k7_law
    exact ⟨K, fd, PP.spLaw K, KX, hb, fun H a ns hl _ hS => ⟨a, ns, rfl, hl, hS, fun _ => rfl⟩, fun base _ _ => hF base⟩

