import PyProof.Rows.All
import Wide.All
import OpenK.AllK
import Wide.FinOn
import KE.KStateDown
import HandS.Base
import HandS.Call
import HandS.Ends
import HandS.More
import HandS.Words
import HandS.WordsExc
import HandS.Defaults
import HandS.Head0
import HandS.Head1
import HandS.Head2
import HandS.HeadEnd
import HandS.HeadHook1
import HandS.HeadHook2
import PySem.Challenge.RW_jointtables_k01_scenarios_recognized
import HandS.ForMost
import HandS.ForExc
import HandS.CallSlots
import HandS.TryMany
import KE.DataCmp
import KE.DataEq
import KE.DataAny
import HandS.Flow
import HandS.Style
import HandS.Zip
import KE.GoesEnum
import HandS.TupAny
import HandS.IsInst
import KE.SortData
import KE.DataMinMax
import KE.KRevSl
import HandS.Small
import KE.KDictPairs
import PyProof.ExcBaseAll.ValueError
import HandS.Strs
import HandS.TupLe
import HandS.DictComp
import KE.KDictItemsList
import KE.KDictZip
import HandS.Text
import HandS.TupSets
import KE.KeyNested
import HandS.TupMul
import HandS.Wide
import HandS.Conv
import KE.DataFind
import KE.KDictSum
import KE.KDictCopyH
import PyProof.FitsInt
set_option Elab.async false
set_option linter.all false
set_option maxRecDepth 100000
set_option maxHeartbeats 0
namespace Hd
open PySem PySem.Spec PyProof.Rows L2
def top (i : Nat) : Stmt := PySem.Challenge.pw_jointtables_k01_scenarios_recognized.main.body.getD i (.Pass ⟨0, 0, 0, 0⟩)
def mtop (i j : Nat) : Stmt := inClass (top i) j
def dm (i j : Nat) (c m : Str) : He.DefD := ⟨(c, some m), m, c ++ ("." : Str) ++ m, defArgs (mtop i j), defBody (mtop i j), defScope (mtop i j), [], []⟩
def dd (i : Nat) (n : Str) : He.DefD := ⟨(n, none), n, n, defArgs (top i), defBody (top i), defScope (top i), [], []⟩
def fn : List He.DefD := [dd 1 "is_integer", dd 2 "is_ascending", dd 3 "is_name", dd 4 "is_question", dd 5 "product", dd 6 "are_questions", dd 7 "is_name_tuple", dd 8 "contains", dd 9 "cell_count", dd 10 "is_scenario", dd 12 "_law_draw", dd 13 "_law_pick", dd 14 "_law_shuffled", dd 15 "_law_bent", dd 16 "_law_cells", dd 17 "_law_groups_from", dd 18 "_law_scenario", dd 19 "_law_is_int", dd 20 "_law_is_name", dd 21 "_law_questions", dd 22 "_law_group", dd 23 "_law_is_scenario", dd 24 "_law_near_misses", dd 25 "law"]
def fa : List He.Fa := [.glo "is_integer", .glo "is_ascending", .glo "is_name", .glo "is_question", .glo "product", .glo "are_questions", .glo "is_name_tuple", .glo "contains", .glo "cell_count", .glo "is_scenario", .glo "_law_draw", .glo "_law_pick", .glo "_law_shuffled", .glo "_law_bent", .glo "_law_cells", .glo "_law_groups_from", .glo "_law_scenario", .glo "_law_is_int", .glo "_law_is_name", .glo "_law_questions", .glo "_law_group", .glo "_law_is_scenario", .glo "_law_near_misses", .glo "law", .free "abs", .free "all", .free "any", .free "bool", .free "dict", .free "enumerate", .free "int", .free "isinstance", .free "len", .free "list", .free "max", .free "range", .free "set", .free "sorted", .free "str", .free "sum", .free "tuple", .free "zip"]
abbrev R : PySem.W.OpenRow := PySem.W.OpenLaw.row PySem.Challenge.rw_jointtables_k01_scenarios_recognized
abbrev hk : PySem.W.Hook := He.hookD 4 fa fn
def ob (s : PySem.W.SharedT) : He.AlD := He.obsDG 4 fa fn (HandSHeadRun.getT s)
theorem ob_eq (s : PySem.W.SharedT) : ob s = hk.obs s.abs := He.obsDG_eq (HandSHeadRun.getT_eq s)
def names : List PySem.Str := [("is_integer" : PySem.Str), ("is_ascending" : PySem.Str), ("is_name" : PySem.Str), ("is_question" : PySem.Str), ("product" : PySem.Str), ("are_questions" : PySem.Str), ("is_name_tuple" : PySem.Str), ("contains" : PySem.Str), ("cell_count" : PySem.Str), ("is_scenario" : PySem.Str), ("_law_draw" : PySem.Str), ("_law_pick" : PySem.Str), ("_law_shuffled" : PySem.Str), ("_law_bent" : PySem.Str), ("_law_cells" : PySem.Str), ("_law_groups_from" : PySem.Str), ("_law_scenario" : PySem.Str), ("_law_is_int" : PySem.Str), ("_law_is_name" : PySem.Str), ("_law_questions" : PySem.Str), ("_law_group" : PySem.Str), ("_law_is_scenario" : PySem.Str), ("_law_near_misses" : PySem.Str)]
theorem run (w : World) : HandSHeadRun.RunEq R (PySem.W.view R.prog [25]) hk ob 6000 names w := by
  intro os
  kernel_rfl
end Hd
namespace PP
open PySem PySem.Spec L2
open PyProof.Rows hiding St
/-! ### values with owners -/
abbrev D := PyData
/-- what an attribute of an object of one's own holds -/
inductive Tf where
  | d (x : D)
  | ml (xs : List D)
  | hid (a : Addr)
inductive Tv where
  | d (x : D)
  | ml (b : Bool) (xs : List D)
  | md (b : Bool) (t : Bool) (kvs : List (D × D))
  | mf (b : Bool) (kvs : List (D × D))
  | ob (b : Bool) (c : Str) (fs : List (Str × Tf))
def Tv.bor : Tv → Bool
  | .d _ => false
  | .ml b _ => b
  | .md b _ _ => b
  | .mf b _ => b
  | .ob b _ _ => b
abbrev Ga := List (Option Tv)
inductive Rs (α : Type) where
  | ok (a : α) (g : Ga)
  | exc (c : Str) (g : Ga)
  | stuck
abbrev M (α : Type) := Ga → Rs α
def bnd {α β : Type} (m : M α) (f : α → M β) : M β := fun g => match m g with
  | .ok a g' => f a g'
  | .exc c g' => .exc c g'
  | .stuck => .stuck
/-! ### what is known of the program, with the program and its world -/
structure KF where
  fr : PySem.W.Frag
  P : Program
  w : World
instance : Coe KF PySem.W.Frag := ⟨KF.fr⟩
abbrev _root_.L2.Cx.KF (X : L2.Cx) : PP.KF := ⟨X.K, X.prog, X.w⟩
/-! ### frozen data in an abstract heap -/
def kD : Key → D
  | .inl i => .int i
  | .inr x => .str x
def KL (K : KF) (a : Addr) (xs : List V) : Prop :=
  ∃ (o : Obj) (its : Array Value) (n : Nat), K.fr.lookup a = some o ∧ o.cls = .type "list" ∧ o.dict = none ∧ o.data = .seq its n ∧ its.size ≤ sizeLine ∧ Vals xs its.toList
def FzL (K : KF) (H : Hp) (a : Addr) (xs : List V) : Prop := (∃ o, H a = some (.frz o (.lst xs))) ∨ KL K a xs
/-- a plain tuple: of ints alone, or its object is known -/
def vKey : V → Bool
  | .int _ => true
  | _ => false
def tupO (o : Obj) (xs : List V) : HO := if xs.all vKey = true then .tup xs else .frz o (.tup xs)
def FT (H : Hp) (a : Addr) (xs : List V) : Prop := ∃ o : Obj, o.dict = none ∧ H a = some (tupO o xs)
/-- a dict, its keys any tuples of ints and texts -/
abbrev Rw3 := List Key × Addr × Value
def dFo (K : KF) (a : Addr) (xs : List Rw3) : HO := .ext fun h => xs.length ≤ sizeLine ∧ (a == sysModules) = false ∧ ∃ o es ep, h.get? a = some o ∧ o.ExactDict ∧ o.data = .dict es ep ∧ es.toList = xs.map (entryOfKey (tupleKind (mixKind K.P K.w))) ∧ (xs.map (·.1)).Nodup
/-- keys that are ints alone -/
def iKs (k : List Key) : Bool := k.all fun x => match x with
  | .inl _ => true
  | .inr _ => false
mutual
inductive Fz (K : KF) (H : Hp) : V → D → Prop
  | non : Fz K H .non .none
  | bl (b : Bool) : Fz K H (.bl b) (.bool b)
  | int (i : Int) : Fz K H (.int i) (.int i)
  | str (x : Str) : Fz K H (.str x) (.str x)
  | lst {a : Addr} {xs : List V} {ds : List D} : FzL K H a xs → FzAll K H xs ds → Fz K H (.ref a) (.list ds)
  | tup {a : Addr} {xs : List V} {ds : List D} : FT H a xs → FzAll K H xs ds → Fz K H (.ref a) (.tuple ds)
  | dK {a : Addr} {o : Obj} {kvs : List (Key × V)} {ds : List D} : H a = some (.frz o (.dK kvs)) → FzAll K H (kvs.map (·.2)) ds → Fz K H (.ref a) (.dict ((kvs.map fun p => kD p.1).zip ds))
  | dT {a : Addr} {o : Obj} {kvs : List (List Key × V)} {ds : List D} : H a = some (.frz o (.dT kvs)) → FzAll K H (kvs.map (·.2)) ds → (∀ p ∈ kvs, iKs p.1 = true) → Fz K H (.ref a) (.dict ((kvs.map fun p => PyData.tuple (p.1.map kD)).zip ds))
  | dF {a : Addr} {o : Obj} {xs : List Rw3} {vs : List V} {ds : List D} : H a = some (.frz o (dFo K a xs)) → (∀ x ∈ xs, FT H x.2.1 (x.1.map kV)) → Vals vs (xs.map (·.2.2)) → FzAll K H vs ds → Fz K H (.ref a) (.dict ((xs.map fun x => PyData.tuple (x.1.map kD)).zip ds))
inductive FzAll (K : KF) (H : Hp) : List V → List D → Prop
  | nil : FzAll K H [] []
  | cons {v : V} {vs : List V} {d : D} {ds : List D} : Fz K H v d → FzAll K H vs ds → FzAll K H (v :: vs) (d :: ds)
end
/-- what is never written -/
def isFz : HO → Bool
  | .frz _ _ => true
  | .tup _ => true
  | _ => false
def Pers (H H' : Hp) : Prop := ∀ a o, H a = some o → isFz o = true → H' a = some o
theorem Pers.refl (H : Hp) : Pers H H := fun _ _ e _ => e
theorem Pers.trans {H H1 H2 : Hp} (a : Pers H H1) (b : Pers H1 H2) : Pers H H2 := fun c o e f => b c o (a c o e f) f
theorem Pers.of_same {H H' : Hp} (s : Same H H') : Pers H H' := fun a o e _ => s a o e
theorem FzL.pers {K : KF} {H H' : Hp} {a : Addr} {xs : List V} (h : FzL K H a xs) (p : Pers H H') : FzL K H' a xs := by
  rcases h with ⟨o, e⟩ | h
  · exact .inl ⟨o, p a _ e rfl⟩
  · exact .inr h
theorem tupO_fz (o : Obj) (xs : List V) : isFz (tupO o xs) = true := by
  unfold tupO
  split <;> rfl
theorem FT.pers {H H' : Hp} {a : Addr} {xs : List V} (h : FT H a xs) (p : Pers H H') : FT H' a xs := by
  obtain ⟨o, d, e⟩ := h
  exact ⟨o, d, p a _ e (tupO_fz o xs)⟩
theorem FT.sq {K : PySem.W.Frag} {H : Hp} {a : Addr} {xs : List V} (h : FT H a xs) : SqT K H a xs := by
  obtain ⟨o, d, e⟩ := h
  unfold tupO at e
  split at e
  · exact .inl (.inl e)
  · exact .inl (.inr ⟨o, e⟩)
theorem FT.exact {H : Hp} {a : Addr} {xs : List V} (h : FT H a xs) (k : xs.all vKey = false) : ∃ o : Obj, o.dict = none ∧ H a = some (.frz o (.tup xs)) := by
  obtain ⟨o, d, e⟩ := h
  rw [tupO, if_neg (by rw [k]; decide)] at e
  exact ⟨o, d, e⟩
theorem tupO_ok {P : Program} {w : World} {H : Hp} {h : Heap} {a : Addr} {o : Obj} {xs : List V} {its : List Value} {n : Nat} (e : h.get? a = some o) (hc : o.cls = .type "tuple") (hd : o.data = .seq its.toArray n) (r : Vals xs its) (z : xs.length ≤ sizeLine) : ObjOk P w H h a (tupO o xs) := by
  have q : ObjOk P w H h a (.tup xs) := ⟨z, its, r, ⟨o, e, hc, n, hd⟩⟩
  unfold tupO
  split
  · exact q
  · exact ⟨e, q⟩
theorem FT.new {H : Hp} {a : Addr} {o : Obj} {xs : List V} (d : o.dict = none) : FT (L2.upd H a (tupO o xs)) a xs := ⟨o, d, upd_same⟩
mutual
theorem Fz.pers {K : KF} {H H' : Hp} : ∀ {v : V} {d : D}, Fz K H v d → Pers H H' → Fz K H' v d
  | _, _, .non, _ => .non
  | _, _, .bl b, _ => .bl b
  | _, _, .int i, _ => .int i
  | _, _, .str x, _ => .str x
  | _, _, .lst h a, p => .lst (h.pers p) (FzAll.pers a p)
  | _, _, .tup h a, p => .tup (h.pers p) (FzAll.pers a p)
  | _, _, .dK h a, p => .dK (p _ _ h rfl) (FzAll.pers a p)
  | _, _, .dT h a hk, p => .dT (p _ _ h rfl) (FzAll.pers a p) hk
  | _, _, .dF h k r a, p => .dF (p _ _ h rfl) (fun x hx => (k x hx).pers p) r (FzAll.pers a p)
theorem FzAll.pers {K : KF} {H H' : Hp} : ∀ {vs : List V} {ds : List D}, FzAll K H vs ds → Pers H H' → FzAll K H' vs ds
  | _, _, .nil, _ => .nil
  | _, _, .cons h a, p => .cons (Fz.pers h p) (FzAll.pers a p)
end
theorem FzL.sq {K : KF} {H : Hp} {a : Addr} {xs : List V} (h : FzL K H a xs) : SqL K H a xs := by
  rcases h with ⟨o, e⟩ | h
  · exact .inl (.inr ⟨o, e⟩)
  · exact .inr h
mutual
theorem Fz.dp {K : KF} {H : Hp} : ∀ {v : V} {d : D}, Fz K H v d → d.plain = true → Dp K H v d
  | _, _, .non, _ => .non
  | _, _, .bl b, _ => .bl b
  | _, _, .int i, _ => .int i
  | _, _, .str x, _ => .str x
  | _, _, .lst h a, p => .lst h.sq (FzAll.dp a (by simpa [PyData.plain] using p))
  | _, _, .tup h a, p => .tup h.sq (FzAll.dp a (by simpa [PyData.plain] using p))
  | _, _, .dK h a, p => by simp [PyData.plain] at p
  | _, _, .dT h a _, p => by simp [PyData.plain] at p
  | _, _, .dF h k r a, p => by simp [PyData.plain] at p
theorem FzAll.dp {K : KF} {H : Hp} : ∀ {vs : List V} {ds : List D}, FzAll K H vs ds → PyData.plainAll ds = true → DpAll K H vs ds
  | _, _, .nil, _ => .nil
  | _, _, .cons h a, p => by
    rw [PyData.plainAll, Bool.and_eq_true] at p
    exact .cons (Fz.dp h p.1) (FzAll.dp a p.2)
end
theorem FzAll.length {K : KF} {H : Hp} : ∀ {vs : List V} {ds : List D}, FzAll K H vs ds → vs.length = ds.length
  | _, _, .nil => rfl
  | _, _, .cons _ a => by simp [FzAll.length a]
theorem FzAll.append {K : KF} {H : Hp} : ∀ {vs ws : List V} {ds es : List D}, FzAll K H vs ds → FzAll K H ws es → FzAll K H (vs ++ ws) (ds ++ es)
  | _, _, _, _, .nil, b => b
  | _, _, _, _, .cons h a, b => .cons h (FzAll.append a b)
theorem FzAll.get {K : KF} {H : Hp} : ∀ {vs : List V} {ds : List D} {i : Nat} {v : V}, FzAll K H vs ds → vs[i]? = some v → ∃ d, ds[i]? = some d ∧ Fz K H v d
  | _, _, _, _, .nil, e => by simp at e
  | _, _, 0, _, .cons h a, e => by simp at e; subst e; exact ⟨_, rfl, h⟩
  | _, _, i + 1, v, .cons h a, e => by
    obtain ⟨d, h1, h2⟩ := FzAll.get (i := i) (v := v) a (by simpa using e)
    exact ⟨d, by simpa using h1, h2⟩
theorem FzAll.get' {K : KF} {H : Hp} : ∀ {vs : List V} {ds : List D} {i : Nat} {d : D}, FzAll K H vs ds → ds[i]? = some d → ∃ v, vs[i]? = some v ∧ Fz K H v d
  | _, _, _, _, .nil, e => by simp at e
  | _, _, 0, _, .cons h a, e => by simp at e; subst e; exact ⟨_, rfl, h⟩
  | _, _, i + 1, v, .cons h a, e => by
    obtain ⟨d, h1, h2⟩ := FzAll.get' (i := i) (d := v) a (by simpa using e)
    exact ⟨d, by simpa using h1, h2⟩
theorem FzAll.set {K : KF} {H : Hp} {v : V} {d : D} (h : Fz K H v d) : ∀ {vs : List V} {ds : List D} (i : Nat), FzAll K H vs ds → FzAll K H (vs.set i v) (ds.set i d)
  | _, _, _, .nil => .nil
  | _, _, 0, .cons _ a => .cons h a
  | _, _, i + 1, .cons q a => .cons q (FzAll.set h i a)
theorem FzAll.eraseIdx {K : KF} {H : Hp} : ∀ {vs : List V} {ds : List D} (i : Nat), FzAll K H vs ds → FzAll K H (vs.eraseIdx i) (ds.eraseIdx i)
  | _, _, _, .nil => .nil
  | _, _, 0, .cons _ a => a
  | _, _, i + 1, .cons q a => .cons q (FzAll.eraseIdx i a)
theorem FzAll.take {K : KF} {H : Hp} : ∀ {vs : List V} {ds : List D} (n : Nat), FzAll K H vs ds → FzAll K H (vs.take n) (ds.take n)
  | _, _, 0, _ => by simp; exact .nil
  | _, _, _ + 1, .nil => by simp; exact .nil
  | _, _, n + 1, .cons h a => .cons h (FzAll.take n a)
theorem FzAll.drop {K : KF} {H : Hp} : ∀ {vs : List V} {ds : List D} (n : Nat), FzAll K H vs ds → FzAll K H (vs.drop n) (ds.drop n)
  | _, _, 0, a => a
  | _, _, _ + 1, .nil => by simp; exact .nil
  | _, _, n + 1, .cons h a => FzAll.drop n a
/-! ### slots -/
inductive FRep (K : KF) (H : Hp) : List (Str × V) → List (Str × Tf) → List Addr → Prop
  | nil : FRep K H [] [] []
  | d {k : Str} {v : V} {x : D} {fv : List (Str × V)} {fs : List (Str × Tf)} {rs : List Addr} : Fz K H v x → FRep K H fv fs rs → FRep K H ((k, v) :: fv) ((k, .d x) :: fs) rs
  | ml {k : Str} {a : Addr} {vs : List V} {xs : List D} {fv : List (Str × V)} {fs : List (Str × Tf)} {rs : List Addr} : H a = some (.lst vs) → FzAll K H vs xs → FRep K H fv fs rs → FRep K H ((k, .ref a) :: fv) ((k, .ml xs) :: fs) (a :: rs)
  | hid {k : Str} {a : Addr} {fv : List (Str × V)} {fs : List (Str × Tf)} {rs : List Addr} : FRep K H fv fs rs → FRep K H ((k, .ref a) :: fv) ((k, .hid a) :: fs) rs
theorem FRep.live {K : KF} {H : Hp} : ∀ {fv : List (Str × V)} {fs : List (Str × Tf)} {rs : List Addr}, FRep K H fv fs rs → ∀ a ∈ rs, ∃ vs, H a = some (.lst vs)
  | _, _, _, .nil, a, ha => by cases ha
  | _, _, _, .d _ h, a, ha => FRep.live h a ha
  | _, _, _, .hid h, a, ha => FRep.live h a ha
  | _, _, _, .ml e _ h, a, ha => by
    rcases List.mem_cons.mp ha with z | z
    · rw [z]; exact ⟨_, e⟩
    · exact FRep.live h a z
theorem FRep.keep {K : KF} {H H' : Hp} (p : Pers H H') : ∀ {fv : List (Str × V)} {fs : List (Str × Tf)} {rs : List Addr}, FRep K H fv fs rs → (∀ a ∈ rs, H' a = H a) → FRep K H' fv fs rs
  | _, _, _, .nil, _ => .nil
  | _, _, _, .d f h, k => .d (f.pers p) (FRep.keep p h k)
  | _, _, _, .hid h, k => .hid (FRep.keep p h k)
  | _, _, _, .ml e f h, k => .ml ((k _ List.mem_cons_self).trans e) (f.pers p) (FRep.keep p h fun a ha => k a (List.mem_cons_of_mem _ ha))
inductive TRep (K : KF) (H : Hp) : V → Tv → List Addr → Prop
  | d {v : V} {x : D} : Fz K H v x → TRep K H v (.d x) []
  | ml {a : Addr} {vs : List V} {xs : List D} {b : Bool} : H a = some (.lst vs) → FzAll K H vs xs → TRep K H (.ref a) (.ml b xs) [a]
  | mk {a : Addr} {kvs : List (Key × V)} {ds : List D} {b : Bool} : H a = some (.dK kvs) → FzAll K H (kvs.map (·.2)) ds → TRep K H (.ref a) (.md b false ((kvs.map fun p => kD p.1).zip ds)) [a]
  | mt {a : Addr} {kvs : List (List Key × V)} {ds : List D} {b : Bool} : H a = some (.dT kvs) → FzAll K H (kvs.map (·.2)) ds → (∀ p ∈ kvs, iKs p.1 = true) → TRep K H (.ref a) (.md b true ((kvs.map fun p => PyData.tuple (p.1.map kD)).zip ds)) [a]
  | ob {p dx : Addr} {c : Str} {fv : List (Str × V)} {fs : List (Str × Tf)} {rs : List Addr} {b : Bool} : H p = some (.ins (He.ga K c) dx fv) → H dx = some (.own p) → FRep K H fv fs rs → TRep K H (.ref p) (.ob b c fs) (p :: dx :: rs)
  | mf {a : Addr} {xs : List Rw3} {vs : List V} {ds : List D} {b : Bool} : H a = some (dFo K a xs) → (∀ x ∈ xs, FT H x.2.1 (x.1.map kV)) → Vals vs (xs.map (·.2.2)) → FzAll K H vs ds → TRep K H (.ref a) (.mf b ((xs.map fun x => PyData.tuple (x.1.map kD)).zip ds)) [a]
inductive SRep (K : KF) (H : Hp) : St → Ga → List Addr → Prop
  | nil : SRep K H [] [] []
  | skip {o : Option V} {σ : St} {g : Ga} {R : List Addr} : SRep K H σ g R → SRep K H (o :: σ) (none :: g) R
  | cons {v : V} {t : Tv} {rt : List Addr} {σ : St} {g : Ga} {R : List Addr} : TRep K H v t rt → SRep K H σ g R → SRep K H (some v :: σ) (some t :: g) (rt ++ R)
/-- what is kept: all but the roots -/
def Ext (R : List Addr) (H H' : Hp) : Prop := ∀ a o, H a = some o → a ∉ R → H' a = some o
def New (R : List Addr) (H : Hp) (R' : List Addr) : Prop := ∀ a ∈ R', a ∈ R ∨ H a = none
/-- roots are not frozen -/
def Live (R : List Addr) (H : Hp) : Prop := ∀ a ∈ R, ∀ o, H a = some o → isFz o = false
theorem TRep.live {K : KF} {H : Hp} {v : V} {t : Tv} {rt : List Addr} (h : TRep K H v t rt) : Live rt H := by
  cases h with
  | d _ => intro a ha; cases ha
  | ml e _ | mk e _ | mt e _ _ | mf e _ _ _ =>
    intro a ha o ho
    rw [List.mem_singleton] at ha
    subst ha
    rw [e] at ho
    cases ho
    rfl
  | ob e1 e2 e3 =>
    intro a ha o ho
    rcases List.mem_cons.mp ha with z | z
    · rw [z, e1] at ho; cases ho; rfl
    · rcases List.mem_cons.mp z with z | z
      · rw [z, e2] at ho; cases ho; rfl
      · obtain ⟨vs, e⟩ := e3.live a z
        rw [e] at ho; cases ho; rfl
theorem Live.app {A B : List Addr} {H : Hp} (a : Live A H) (b : Live B H) : Live (A ++ B) H := fun x hx => (List.mem_append.mp hx).elim (a x) (b x)
theorem SRep.live {K : KF} {H : Hp} : ∀ {σ : St} {g : Ga} {R : List Addr}, SRep K H σ g R → Live R H
  | _, _, _, .nil => fun a ha => by cases ha
  | _, _, _, .skip h => SRep.live h
  | _, _, _, .cons t h => t.live.app (SRep.live h)
theorem Ext.pers {R : List Addr} {H H' : Hp} (e : Ext R H H') (l : Live R H) : Pers H H' := fun a o h f => e a o h fun ha => by
  have := l a ha o h
  rw [f] at this
  cases this
theorem Ext.refl (R : List Addr) (H : Hp) : Ext R H H := fun _ _ e _ => e
theorem Ext.of_same {R : List Addr} {H H' : Hp} (s : Same H H') : Ext R H H' := fun a o e _ => s a o e
theorem New.refl (R : List Addr) (H : Hp) : New R H R := fun _ h => .inl h
theorem Ext.none {R : List Addr} {H H' : Hp} (e : Ext R H H') {a : Addr} (h : H' a = none) (n : a ∉ R) : H a = none := by
  cases q : H a with
  | none => rfl
  | some o => rw [e a o q n] at h; cases h
theorem TRep.root_some {K : KF} {H : Hp} {v : V} {t : Tv} {rt : List Addr} (h : TRep K H v t rt) : ∀ a ∈ rt, H a ≠ none := by
  cases h with
  | d _ => intro a ha; cases ha
  | ml e _ | mk e _ | mt e _ _ | mf e _ _ _ =>
    intro a ha
    rw [List.mem_singleton] at ha
    subst ha
    rw [e]
    simp
  | ob e1 e2 e3 =>
    intro a ha
    rcases List.mem_cons.mp ha with z | z
    · rw [z, e1]; simp
    · rcases List.mem_cons.mp z with z | z
      · rw [z, e2]; simp
      · obtain ⟨vs, e⟩ := e3.live a z
        rw [e]; simp
theorem SRep.root_some {K : KF} {H : Hp} : ∀ {σ : St} {g : Ga} {R : List Addr}, SRep K H σ g R → ∀ a ∈ R, H a ≠ none
  | _, _, _, .nil, a, ha => by cases ha
  | _, _, _, .skip h, a, ha => SRep.root_some h a ha
  | _, _, _, .cons t h, a, ha => (List.mem_append.mp ha).elim (t.root_some a) (SRep.root_some h a)
/-- one after the other -/
theorem Ext.trans {R R1 : List Addr} {H H1 H2 : Hp} (a : Ext R H H1) (n : New R H R1) (b : Ext R1 H1 H2) : Ext R H H2 := fun c o e h => b c o (a c o e h) fun hc => by
  rcases n c hc with q | q
  · exact h q
  · rw [e] at q; cases q
theorem New.trans {R R1 R2 : List Addr} {H H1 : Hp} (a : Ext R H H1) (n : New R H R1) (m : New R1 H1 R2) : New R H R2 := fun c hc => by
  rcases m c hc with q | q
  · exact n c q
  · by_cases h : c ∈ R
    · exact .inl h
    · exact .inr (a.none q h)
theorem New.sub {R R1 R2 : List Addr} {H : Hp} (n : New R H R1) (s : ∀ a ∈ R2, a ∈ R1) : New R H R2 := fun a h => n a (s a h)
/-- the slots stay, in a heap that keeps the roots and what is frozen -/
theorem TRep.keep {K : KF} {H H' : Hp} {v : V} {t : Tv} {rt : List Addr} (h : TRep K H v t rt) (p : Pers H H') (k : ∀ a ∈ rt, H' a = H a) : TRep K H' v t rt := by
  cases h with
  | d h => exact .d (h.pers p)
  | ml e h => exact .ml ((k _ (List.mem_singleton.mpr rfl)).trans e) (h.pers p)
  | mk e h => exact .mk ((k _ (List.mem_singleton.mpr rfl)).trans e) (h.pers p)
  | mt e h hk => exact .mt ((k _ (List.mem_singleton.mpr rfl)).trans e) (h.pers p) hk
  | mf e hk r h => exact .mf ((k _ (List.mem_singleton.mpr rfl)).trans e) (fun x hx => (hk x hx).pers p) r (h.pers p)
  | ob e1 e2 e3 => exact .ob ((k _ List.mem_cons_self).trans e1) ((k _ (List.mem_cons_of_mem _ List.mem_cons_self)).trans e2) (e3.keep p fun a ha => k a (List.mem_cons_of_mem _ (List.mem_cons_of_mem _ ha)))
theorem SRep.keep {K : KF} {H H' : Hp} : ∀ {σ : St} {g : Ga} {R : List Addr}, SRep K H σ g R → Pers H H' → (∀ a ∈ R, H' a = H a) → SRep K H' σ g R
  | _, _, _, .nil, _, _ => .nil
  | _, _, _, .skip h, p, k => .skip (SRep.keep h p k)
  | _, _, _, .cons t h, p, k => .cons (t.keep p fun a ha => k a (List.mem_append_left _ ha)) (SRep.keep h p fun a ha => k a (List.mem_append_right _ ha))
theorem SRep.same {K : KF} {H H' : Hp} {σ : St} {g : Ga} {R : List Addr} (h : SRep K H σ g R) (s : Same H H') : SRep K H' σ g R :=
  h.keep (.of_same s) fun a ha => by
    cases q : H a with
    | none => exact absurd q (h.root_some a ha)
    | some o => exact s a o q
theorem SRep.len {K : KF} {H : Hp} : ∀ {σ : St} {g : Ga} {R : List Addr}, SRep K H σ g R → σ.length = g.length
  | _, _, _, .nil => rfl
  | _, _, _, .skip h => by simp [SRep.len h]
  | _, _, _, .cons _ h => by simp [SRep.len h]
theorem SRep.get {K : KF} {H : Hp} : ∀ {σ : St} {g : Ga} {R : List Addr} {i : Nat} {t : Tv}, SRep K H σ g R → g[i]? = some (some t) → ∃ v rt, σ[i]? = some (some v) ∧ TRep K H v t rt ∧ ∀ a ∈ rt, a ∈ R
  | _, _, _, _, _, .nil, e => by simp at e
  | _, _, _, 0, _, .skip h, e => by simp at e
  | _, _, _, i + 1, t, .skip h, e => by
    obtain ⟨v, rt, h1, h2, h3⟩ := SRep.get (i := i) (t := t) h (by simpa using e)
    exact ⟨v, rt, by simpa using h1, h2, h3⟩
  | _, _, _, 0, _, .cons t h, e => by
    simp at e
    subst e
    exact ⟨_, _, rfl, t, fun a ha => List.mem_append_left _ ha⟩
  | _, _, _, i + 1, t, .cons q h, e => by
    obtain ⟨v, rt, h1, h2, h3⟩ := SRep.get (i := i) (t := t) h (by simpa using e)
    exact ⟨v, rt, by simpa using h1, h2, fun a ha => List.mem_append_right _ (h3 a ha)⟩
/-- a slot stored -/
theorem SRep.set {K : KF} {H : Hp} {v : V} {t : Tv} {rt : List Addr} (q : TRep K H v t rt) : ∀ {σ : St} {g : Ga} {R : List Addr} (i : Nat), SRep K H σ g R → (rt ++ R).Nodup →
    ∃ R', SRep K H (σ.set i (some v)) (g.set i (some t)) R' ∧ R'.Nodup ∧ ∀ a ∈ R', a ∈ rt ++ R
  | _, _, _, _, .nil, _ => ⟨[], .nil, List.nodup_nil, fun a h => nomatch h⟩
  | _, _, _, 0, .skip h, n => ⟨_, .cons q h, n, fun a h => h⟩
  | _, _, _, i + 1, .skip h, n => by
    obtain ⟨R', h1, h2, h3⟩ := SRep.set q i h n
    exact ⟨R', .skip h1, h2, h3⟩
  | _, _, _, 0, .cons (rt := r1) (R := R1) t' h, n => by
    refine ⟨rt ++ R1, .cons q h, ?_, fun a ha => ?_⟩
    · exact n.sublist (List.Sublist.append_left (List.sublist_append_right _ _) _)
    · rcases List.mem_append.mp ha with z | z
      · exact List.mem_append_left _ z
      · exact List.mem_append_right _ (List.mem_append_right _ z)
  | _, _, _, i + 1, .cons (rt := r1) (R := R1) t' h, n => by
    have n1 : (rt ++ R1).Nodup := n.sublist (List.Sublist.append_left (List.sublist_append_right _ _) _)
    obtain ⟨R', h1, h2, h3⟩ := SRep.set q i h n1
    refine ⟨r1 ++ R', .cons t' h1, ?_, fun a ha => ?_⟩
    · rw [List.nodup_append] at n ⊢
      obtain ⟨n2, n3, n4⟩ := n
      rw [List.nodup_append] at n3
      refine ⟨n3.1, h2, fun a ha b hb => ?_⟩
      rcases List.mem_append.mp (h3 b hb) with z | z
      · exact fun e => n4 b z a (List.mem_append_left _ ha) e.symm
      · exact n3.2.2 a ha b z
    · rcases List.mem_append.mp ha with z | z
      · exact List.mem_append_right _ (List.mem_append_left _ z)
      · rcases List.mem_append.mp (h3 a z) with y | y
        · exact List.mem_append_left _ y
        · exact List.mem_append_right _ (List.mem_append_right _ y)
/-- a slot forgotten -/
theorem SRep.forget {K : KF} {H : Hp} : ∀ {σ : St} {g : Ga} {R : List Addr} (i : Nat) (o : Option V), SRep K H σ g R → R.Nodup →
    ∃ R', SRep K H (σ.set i o) (g.set i none) R' ∧ R'.Nodup ∧ ∀ a ∈ R', a ∈ R
  | _, _, _, _, _, .nil, _ => ⟨[], .nil, List.nodup_nil, fun a h => nomatch h⟩
  | _, _, _, 0, o, .skip h, n => ⟨_, .skip h, n, fun a h => h⟩
  | _, _, _, i + 1, o, .skip h, n => by
    obtain ⟨R', h1, h2, h3⟩ := SRep.forget i o h n
    exact ⟨R', .skip h1, h2, h3⟩
  | _, _, _, 0, o, .cons (rt := r1) (R := R1) t' h, n => by
    exact ⟨R1, .skip h, (List.nodup_append.mp n).2.1, fun a ha => List.mem_append_right _ ha⟩
  | _, _, _, i + 1, o, .cons (rt := r1) (R := R1) t' h, n => by
    have n' := List.nodup_append.mp n
    obtain ⟨R', h1, h2, h3⟩ := SRep.forget i o h n'.2.1
    refine ⟨r1 ++ R', .cons t' h1, ?_, fun a ha => ?_⟩
    · rw [List.nodup_append]
      exact ⟨n'.1, h2, fun a ha b hb => n'.2.2 a ha b (h3 b hb)⟩
    · rcases List.mem_append.mp ha with z | z
      · exact List.mem_append_left _ z
      · exact List.mem_append_right _ (h3 a z)
/-- a slot that owns a root -/
def Tv.own : Tv → Bool
  | .d _ => false
  | .ob _ _ _ => false
  | _ => true
theorem TRep.own1 {K : KF} {H : Hp} {v : V} {t : Tv} {rt : List Addr} (h : TRep K H v t rt) (o : t.own = true) : ∃ a, v = .ref a ∧ rt = [a] := by
  cases h with
  | d _ => cases o
  | ob _ _ _ => cases o
  | ml _ _ | mk _ _ | mt _ _ _ | mf _ _ _ _ => exact ⟨_, rfl, rfl⟩
/-- the root of a slot rewritten, or frozen: all other slots are as they were -/
theorem SRep.putG {K : KF} {H : Hp} : ∀ {σ : St} {g : Ga} {R : List Addr} {i : Nat} {t0 : Tv}, SRep K H σ g R → R.Nodup → g[i]? = some (some t0) → t0.own = true →
    ∃ a, σ[i]? = some (some (.ref a)) ∧ TRep K H (.ref a) t0 [a] ∧ a ∈ R ∧
      ∀ (H' : Hp) (t : Tv) (rt : List Addr), Pers H H' → (∀ c ∈ R, c ≠ a → H' c = H c) → TRep K H' (.ref a) t rt → rt.Sublist [a] → ∃ R', SRep K H' σ (g.set i (some t)) R' ∧ R'.Sublist R
  | _, _, _, _, _, .nil, _, e, _ => by simp at e
  | _, _, _, 0, _, .skip h, _, e, _ => by simp at e
  | _, _, _, i + 1, t0, .skip h, n, e, o => by
    obtain ⟨a, h1, h2, h4, h5⟩ := SRep.putG (i := i) (t0 := t0) h n (by simpa using e) o
    refine ⟨a, by simpa using h1, h2, h4, fun H' t rt p k q sb => ?_⟩
    obtain ⟨R', z1, z2⟩ := h5 H' t rt p k q sb
    exact ⟨R', .skip z1, z2⟩
  | _, _, _, 0, _, .cons t h, n, e, o => by
    simp at e
    subst e
    obtain ⟨a, rfl, rfl⟩ := t.own1 o
    refine ⟨_, rfl, t, List.mem_append_left _ (List.mem_singleton.mpr rfl), fun H' t' rt p k q sb => ?_⟩
    refine ⟨_, .cons q (h.keep p fun c hc => k c (List.mem_append_right _ hc) fun z => ?_), sb.append_right _⟩
    exact (List.nodup_append.mp n).2.2 _ (List.mem_singleton.mpr rfl) c hc z.symm
  | _, _, _, i + 1, t0, .cons t h, n, e, o => by
    obtain ⟨a, h1, h2, h4, h5⟩ := SRep.putG (i := i) (t0 := t0) h (List.nodup_append.mp n).2.1 (by simpa using e) o
    refine ⟨a, by simpa using h1, h2, List.mem_append_right _ h4, fun H' t' rt p k q sb => ?_⟩
    obtain ⟨R', z1, z2⟩ := h5 H' t' rt p (fun c hc => k c (List.mem_append_right _ hc)) q sb
    refine ⟨_, .cons (t.keep p fun c hc => k c (List.mem_append_left _ hc) fun z => ?_) z1, z2.append_left _⟩
    subst z
    exact (List.nodup_append.mp n).2.2 c hc c h4 rfl
theorem SRep.put {K : KF} {H : Hp} {σ : St} {g : Ga} {R : List Addr} {i : Nat} {b : Bool} {xs : List D} (s : SRep K H σ g R) (n : R.Nodup) (e : g[i]? = some (some (.ml b xs))) :
    ∃ a vs, σ[i]? = some (some (.ref a)) ∧ H a = some (.lst vs) ∧ FzAll K H vs xs ∧ a ∈ R ∧
      ∀ (H' : Hp) (t : Tv) (rt : List Addr), Pers H H' → (∀ c ∈ R, c ≠ a → H' c = H c) → TRep K H' (.ref a) t rt → rt.Sublist [a] → ∃ R', SRep K H' σ (g.set i (some t)) R' ∧ R'.Sublist R := by
  obtain ⟨a, h1, h2, h4, h5⟩ := s.putG n e rfl
  cases h2 with
  | ml e1 e2 => exact ⟨a, _, h1, e1, e2, h4, h5⟩
/-! ### running on -/
/-- what is borrowed stays borrowed -/
def BorK (g g' : Ga) : Prop := ∀ (i : Nat) (t : Tv), g[i]? = some (some t) → t.bor = true → ∃ t' : Tv, g'[i]? = some (some t') ∧ t'.bor = true
theorem BorK.refl (g : Ga) : BorK g g := fun _ t e h => ⟨t, e, h⟩
theorem BorK.trans {g g1 g2 : Ga} (a : BorK g g1) (b : BorK g1 g2) : BorK g g2 := fun i t e h => by
  obtain ⟨t', e', h'⟩ := a i t e h
  exact b i t' e' h'
def Go (K : KF) (σ : St) (R : List Addr) (H : Hp) (g g' : Ga) (H' : Hp) : Prop := BorK g g' ∧ ∃ R', SRep K H' σ g' R' ∧ R'.Nodup ∧ Ext R H H' ∧ New R H R'
theorem Go.refl {K : KF} {σ : St} {R : List Addr} {H : Hp} {g : Ga} (s : SRep K H σ g R) (n : R.Nodup) : Go K σ R H g g H := ⟨BorK.refl g, R, s, n, Ext.refl R H, New.refl R H⟩
theorem Go.same {K : KF} {σ : St} {R : List Addr} {H H' : Hp} {g : Ga} (s : SRep K H σ g R) (n : R.Nodup) (e : Same H H') : Go K σ R H g g H' := ⟨BorK.refl g, R, s.same e, n, Ext.of_same e, New.refl R H⟩
def tG {α β : Type} (rep : Hp → β → α → Prop) (K : KF) (W : WX) (m : M α) : St → Hp → (β → Hp → Prop) → Prop := fun σ H Q =>
  ∃ g R, SRep K H σ g R ∧ R.Nodup ∧ match m g with
    | .ok a g' => ∀ b H', Go K σ R H g g' H' → rep H' b a → Q b H'
    | .exc c g' => ∀ H', Go K σ R H g g' H' → W (.ref (He.ga K c)) none σ H'
    | .stuck => False
theorem tG_bind {α β α' β' : Type} {rep1 : Hp → β → α → Prop} {rep2 : Hp → β' → α' → Prop} {K : KF} {W : WX} {m : M α} {f : α → M α'} {σ : St} {H : Hp} {Q : β' → Hp → Prop} (h : tG rep2 K W (bnd m f) σ H Q) :
    tG rep1 K W m σ H (fun b1 H1 => ∃ a, rep1 H1 b1 a ∧ tG rep2 K W (f a) σ H1 Q) := by
  obtain ⟨g, R, s, n, h⟩ := h
  refine ⟨g, R, s, n, ?_⟩
  unfold bnd at h
  cases e : m g with
  | stuck => rw [e] at h; exact h
  | exc c g' => rw [e] at h; exact h
  | ok a g1 =>
    rw [e] at h
    intro b1 H1 go r1
    obtain ⟨bk1, R1, s1, n1, e1, w1⟩ := go
    refine ⟨a, r1, g1, R1, s1, n1, ?_⟩
    dsimp only at h
    cases e2 : f a g1 with
    | stuck => rw [e2] at h; exact h
    | exc c g' =>
      rw [e2] at h
      intro H2 go2
      obtain ⟨bk2, R2, s2, n2, x2, w2⟩ := go2
      exact h H2 ⟨bk1.trans bk2, R2, s2, n2, e1.trans w1 x2, New.trans e1 w1 w2⟩
    | ok a2 g2 =>
      rw [e2] at h
      intro b2 H2 go2 r2
      obtain ⟨bk2, R2, s2, n2, x2, w2⟩ := go2
      exact h b2 H2 ⟨bk1.trans bk2, R2, s2, n2, e1.trans w1 x2, New.trans e1 w1 w2⟩ r2
theorem tG_mono {α β : Type} {rep : Hp → β → α → Prop} {K : KF} {W : WX} {m : M α} {σ : St} {H : Hp} {Q Q' : β → Hp → Prop} (h : tG rep K W m σ H Q) (k : ∀ b H', Pers H H' → Q b H' → Q' b H') : tG rep K W m σ H Q' := by
  obtain ⟨g, R, s, n, h⟩ := h
  refine ⟨g, R, s, n, ?_⟩
  cases e : m g with
  | stuck => rw [e] at h; exact h
  | exc c g' => rw [e] at h; exact h
  | ok a g1 =>
    rw [e] at h
    intro b1 H1 go r1
    have go' := go
    obtain ⟨_, R1, s1, n1, e1, w1⟩ := go'
    exact k b1 H1 (e1.pers s.live) (h b1 H1 go r1)
/-- a value reckoned from values -/
def lift {α : Type} (o : Option α) : M α := fun g => match o with
  | some a => .ok a g
  | none => .stuck
theorem tG_lift {α β : Type} {rep : Hp → β → α → Prop} {K : KF} {W : WX} {o : Option α} {σ : St} {H : Hp} {Q : β → Hp → Prop} (h : tG rep K W (lift o) σ H Q) : ∃ a, o = some a ∧ ∀ b H', Same H H' → rep H' b a → Q b H' := by
  obtain ⟨g, R, s, n, h⟩ := h
  cases o with
  | none => exact h.elim
  | some a => exact ⟨a, rfl, fun b H' e r => h b H' (Go.same s n e) r⟩
/-! ### the judgements -/
abbrev tD (K : KF) (W : WX) (m : M D) : TE := tG (Fz K) K W m
abbrev tAD (K : KF) (W : WX) (m : M (List D)) : TA := tG (FzAll K) K W m
abbrev tTD (K : KF) (W : WX) (m : M Bool) : TT := tG (fun _ b a => b = a) K W m
def RE (X : Cx) (W : WX) (e : Expr) (m : M D) : Prop := PE X e (tD X.KF W m)
def RT (X : Cx) (W : WX) (e : Expr) (m : M Bool) : Prop := PT X e (tTD X.KF W m)
def RW (X : Cx) (W : WX) (e : Expr) (m : M Bool) : Prop := PW X e (tTD X.KF W m)
def RA (X : Cx) (W : WX) (es : List Expr) (m : M (List D)) : Prop := PA X es (tAD X.KF W m)
theorem PE.imp {X : Cx} {e : Expr} {t t' : TE} (h : PE X e t) (k : ∀ σ H Q, t' σ H Q → t σ H Q) : PE X e t' := ⟨fun pins s σ H Q I q => h.run pins s σ H Q I (k σ H Q q)⟩
theorem PT.imp {X : Cx} {e : Expr} {t t' : TT} (h : PT X e t) (k : ∀ σ H Q, t' σ H Q → t σ H Q) : PT X e t' := ⟨fun pins s σ H Q I q => h.run pins s σ H Q I (k σ H Q q)⟩
theorem PW.imp {X : Cx} {e : Expr} {t t' : TT} (h : PW X e t) (k : ∀ σ H Q, t' σ H Q → t σ H Q) : PW X e t' := ⟨fun wh pins s σ H Q I q => h.run wh pins s σ H Q I (k σ H Q q)⟩
theorem PA.imp {X : Cx} {e : List Expr} {t t' : TA} (h : PA X e t) (k : ∀ σ H Q, t' σ H Q → t σ H Q) : PA X e t' := ⟨fun pos pins s σ H Q I q => h.run pos pins s σ H Q I (k σ H Q q)⟩
theorem PS.imp {X : Cx} {e : Stmt} {t t' : TS} (h : PS X e t) (k : ∀ D σ H, t' D σ H → t D σ H) : PS X e t' := ⟨fun pins s σ H D I q => h.run pins s σ H D I (k D σ H q)⟩
theorem PSs.imp {X : Cx} {e : List Stmt} {t t' : TS} (h : PSs X e t) (k : ∀ D σ H, t' D σ H → t D σ H) : PSs X e t' := ⟨fun pins s σ H D I q => h.run pins s σ H D I (k D σ H q)⟩
/-! ### names and constants -/
def eVar (i : Nat) : M D := fun g => match g[i]? with
  | some (some (.d x)) => .ok x g
  | _ => .stuck
def eC (x : D) : M D := fun g => .ok x g
section
variable {X : Cx} {W : WX}
theorem tC_of {v : V} {x : D} (hf : ∀ H, Fz X.KF H v x) {σ : St} {H : Hp} {Q : VK} (h : tD X.KF W (eC x) σ H Q) : tC v σ H Q := by
  obtain ⟨g, R, s, n, h⟩ := h
  exact h v H (Go.refl s n) (hf H)
theorem r_int {i j pos} : RE X W (.Constant (.int i) j pos) (eC (.int i)) := PE.imp pe_int fun _ _ _ h => tC_of (fun _ => .int i) h
theorem r_bl {b j pos} : RE X W (.Constant (.bool b) j pos) (eC (.bool b)) := PE.imp pe_bl fun _ _ _ h => tC_of (fun _ => .bl b) h
theorem r_non {j pos} : RE X W (.Constant .none j pos) (eC .none) := PE.imp pe_non fun _ _ _ h => tC_of (fun _ => .non) h
theorem r_str {x j pos} : RE X W (.Constant (.str x) j pos) (eC (.str x)) := PE.imp pe_str fun _ _ _ h => tC_of (fun _ => .str x) h
theorem r_var (i : Nat) {x : Str} {pos : Pos} (hN : X.N[i]? = some x := by rfl) (hv : Vis X.env.scope x := by first | exact Or.inl rfl | exact Or.inr (Or.inl rfl) | exact Or.inr (Or.inr rfl)) (hd : (x == ("__debug__" : Str)) = false := by decide)
    (hcd : (x == ("__classdict__" : Str)) = false := by decide) : RE X W (.Name x pos) (eVar i) := PE.imp (pe_var hN hv hd hcd) fun σ H Q h => by
  obtain ⟨g, R, s, n, h⟩ := h
  unfold eVar at h
  split at h
  next x g' e =>
    split at e
    · rename_i y q
      cases e
      obtain ⟨v, rt, h1, h2, h3⟩ := s.get q
      cases h2 with
      | d f => exact ⟨v, h1, h v H (Go.refl s n) f⟩
    · cases e
  next e => split at e <;> cases e
  next e => exact h.elim
/-! ### one, two values -/
def ap1 {α : Type} (f : D → Option α) (a : M D) : M α := bnd a fun x => lift (f x)
def ap2 {α : Type} (f : D → D → Option α) (a b : M D) : M α := bnd a fun x => bnd b fun y => lift (f x y)
def apA {α : Type} (f : List D → Option α) (a : M (List D)) : M α := bnd a fun x => lift (f x)
theorem tD1 {α β : Type} {rep : Hp → β → α → Prop} {f : D → Option α} {a : M D} {σ : St} {H : Hp} {Q : β → Hp → Prop} (h : tG rep X.KF W (ap1 f a) σ H Q) :
    tD X.KF W a σ H fun v H1 => ∃ x, Fz X.KF H1 v x ∧ ∃ c, f x = some c ∧ ∀ b H', Same H1 H' → rep H' b c → Q b H' :=
  tG_mono (tG_bind h) fun v H1 _ ⟨x, r, q⟩ => ⟨x, r, tG_lift q⟩
theorem tD2 {α β : Type} {rep : Hp → β → α → Prop} {f : D → D → Option α} {a b : M D} {σ : St} {H : Hp} {Q : β → Hp → Prop} (h : tG rep X.KF W (ap2 f a b) σ H Q) :
    tD X.KF W a σ H fun v H1 => tD X.KF W b σ H1 fun u H2 => ∃ x y, Fz X.KF H2 v x ∧ Fz X.KF H2 u y ∧ ∃ c, f x y = some c ∧ ∀ b H', Same H2 H' → rep H' b c → Q b H' :=
  tG_mono (tG_bind h) fun v H1 _ ⟨x, r, q⟩ => tG_mono (tG_bind q) fun u H2 p ⟨y, r2, q2⟩ => ⟨x, y, r.pers p, r2, tG_lift q2⟩
theorem tDA {α β : Type} {rep : Hp → β → α → Prop} {f : List D → Option α} {a : M (List D)} {σ : St} {H : Hp} {Q : β → Hp → Prop} (h : tG rep X.KF W (apA f a) σ H Q) :
    tAD X.KF W a σ H fun v H1 => ∃ x, FzAll X.KF H1 v x ∧ ∃ c, f x = some c ∧ ∀ b H', Same H1 H' → rep H' b c → Q b H' :=
  tG_mono (tG_bind h) fun v H1 _ ⟨x, r, q⟩ => ⟨x, r, tG_lift q⟩
/-- by values: an operator, a call, a method -/
def rO1 (K : KF) (f : D → Option D) : V → Hp → VK → Prop := fun v H Q => ∃ x, Fz K H v x ∧ ∃ c, f x = some c ∧ ∀ b H', Same H H' → Fz K H' b c → Q b H'
def rO2 (K : KF) (f : D → D → Option D) : R2 := fun v u H Q => ∃ x y, Fz K H v x ∧ Fz K H u y ∧ ∃ c, f x y = some c ∧ ∀ b H', Same H H' → Fz K H' b c → Q b H'
def rOA (K : KF) (f : List D → Option D) : List V → Hp → VK → Prop := fun vs H Q => ∃ xs, FzAll K H vs xs ∧ ∃ c, f xs = some c ∧ ∀ b H', Same H H' → Fz K H' b c → Q b H'
variable {a b : Expr} {ma mb : M D} {pos : Pos}
theorem r_bin {o : Operator} {f : D → D → Option D} (ho : OpR X (binaryOp o) (rO2 X.KF f)) (ha : RE X W a ma) (hb : RE X W b mb) : RE X W (.BinOp a o b pos) (ap2 f ma mb) := PE.imp (pe_op ho ha hb) fun _ _ _ h => tD2 h
theorem r_cmp {o : CmpOp} {f : D → D → Option D} (ho : OpR X (compareOp o) (rO2 X.KF f)) (ha : RE X W a ma) (hb : RE X W b mb) (hm : behindInMarks o b = false := by first | exact nomark _ | rfl) : RE X W (.Compare a [o] [b] pos) (ap2 f ma mb) :=
  PE.imp (pe_cmpR ho ha hb hm) fun _ _ _ h => tD2 h
theorem r_un {o : UnaryOp} {f : D → Option D} (ho : UnR X (unaryOp o) (rO1 X.KF f)) (ha : RE X W a ma) : RE X W (.UnaryOp o a pos) (ap1 f ma) := PE.imp (pe_un ho ha) fun _ _ _ h => tD1 h
theorem r_nil : RA X W [] (fun g => .ok [] g) := PA.imp pa_nil fun σ H Q h => by
  obtain ⟨g, R, s, n, h⟩ := h
  exact h [] H (Go.refl s n) .nil
def aCons (a : M D) (b : M (List D)) : M (List D) := bnd a fun x => bnd b fun xs => fun g => .ok (x :: xs) g
theorem r_cons {es : List Expr} {m : M (List D)} (ha : RE X W a ma) (hr : RA X W es m) (hs : starEach (a :: es) X.env = (false, eval a X.env) :: starEach es X.env := by rfl) : RA X W (a :: es) (aCons ma m) :=
  PA.imp (pa_cons ha hr hs) fun σ H Q h => tG_mono (tG_bind (rep1 := Fz X.KF) h) fun v H1 _ ⟨x, r, q⟩ => tG_mono (tG_bind (rep1 := FzAll X.KF) q) fun vs H2 p ⟨xs, r2, q2⟩ => by
    obtain ⟨g, R, s, n, h⟩ := q2
    exact h (v :: vs) H2 (Go.refl s n) (.cons (r.pers p) r2)
end
/-! ### truth -/
def truD : D → Option Bool
  | .none => some false
  | .bool b => some b
  | .int i => some (i != 0)
  | .str x => if x.length ≤ sizeLine then some ((x.length : Int) != 0) else none
  | .list xs => some (!xs.isEmpty)
  | .tuple xs => some (!xs.isEmpty)
  | .dict _ => none
theorem truV_of {K : KF} {H : Hp} {v : V} {x : D} {k : Bool} (h : Fz K H v x) (e : truD x = some k) : TruV K v H k := by
  cases h with
  | non => cases e; rfl
  | bl b => cases e; rfl
  | int i => cases e; rfl
  | str x =>
    simp only [truD] at e
    split at e
    · rename_i hl
      cases e
      exact ⟨hl, rfl⟩
    · cases e
  | lst h a =>
    cases e
    refine .inl ⟨_, h.sq, ?_⟩
    cases a <;> rfl
  | tup h a =>
    cases e
    refine .inr (.inl ⟨_, h.sq, ?_⟩)
    cases a <;> rfl
  | dK h a => cases e
  | dT h a _ => cases e
  | dF h k r a => cases e
def asB : D → Option Bool
  | .bool b => some b
  | _ => none
def tru (m : M D) : M Bool := ap1 truD m
def tst (m : M D) : M Bool := ap1 asB m
section
variable {X : Cx} {W : WX} {a b c : Expr} {ma mb mc : M D} {pos : Pos}
theorem r_tru (ha : RE X W a ma) (he : ∀ whole, isTrue a X.env whole = (do let v ← whole; standAt a.pos; holding [v] (truthy v)) := by intro _; rfl) : RT X W a (tru ma) :=
  PT.imp (pt_truth ha he) fun σ H Q h => tG_mono (tD1 h) fun v H1 _ ⟨x, f, k, e, q⟩ => ⟨k, truV_of f e, q k H1 (Same.refl _) rfl⟩
theorem asB_of {v : V} {z : D} {k : Bool} {K : KF} {H : Hp} (f : Fz K H v z) (e : asB z = some k) : v = .bl k := by
  cases f <;> cases e
  rfl
theorem tst_of {m : M D} {σ : St} {H : Hp} {Q : Bool → Hp → Prop} (h : tTD X.KF W (tst m) σ H Q) : tTest (tD X.KF W m) σ H Q :=
  tG_mono (tD1 h) fun v H1 _ ⟨z, f, k, e, q⟩ => ⟨k, asB_of f e, q k H1 (Same.refl _) rfl⟩
theorem r_tcmp {o : CmpOp} {f : D → D → Option D} (ho : OpR X (compareOp o) (rO2 X.KF f)) (ha : RE X W a ma) (hb : RE X W b mb) (hm : behindInMarks o b = false := by first | exact nomark _ | rfl) : RT X W (.Compare a [o] [b] pos) (tst (ap2 f ma mb)) :=
  PT.imp (pt_cmpR ho ha hb hm) fun σ H Q h => by
    have := tst_of h
    exact tD2 this
/-- a op b op' c -/
def eChain (f f' : D → D → Option D) (a b c : M D) : M D := bnd a fun x => bnd b fun y => match f x y with
  | some (.bool true) => bnd c fun z => lift (f' y z)
  | some (.bool false) => fun g => .ok (.bool false) g
  | _ => fun _ => .stuck
theorem chain_of {f f' : D → D → Option D} {σ : St} {H : Hp} {Q : VK} (h : tD X.KF W (eChain f f' ma mb mc) σ H Q) : tChain (rO2 X.KF f) (rO2 X.KF f') (tD X.KF W ma) (tD X.KF W mb) (tD X.KF W mc) σ H Q := by
  refine tG_mono (tG_bind h) fun v H1 _ ⟨x, r, q⟩ => tG_mono (tG_bind q) fun u H2 p ⟨y, r2, q2⟩ => ?_
  have rx := r.pers p
  refine ⟨x, y, rx, r2, ?_⟩
  cases e : f x y with
  | none => rw [e] at q2; obtain ⟨_, _, _, _, q2⟩ := q2; exact q2.elim
  | some d =>
    rw [e] at q2
    cases d with
    | bool k =>
      refine ⟨_, rfl, fun bv H' sm fb => ?_⟩
      cases fb
      refine ⟨k, rfl, ?_⟩
      cases k with
      | true =>
        dsimp only at q2
        rw [if_pos rfl]
        obtain ⟨g, R, s, n, q2⟩ := q2
        have q3 : tD X.KF W (bnd mc fun z => lift (f' y z)) σ H' Q := by
          refine ⟨g, R, s.same sm, n, ?_⟩
          cases e2 : (bnd mc (fun z => lift (f' y z)) g) with
          | stuck => rw [e2] at q2; exact q2
          | exc c g' =>
            rw [e2] at q2
            intro H2 go
            obtain ⟨bk, R2, s2, n2, x2, w2⟩ := go
            exact q2 H2 ⟨bk, R2, s2, n2, (Ext.of_same sm).trans (New.refl _ _) x2, New.trans (Ext.of_same sm) (New.refl _ _) w2⟩
          | ok a2 g2 =>
            rw [e2] at q2
            intro b2 H2 go r2
            obtain ⟨bk, R2, s2, n2, x2, w2⟩ := go
            exact q2 b2 H2 ⟨bk, R2, s2, n2, (Ext.of_same sm).trans (New.refl _ _) x2, New.trans (Ext.of_same sm) (New.refl _ _) w2⟩ r2
        refine tG_mono (tG_bind q3) fun w H4 p4 ⟨z, r4, q4⟩ => ?_
        obtain ⟨c, e5, q5⟩ := tG_lift q4
        exact ⟨y, z, (r2.pers (Pers.of_same sm)).pers p4, r4, c, e5, q5⟩
      | false =>
        dsimp only at q2
        rw [if_neg Bool.false_ne_true]
        obtain ⟨g, R, s, n, q2⟩ := q2
        exact q2 (.bl false) H' (Go.same s n sm) (.bl false)
    | _ => obtain ⟨_, _, _, _, q2⟩ := q2; exact q2.elim
theorem r_chain {o o' : CmpOp} {f f' : D → D → Option D} (ho : OpR X (compareOp o) (rO2 X.KF f)) (ho' : OpR X (compareOp o') (rO2 X.KF f')) (ha : RE X W a ma) (hb : RE X W b mb) (hc : RE X W c mc) (hm : lastMarks [o, o'] [b, c] = false := by with_unfolding_all rfl) :
    RE X W (.Compare a [o, o'] [b, c] pos) (eChain f f' ma mb mc) := PE.imp (pe_chain ho ho' ha hb hc hm) fun _ _ _ h => chain_of h
theorem r_tchain {o o' : CmpOp} {f f' : D → D → Option D} (ho : OpR X (compareOp o) (rO2 X.KF f)) (ho' : OpR X (compareOp o') (rO2 X.KF f')) (ha : RE X W a ma) (hb : RE X W b mb) (hc : RE X W c mc) (hm : lastMarks [o, o'] [b, c] = false := by with_unfolding_all rfl) :
    RT X W (.Compare a [o, o'] [b, c] pos) (tst (eChain f f' ma mb mc)) := PT.imp (pt_chain ho ho' ha hb hc hm) fun _ _ _ h => chain_of (tst_of h)
/-! ### and, or, not -/
def mNot (t : M Bool) : M Bool := bnd t fun k g => .ok (!k) g
def mAnd (t u : M Bool) : M Bool := bnd t fun k => if k = true then u else fun g => .ok false g
def mOr (t u : M Bool) : M Bool := bnd t fun k => if k = true then fun g => .ok true g else u
variable {ta tb : M Bool} {rest : List Expr}
theorem tG_ret {α β : Type} {rep : Hp → β → α → Prop} {x : α} {σ : St} {H : Hp} {Q : β → Hp → Prop} (h : tG rep X.KF W (fun g => .ok x g) σ H Q) {b : β} (r : rep H b x) : Q b H := by
  obtain ⟨g, R, s, n, h⟩ := h
  exact h b H (Go.refl s n) r
theorem r_tnot (ha : RT X W a ta) : RT X W (.UnaryOp .Not a pos) (mNot ta) := PT.imp (pt_not ha) fun σ H Q h => tG_mono (tG_bind h) fun c H1 _ ⟨k, e, q⟩ => by
  subst e
  exact tG_ret q rfl
theorem r_tand (ha : RT X W a ta) (hb : RW X W (.BoolOp .And (b :: rest) pos) tb) : RW X W (.BoolOp .And (a :: b :: rest) pos) (mAnd ta tb) := PW.imp (pw_and ha hb) fun σ H Q h => tG_mono (tG_bind h) fun c H1 _ ⟨k, e, q⟩ => by
  subst e
  cases c with
  | true => exact q
  | false => exact tG_ret q rfl
theorem r_tor (ha : RT X W a ta) (hb : RW X W (.BoolOp .Or (b :: rest) pos) tb) : RW X W (.BoolOp .Or (a :: b :: rest) pos) (mOr ta tb) := PW.imp (pw_or ha hb) fun σ H Q h => tG_mono (tG_bind h) fun c H1 _ ⟨k, e, q⟩ => by
  subst e
  cases c with
  | true => exact tG_ret q rfl
  | false => exact q
theorem r_tand1 (ha : RT X W a ta) : RW X W (.BoolOp .And [a] pos) ta := pw_and1 ha
theorem r_tor1 (ha : RT X W a ta) : RW X W (.BoolOp .Or [a] pos) ta := pw_or1 ha
theorem r_tw (h : RW X W a ta) : RT X W a ta := PW.pt h
/-- as values -/
def eNot (m : M D) : M D := bnd m fun x => lift ((truD x).map fun k => .bool (!k))
def eAnd (m u : M D) : M D := bnd m fun x => match truD x with
  | some true => u
  | some false => fun g => .ok x g
  | none => fun _ => .stuck
def eOr (m u : M D) : M D := bnd m fun x => match truD x with
  | some true => fun g => .ok x g
  | some false => u
  | none => fun _ => .stuck
theorem r_not (ha : RE X W a ma) : RE X W (.UnaryOp .Not a pos) (eNot ma) := PE.imp (pe_notT ha) fun σ H Q h => tG_mono (tG_bind h) fun v H1 _ ⟨x, r, q⟩ => by
  obtain ⟨z, e, q⟩ := tG_lift q
  cases t : truD x with
  | none => rw [t] at e; cases e
  | some k =>
    rw [t] at e
    cases e
    exact ⟨k, truV_of r t, q (.bl (!k)) H1 (Same.refl _) (.bl _)⟩
theorem r_and (ha : RE X W a ma) (hb : RE X W (.BoolOp .And (b :: rest) pos) mb) : RE X W (.BoolOp .And (a :: b :: rest) pos) (eAnd ma mb) := PE.imp (pe_andT ha hb) fun σ H Q h => tG_mono (tG_bind h) fun v H1 _ ⟨x, r, q⟩ => by
  cases t : truD x with
  | none => rw [t] at q; obtain ⟨_, _, _, _, q⟩ := q; exact q.elim
  | some k =>
    rw [t] at q
    refine ⟨k, truV_of r t, ?_⟩
    cases k with
    | true => exact q
    | false => exact tG_ret q r
theorem r_one {op} (h : RE X W a ma) : RE X W (.BoolOp op [a] pos) ma := pe_one h
def eIf {α : Type} (t : M Bool) (a b : M α) : M α := bnd t fun k => if k = true then a else b
theorem r_ifE (hc : RT X W c ta) (ha : RE X W a ma) (hb : RE X W b mb) : RE X W (.IfExp c a b pos) (eIf ta ma mb) := PE.imp (pe_ifExp hc ha hb) fun σ H Q h => tG_mono (tG_bind h) fun c H1 _ ⟨k, e, q⟩ => by
  subst e
  cases c with
  | true => exact q
  | false => exact q
/-! ### displays -/
theorem Same.upd {H : Hp} {p : Addr} {o : HO} (h : H p = none) : Same H (L2.upd H p o) := fun b x e => by
  rw [upd_ne (ne_of_none e h)]
  exact e
def eTup (m : M (List D)) : M D := bnd m fun xs => lift (if xs.length ≤ sizeLine then some (.tuple xs) else none)
theorem pe_tupX {es : List Expr} {t : TA} {x1} (h : PA X es t) : PE X (.Tuple es x1 pos) (fun σ H Q => t σ H fun xs H1 => xs.length ≤ sizeLine ∧ ∀ p o, H1 p = none → o.dict = none → Q (.ref p) (L2.upd H1 p (tupO o xs))) := by
  refine ⟨fun pins s σ H Q I hq => ?_⟩
  refine wpAny_Tuple_spliced (thn (h.run pos pins s σ H _ I hq) fun us s1 ⟨xs, H1, I1, r, z, q⟩ => ⟨by rw [← r.length]; exact z, ?_⟩)
  have hf : H1 s1.heap.objs.size = none := I1.hok.fresh (Nat.le_refl _)
  exact ⟨.ref s1.heap.objs.size, _, I1.laid (t' := s1.toks) (fun b u e => Heap.get?_push_of_some _ e) (Nat.le_refl _) (tupO_ok (Heap.get?_push_size _ rfl) rfl rfl r z), rfl, q _ _ hf rfl⟩
theorem r_tup {es : List Expr} {m : M (List D)} {x1} (h : RA X W es m) : RE X W (.Tuple es x1 pos) (eTup m) := PE.imp (pe_tupX h) fun σ H Q h => tG_mono (tG_bind h) fun vs H1 _ ⟨xs, r, q⟩ => by
  obtain ⟨z, e, q⟩ := tG_lift q
  split at e
  · rename_i hl
    cases e
    refine ⟨by rw [r.length]; exact hl, fun p o np hd => q _ _ (Same.upd np) (.tup (.new hd) (r.pers (.of_same (Same.upd np))))⟩
  · cases e
/-- a list just made is known as it is from now on -/
theorem pe_fz {e : Expr} {t : TE} (h : PE X e t) : PE X e (fun σ H Q => t σ H fun v H1 => ∃ p u, v = .ref p ∧ H1 p = some u ∧ Mut (some u) ∧ ∀ o, Q v (L2.upd H1 p (.frz o u))) := by
  refine ⟨fun pins s σ H Q I hw => ?_⟩
  refine thn (h.run pins s σ H _ I hw) fun v s1 ⟨x, H1, I1, r, p, u, e, hu, mu, q⟩ => ?_
  subst e
  obtain ⟨od, I2⟩ := I1.lock hu mu
  exact ⟨.ref p, _, I2, r, q od⟩
def eLst (m : M (List D)) : M D := bnd m fun xs => lift (if xs.length ≤ sizeLine then some (.list xs) else none)
theorem fz_new {K : KF} {H1 : Hp} {p : Addr} {vs : List V} {xs : List D} {o : Obj} (np : H1 p = none) (r : FzAll K H1 vs xs) : Same H1 (L2.upd (L2.upd H1 p (.lst vs)) p (.frz o (.lst vs))) ∧ Fz K (L2.upd (L2.upd H1 p (.lst vs)) p (.frz o (.lst vs))) (.ref p) (.list xs) := by
  rw [upd_upd]
  exact ⟨Same.upd np, .lst (.inl ⟨o, upd_same⟩) (r.pers (.of_same (Same.upd np)))⟩
theorem r_lst {es : List Expr} {m : M (List D)} (h : RA X W es m) : RE X W (.List es pos) (eLst m) := PE.imp (pe_fz (pe_lst h)) fun σ H Q h => tG_mono (tG_bind h) fun vs H1 _ ⟨xs, r, q⟩ => by
  obtain ⟨z, e, q⟩ := tG_lift q
  split at e
  · rename_i hl
    cases e
    refine ⟨by rw [r.length]; exact hl, fun p np => ⟨p, _, rfl, upd_same, trivial, fun o => ?_⟩⟩
    obtain ⟨h1, h2⟩ := fz_new (o := o) np r
    exact q _ _ h1 h2
  · cases e
end
/-! ### statements -/
inductive Fl where
  | nx | brk | cnt
  | ret (x : D)
def Kp (g : Ga) (σ σ' : St) : Prop := ∀ (i : Nat) (t : Tv), g[i]? = some (some t) → t.bor = true → σ'[i]? = σ[i]?
theorem Kp.refl (g : Ga) (σ : St) : Kp g σ σ := fun _ _ _ _ => rfl
theorem Kp.trans {g g1 : Ga} {σ σ1 σ2 : St} (a : Kp g σ σ1) (b : BorK g g1) (c : Kp g1 σ1 σ2) : Kp g σ σ2 := fun i t e h => by
  obtain ⟨t', e', h'⟩ := b i t e h
  exact (c i t' e' h').trans (a i t e h)
def GoS (K : KF) (g : Ga) (σ : St) (R : List Addr) (H : Hp) (g' : Ga) (σ' : St) (H' : Hp) : Prop :=
  BorK g g' ∧ Kp g σ σ' ∧ ∃ R', SRep K H' σ' g' R' ∧ R'.Nodup ∧ Ext R H H' ∧ New R H R'
theorem Go.s {K : KF} {σ : St} {R : List Addr} {H H' : Hp} {g g' : Ga} (h : Go K σ R H g g' H') : GoS K g σ R H g' σ H' := ⟨h.1, Kp.refl g σ, h.2⟩
def Fl.end (K : KF) (D : Ends) (σ : St) (H : Hp) : Fl → Prop
  | .nx => D.nx σ H
  | .brk => D.bk σ H
  | .cnt => D.ct σ H
  | .ret x => ∀ v, Fz K H v x → D.rt v H
def tS (K : KF) (W : WX) (m : M Fl) : TS := fun D σ H => ∃ g R, SRep K H σ g R ∧ R.Nodup ∧ match m g with
  | .ok f g' => ∀ σ' H', GoS K g σ R H g' σ' H' → f.end K D σ' H'
  | .exc c g' => ∀ σ' H', GoS K g σ R H g' σ' H' → W (.ref (He.ga K c)) none σ' H'
  | .stuck => False
def RS (X : Cx) (W : WX) (st : Stmt) (m : M Fl) : Prop := PS X st (tS X.KF W m)
def RSs (X : Cx) (W : WX) (st : List Stmt) (m : M Fl) : Prop := PSs X st (tS X.KF W m)
/-- behind a part of it: the rest, from where one stands -/
theorem GoS.then {K : KF} {g g1 g2 : Ga} {σ σ1 σ2 : St} {R R1 : List Addr} {H H1 H2 : Hp} (b1 : BorK g g1) (k1 : Kp g σ σ1) (e1 : Ext R H H1) (w1 : New R H R1) (h : GoS K g1 σ1 R1 H1 g2 σ2 H2) : GoS K g σ R H g2 σ2 H2 := by
  obtain ⟨b2, k2, R2, s2, n2, e2, w2⟩ := h
  exact ⟨b1.trans b2, k1.trans b1 k2, R2, s2, n2, e1.trans w1 e2, New.trans e1 w1 w2⟩
theorem tS_bind {α β : Type} {rep : Hp → β → α → Prop} {K : KF} {W : WX} {m : M α} {f : α → M Fl} {D : Ends} {σ : St} {H : Hp} (h : tS K W (bnd m f) D σ H) :
    tG rep K W m σ H (fun b H1 => ∃ a, rep H1 b a ∧ tS K W (f a) D σ H1) := by
  obtain ⟨g, R, s, n, h⟩ := h
  refine ⟨g, R, s, n, ?_⟩
  unfold bnd at h
  cases e : m g with
  | stuck => rw [e] at h; exact h
  | exc c g' => rw [e] at h; exact fun H' go => h σ H' go.s
  | ok a g1 =>
    rw [e] at h
    intro b1 H1 go r1
    obtain ⟨bk1, R1, s1, n1, e1, w1⟩ := go
    refine ⟨a, r1, g1, R1, s1, n1, ?_⟩
    dsimp only at h
    cases e2 : f a g1 with
    | stuck => rw [e2] at h; exact h
    | exc c g' => rw [e2] at h; exact fun σ' H' go => h σ' H' (go.then bk1 (Kp.refl g σ) e1 w1)
    | ok a g' => rw [e2] at h; exact fun σ' H' go => h σ' H' (go.then bk1 (Kp.refl g σ) e1 w1)
theorem tS_ok {K : KF} {W : WX} {f : Fl} {D : Ends} {σ : St} {H : Hp} (h : tS K W (fun g => .ok f g) D σ H) : f.end K D σ H := by
  obtain ⟨g, R, s, n, h⟩ := h
  exact h σ H (Go.refl s n).s
section
variable {X : Cx} {W : WX} {st : Stmt} {rest : List Stmt} {a b e : Expr} {pos : Pos}
def sSeq (m k : M Fl) : M Fl := fun g => match m g with
  | .ok .nx g' => k g'
  | r => r
theorem r_seq {m k : M Fl} (h1 : RS X W st m) (h2 : RSs X W rest k) : RSs X W (st :: rest) (sSeq m k) := PSs.imp (pss_cons h1 h2) fun D σ H h => by
  obtain ⟨g, R, s, n, h⟩ := h
  refine ⟨g, R, s, n, ?_⟩
  unfold sSeq at h
  cases e : m g with
  | stuck => rw [e] at h; exact h
  | exc c g' => rw [e] at h; exact h
  | ok f g1 =>
    rw [e] at h
    cases f with
    | brk => exact h
    | cnt => exact h
    | ret x => exact h
    | nx =>
      intro σ1 H1 go
      obtain ⟨b1, k1, R1, s1, n1, e1, w1⟩ := go
      refine ⟨g1, R1, s1, n1, ?_⟩
      dsimp only at h
      cases e2 : k g1 with
      | stuck => rw [e2] at h; exact h
      | exc c g' => rw [e2] at h; exact fun σ' H' go => h σ' H' (go.then b1 k1 e1 w1)
      | ok a g' => rw [e2] at h; exact fun σ' H' go => h σ' H' (go.then b1 k1 e1 w1)
theorem r_end {m : M Fl} (h1 : RS X W st m) : RSs X W [st] m := pss_one h1
theorem r_empty : RSs X W [] (fun g => .ok .nx g) := PSs.imp pss_nil fun D σ H h => tS_ok h
def sRet (m : M D) : M Fl := bnd m fun x g => .ok (.ret x) g
theorem r_ret {m : M D} (h : RE X W e m) : RS X W (.Return (some e) pos) (sRet m) := PS.imp (ps_ret h) fun D σ H h => tG_mono (tS_bind h) fun v H1 _ ⟨x, r, q⟩ => tS_ok q v r
def sDrop (m : M D) : M Fl := bnd m fun _ g => .ok .nx g
theorem r_expr {m : M D} (h : RE X W e m) (hs : swapsWith e none pos.line X.env = pure false := by rfl) : RS X W (.Expr e pos) (sDrop m) := PS.imp (ps_expr h hs) fun D σ H h => tG_mono (tS_bind h) fun v H1 _ ⟨x, r, q⟩ => tS_ok q
def sIf (t : M Bool) (a b : M Fl) : M Fl := bnd t fun k => if k = true then a else b
theorem r_if {c : Expr} {ss us : List Stmt} {t : M Bool} {m k : M Fl} (hc : RT X W c t) (ha : RSs X W ss m) (hb : RSs X W us k) : RS X W (.If c ss us pos) (sIf t m k) := PS.imp (ps_if hc ha hb) fun D σ H h => tG_mono (tS_bind h) fun c H1 _ ⟨k, e, q⟩ => by
  subst e
  cases c with
  | true => exact q
  | false => exact q
/-! ### targets -/
def freeAt (g : Ga) (i : Nat) : Bool := match g[i]? with
  | some none => true
  | some (some t) => !t.bor
  | none => false
theorem freeAt_bor {g : Ga} {i : Nat} {t : Tv} (h : freeAt g i = true) (e : g[i]? = some (some t)) : t.bor = false := by
  unfold freeAt at h
  rw [e] at h
  simpa using h
theorem borK_set {g : Ga} {i : Nat} {o : Option Tv} (h : freeAt g i = true) : BorK g (g.set i o) := fun j t e b => by
  by_cases hj : i = j
  · subst hj
    rw [freeAt_bor h e] at b
    cases b
  · exact ⟨t, by rw [List.getElem?_set_ne hj]; exact e, b⟩
theorem kp_set {g : Ga} {σ : St} {i : Nat} {o : Option V} (h : freeAt g i = true) : Kp g σ (σ.set i o) := fun j t e b => by
  by_cases hj : i = j
  · subst hj
    rw [freeAt_bor h e] at b
    cases b
  · rw [List.getElem?_set_ne hj]
abbrev Bd := D → Ga → Option Ga
/-- only slots of vs are set -/
def Ch (vs : List Nat) (σ σ' : St) : Prop := σ'.length = σ.length ∧ ∀ i : Nat, i ∉ vs → σ'[i]? = σ[i]?
theorem Ch.refl (vs : List Nat) (σ : St) : Ch vs σ σ := ⟨rfl, fun _ _ => rfl⟩
theorem Ch.trans {vs us : List Nat} {σ σ1 σ2 : St} (a : Ch vs σ σ1) (b : Ch us σ1 σ2) : Ch (vs ++ us) σ σ2 := ⟨b.1.trans a.1, fun i hi => by
  rw [List.mem_append, not_or] at hi
  exact (b.2 i hi.2).trans (a.2 i hi.1)⟩
theorem Ch.mono {vs us : List Nat} {σ σ1 : St} (a : Ch vs σ σ1) (h : ∀ i ∈ vs, i ∈ us) : Ch us σ σ1 := ⟨a.1, fun i hi => a.2 i fun z => hi (h i z)⟩
def tBd (K : KF) (vs : List Nat) (b : Bd) : TG := fun v σ H Q => ∃ g R x g', SRep K H σ g R ∧ R.Nodup ∧ Fz K H v x ∧ b x g = some g' ∧ ∀ σ', Ch vs σ σ' → BorK g g' → Kp g σ σ' → (∃ R', SRep K H σ' g' R' ∧ R'.Nodup ∧ ∀ a ∈ R', a ∈ R) → Q σ' H
def RG (X : Cx) (tg : Expr) (vs : List Nat) (b : Bd) : Prop := PG X tg (tBd X.KF vs b)
theorem PG.imp {X : Cx} {e : Expr} {t t' : TG} (h : PG X e t) (k : ∀ v σ H Q, t' v σ H Q → t v σ H Q) : PG X e t' := ⟨fun pins s σ H v u Q I r q => h.run pins s σ H v u Q I r (k v σ H Q q)⟩
theorem PGs.imp {X : Cx} {e : List Expr} {t t' : TGs} (h : PGs X e t) (k : ∀ v σ H Q, t' v σ H Q → t v σ H Q) : PGs X e t' := ⟨fun pins s σ H v u Q I r q => h.run pins s σ H v u Q I r (k v σ H Q q)⟩
def bName (i : Nat) : Bd := fun x g => if freeAt g i = true then some (g.set i (some (.d x))) else none
theorem r_name {i : Nat} {x : Str} (hN : X.N.Nodup) (hi : X.N[i]? = some x := by rfl) (hx : Loc X.env.scope x := by first | exact Or.inl rfl | exact Or.inr rfl) (hf : X.fn x = true ∨ X.env.scope.names.lookup x = some .local := by first | exact .inl rfl | exact .inr rfl) :
    RG X (.Name x pos) [i] (bName i) := PG.imp (pg_name hN hi hx hf) fun v σ H Q h => by
  obtain ⟨g, R, y, g', s, n, f, e, q⟩ := h
  unfold bName at e
  split at e
  · rename_i hfr
    cases e
    obtain ⟨R', s', n', m'⟩ := SRep.set (TRep.d f) i s (by simpa using n)
    exact q _ ⟨List.length_set, fun j hj => List.getElem?_set_ne (fun z => hj (by simp [z]))⟩ (borK_set hfr) (kp_set hfr) ⟨R', s', n', fun a ha => by simpa using m' a ha⟩
  · cases e
/-- several -/
def bAll : List Bd → List D → Ga → Option Ga
  | [], [], g => some g
  | b :: bs, x :: xs, g => (b x g).bind fun g' => bAll bs xs g'
  | _, _, _ => none
def bTup (bs : List Bd) : Bd := fun x g => match x with
  | .tuple xs => bAll bs xs g
  | _ => none
def tBds (K : KF) (us : List Nat) (bs : List Bd) : TGs := fun vs σ H Q => ∃ g R xs g', SRep K H σ g R ∧ R.Nodup ∧ FzAll K H vs xs ∧ bAll bs xs g = some g' ∧ ∀ σ', Ch us σ σ' → BorK g g' → Kp g σ σ' → (∃ R', SRep K H σ' g' R' ∧ R'.Nodup ∧ ∀ a ∈ R', a ∈ R) → Q σ' H
def RGs (X : Cx) (tg : List Expr) (us : List Nat) (b : List Bd) : Prop := PGs X tg (tBds X.KF us b)
theorem r_gnil : RGs X [] [] [] := PGs.imp pgs_nil fun v σ H Q h => by
  obtain ⟨g, R, xs, g', s, n, f, e, q⟩ := h
  cases f with
  | nil =>
    cases e
    exact ⟨rfl, q σ (Ch.refl _ _) (BorK.refl g) (Kp.refl g σ) ⟨R, s, n, fun a h => h⟩⟩
  | cons h t => cases e
theorem r_gcons {es : List Expr} {bd : Bd} {bs : List Bd} {u1 u2 : List Nat} (h1 : RG X e u1 bd) (h2 : RGs X es u2 bs) (hs : (assignEach (e :: es) X.env).map (·.2) = assign e X.env :: (assignEach es X.env).map (·.2) := by rfl) : RGs X (e :: es) (u1 ++ u2) (bd :: bs) := PGs.imp (pgs_cons h1 h2 hs) fun vs σ H Q h => by
  obtain ⟨g, R, xs, g', s, n, f, e, q⟩ := h
  cases f with
  | nil => cases e
  | cons h t =>
    rename_i v vs d ds
    have e : (bd d g).bind (fun g' => bAll bs ds g') = some g' := e
    cases e1 : bd d g with
    | none => rw [e1] at e; cases e
    | some g1 =>
      rw [e1] at e
      have e : bAll bs ds g1 = some g' := e
      refine ⟨v, vs, rfl, g, R, d, g1, s, n, h, e1, fun σ1 c1 b1 k1 ⟨R1, s1, n1, m1⟩ => ?_⟩
      exact ⟨g1, R1, ds, g', s1, n1, t, e, fun σ2 c2 b2 k2 ⟨R2, s2, n2, m2⟩ => q σ2 (c1.trans c2) (b1.trans b2) (k1.trans b1 k2) ⟨R2, s2, n2, fun a ha => m1 a (m2 a ha)⟩⟩
theorem bAll_len : ∀ {bs : List Bd} {xs : List D} {g g' : Ga}, bAll bs xs g = some g' → xs.length = bs.length
  | [], [], _, _, _ => rfl
  | [], _ :: _, _, _, e => by cases e
  | _ :: _, [], _, _, e => by cases e
  | b :: bs, x :: xs, g, g', e => by
    have e : (b x g).bind (fun g' => bAll bs xs g') = some g' := e
    cases e1 : b x g with
    | none => rw [e1] at e; cases e
    | some g1 =>
      rw [e1] at e
      have e : bAll bs xs g1 = some g' := e
      simp [bAll_len e]
theorem r_gtup {es : List Expr} {k : Nat} {bs : List Bd} {us : List Nat} (hc : X.calm = true) (h : RGs X es us bs) (hn : (assignEach es X.env).length = bs.length := by rfl) (hst : (assignEach es X.env).findIdx? (·.1) = none := by rfl) : RG X (.Tuple es k pos) us (bTup bs) :=
  PG.imp (pg_tup (n := bs.length) hc h hn hst) fun v σ H Q h => by
  obtain ⟨g, R, y, g', s, n, f, e, q⟩ := h
  cases f with
  | tup hs ha =>
    have e : bAll bs _ g = some g' := e
    exact ⟨_, _, rfl, hs.sq, by rw [ha.length]; exact bAll_len e, g, R, _, g', s, n, ha, e, q⟩
  | _ => cases e
def sAsg (b : Bd) (m : M D) : M Fl := bnd m fun x g => match b x g with
  | some g' => .ok .nx g'
  | none => .stuck
theorem asg_of {bd : Bd} {us : List Nat} {m : M D} {D : Ends} {σ : St} {H : Hp} (h : tS X.KF W (sAsg bd m) D σ H) : tAsg (tD X.KF W m) (tBd X.KF us bd) D σ H :=
  tG_mono (tS_bind h) fun v H1 _ ⟨x, r, q⟩ => by
    obtain ⟨g, R, s, n, q⟩ := q
    dsimp only at q
    cases e : bd x g with
    | none => rw [e] at q; exact q.elim
    | some g' =>
      rw [e] at q
      refine ⟨g, R, x, g', s, n, r, e, fun σ' _ b k ⟨R', s', n', m'⟩ => ?_⟩
      exact q σ' H1 ⟨b, k, R', s', n', Ext.refl R H1, fun a ha => .inl (m' a ha)⟩
theorem r_asg {tg : Expr} {bd : Bd} {us : List Nat} {m : M D} (he : RE X W e m) (hg : RG X tg us bd) (hs : swapsWithSole [tg] e pos.line X.env = pure false := by rfl) (hw : swappedStores [tg] e X.env = pure none := by rfl)
    (h1 : (assignEach [tg] X.env).map (·.2) = [assign tg X.env] := by rfl) : RS X W (.Assign [tg] e pos) (sAsg bd m) := PS.imp (ps_asg he hg hs hw h1) fun D σ H h => asg_of h
theorem gName_of {i : Nat} {v : V} {σ : St} {H : Hp} {Q : St → Hp → Prop} {K : KF} (h : tBd K [i] (bName i) v σ H Q) : gName i v σ H Q := by
  obtain ⟨g, R, y, g', s, n, f, e, q⟩ := h
  unfold bName at e
  split at e
  · rename_i hfr
    cases e
    obtain ⟨R', s', n', m'⟩ := SRep.set (TRep.d f) i s (by simpa using n)
    exact q _ ⟨List.length_set, fun j hj => List.getElem?_set_ne (fun z => hj (by simp [z]))⟩ (borK_set hfr) (kp_set hfr) ⟨R', s', n', fun a ha => by simpa using m' a ha⟩
  · cases e
theorem r_set {i : Nat} {x : Str} {m : M D} {pos' : Pos} (hN : X.N.Nodup) (he : RE X W e m) (hi : X.N[i]? = some x := by rfl) (hx : Loc X.env.scope x := by first | exact Or.inl rfl | exact Or.inr rfl) (hs : swapsWith e (some (.Name x pos')) pos.line X.env = pure false := by rfl)
    (hf : X.fn x = true ∨ X.env.scope.names.lookup x = some .local := by first | exact .inl rfl | exact .inr rfl) : RS X W (.Assign [.Name x pos'] e pos) (sAsg (bName i) m) :=
  PS.imp (ps_set hN hi hx he hs hf) fun D σ H h => tG_mono (asg_of h) fun v H1 _ q => gName_of q
/-! ### a ghost step: a list, a dict is not changed any more -/
def frzT : Tv → Option D
  | .ml false xs => some (.list xs)
  | .md false _ kvs => some (.dict kvs)
  | .mf false kvs => some (.dict kvs)
  | _ => none
def sFrz (i : Nat) : M Fl := fun g => match g[i]? with
  | some (some t) => (match frzT t with
    | some x => .ok .nx (g.set i (some (.d x)))
    | none => .stuck)
  | _ => .stuck
theorem frzT_own {t : Tv} {x : D} (h : frzT t = some x) : t.own = true ∧ t.bor = false := by
  cases t with
  | d _ => cases h
  | ml b _ => cases b <;> first | exact ⟨rfl, rfl⟩ | cases h
  | md b _ _ => cases b <;> first | exact ⟨rfl, rfl⟩ | cases h
  | mf b _ => cases b <;> first | exact ⟨rfl, rfl⟩ | cases h
  | ob _ _ _ => cases h
theorem TRep.frz {K : KF} {H : Hp} {a : Addr} {t : Tv} {rt : List Addr} {x : D} (h : TRep K H (.ref a) t rt) (e : frzT t = some x) : ∃ u, H a = some u ∧ Mut (some u) ∧ isFz u = false ∧ ∀ H' o, Pers H H' → H' a = some (.frz o u) → Fz K H' (.ref a) x := by
  cases h with
  | d _ => cases e
  | ob _ _ _ => cases e
  | ml h1 h2 =>
    rename_i vs xs b
    cases b with
    | true => cases e
    | false =>
      cases e
      exact ⟨_, h1, trivial, rfl, fun H' o p q => .lst (.inl ⟨o, q⟩) (h2.pers p)⟩
  | mk h1 h2 =>
    rename_i kvs ds b
    cases b with
    | true => cases e
    | false =>
      cases e
      exact ⟨_, h1, trivial, rfl, fun H' o p q => .dK q (h2.pers p)⟩
  | mt h1 h2 hk =>
    rename_i kvs ds b
    cases b with
    | true => cases e
    | false =>
      cases e
      exact ⟨_, h1, trivial, rfl, fun H' o p q => .dT q (h2.pers p) hk⟩
  | mf h1 hk hr h2 =>
    rename_i xs vs ds b
    cases b with
    | true => cases e
    | false =>
      cases e
      exact ⟨_, h1, trivial, rfl, fun H' o p q => .dF q (fun x hx => (hk x hx).pers p) hr (h2.pers p)⟩
theorem frz_step {K : KF} {g : Ga} {σ : St} {R : List Addr} {H : Hp} {i : Nat} {t : Tv} {x : D} (s : SRep K H σ g R) (n : R.Nodup) (e : g[i]? = some (some t)) (ef : frzT t = some x) :
    ∃ a u, H a = some u ∧ Mut (some u) ∧ ∀ o, GoS K g σ R H (g.set i (some (.d x))) σ (L2.upd H a (.frz o u)) := by
  obtain ⟨hown, hbor⟩ := frzT_own ef
  obtain ⟨a, h1, h2, h4, h5⟩ := s.putG n e hown
  obtain ⟨u, hu, mu, fu, hz⟩ := h2.frz ef
  refine ⟨a, u, hu, mu, fun o => ?_⟩
  have p : Pers H (L2.upd H a (.frz o u)) := fun c u' hu' hf => by
    rw [upd_ne]
    · exact hu'
    · rintro rfl
      rw [hu] at hu'
      cases hu'
      rw [fu] at hf
      cases hf
  obtain ⟨R', s', sb⟩ := h5 (L2.upd H a (.frz o u)) (.d x) [] p (fun c _ hc => upd_ne hc) (.d (hz _ o p upd_same)) (List.nil_sublist _)
  refine ⟨fun j t' ej b => ?_, Kp.refl g σ, R', s', sb.nodup n, fun c u' hu' hc => ?_, fun c hc => .inl (sb.subset hc)⟩
  · by_cases hj : i = j
    · subst hj
      rw [e] at ej
      cases ej
      rw [hbor] at b
      cases b
    · exact ⟨t', by rw [List.getElem?_set_ne hj]; exact ej, b⟩
  · rw [upd_ne]
    · exact hu'
    · rintro rfl
      exact hc h4
theorem r_frz {i : Nat} {ss : List Stmt} {m : M Fl} (h : RSs X W ss m) : RSs X W ss (sSeq (sFrz i) m) := by
  refine ⟨fun pins s σ H D I q => ?_⟩
  obtain ⟨g, R, sr, n, q⟩ := q
  unfold sSeq sFrz at q
  cases e : g[i]? with
  | none => rw [e] at q; exact q.elim
  | some o =>
    cases o with
    | none => rw [e] at q; exact q.elim
    | some t =>
      rw [e] at q
      dsimp only at q
      cases ef : frzT t with
      | none => rw [ef] at q; exact q.elim
      | some x =>
        rw [ef] at q
        obtain ⟨a, u, ha, mu, go⟩ := frz_step sr n e ef
        obtain ⟨od, I1⟩ := I.lock ha mu
        obtain ⟨b1, k1, R1, s1, n1, e1, w1⟩ := go od
        refine h.run pins s σ _ D I1 ⟨_, R1, s1, n1, ?_⟩
        dsimp only at q
        cases e2 : m (g.set i (some (.d x))) with
        | stuck => rw [e2] at q; exact q
        | exc c g' => rw [e2] at q; exact fun σ' H' go => q σ' H' (go.then b1 k1 e1 w1)
        | ok a g' => rw [e2] at q; exact fun σ' H' go => q σ' H' (go.then b1 k1 e1 w1)
end
/-! ### a list or a tuple that is walked -/
def srcIs (k : Bool) (h : Heap) (a : Addr) (items : Array Value) : Prop := if k = true then h.IsList a items else h.IsTuple a items
def srcIt (k : Bool) (h : Heap) (it a : Addr) (i : Nat) : Prop := if k = true then h.IsListIter it a i else h.IsTupleIter it a i
def srcSq (k : Bool) (K : PySem.W.Frag) (H : Hp) (a : Addr) (xs : List V) : Prop := if k = true then SqL K H a xs else SqT K H a xs
def srcO (k : Bool) (a : Addr) : Obj := if k = true then { cls := .type "list_iterator", data := .fields #[.ref a, .int 0 0] } else { cls := .type "tuple_iterator", data := .fields #[.ref a, .int 0 0] }
section
variable {X : Cx} {pins : List (Addr × Obj)} {σ : St} {H : Hp} {s : Shared} {a : Addr} {xs ys : List V} {k : Bool}
theorem Inv.src (I : Inv X pins σ H s) (h : srcSq k X.K H a xs) : ∃ its : List Value, Vals xs its ∧ srcIs k s.heap a its.toArray ∧ a < s.heap.objs.size := by
  cases k with
  | true =>
    obtain ⟨its, r, p, _⟩ := I.list (show SqL X.K H a xs from h)
    exact ⟨its, r, p.isList, p.lt⟩
  | false =>
    obtain ⟨its, r, p, _⟩ := I.tuple (show SqT X.K H a xs from h)
    exact ⟨its, r, p, p.lt⟩
theorem Inv.src_inj (I : Inv X pins σ H s) (h : srcSq k X.K H a xs) (h' : srcSq k X.K H a ys) : xs = ys := by
  cases k with
  | true => exact I.list_inj (show SqL X.K H a xs from h) h'
  | false => exact I.tuple_inj (show SqT X.K H a xs from h) h'
theorem src_draws {prog : Program} {w : World} {A : Around} (hh : A.handled = none) (k : Bool) (it l : Addr) (hne : l ≠ it) (items : Array Value) :
    Draws prog w A it [it, l] items.size (fun i v => items[i]? = some v) (fun i h => srcIt k h it l i ∧ srcIs k h l items) := by
  cases k with
  | true => exact Draws.list hh it l hne items
  | false => exact Draws.tuple hh it l hne items
theorem src_begins (k : Bool) (l : Addr) (items : Array Value) : Begins (.ref l) (srcO k l) fun h => srcIs k h l items := by
  cases k with
  | true => exact begins_list l items
  | false => exact begins_tuple l items
theorem srcIt_at {h h' : Heap} {it : Addr} {i : Nat} (st : srcIt k h it a i) (kp : ∀ o, h.get? it = some o → h'.get? it = some o) : srcIt k h' it a i := by
  cases k with
  | true => exact Heap.IsListIter.at st kp
  | false => exact Heap.IsTupleIter.at st kp
theorem srcIt_obj {h : Heap} {it : Addr} {i : Nat} (st : srcIt k h it a i) : ∃ o, h.get? it = some o ∧ ∀ v, o.data ≠ .cell v := by
  cases k with
  | true =>
    obtain ⟨o, e, c, d⟩ : h.IsListIter it a i := st
    exact ⟨o, e, fun v z => by rw [d] at z; cases z⟩
  | false =>
    obtain ⟨o, e, c, d⟩ : h.IsTupleIter it a i := st
    exact ⟨o, e, fun v z => by rw [d] at z; cases z⟩
theorem srcIt_new {h : Heap} {it : Addr} (e : h.get? it = some (srcO k a)) : srcIt k h it a 0 := by
  cases k with
  | true => exact ⟨_, e, rfl, rfl⟩
  | false => exact ⟨_, e, rfl, rfl⟩
end
/-! ### zip of two, lists or tuples -/
def Izp (K : PySem.W.Frag) (k1 k2 : Bool) (a b : Addr) : It :=
  ⟨fun i H => ∃ (xs ys : List V) (x y : V), srcSq k1 K H a xs ∧ srcSq k2 K H b ys ∧ xs[i]? = some x ∧ ys[i]? = some y,
    fun i H v H' => ∃ (o : Obj) (T : Addr) (x y : V), o.dict = none ∧ v = .ref T ∧ H T = none ∧ H' = L2.upd H T (tupO o [x, y]) ∧ (∀ xs, srcSq k1 K H a xs → xs[i]? = some x) ∧ ∀ ys, srcSq k2 K H b ys → ys[i]? = some y,
    fun i H => ∃ xs ys : List V, srcSq k1 K H a xs ∧ srcSq k2 K H b ys ∧ i = min xs.length ys.length⟩
theorem turn_zp {P : Program} {w : World} {K : PySem.W.Frag} {elts : List Expr} {kk : Nat} {tpos : Pos} {k1 k2 : Bool} {a b z TI TO i1 i2 : Addr} (D : ZipApart z TI TO i1 i2 a b) (S : ZipSep2 z TI TO i1 i2 [i1, a] [i2, b]) (n1 : a ≠ i1) (n2 : b ≠ i2) :
    Turn P w K (.Tuple elts kk tpos) (Izp K k1 k2 a b) [z, TI, TO, i1, i2] z (fun i h => IsZip h z TI TO .none ∧ IsPair h TI (.ref i1) (.ref i2) ∧ (∃ x y, IsPair h TO x y) ∧ srcIt k1 h i1 a i ∧ srcIt k2 h i2 b i) where
  mem := by simp
  obj := fun i h st c hc => by
    obtain ⟨hz, hTI, ⟨x, y, hTO⟩, h1, h2⟩ := st
    have e' : c = z ∨ c = TI ∨ c = TO ∨ c = i1 ∨ c = i2 := by simpa using hc
    rcases e' with q | q | q | q | q
    · rw [q]; exact ⟨_, hz, fun v q => nomatch q⟩
    · rw [q]; exact ⟨_, hTI, fun v q => nomatch q⟩
    · rw [q]; exact ⟨_, hTO, fun v q => nomatch q⟩
    · rw [q]; exact srcIt_obj h1
    · rw [q]; exact srcIt_obj h2
  keep := fun i h h' st k => by
    obtain ⟨hz, hTI, ⟨x, y, hTO⟩, h1, h2⟩ := st
    exact ⟨k z (by simp) _ hz, k TI (by simp) _ hTI, ⟨x, y, k TO (by simp) _ hTO⟩, srcIt_at h1 fun o q => k i1 (by simp) o q, srcIt_at h2 fun o q => k i2 (by simp) o q⟩
  item := by
    intro X hP hw hK hc i pins s σ H E I hf st hg
    subst hP hw hK
    obtain ⟨hz, hTI, ⟨x0, y0, hTO⟩, h1, h2⟩ := st
    obtain ⟨xs, ys, x, y, hqx, hqy, hx, hy⟩ := hg
    obtain ⟨its, rv, p, _⟩ := PP.Inv.src I hqx
    obtain ⟨its2, rv2, p2, _⟩ := PP.Inv.src I hqy
    obtain ⟨u, hu, ru⟩ := rv.get hx
    obtain ⟨u2, hu2, ru2⟩ := rv2.get hy
    have hzl : z < s.heap.objs.size := Heap.lt_size hz
    have l1 : i < its.toArray.size := by
      obtain ⟨q, _⟩ := List.getElem?_eq_some_iff.mp hu
      simpa using q
    have l2 : i < its2.toArray.size := by
      obtain ⟨q, _⟩ := List.getElem?_eq_some_iff.mp hu2
      simpa using q
    refine wpAny_pyNext_zipD2_item S (src_draws (A := X.A.in1) (I.ok.hd hc) k1 i1 a n1 its.toArray) (src_draws (A := X.A.in1) (I.ok.hd hc) k2 i2 b n2 its2.toArray) hz hTI hTO ⟨h1, p⟩ ⟨h2, p2⟩ l1 l2 fun v1 v2 h' tk q1 q2 z' TO' h1' h2' hT hsz hk => ?_
    have ev1 : v1 = u := by
      have q1 : its.toArray[i]? = some v1 := q1
      rw [List.getElem?_toArray, hu] at q1
      exact (Option.some.inj q1).symm
    have ev2 : v2 = u2 := by
      have q2 : its2.toArray[i]? = some v2 := q2
      rw [List.getElem?_toArray, hu2] at q2
      exact (Option.some.inj q2).symm
    subst ev1 ev2
    refine ⟨_, rfl, wpAny_letOwnedTupleGo_zip (s := { s with heap := h', toks := tk }) z' fun h'' z'' sb => ?_⟩
    have hT2 : h''.get? s.heap.objs.size = some { cls := .type "tuple", data := .seq #[v1, v2] } := (sb.2 _ (Nat.ne_of_gt hzl)).trans hT
    have new : ObjOk X.prog X.w (L2.upd H s.heap.objs.size (tupO { cls := .type "tuple", data := .seq #[v1, v2] } [x, y])) h'' s.heap.objs.size (tupO { cls := .type "tuple", data := .seq #[v1, v2] } [x, y]) :=
      tupO_ok (its := [v1, v2]) hT2 rfl rfl (.cons ru (.cons ru2 .nil)) (by show 2 ≤ sizeLine; decide)
    have I1 : Inv X pins σ (L2.upd H s.heap.objs.size (tupO { cls := .type "tuple", data := .seq #[v1, v2] } [x, y])) { s with heap := h'', toks := tk } :=
      I.turnedNew (t' := tk) (ch := [z, TI, TO, i1, i2]) (fun c o hb q => (sb.2 c (fun q' => hb (by simp [q']))).trans (hk c o (fun q' => hb (by simp [q'])) (fun q' => hb (by simp [q'])) (fun q' => hb (by simp [q'])) (fun q' => hb (by simp [q'])) q)) hf (Nat.le_refl _) new
    refine ⟨.ref s.heap.objs.size, _, I1, rfl, ⟨_, _, x, y, rfl, rfl, I.hok.fresh (Nat.le_refl _), rfl, fun l hl => by rw [PP.Inv.src_inj I hl hqx]; exact hx, fun l hl => by rw [PP.Inv.src_inj I hl hqy]; exact hy⟩, ⟨z'', ?_, ⟨v1, v2, ?_⟩, ?_, ?_⟩, fun c hcm => ?_⟩
    · exact (sb.2 _ D.TIz).trans (hk _ _ D.TIz D.TITO D.TIi1 D.TIi2 hTI)
    · exact (sb.2 _ D.TOz).trans TO'
    · exact srcIt_at h1'.1 fun o q => (sb.2 _ D.i1z).trans q
    · exact srcIt_at h2'.1 fun o q => (sb.2 _ D.i2z).trans q
    · have hlt : c < s.heap.objs.size := by
        have e' : c = z ∨ c = TI ∨ c = TO ∨ c = i1 ∨ c = i2 := by simpa using hcm
        rcases e' with q | q | q | q | q
        · rw [q]; exact hzl
        · rw [q]; exact Heap.lt_size hTI
        · rw [q]; exact Heap.lt_size hTO
        · rw [q]; obtain ⟨_, e1, _⟩ := srcIt_obj h1; exact Heap.lt_size e1
        · rw [q]; obtain ⟨_, e2, _⟩ := srcIt_obj h2; exact Heap.lt_size e2
      rw [upd_ne (Nat.ne_of_lt hlt)]
      exact (hf c hcm).1
  done := by
    intro X hP hw hK hc i pins s σ H E I hf st hg
    subst hP hw hK
    obtain ⟨hz, hTI, ⟨x0, y0, hTO⟩, h1, h2⟩ := st
    obtain ⟨xs, ys, hqx, hqy, hend⟩ := hg
    obtain ⟨its, rv, p, _⟩ := PP.Inv.src I hqx
    obtain ⟨its2, rv2, p2, _⟩ := PP.Inv.src I hqy
    have l1 := rv.length
    have l2 := rv2.length
    have m1 : i ≤ its.toArray.size := by simp only [List.size_toArray]; omega
    have m2 : i ≤ its2.toArray.size := by simp only [List.size_toArray]; omega
    have m3 : i = its.toArray.size ∨ i = its2.toArray.size := by simp only [List.size_toArray]; omega
    exact wpAny_pyNext_zipD2_end S (src_draws (A := X.A.in1) (I.ok.hd hc) k1 i1 a n1 its.toArray) (src_draws (A := X.A.in1) (I.ok.hd hc) k2 i2 b n2 its2.toArray) hz hTI hTO ⟨h1, p⟩ ⟨h2, p2⟩ m1 m2 m3 fun h' tk hk => ⟨rfl, I.turnedL (t' := tk) (ch := [z, TI, TO, i1, i2]) (fun c o hb q =>
      hk c o (fun q' => hb (by simp [q'])) (fun q' => hb (by simp [q'])) (fun q' => hb (by simp [q'])) (fun q' => hb (by simp [q'])) q) hf⟩
  self := fun A i s Q E st h => wpAny_pyIter_zip st.1 h
def iZp (K : PySem.W.Frag) (ta : TA) : TI := fun σ H R => ta σ H fun vs H1 => ∃ k1 k2 a b xs ys, vs = [.ref a, .ref b] ∧ srcSq k1 K H1 a xs ∧ srcSq k2 K H1 b ys ∧ R (Izp K k1 k2 a b) H1
theorem pi_zp {X : Cx} {e e2 : Expr} {ta : TA} {p pos tpos : Pos} {elts : List Expr} {kk : Nat} (hg : Gl X "zip") (hm : X.mg "zip" = none) (ha : PA X [e, e2] ta)
    (hs : starEach [e, e2] X.env = (false, eval e X.env) :: starEach [e2] X.env := by rfl) (hpl : (backTo pos (starEach [e2] X.env)).any (·.1) = false := by rfl) :
    PI X (.Tuple elts kk tpos) (.Call (.Name "zip" p) [e, e2] [] pos) (iZp X.K ta) := by
  refine ⟨fun pins s σ H R I h => ?_⟩
  refine Call_ (ld_blt I hg hm PyProof.Rows.boot_zip (PyProof.Rows.callWith_type1 (thn (ha.run pos pins s σ H _ I h) fun us s1 ⟨vs, H1, I1, r1, q1⟩ => ?_) hs hpl))
  obtain ⟨k1, k2, a, b, xs, ys, ex, hqx, hqy, q⟩ := q1
  subst ex
  cases r1 with
  | cons r rr =>
    cases rr with
    | cons r' rr =>
      cases rr
      cases r
      cases r'
      obtain ⟨its, rv, p1, la⟩ := PP.Inv.src I1 hqx
      obtain ⟨its2, rv2, p2, lb⟩ := PP.Inv.src I1 hqy
      refine zip_begins2 (src_begins k1 a its.toArray) (src_begins k2 b its2.toArray) p1 p2 fun h' hz hTI hTO h1 h2 hsz hk => wpAny_pyIter_zip hz ?_
      have I2 : Inv X pins σ H1 { s1 with heap := h' } := I1.kept (t' := s1.toks) hk
      refine ⟨s1.heap.objs.size + 4, [s1.heap.objs.size + 4, s1.heap.objs.size + 2, s1.heap.objs.size + 3, s1.heap.objs.size, s1.heap.objs.size + 1], _, _, H1, rfl, I2,
        turn_zp (k1 := k1) (k2 := k2) (PySem.W.ktu_apart s1.heap.objs.size a b la lb) (zip_sep2 (N := s1.heap.objs.size) (fp1 := [a]) (fp2 := [b]) (by simpa using la) (by simpa using lb)) (Nat.ne_of_lt la) (Nat.ne_of_lt (Nat.lt_succ_of_lt lb)), ⟨hz, hTI, ⟨_, _, hTO⟩, srcIt_new h1, srcIt_new h2⟩, fun c hcm => ?_, q⟩
      have e' : c = s1.heap.objs.size + 4 ∨ c = s1.heap.objs.size + 2 ∨ c = s1.heap.objs.size + 3 ∨ c = s1.heap.objs.size ∨ c = s1.heap.objs.size + 1 := by simpa using hcm
      have hle : s1.heap.objs.size ≤ c := by
        rcases e' with z | z | z | z | z
        · rw [z]; exact Nat.le_add_right _ _
        · rw [z]; exact Nat.le_add_right _ _
        · rw [z]; exact Nat.le_add_right _ _
        · rw [z]; exact Nat.le_refl _
        · rw [z]; exact Nat.le_add_right _ _
      exact I1.fpOk hle (I1.hok.fresh hle)
end PP
namespace PP
open PySem PySem.Spec L2
open PyProof.Rows hiding St
open PySem.Builtin.SmallTypes in
theorem meets_enum1 {v : Value} {o : Obj} {H : Heap → Prop} (B : Begins v o H) :
    Meets (Builtin.«enumerate.__new__» ⟨[.type "enumerate", v], []⟩) (fun _ R s => H s.heap ∧
      R (.ok (.ret (.ref (s.heap.push o).objs.size))) { s with heap := (s.heap.push o).push { cls := .type "enumerate", data := .fields #[.none, .bool false, .ref s.heap.objs.size, rawInt 0, .none, .none] } }) :=
  .of_wp fun prog w A R s h => by
    obtain ⟨hp, g, d, tk, os⟩ := s; obtain ⟨h1, h⟩ := h
    have hsub := sub_enumerate
    have q1 : ∀ {A' : Around} {E : Value → Shared → Prop} {Q : Value → Shared → Prop}, Q (.ref hp.objs.size) ⟨hp.push o, g, d, tk, os⟩ → wpAny (model prog w) A' (pyIter v) Q E ⟨hp, g, d, tk, os⟩ :=
      fun q => B.iter prog w _ _ ⟨hp, g, d, tk, os⟩ _ h1 q
    wp_walk using q1
    refine wpAny_stack_any fun st => wpAny_pure ?_
    split
    · rename_i c _ _ _ _ _
      cases (c == Value.type "enumerate")
      · wp_walk using q1
        exact ⟨_, rfl, h⟩
      · wp_walk using q1
        exact ⟨_, rfl, h⟩
    · wp_walk using q1
      exact ⟨_, rfl, h⟩
theorem call_enum1 {prog : Program} {w : World} {A : Around} {E : Value → Shared → Prop} {s : Shared} {v : Value} {o : Obj} {H : Heap → Prop} {Q : Value → Shared → Prop} (B : Begins v o H) (h1 : H s.heap)
    (h : ∀ h', IsEnum h' (s.heap.objs.size + 1) s.heap.objs.size 0 .none → h'.get? s.heap.objs.size = some o → h'.objs.size = s.heap.objs.size + 2 →
      (∀ b o, s.heap.get? b = some o → h'.get? b = some o) → Q (.ref (s.heap.objs.size + 1)) { s with heap := h' }) :
    wpAny (model prog w) A (call (.type "enumerate") [v]) Q E s := by
  refine callType_new F.called_enumerate (by decide) (F.typeCall_enumerate_1 _) (F.newCall_enumerate_1 _) (fun obj => F.args_object_init_2 obj _) F.entry_enumerate_new
    (meets_enum1 B) ⟨h1, ?_⟩
  have hz : (s.heap.push o).objs.size = s.heap.objs.size + 1 := Heap.size_push ..
  show _ ∧ _
  rw [hz]
  have he : IsEnum ((s.heap.push o).push { cls := .type "enumerate", data := .fields #[.none, .bool false, .ref s.heap.objs.size, rawInt 0, .none, .none] }) (s.heap.objs.size + 1) s.heap.objs.size 0 .none := by
    have := Heap.get?_push_size (s.heap.push o) (o := { cls := .type "enumerate", data := .fields #[.none, .bool false, .ref s.heap.objs.size, rawInt 0, .none, .none] }) rfl
    rw [hz] at this; exact this
  refine ⟨⟨_, he, rfl⟩, h _ he (Heap.get?_push_of_some _ (Heap.get?_push_size _ B.free)) (by rw [Heap.size_push, hz]) fun b o x => Heap.get?_push_of_some _ (Heap.get?_push_of_some _ x)⟩
/-! ### enumerate of a list or a tuple -/
def Ien (K : PySem.W.Frag) (k : Bool) (a : Addr) : It :=
  ⟨fun i H => ∃ (xs : List V) (x : V), srcSq k K H a xs ∧ xs[i]? = some x, fun i H v H' => ∃ (o : Obj) (T : Addr) (x : V), o.dict = none ∧ v = .ref T ∧ H T = none ∧ H' = L2.upd H T (tupO o [.int (i : Nat), x]) ∧ ∀ xs, srcSq k K H a xs → xs[i]? = some x, fun i H => ∃ xs : List V, srcSq k K H a xs ∧ xs.length = i⟩
theorem turn_en {P : Program} {w : World} {K : PySem.W.Frag} {elts : List Expr} {kk : Nat} {tpos : Pos} {k : Bool} (a e it : Addr) (hae : a ≠ e) (hai : a ≠ it) :
    Turn P w K (.Tuple elts kk tpos) (Ien K k a) [e, it] e (fun i h => (∃ old, IsEnum h e it ((i : Nat) : Int) old) ∧ srcIt k h it a i ∧ e ≠ it) where
  mem := by simp
  obj := fun i h st b hb => by
    obtain ⟨⟨old, he⟩, hi, _⟩ := st
    have e' : b = e ∨ b = it := by simpa using hb
    rcases e' with z | z
    · rw [z]; exact ⟨_, he, fun v q => nomatch q⟩
    · rw [z]; exact srcIt_obj hi
  keep := fun i h h' st k => let ⟨⟨old, he⟩, hi, hne⟩ := st; ⟨⟨old, k e (by simp) _ he⟩, srcIt_at hi fun o q => k it (by simp) o q, hne⟩
  item := by
    intro X hP hw hK hc i pins s σ H E I hf st hg
    subst hP hw hK
    obtain ⟨⟨old, he⟩, hit, hne⟩ := st
    obtain ⟨xs, x, hq, hx⟩ := hg
    obtain ⟨its, rv, p, _⟩ := PP.Inv.src I hq
    obtain ⟨u, hu, ru⟩ := rv.get hx
    have hel : e < s.heap.objs.size := Heap.lt_size he
    have hil : it < s.heap.objs.size := by obtain ⟨_, q, _⟩ := srcIt_obj hit; exact Heap.lt_size q
    have l1 : i < its.toArray.size := by
      obtain ⟨q, _⟩ := List.getElem?_eq_some_iff.mp hu
      simpa using q
    refine wpAny_pyNext_enum_itemC (src_draws (A := X.A.in1) (I.ok.hd hc) k it a hai its.toArray) he ⟨hit, p⟩ l1 hne (by simp [hne, Ne.symm hae]) fun v1 h' tk q1 ho hit' hT hsz hk => ?_
    have ev1 : v1 = u := by
      have q1 : its.toArray[i]? = some v1 := q1
      rw [List.getElem?_toArray, hu] at q1
      exact (Option.some.inj q1).symm
    subst ev1
    refine ⟨_, rfl, wpAny_letOwnedTupleGo_enum (s := { s with heap := h', toks := tk + 1 }) ho fun h'' he' sb => ?_⟩
    have hT2 : h''.get? s.heap.objs.size = some { cls := .type "tuple", data := .seq #[.int i tk, v1] } := (sb.2 _ (Nat.ne_of_gt hel)).trans hT
    have new : ObjOk X.prog X.w (L2.upd H s.heap.objs.size (tupO { cls := .type "tuple", data := .seq #[.int i tk, v1] } [.int (i : Nat), x])) h'' s.heap.objs.size (tupO { cls := .type "tuple", data := .seq #[.int i tk, v1] } [.int (i : Nat), x]) :=
      tupO_ok (its := [.int i tk, v1]) hT2 rfl rfl (.cons ⟨_, rfl⟩ (.cons ru .nil)) (by show 2 ≤ sizeLine; decide)
    have I1 : Inv X pins σ (L2.upd H s.heap.objs.size (tupO { cls := .type "tuple", data := .seq #[.int i tk, v1] } [.int (i : Nat), x])) { s with heap := h'', toks := tk + 1 } :=
      I.turnedNew (ch := [e, it]) (fun b ob hb q => (sb.2 b (fun z => hb (by simp [z]))).trans (hk b ob (fun z => hb (by simp [z])) (fun z => hb (by simp [z])) q)) hf (Nat.le_refl _) new
    refine ⟨.ref s.heap.objs.size, _, I1, rfl, ⟨_, _, x, rfl, rfl, I.hok.fresh (Nat.le_refl _), rfl, fun ys hy => by rw [PP.Inv.src_inj I hy hq]; exact hx⟩, ⟨⟨v1, ?_⟩, srcIt_at hit'.1 fun o q => (sb.2 it (Ne.symm hne)).trans q, hne⟩, fun b hb => ?_⟩
    · have e1 : ((i + 1 : Nat) : Int) = (i : Int) + 1 := by omega
      rw [e1]; exact he'
    · have hb' : b < s.heap.objs.size := by
        have e' : b = e ∨ b = it := by simpa using hb
        rcases e' with z | z
        · rw [z]; exact hel
        · rw [z]; exact hil
      rw [upd_ne (Nat.ne_of_lt hb')]
      exact (hf b hb).1
  done := by
    intro X hP hw hK hc i pins s σ H E I hf st hg
    subst hP hw hK
    obtain ⟨⟨old, he⟩, hit, hne⟩ := st
    obtain ⟨xs, hq, hx⟩ := hg
    obtain ⟨its, rv, p, _⟩ := PP.Inv.src I hq
    obtain ⟨f0, f1, f2, f3, f4, f5⟩ := hf it (by simp)
    have hl := rv.length
    have hn : i = its.toArray.size := by simp only [List.size_toArray]; omega
    have hst : srcIt k s.heap it a its.toArray.size ∧ srcIs k s.heap a its.toArray := by
      rw [hn] at hit
      exact ⟨hit, p⟩
    exact wpAny_pyNext_enum_endD (src_draws (A := X.A.in1) (I.ok.hd hc) k it a hai its.toArray) he hst fun h' eb => ⟨rfl, I.turned (t' := s.toks) (fun b o hb q => eb b o hb q) f0 f1 f3 f4 f5⟩
  self := fun A i s Q E st h => let ⟨⟨_, he⟩, _⟩ := st; wpAny_pyIter_enum he h
def iEn (K : PySem.W.Frag) (ta : TA) : TI := fun σ H R => ta σ H fun vs H1 => ∃ k a xs, vs = [.ref a] ∧ srcSq k K H1 a xs ∧ R (Ien K k a) H1
theorem pi_en {X : Cx} {e : Expr} {ta : TA} {p pos tpos : Pos} {elts : List Expr} {kk : Nat} (hg : Gl X "enumerate") (hm : X.mg "enumerate" = none) (ha : PA X [e] ta) (hs : starEach [e] X.env = [(false, eval e X.env)] := by rfl) :
    PI X (.Tuple elts kk tpos) (.Call (.Name "enumerate" p) [e] [] pos) (iEn X.K ta) := by
  refine ⟨fun pins s σ H R I h => ?_⟩
  refine Call_ (ld_blt I hg hm boot_enumerate (PyProof.Rows.callWith_type1 (thn (ha.run pos pins s σ H _ I h) fun us s1 ⟨vs, H1, I1, r1, q1⟩ => ?_) hs rfl))
  obtain ⟨k, a, xs, ex, hq, q⟩ := q1
  subst ex
  cases r1 with
  | cons r rr =>
    cases rr
    cases r
    obtain ⟨its, rv, p', la⟩ := PP.Inv.src I1 hq
    refine call_enum1 (src_begins k a its.toArray) p' fun h' he hit hsz hk => wpAny_pyIter_enum he ?_
    have I2 : Inv X pins σ H1 { s1 with heap := h' } := I1.kept (t' := s1.toks) hk
    refine ⟨s1.heap.objs.size + 1, [s1.heap.objs.size + 1, s1.heap.objs.size], _, _, H1, rfl, I2, turn_en (k := k) a (s1.heap.objs.size + 1) s1.heap.objs.size (Nat.ne_of_lt (Nat.lt_succ_of_lt la)) (Nat.ne_of_lt la), ⟨⟨.none, he⟩, srcIt_new hit, Nat.succ_ne_self _⟩, fun b hb => ?_, q⟩
    have e' : b = s1.heap.objs.size + 1 ∨ b = s1.heap.objs.size := by simpa using hb
    have hle : s1.heap.objs.size ≤ b := by
      rcases e' with z | z
      · rw [z]; exact Nat.le_add_right _ _
      · rw [z]; exact Nat.le_refl _
    exact I1.fpOk hle (I1.hok.fresh hle)
/-! ### what is walked, by its items -/
structure Wk (K : KF) (J : It) (items : List D) (G : Hp → Prop) (L : List Addr := []) : Prop where
  st : ∀ H H', G H → Pers H H' → (∀ a ∈ L, H' a = H a) → G H'
  go : ∀ i H d, G H → items[i]? = some d → J.go i H ∧ ∀ x H', J.yld i H x H' → Same H H' ∧ Fz K H' x d
  stop : ∀ H, G H → J.stop items.length H
def repI (K : KF) (H : Hp) (J : It) (items : List D) : Prop := ∃ G, Wk K J items G ∧ G H
def RI (X : Cx) (W : WX) (tg it : Expr) (m : M (List D)) : Prop := PI X tg it (tG (repI X.KF) X.KF W m)
theorem PI.imp {X : Cx} {tg e : Expr} {t t' : TI} (h : PI X tg e t) (k : ∀ σ H Q, t' σ H Q → t σ H Q) : PI X tg e t' := ⟨fun pins s σ H Q I q => h.run pins s σ H Q I (k σ H Q q)⟩
def FzS (k : Bool) (K : KF) (H : Hp) (a : Addr) (xs : List V) : Prop := if k = true then FzL K H a xs else FT H a xs
theorem FzS.pers {k : Bool} {K : KF} {H H' : Hp} {a : Addr} {xs : List V} (h : FzS k K H a xs) (p : Pers H H') : FzS k K H' a xs := by
  cases k with
  | true => exact FzL.pers (show FzL K H a xs from h) p
  | false => exact FT.pers (show FT H a xs from h) p
theorem FzS.sq {k : Bool} {K : KF} {H : Hp} {a : Addr} {xs : List V} (h : FzS k K H a xs) : srcSq k K H a xs := by
  cases k with
  | true => exact FzL.sq (show FzL K H a xs from h)
  | false => exact FT.sq (show FT H a xs from h)
def itemsD : D → Option (List D)
  | .list xs => some xs
  | .tuple xs => some xs
  | .str x => some (x.cps.toList.map fun c => .str ⟨#[c]⟩)
  | _ => none
def seqD : D → Option (List D)
  | .list xs => some xs
  | .tuple xs => some xs
  | _ => none
theorem seqD_src {K : KF} {H : Hp} {v : V} {x : D} {items : List D} (f : Fz K H v x) (e : seqD x = some items) : ∃ k a xs, v = .ref a ∧ FzS k K H a xs ∧ FzAll K H xs items := by
  cases f with
  | lst h a => cases e; exact ⟨true, _, _, rfl, h, a⟩
  | tup h a => cases e; exact ⟨false, _, _, rfl, h, a⟩
  | _ => cases e
theorem wk_list {K : KF} {a : Addr} {xs : List V} {items : List D} {H0 : Hp} (fa : FzAll K H0 xs items) : Wk K (Itl K a) items (fun H => FzL K H a xs ∧ Pers H0 H) where
  st := fun H H' ⟨h, q⟩ p _ => ⟨h.pers p, q.trans p⟩
  go := fun i H d ⟨h, q⟩ e => by
    obtain ⟨v, e1, f⟩ := fa.get' e
    refine ⟨⟨xs, v, h.sq, e1⟩, fun x H' y => ?_⟩
    obtain ⟨eh, y⟩ := y
    subst eh
    rw [y xs h.sq] at e1
    cases e1
    exact ⟨Same.refl _, f.pers q⟩
  stop := fun H ⟨h, q⟩ => ⟨xs, h.sq, by rw [fa.length]; exact Nat.le_refl _⟩
theorem wk_tup {K : KF} {a : Addr} {xs : List V} {items : List D} {H0 : Hp} (fa : FzAll K H0 xs items) : Wk K (Itt K a) items (fun H => FT H a xs ∧ Pers H0 H) where
  st := fun H H' ⟨h, q⟩ p _ => ⟨h.pers p, q.trans p⟩
  go := fun i H d ⟨h, q⟩ e => by
    obtain ⟨v, e1, f⟩ := fa.get' e
    refine ⟨⟨xs, v, h.sq, e1⟩, fun x H' y => ?_⟩
    obtain ⟨eh, y⟩ := y
    subst eh
    rw [y xs h.sq] at e1
    cases e1
    exact ⟨Same.refl _, f.pers q⟩
  stop := fun H ⟨h, q⟩ => ⟨xs, h.sq, by rw [fa.length]; exact Nat.le_refl _⟩
theorem wk_str {K : KF} {x : Str} : Wk K (Its x) (x.cps.toList.map fun c => .str ⟨#[c]⟩) (fun _ => True) where
  st := fun _ _ _ _ _ => trivial
  go := fun i H d _ e => by
    rw [List.getElem?_map] at e
    cases q : x.cps.toList[i]? with
    | none => rw [q] at e; cases e
    | some c =>
      rw [q] at e
      cases e
      have hl : i < x.cps.size := by
        obtain ⟨z, _⟩ := List.getElem?_eq_some_iff.mp q
        simpa using z
      refine ⟨hl, fun v H' y => ?_⟩
      obtain ⟨eh, c', e', ev⟩ := y
      subst eh ev
      have : c' = c := by
        rw [← Array.getElem?_toList, q] at e'
        exact (Option.some.inj e').symm
      subst this
      exact ⟨Same.refl _, .str _⟩
  stop := fun H _ => by
    show x.cps.size ≤ _
    simp
def rngD (lo : Int) (n : Nat) : List D := (List.range n).map fun (i : Nat) => PyData.int (lo + (i : Int))
theorem wk_rng {K : KF} {lo : Int} {n : Nat} : Wk K (Itr lo n) (rngD lo n) (fun _ => True) where
  st := fun _ _ _ _ _ => trivial
  go := fun i H d _ e => by
    unfold rngD at e
    rw [List.getElem?_map] at e
    cases q : (List.range n)[i]? with
    | none => rw [q] at e; cases e
    | some c =>
      rw [q] at e
      cases e
      obtain ⟨hl, e1⟩ := List.getElem?_eq_some_iff.mp q
      have hl' : i < n := by simpa using hl
      have : c = i := by rw [← e1]; simp
      subst this
      refine ⟨hl', fun v H' y => ?_⟩
      obtain ⟨eh, ev⟩ := y
      subst eh ev
      exact ⟨Same.refl _, .int _⟩
  stop := fun H _ => by
    show n ≤ _
    simp [rngD]
def zipD (xs ys : List D) : List D := (xs.zip ys).map fun p => .tuple [p.1, p.2]
theorem wk_zip {K : KF} {k1 k2 : Bool} {a b : Addr} {xs ys : List V} {is js : List D} {H0 : Hp} (fa : FzAll K H0 xs is) (fb : FzAll K H0 ys js) : Wk K (Izp K k1 k2 a b) (zipD is js) (fun H => FzS k1 K H a xs ∧ FzS k2 K H b ys ∧ Pers H0 H) where
  st := fun H H' ⟨h, h2, q⟩ p _ => ⟨h.pers p, h2.pers p, q.trans p⟩
  go := fun i H d ⟨h, h2, q⟩ e => by
    unfold zipD at e
    rw [List.getElem?_map] at e
    cases q1 : (is.zip js)[i]? with
    | none => rw [q1] at e; cases e
    | some pr =>
      rw [q1] at e
      cases e
      obtain ⟨e1, e2⟩ := List.getElem?_zip_eq_some.mp q1
      obtain ⟨v, f1, f⟩ := fa.get' e1
      obtain ⟨u, g1, g⟩ := fb.get' e2
      refine ⟨⟨xs, ys, v, u, h.sq, h2.sq, f1, g1⟩, fun x H' y => ?_⟩
      obtain ⟨o, T, x1, x2, od, ex, nT, eH, y1, y2⟩ := y
      subst ex eH
      rw [y1 xs h.sq] at f1
      rw [y2 ys h2.sq] at g1
      cases f1
      cases g1
      have sm := Same.upd (o := tupO o [v, u]) nT
      exact ⟨sm, .tup (.new od) (.cons (f.pers (q.trans (.of_same sm))) (.cons (g.pers (q.trans (.of_same sm))) .nil))⟩
  stop := fun H ⟨h, h2, q⟩ => by
    refine ⟨xs, ys, h.sq, h2.sq, ?_⟩
    unfold zipD
    rw [List.length_map, List.length_zip, fa.length, fb.length]
def enumD (xs : List D) : List D := xs.zipIdx.map fun p => .tuple [.int (p.2 : Nat), p.1]
theorem wk_enum {K : KF} {k : Bool} {a : Addr} {xs : List V} {is : List D} {H0 : Hp} (fa : FzAll K H0 xs is) : Wk K (Ien K k a) (enumD is) (fun H => FzS k K H a xs ∧ Pers H0 H) where
  st := fun H H' ⟨h, q⟩ p _ => ⟨h.pers p, q.trans p⟩
  go := fun i H d ⟨h, q⟩ e => by
    unfold enumD at e
    rw [List.getElem?_map, List.getElem?_zipIdx] at e
    cases q1 : is[i]? with
    | none => rw [q1] at e; cases e
    | some x =>
      rw [q1] at e
      simp only [Option.map_some, Nat.zero_add, Option.some.injEq] at e
      subst e
      obtain ⟨v, f1, f⟩ := fa.get' q1
      refine ⟨⟨xs, v, h.sq, f1⟩, fun y H' z => ?_⟩
      obtain ⟨o, T, x1, od, ex, nT, eH, y1⟩ := z
      subst ex eH
      rw [y1 xs h.sq] at f1
      cases f1
      have sm := Same.upd (o := tupO o [V.int (i : Nat), v]) nT
      exact ⟨sm, .tup (.new od) (.cons (.int _) (.cons (f.pers (q.trans (.of_same sm))) .nil))⟩
  stop := fun H ⟨h, q⟩ => ⟨xs, h.sq, by simp [enumD, fa.length]⟩
end PP
namespace PP
open PySem PySem.Spec L2
open PyProof.Rows hiding St
section
variable {X : Cx} {W : WX} {tg e : Expr} {pos : Pos}
/-! ### sources -/
theorem r_iter {m : M D} (h : RE X W e m) : RI X W tg e (ap1 itemsD m) := by
  refine ⟨fun pins s σ H R I q => ?_⟩
  have q := tD1 q
  refine thn (h.run pins s σ H _ I q) fun v s1 ⟨x, H1, I1, r1, d, f, c, e, q1⟩ => ?_
  cases f with
  | lst hl fa =>
    cases e
    cases r1
    obtain ⟨its, rv, p, hz⟩ := I1.list hl.sq
    exact wpAny_pyIter_list p.isList (pi_one (tk := s1.toks) I1 _ (turn_list _ _) ⟨_, Heap.get?_push_size _ rfl, rfl, rfl⟩ (q1 _ _ (Same.refl _) ⟨_, wk_list fa, hl, Pers.refl _⟩))
  | tup hl fa =>
    cases e
    cases r1
    obtain ⟨its, rv, p, hz⟩ := I1.tuple hl.sq
    exact wpAny_pyIter_tuple (show s1.heap.IsTuple _ its.toArray from p) (pi_one (tk := s1.toks) I1 _ (turn_tuple _ _) ⟨_, Heap.get?_push_size _ rfl, rfl, rfl⟩ (q1 _ _ (Same.refl _) ⟨_, wk_tup fa, hl, Pers.refl _⟩))
  | str x =>
    cases e
    obtain ⟨t, rfl⟩ := r1
    have q2 := q1 (Its x) H1 (Same.refl _) ⟨_, wk_str, trivial⟩
    cases ha : x.cps.all (· < 128)
    · exact wpAny_pyIter_wide ha (pi_one (tk := s1.toks) I1 _ (turn_str _ x t "str_iterator" (.inr rfl)) ⟨_, Heap.get?_push_size _ rfl, rfl, rfl⟩ q2)
    · exact wpAny_pyIter_ascii ha (pi_one (tk := s1.toks) I1 _ (turn_str _ x t "str_ascii_iterator" (.inl rfl)) ⟨_, Heap.get?_push_size _ rfl, rfl, rfl⟩ q2)
  | _ => cases e
def rng1 : List D → Option (List D)
  | [.int j] => if -(2 ^ 62) ≤ j ∧ j < 2 ^ 62 then some (rngD 0 j.toNat) else none
  | _ => none
theorem fzAll1 {K : KF} {H : Hp} {vs : List V} {x : D} (f : FzAll K H vs [x]) : ∃ v, vs = [v] ∧ Fz K H v x := by
  cases f with
  | cons h t => cases t; exact ⟨_, rfl, h⟩
theorem fzAll2 {K : KF} {H : Hp} {vs : List V} {x y : D} (f : FzAll K H vs [x, y]) : ∃ v u, vs = [v, u] ∧ Fz K H v x ∧ Fz K H u y := by
  cases f with
  | cons h t =>
    cases t with
    | cons h2 t2 => cases t2; exact ⟨_, _, rfl, h, h2⟩
theorem r_rng1 {a : Expr} {m : M (List D)} {p : Pos} (hm : X.mg "range" = none) (ha : RA X W [a] m) (hg : Gl X "range" := by rfl) (hs : starEach [a] X.env = [(false, eval a X.env)] := by rfl) : RI X W tg (.Call (.Name "range" p) [a] [] pos) (apA rng1 m) :=
  PI.imp (pi_range1 hg hm ha hs) fun σ H Q h => tG_mono (tDA h) fun vs H1 _ ⟨xs, f, c, e, q⟩ => by
    unfold rng1 at e
    split at e
    · split at e
      · rename_i j hb
        cases e
        obtain ⟨v, ev, f1⟩ := fzAll1 f
        subst ev
        cases f1
        exact ⟨j, rfl, hb.1, hb.2, q _ _ (Same.refl _) ⟨_, wk_rng, trivial⟩⟩
      · cases e
    · cases e
def zip2 : List D → Option (List D)
  | [x, y] => match seqD x, seqD y with
    | some xs, some ys => some (zipD xs ys)
    | _, _ => none
  | _ => none
theorem zip2_inv {l c : List D} (e : zip2 l = some c) : ∃ x y xs ys, l = [x, y] ∧ seqD x = some xs ∧ seqD y = some ys ∧ c = zipD xs ys := by
  unfold zip2 at e
  split at e
  · split at e
    · cases e
      exact ⟨_, _, _, _, rfl, by assumption, by assumption, rfl⟩
    · cases e
  · cases e
theorem r_zip {a b : Expr} {m : M (List D)} {p tpos : Pos} {elts : List Expr} {kk : Nat} (hm : X.mg "zip" = none) (ha : RA X W [a, b] m) (hg : Gl X "zip" := by rfl) (hs : starEach [a, b] X.env = (false, eval a X.env) :: starEach [b] X.env := by rfl) (hpl : (backTo pos (starEach [b] X.env)).any (·.1) = false := by rfl) :
    RI X W (.Tuple elts kk tpos) (.Call (.Name "zip" p) [a, b] [] pos) (apA zip2 m) :=
  PI.imp (pi_zp hg hm ha hs hpl) fun σ H Q h => tG_mono (tDA h) fun vs H1 _ ⟨xs, f, c, e, q⟩ => by
    obtain ⟨x, y, is, js, rfl, e1, e2, rfl⟩ := zip2_inv e
    obtain ⟨v, u, ev, f1, f2⟩ := fzAll2 f
    subst ev
    obtain ⟨k1, a1, xs1, rfl, s1, g1⟩ := seqD_src f1 e1
    obtain ⟨k2, a2, xs2, rfl, s2, g2⟩ := seqD_src f2 e2
    exact ⟨k1, k2, a1, a2, xs1, xs2, rfl, s1.sq, s2.sq, q _ _ (Same.refl _) ⟨_, wk_zip g1 g2, s1, s2, Pers.refl _⟩⟩
def enum1 : List D → Option (List D)
  | [x] => (seqD x).map enumD
  | _ => none
theorem r_enum {a : Expr} {m : M (List D)} {p tpos : Pos} {elts : List Expr} {kk : Nat} (hm : X.mg "enumerate" = none) (ha : RA X W [a] m) (hg : Gl X "enumerate" := by rfl) (hs : starEach [a] X.env = [(false, eval a X.env)] := by rfl) :
    RI X W (.Tuple elts kk tpos) (.Call (.Name "enumerate" p) [a] [] pos) (apA enum1 m) :=
  PI.imp (pi_en hg hm ha hs) fun σ H Q h => tG_mono (tDA h) fun vs H1 _ ⟨xs, f, c, e, q⟩ => by
    unfold enum1 at e
    split at e
    · rename_i x
      cases e1 : seqD x with
      | none => rw [e1] at e; cases e
      | some is =>
        rw [e1] at e
        cases e
        obtain ⟨v, ev, f1⟩ := fzAll1 f
        subst ev
        obtain ⟨k1, a1, xs1, rfl, s1, g1⟩ := seqD_src f1 e1
        exact ⟨k1, a1, xs1, rfl, s1.sq, q _ _ (Same.refl _) ⟨_, wk_enum g1, s1, Pers.refl _⟩⟩
    · cases e
/-! ### for -/
def loop (b : Bd) (body : M Fl) : List D → M Fl
  | [], g => .ok .nx g
  | x :: r, g => match b x g with
    | none => .stuck
    | some g1 => match body g1 with
      | .ok .nx g2 => loop b body r g2
      | .ok .cnt g2 => loop b body r g2
      | .ok .brk g2 => .ok .nx g2
      | .ok (.ret v) g2 => .ok (.ret v) g2
      | .exc c g2 => .exc c g2
      | .stuck => .stuck
def sFor (b : Bd) (mi : M (List D)) (body : M Fl) : M Fl := bnd mi fun items => loop b body items
/-- go on with the rest -/
theorem tS_go {K : KF} {g g1 : Ga} {σ σ1 : St} {R R1 : List Addr} {H H1 : Hp} {m : M Fl} {D : Ends} (b1 : BorK g g1) (k1 : Kp g σ σ1) (e1 : Ext R H H1) (w1 : New R H R1) (s1 : SRep K H1 σ1 g1 R1) (n1 : R1.Nodup)
    (h : match m g1 with
      | .ok f g' => ∀ σ' H', GoS K g σ R H g' σ' H' → f.end K D σ' H'
      | .exc c g' => ∀ σ' H', GoS K g σ R H g' σ' H' → W (.ref (He.ga K c)) none σ' H'
      | .stuck => False) : tS K W m D σ1 H1 := by
  refine ⟨g1, R1, s1, n1, ?_⟩
  cases e2 : m g1 with
  | stuck => rw [e2] at h; exact h
  | exc c g' => rw [e2] at h; exact fun σ' H' go => h σ' H' (go.then b1 k1 e1 w1)
  | ok a g' => rw [e2] at h; exact fun σ' H' go => h σ' H' (go.then b1 k1 e1 w1)
theorem for_of {b : Bd} {us : List Nat} {mi : M (List D)} {body : M Fl} {D : Ends} {σ : St} {H : Hp} (h : tS X.KF W (sFor b mi body) D σ H) : tFor (tG (repI X.KF) X.KF W mi) (tBd X.KF us b) (tS X.KF W body) D σ H := by
  refine tG_mono (tS_bind h) fun J H1 _ ⟨items, ⟨G, wk, g0⟩, q⟩ => ?_
  refine ⟨fun i m σ H => i + m = items.length ∧ G H ∧ tS X.KF W (loop b body (items.drop i)) D σ H, ⟨items.length, by omega, g0, by simpa using q⟩, ?_⟩
  rintro i m σ2 H2 ⟨em, gH, t⟩
  by_cases hi : i < items.length
  · right
    have ed : items.drop i = items[i] :: items.drop (i + 1) := (List.getElem_cons_drop hi).symm
    rw [ed] at t
    obtain ⟨go, yld⟩ := wk.go i H2 _ gH (List.getElem?_eq_getElem hi)
    refine ⟨go, fun σ' H' => G H' ∧ tS X.KF W (loop b body (items.drop (i + 1))) D σ' H', fun σ' H' ⟨g', t'⟩ => ⟨m - 1, by omega, by omega, g', t'⟩, fun x H3 y => ?_⟩
    obtain ⟨sm, fx⟩ := yld x H3 y
    obtain ⟨g, R, s, n, t⟩ := t
    unfold loop at t
    cases e1 : b items[i] g with
    | none => rw [e1] at t; exact t.elim
    | some g1 =>
      rw [e1] at t
      dsimp only at t
      have s3 := s.same sm
      refine ⟨g, R, _, g1, s3, n, fx, e1, fun σ3 _ b3 k3 ⟨R3, s4, n4, m4⟩ => ?_⟩
      have e3 : Ext R H2 H3 := Ext.of_same sm
      have w3 : New R H2 R3 := fun a ha => .inl (m4 a ha)
      have pG : ∀ {σ4 : St} {H4 : Hp} {g2 : Ga}, GoS X.KF g1 σ3 R3 H3 g2 σ4 H4 → G H4 := fun {σ4 H4 g2} go => by
        obtain ⟨_, _, R4, _, _, e4, _⟩ := go
        exact wk.st H2 H4 gH ((Pers.of_same sm).trans (e4.pers s4.live)) (fun _ z => nomatch z)
      refine ⟨g1, R3, s4, n4, ?_⟩
      cases e2 : body g1 with
      | stuck => rw [e2] at t; exact t
      | exc c g2 => rw [e2] at t; exact fun σ4 H4 go => t σ4 H4 (go.then b3 k3 e3 w3)
      | ok f g2 =>
        rw [e2] at t
        intro σ4 H4 go
        cases f with
        | nx =>
          obtain ⟨bk, kk, R4, s5, n5, e5, w5⟩ := id go
          exact ⟨pG go, tS_go (b3.trans bk) (k3.trans b3 kk) (e3.trans w3 e5) (New.trans e3 w3 w5) s5 n5 t⟩
        | cnt =>
          obtain ⟨bk, kk, R4, s5, n5, e5, w5⟩ := id go
          exact ⟨pG go, tS_go (b3.trans bk) (k3.trans b3 kk) (e3.trans w3 e5) (New.trans e3 w3 w5) s5 n5 t⟩
        | brk => exact t σ4 H4 (go.then b3 k3 e3 w3)
        | ret v => exact t σ4 H4 (go.then b3 k3 e3 w3)
  · left
    have e1 : i = items.length := by omega
    subst e1
    rw [List.drop_length] at t
    exact ⟨wk.stop H2 gH, tS_ok t⟩
theorem r_for {iter : Expr} {body : List Stmt} {b : Bd} {us : List Nat} {mi : M (List D)} {m : M Fl} (hp : PassesOwn (model X.prog X.w) X.A X.env X.xe) (hc : X.calm = true) (hi : RI X W tg iter mi) (hg : RG X tg us b) (hb : RSs X W body m)
    (hs : ∀ x, foldedSetIterable iter X.env x = pure x := by intro _; rfl) : RS X W (.For tg iter body [] pos) (sFor b mi m) := PS.imp (ps_for hp hc hi hg hb hs) fun D σ H h => for_of h
/-! ### while -/
def loopW (t : M Bool) (body : M Fl) : Nat → M Fl
  | 0 => fun _ => .stuck
  | n + 1 => bnd t fun k => if k = true then (fun g => match body g with
      | .ok .nx g2 => loopW t body n g2
      | .ok .cnt g2 => loopW t body n g2
      | .ok .brk g2 => .ok .nx g2
      | .ok (.ret v) g2 => .ok (.ret v) g2
      | .exc c g2 => .exc c g2
      | .stuck => .stuck) else fun g => .ok .nx g
def sWhile (fuel : Ga → Nat) (t : M Bool) (body : M Fl) : M Fl := fun g => loopW t body (fuel g) g
theorem r_while {c : Expr} {body : List Stmt} {t : M Bool} {m : M Fl} (fuel : Ga → Nat) (hp : PassesOwn (model X.prog X.w) X.A X.env X.xe) (hc : RT X W c t) (hb : RSs X W body m) : RS X W (.While c body [] pos) (sWhile fuel t m) := PS.imp (ps_while hp hc hb) fun D σ H h => by
  obtain ⟨g0, R0, s0, n0, h⟩ := h
  refine ⟨fun k σ H => tS X.KF W (loopW t m k) D σ H, ⟨fuel g0, g0, R0, s0, n0, h⟩, ?_⟩
  intro k σ H h
  cases k with
  | zero => obtain ⟨_, _, _, _, h⟩ := h; exact h.elim
  | succ k =>
    refine tG_mono (tS_bind h) fun b H1 _ ⟨b', e, q⟩ => ?_
    subst e
    cases b with
    | false => exact tS_ok q
    | true =>
      rw [if_pos rfl]
      refine ⟨fun σ' H' => tS X.KF W (loopW t m k) D σ' H', fun σ' H' t' => ⟨k, Nat.lt_succ_self k, t'⟩, ?_⟩
      rw [if_pos rfl] at q
      obtain ⟨g, R, s, n, q⟩ := q
      refine ⟨g, R, s, n, ?_⟩
      dsimp only at q
      cases e2 : m g with
      | stuck => rw [e2] at q; exact q
      | exc c g2 => rw [e2] at q; exact q
      | ok f g2 =>
        rw [e2] at q
        intro σ4 H4 go
        cases f with
        | nx =>
          obtain ⟨bk, kk, R4, s5, n5, e5, w5⟩ := id go
          exact tS_go bk kk e5 w5 s5 n5 q
        | cnt =>
          obtain ⟨bk, kk, R4, s5, n5, e5, w5⟩ := id go
          exact tS_go bk kk e5 w5 s5 n5 q
        | brk => exact q σ4 H4 go
        | ret v => exact q σ4 H4 go
end
/-! ### comprehensions -/
def wipeG (g : Ga) : List Nat → Ga
  | [] => g
  | v :: vs => (wipeG g vs).set v none
theorem wipe_rep {K : KF} {H : Hp} {σ : St} {g : Ga} {R : List Addr} (s : SRep K H σ g R) (n : R.Nodup) : ∀ vs : List Nat, ∃ R', SRep K H (wipe σ vs) (wipeG g vs) R' ∧ R'.Nodup ∧ ∀ a ∈ R', a ∈ R
  | [] => ⟨R, s, n, fun a h => h⟩
  | v :: vs => by
    obtain ⟨R1, s1, n1, m1⟩ := wipe_rep s n vs
    obtain ⟨R2, s2, n2, m2⟩ := SRep.forget v none s1 n1
    exact ⟨R2, s2, n2, fun a h => m1 a (m2 a h)⟩
/-- slots of nothing may hold anything -/
theorem SRep.loose {K : KF} {H : Hp} : ∀ {σ σ' : St} {g : Ga} {R : List Addr}, SRep K H σ g R → σ'.length = σ.length → (∀ (i : Nat) (t : Tv), g[i]? = some (some t) → σ'[i]? = σ[i]?) → SRep K H σ' g R
  | [], [], _, _, .nil, _, _ => .nil
  | [], _ :: _, _, _, .nil, h, _ => by simp at h
  | _ :: _, [], _, _, _, h, _ => by simp at h
  | _ :: σ, _ :: σ', _, _, .skip s, h, k => .skip (SRep.loose s (by simpa using h) fun i t e => by simpa using k (i + 1) t (by simpa using e))
  | _ :: σ, o :: σ', _, _, .cons t s, h, k => by
    have e0 := k 0 _ rfl
    simp at e0
    subst e0
    exact .cons t (SRep.loose s (by simpa using h) fun i t e => by simpa using k (i + 1) t (by simpa using e))
theorem wipeG_in {g : Ga} {i : Nat} : ∀ {vs : List Nat} {t : Tv}, (wipeG g vs)[i]? = some (some t) → i ∉ vs ∧ g[i]? = some (some t)
  | [], t, h => ⟨by simp, h⟩
  | v :: vs, t, h => by
    unfold wipeG at h
    by_cases e : v = i
    · subst e
      by_cases hv : v < (wipeG g vs).length
      · rw [List.getElem?_set_self hv] at h
        cases h
      · rw [List.getElem?_eq_none (by simpa using hv)] at h
        cases h
    · rw [List.getElem?_set_ne e] at h
      obtain ⟨h1, h2⟩ := wipeG_in h
      exact ⟨by simp only [List.mem_cons, not_or]; exact ⟨fun z => e z.symm, h1⟩, h2⟩
theorem wipe_out' {σ : St} {i : Nat} : ∀ {vs : List Nat}, i ∉ vs → (wipe σ vs)[i]? = σ[i]?
  | [], _ => rfl
  | v :: vs, h => by
    simp only [List.mem_cons, not_or] at h
    unfold wipe
    rw [List.getElem?_set_ne (fun e => h.1 e.symm)]
    exact wipe_out' h.2
/-- back from the block -/
theorem unwipe {K : KF} {H : Hp} {σ : St} {g : Ga} {R : List Addr} {vs : List Nat} (s : SRep K H (wipe σ vs) (wipeG g vs) R) : SRep K H σ (wipeG g vs) R :=
  s.loose (wipe_length σ vs).symm fun i t e => (wipe_out' (wipeG_in e).1).symm
theorem borK_wipe {g : Ga} {vs : List Nat} (h : vs.all (fun i => freeAt g i) = true) : BorK g (wipeG g vs) := fun i t e b => by
  by_cases hi : i ∈ vs
  · have := List.all_eq_true.mp h i hi
    rw [freeAt_bor this e] at b
    cases b
  · have : ∀ vs : List Nat, i ∉ vs → (wipeG g vs)[i]? = g[i]? := by
      intro vs
      induction vs with
      | nil => intro _; rfl
      | cons v vs ih =>
        intro hv
        simp only [List.mem_cons, not_or] at hv
        unfold wipeG
        rw [List.getElem?_set_ne (fun e => hv.1 e.symm)]
        exact ih hv.2
    exact ⟨t, by rw [this vs hi]; exact e, b⟩
abbrev WF : WX := fun _ _ _ _ => False
def cl (vs : List Nat) (b : Bd) (t : M Bool) (e : M D) : List D → List D → M (List D)
  | [], acc, g => .ok acc g
  | x :: r, acc, g => match b x g with
    | none => .stuck
    | some g1 => match t g1 with
      | .ok true g2 => (match e g2 with
        | .ok y g3 => if vs.all (fun i => freeAt g3 i) = true then cl vs b t e r (acc ++ [y]) (wipeG g3 vs) else .stuck
        | _ => .stuck)
      | .ok false g2 => if vs.all (fun i => freeAt g2 i) = true then cl vs b t e r acc (wipeG g2 vs) else .stuck
      | _ => .stuck
def eLc (vs : List Nat) (b : Bd) (t : M Bool) (e : M D) (mi : M (List D)) : M (List D) := bnd mi fun items g1 => if vs.all (fun i => freeAt g1 i) = true ∧ items.length ≤ sizeLine then (match cl vs b t e items [] (wipeG g1 vs) with
  | .ok ys g2 => .ok ys g2
  | _ => .stuck) else .stuck
/-- the slots that the target sets, forgotten again, are as they were -/
theorem wipe_back {σ σ2 : St} {g g2 : Ga} {vs : List Nat} (hl : σ2.length = σ.length) (h : ∀ i, i ∉ vs → σ2[i]? = σ[i]?) : wipe σ2 vs = wipe σ vs := by
  apply List.ext_getElem?
  intro i
  by_cases hi : i ∈ vs
  · have key : ∀ (τ : St) (us : List Nat), i ∈ us → (wipe τ us)[i]? = if i < τ.length then some none else none := by
      intro τ us
      induction us with
      | nil => intro h; cases h
      | cons v us ih =>
        intro h
        unfold wipe
        by_cases e : v = i
        · subst e
          by_cases hv : v < τ.length
          · rw [List.getElem?_set_self (by rw [wipe_length]; exact hv), if_pos hv]
          · rw [List.getElem?_eq_none (by rw [List.length_set, wipe_length]; omega), if_neg hv]
        · rw [List.getElem?_set_ne e]
          exact ih ((List.mem_cons.mp h).resolve_left (fun z => e z.symm))
    rw [key _ _ hi, key _ _ hi, hl]
  · rw [wipe_out' hi, wipe_out' hi, h i hi]
theorem Ch.wipe {σ σ2 : St} {vs : List Nat} (c : Ch vs σ σ2) : L2.wipe σ2 vs = L2.wipe σ vs := wipe_back (g := []) (g2 := []) c.1 c.2
theorem wipe_idem (σ : St) (vs : List Nat) : L2.wipe (L2.wipe σ vs) vs = L2.wipe σ vs :=
  wipe_back (g := []) (g2 := []) (wipe_length σ vs) fun i hi => wipe_out' hi
/-! ### expressions that make a list -/
def GoL (K : KF) (σ : St) (R : List Addr) (H : Hp) (g g' : Ga) (p : Addr) (vs : List V) (ys : List D) (H' : Hp) : Prop :=
  BorK g g' ∧ H' p = some (.lst vs) ∧ FzAll K H' vs ys ∧ ∃ R', SRep K H' σ g' R' ∧ (p :: R').Nodup ∧ Ext R H H' ∧ New R H (p :: R')
def tL (K : KF) (W : WX) (m : M (List D)) : TE := fun σ H Q => ∃ g R, SRep K H σ g R ∧ R.Nodup ∧ match m g with
  | .ok ys g' => ∀ p vs H', GoL K σ R H g g' p vs ys H' → Q (.ref p) H'
  | .exc c g' => ∀ H', Go K σ R H g g' H' → W (.ref (He.ga K c)) none σ H'
  | .stuck => False
def RL (X : Cx) (W : WX) (e : Expr) (m : M (List D)) : Prop := PE X e (tL X.KF W m)
theorem GoL.frz {K : KF} {σ : St} {R : List Addr} {H : Hp} {g g' : Ga} {p : Addr} {vs : List V} {ys : List D} {H' : Hp} (h : GoL K σ R H g g' p vs ys H') (o : Obj) :
    Go K σ R H g g' (L2.upd H' p (.frz o (.lst vs))) ∧ Fz K (L2.upd H' p (.frz o (.lst vs))) (.ref p) (.list ys) := by
  obtain ⟨bk, hp, fa, R', s, n, e, w⟩ := h
  have pe : Pers H' (L2.upd H' p (.frz o (.lst vs))) := fun a u hu hf => by
    rw [upd_ne]
    · exact hu
    · rintro rfl
      rw [hp] at hu
      cases hu
      cases hf
  obtain ⟨n1, n2⟩ := List.nodup_cons.mp n
  refine ⟨⟨bk, R', s.keep pe fun a ha => upd_ne (fun z => n1 (z ▸ ha)), n2, fun a u hu ha => ?_, fun a ha => w a (List.mem_cons_of_mem _ ha)⟩, .lst (.inl ⟨o, upd_same⟩) (fa.pers pe)⟩
  rw [upd_ne]
  · exact e a u hu ha
  · rintro rfl
    rcases w a List.mem_cons_self with q | q
    · exact ha q
    · rw [hu] at q; cases q
def frzL (m : M (List D)) : M D := bnd m fun ys g => .ok (.list ys) g
section
variable {X : Cx} {W : WX} {e : Expr}
theorem r_fzL {m : M (List D)} (h : RL X W e m) : RE X W e (frzL m) := PE.imp (pe_fz h) fun σ H Q h => by
  obtain ⟨g, R, s, n, h⟩ := h
  refine ⟨g, R, s, n, ?_⟩
  unfold frzL bnd at h
  cases e : m g with
  | stuck => rw [e] at h; exact h
  | exc c g' => rw [e] at h; exact h
  | ok ys g' =>
    rw [e] at h
    intro p vs H' go
    refine ⟨p, .lst vs, rfl, go.2.1, trivial, fun o => ?_⟩
    obtain ⟨h1, h2⟩ := go.frz o
    exact h _ _ h1 h2
end
def LPost (K : KF) (σ : St) (R : List Addr) (H : Hp) (g : Ga) (Q : VK) : Rs (List D) → Prop
  | .ok ys g' => ∀ p vs H', GoL K σ R H g g' p vs ys H' → Q (.ref p) H'
  | _ => False
set_option maxHeartbeats 1000000 in
theorem lc_gen {K : KF} {b : Bd} {us vs : List Nat} {t : M Bool} {e : M D} {items : List D} {σ : St} {H1 : Hp} {Q : VK} {g1 : Ga} {R1 L : List Addr} {J : It} {G : Hp → Prop} {FR : Rs (List D)} (hus : ∀ i ∈ us, i ∈ vs)
    (s1 : SRep K H1 σ g1 R1) (n1 : R1.Nodup) (wk : Wk K J items G L) (g0 : G H1) (hL : ∀ a ∈ L, H1 a ≠ none ∧ a ∉ R1) (cf : (vs.all fun i => freeAt g1 i) = true) (cz : items.length ≤ sizeLine) (hfr : cl vs b t e items [] (wipeG g1 vs) = FR)
    (h : LPost K σ R1 H1 g1 Q FR) (Dd : Addr) (nD : H1 Dd = none) : ∃ W : Nat → Nat → Hp → Prop, (∃ m, W 0 m (L2.upd H1 Dd (.lst []))) ∧ ∀ i m H, W i m H →
  (J.stop i H ∧ Q (.ref Dd) H) ∨ (J.go i H ∧ ∃ Nx : Hp → Prop, (∀ H', Nx H' → ∃ m', m' < m ∧ W (i + 1) m' H') ∧ ∀ x H', J.yld i H x H' → tBd K us b x (L2.wipe σ vs) H' fun σ2 H2 => L2.wipe σ2 vs = L2.wipe σ vs ∧ tTD K WF t σ2 H2 fun b H3 =>
    if b = true then tD K WF e σ2 H3 fun y H4 => ∃ acc, H4 Dd = some (.lst acc) ∧ acc.length < sizeLine ∧ Nx (L2.upd H4 Dd (.lst (acc ++ [y]))) else Nx H3) := by
      have smD : Same H1 (L2.upd H1 Dd (.lst [])) := Same.upd nD
      obtain ⟨Rw, sw, nw, mw⟩ := wipe_rep s1 n1 vs
      have nDw : ∀ {R' : List Addr}, (∀ a ∈ R', a ∈ R1) → Dd ∉ R' := fun hm hd => s1.root_some Dd (hm Dd hd) nD
      have hL0 : ∀ {Hi : Hp} {Ri : List Addr}, Ext R1 H1 Hi → New R1 H1 (Dd :: Ri) → ∀ a ∈ L, Hi a = H1 a ∧ a ∉ Dd :: Ri := fun {Hi Ri} ei wi a ha => by
        obtain ⟨q1, q2⟩ := hL a ha
        cases q : H1 a with
        | none => exact absurd q q1
        | some o =>
          refine ⟨ei a o q q2, fun z => ?_⟩
          rcases wi a z with y | y
          · exact q2 y
          · exact q1 y
      refine ⟨fun i m Hi => i + m = items.length ∧ G Hi ∧ ∃ gx Ri accV acc, SRep K Hi (L2.wipe σ vs) (wipeG gx vs) Ri ∧ (Dd :: Ri).Nodup ∧ Hi Dd = some (.lst accV) ∧ FzAll K Hi accV acc ∧ accV.length ≤ i ∧ Ext R1 H1 Hi ∧ New R1 H1 (Dd :: Ri) ∧
        BorK (wipeG g1 vs) (wipeG gx vs) ∧ cl vs b t e (items.drop i) acc (wipeG gx vs) = FR, ⟨items.length, by omega, wk.st H1 _ g0 (Pers.of_same smD) (fun a ha => (hL0 (Ri := Rw) (Ext.of_same smD) (fun c hc => by
        rcases List.mem_cons.mp hc with z | z
        · rw [z]; exact .inr nD
        · exact .inl (mw c z)) a ha).1), g1, Rw, [], [], sw.same smD, ?_, upd_same, .nil, Nat.zero_le _, Ext.of_same smD, ?_, BorK.refl _, by simpa using hfr⟩, ?_⟩
      · exact List.nodup_cons.mpr ⟨nDw mw, nw⟩
      · intro a ha
        rcases List.mem_cons.mp ha with z | z
        · rw [z]; exact .inr nD
        · exact .inl (mw a z)
      · rintro i m Hi ⟨eim, gH, gx, Ri, accV, acc, si, ni, hD, fa, al, ei, wi, bi, ec⟩
        obtain ⟨nD1, nD2⟩ := List.nodup_cons.mp ni
        by_cases hi : i < items.length
        · right
          have ed : items.drop i = items[i] :: items.drop (i + 1) := (List.getElem_cons_drop hi).symm
          rw [ed] at ec
          obtain ⟨jg, yld⟩ := wk.go i Hi _ gH (List.getElem?_eq_getElem hi)
          refine ⟨jg, fun H' => G H' ∧ ∃ gx Ri accV acc, SRep K H' (L2.wipe σ vs) (wipeG gx vs) Ri ∧ (Dd :: Ri).Nodup ∧ H' Dd = some (.lst accV) ∧ FzAll K H' accV acc ∧ accV.length ≤ i + 1 ∧ Ext R1 H1 H' ∧ New R1 H1 (Dd :: Ri) ∧
            BorK (wipeG g1 vs) (wipeG gx vs) ∧ cl vs b t e (items.drop (i + 1)) acc (wipeG gx vs) = FR, fun H' hN => ⟨m - 1, by omega, by omega, hN⟩, fun x H3 y => ?_⟩
          obtain ⟨sm, fx⟩ := yld x H3 y
          have s3 := si.same sm
          have hD3 : H3 Dd = some (.lst accV) := sm _ _ hD
          unfold cl at ec
          cases eb : b items[i] (wipeG gx vs) with
          | none =>
            rw [eb] at ec
            dsimp only at ec
            rw [← ec] at h
            exact h.elim
          | some ga =>
            rw [eb] at ec
            dsimp only at ec
            refine ⟨_, Ri, _, ga, s3, nD2, fx, eb, fun σ2 ch b2 k2 ⟨R2, s4, n4, m4⟩ => ⟨?_, ?_⟩⟩
            · rw [(ch.mono hus).wipe, wipe_idem]
            · have nD4 : Dd ∉ R2 := fun z => nD1 (m4 _ z)
              refine ⟨ga, R2, s4, n4, ?_⟩
              -- the end of a turn
              have fin : ∀ {H5 : Hp} {gz : Ga} {R5 : List Addr} {accV' : List V} {acc' : List D}, SRep K H5 σ2 gz R5 → R5.Nodup → Dd ∉ R5 → H5 Dd = some (.lst accV') → FzAll K H5 accV' acc' → accV'.length ≤ i + 1 → Ext (Dd :: Ri) Hi H5 → New (Dd :: Ri) Hi R5 → Pers Hi H5 →
                  BorK ga gz → vs.all (fun i => freeAt gz i) = true → cl vs b t e (items.drop (i + 1)) acc' (wipeG gz vs) = FR →
                  G H5 ∧ ∃ gx Ri accV acc, SRep K H5 (L2.wipe σ vs) (wipeG gx vs) Ri ∧ (Dd :: Ri).Nodup ∧ H5 Dd = some (.lst accV) ∧ FzAll K H5 accV acc ∧ accV.length ≤ i + 1 ∧ Ext R1 H1 H5 ∧ New R1 H1 (Dd :: Ri) ∧
                    BorK (wipeG g1 vs) (wipeG gx vs) ∧ cl vs b t e (items.drop (i + 1)) acc (wipeG gx vs) = FR := by
                intro H5 gz R5 accV' acc' s5 n5 nD5 hD5 fa5 al5 e5 w5 p5 b5 f5 c5
                obtain ⟨R6, s6, n6, m6⟩ := wipe_rep s5 n5 vs
                rw [(ch.mono hus).wipe, wipe_idem] at s6
                refine ⟨wk.st Hi H5 gH p5 (fun a ha => ?_), gz, R6, accV', acc', s6, List.nodup_cons.mpr ⟨fun z => nD5 (m6 _ z), n6⟩, hD5, fa5, al5, ei.trans wi e5, ?_, (bi.trans (b2.trans b5)).trans (borK_wipe f5), c5⟩
                · obtain ⟨z1, z2⟩ := hL0 ei wi a ha
                  cases q : H1 a with
                  | none => exact absurd q (hL a ha).1
                  | some o =>
                    rw [z1, q]
                    rw [q] at z1
                    exact e5 a o z1 z2
                have : New R1 H1 R5 := New.trans ei wi w5
                intro a ha
                rcases List.mem_cons.mp ha with z | z
                · rw [z]; exact wi Dd List.mem_cons_self
                · exact this a (m6 a z)
              have x3 : Ext (Dd :: Ri) Hi H3 := Ext.of_same sm
              have w3 : New (Dd :: Ri) Hi R2 := fun a ha => .inl (List.mem_cons_of_mem _ (m4 a ha))
              cases et : t ga with
              | stuck => rw [et] at ec; dsimp only at ec; rw [← ec] at h; exact h.elim
              | exc c g' => rw [et] at ec; dsimp only at ec; rw [← ec] at h; exact h.elim
              | ok bt gb =>
                rw [et] at ec
                intro bt' H4 go4 ebt
                subst ebt
                obtain ⟨b4, R4, s5, n5, x4, w4⟩ := go4
                have hD4 : H4 Dd = some (.lst accV) := x4 _ _ hD3 nD4
                have nD5 : Dd ∉ R4 := fun z => by
                  rcases w4 Dd z with q | q
                  · exact nD4 q
                  · rw [hD3] at q; cases q
                have p4 : Pers Hi H4 := (Pers.of_same sm).trans (x4.pers s4.live)
                cases bt' with
                | false =>
                  dsimp only at ec
                  rw [if_neg Bool.false_ne_true]
                  split at ec
                  · rename_i cf2
                    exact fin s5 n5 nD5 hD4 (fa.pers p4) (by omega) (x3.trans w3 x4) (New.trans x3 w3 w4) p4 b4 cf2 ec
                  · rw [← ec] at h; exact h.elim
                | true =>
                  dsimp only at ec
                  rw [if_pos rfl]
                  refine ⟨gb, R4, s5, n5, ?_⟩
                  cases ee : e gb with
                  | stuck => rw [ee] at ec; dsimp only at ec; rw [← ec] at h; exact h.elim
                  | exc c g' => rw [ee] at ec; dsimp only at ec; rw [← ec] at h; exact h.elim
                  | ok yd gc =>
                    rw [ee] at ec
                    dsimp only at ec
                    intro yv H5 go5 fy
                    obtain ⟨b5, R5, s6, n6, x5, w5⟩ := go5
                    have hD5 : H5 Dd = some (.lst accV) := x5 _ _ hD4 nD5
                    have nD6 : Dd ∉ R5 := fun z => by
                      rcases w5 Dd z with q | q
                      · exact nD5 q
                      · rw [hD4] at q; cases q
                    have p5 : Pers Hi H5 := p4.trans (x5.pers s5.live)
                    refine ⟨accV, hD5, by omega, ?_⟩
                    have p6 : Pers H5 (L2.upd H5 Dd (.lst (accV ++ [yv]))) := fun a u hu hf => by
                      rw [upd_ne]
                      · exact hu
                      · rintro rfl
                        rw [hD5] at hu
                        cases hu
                        cases hf
                    split at ec
                    · rename_i cf2
                      refine fin (s6.keep p6 fun a ha => upd_ne (fun z => nD6 (z ▸ ha))) n6 nD6 upd_same (((fa.pers p5).append (.cons fy .nil)).pers p6) (by rw [List.length_append, List.length_singleton]; omega) ?_ ?_ (p5.trans p6) (b4.trans b5) cf2 ec
                      · intro a u hu ha
                        rw [upd_ne]
                        · exact ((x3.trans w3 x4).trans (New.trans x3 w3 w4) x5) a u hu ha
                        · rintro rfl
                          exact ha List.mem_cons_self
                      · exact New.trans (x3.trans w3 x4) (New.trans x3 w3 w4) w5
                    · rw [← ec] at h; exact h.elim
        · left
          have e2 : i = items.length := by omega
          subst e2
          rw [List.drop_length] at ec
          have ec' : Rs.ok acc (wipeG gx vs) = FR := ec
          rw [← ec'] at h
          refine ⟨wk.stop Hi gH, h Dd accV Hi ⟨(borK_wipe cf).trans bi, hD, fa, Ri, unwipe si, ni, ei, wi⟩⟩
theorem GoL.then {K : KF} {g g1 g2 : Ga} {σ : St} {R R1 : List Addr} {H H1 H2 : Hp} {p : Addr} {vs : List V} {ys : List D} (b1 : BorK g g1) (e1 : Ext R H H1) (w1 : New R H R1) (h : GoL K σ R1 H1 g1 g2 p vs ys H2) : GoL K σ R H g g2 p vs ys H2 := by
  obtain ⟨b2, hp, fa, R2, s2, n2, e2, w2⟩ := h
  exact ⟨b1.trans b2, hp, fa, R2, s2, n2, e1.trans w1 e2, New.trans e1 w1 w2⟩
theorem lc_of {K : KF} {W : WX} {b : Bd} {us vs : List Nat} {t : M Bool} {e : M D} {mi : M (List D)} {σ : St} {H : Hp} {Q : VK} (hus : ∀ i ∈ us, i ∈ vs) (h : tL K W (eLc vs b t e mi) σ H Q) :
    tLc (tG (repI K) K W mi) (tBd K us b) (tTD K WF t) (tD K WF e) vs σ H Q := by
  obtain ⟨g, R, s, n, h⟩ := h
  refine ⟨g, R, s, n, ?_⟩
  unfold eLc bnd at h
  cases em : mi g with
  | stuck => rw [em] at h; exact h
  | exc c g' => rw [em] at h; exact h
  | ok items g1 =>
    rw [em] at h
    dsimp only at h
    intro J H1 go ⟨G, wk, g0⟩ Dd nD
    obtain ⟨bk1, R1, s1, n1, e1, w1⟩ := go
    by_cases cond : (vs.all fun i => freeAt g1 i) = true ∧ items.length ≤ sizeLine
    · rw [if_pos cond] at h
      obtain ⟨cf, cz⟩ := cond
      refine lc_gen hus s1 n1 wk g0 (fun a z => nomatch z) cf cz rfl ?_ Dd nD
      cases ec : cl vs b t e items [] (wipeG g1 vs) with
      | stuck => rw [ec] at h; exact h
      | exc c g' => rw [ec] at h; exact h
      | ok ys g2 =>
        rw [ec] at h
        exact fun p vs H' go => h p vs H' (go.then bk1 e1 w1)
    · rw [if_neg cond] at h
      exact h.elim
/-! over a list of one's own, hidden meanwhile -/
def eLcV (vs : List Nat) (b : Bd) (t : M Bool) (e : M D) (j : Nat) : M (List D) := fun g => match g[j]? with
  | some (some (.ml bb xs)) => if vs.all (fun i => freeAt (g.set j none) i) = true ∧ xs.length ≤ sizeLine ∧ j ∉ vs then (match cl vs b t e xs [] (wipeG (g.set j none) vs) with
    | .ok ys g2 => (match g2[j]? with
      | some none => .ok ys (g2.set j (some (.ml bb xs)))
      | _ => .stuck)
    | _ => .stuck) else .stuck
  | _ => .stuck
section
variable {X : Cx} {W : WX} {tg e a : Expr} {pos : Pos}
theorem PTs.imp {X : Cx} {ifs : List Expr} {t t' : TT} (h : PTs X ifs t) (k : ∀ σ H Q, t' σ H Q → t σ H Q) : PTs X ifs t' := ⟨fun pins s σ H Q I q => h.run pins s σ H Q I (k σ H Q q)⟩
def RTs (X : Cx) (W : WX) (ifs : List Expr) (m : M Bool) : Prop := PTs X ifs (tTD X.KF W m)
def tAll : M Bool := fun g => .ok true g
theorem r_ifs0 : RTs X W [] tAll := PTs.imp pts_nil fun σ H Q h => tG_ret h rfl
theorem r_ifs1 {c : Expr} {t : M Bool} (h : RT X W c t) : RTs X W [c] t := pts_one h
theorem r_lc {elt iter : Expr} {ifs : List Expr} {scope : Scope} {own : List (Str × Nat)} {us : List Nat} {mi : M (List D)} {b : Bd} {t : M Bool} {m : M D} (hc : X.calm = true) (hN : X.N.Nodup) (hi : RI X W tg iter mi) (ok : BlkOk X.N X.env.scope scope own) (hus : ∀ i ∈ us, i ∈ own.map (·.2))
    (hg : ∀ (s : Shared) (H : Hp) (C : Addr) (cl : List (Str × Addr)) (fp : List Addr), RG (X.blk s H scope (compEnvC scope cl C X.env) fp) tg us b) (ht : ∀ (s : Shared) (H : Hp) (C : Addr) (cl : List (Str × Addr)) (fp : List Addr), RTs (X.blk s H scope (compEnvC scope cl C X.env) fp) WF ifs t)
    (he : ∀ (s : Shared) (H : Hp) (C : Addr) (cl : List (Str × Addr)) (fp : List Addr), RE (X.blk s H scope (compEnvC scope cl C X.env) fp) WF elt m) (hs : ∀ x, foldedSetIterable iter X.env x = pure x := by intro _; rfl) :
    RL X W (.ListComp elt [⟨tg, iter, ifs, 0⟩] scope pos) (eLc (own.map (·.2)) b t m mi) := PE.imp (pe_lc (g := tBd X.KF us b) (tt := tTD X.KF WF t) (te := tD X.KF WF m) hc hN hi ok hg ht he hs) fun σ H Q h => lc_of hus h
def sSetL (i : Nat) (m : M (List D)) : M Fl := bnd m fun ys g1 => if freeAt g1 i = true then .ok .nx (g1.set i (some (.ml false ys))) else .stuck
theorem setL_of {i : Nat} {m : M (List D)} {D : Ends} {σ : St} {H : Hp} (h : tS X.KF W (sSetL i m) D σ H) : tL X.KF W m σ H (fun x H1 => gName i x σ H1 D.nx) := by
  obtain ⟨g, R, s, n, h⟩ := h
  refine ⟨g, R, s, n, ?_⟩
  unfold sSetL bnd at h
  cases e : m g with
  | stuck => rw [e] at h; exact h
  | exc c g' => rw [e] at h; exact fun H' go => h σ H' go.s
  | ok ys g1 =>
    rw [e] at h
    dsimp only at h
    intro p vs H' go
    obtain ⟨bk, hp, fa, R', s', n', e', w'⟩ := go
    by_cases hf : freeAt g1 i = true
    · rw [if_pos hf] at h
      obtain ⟨R2, s2, n2, m2⟩ := SRep.set (TRep.ml (b := false) hp fa) i s' (by simpa using n')
      refine h _ _ ⟨bk.trans (borK_set hf), (Kp.refl g σ).trans bk (kp_set hf), R2, s2, n2, e', fun c hc => w' c ?_⟩
      simpa using m2 c hc
    · rw [if_neg hf] at h
      exact h.elim
theorem r_setL {i : Nat} {x : Str} {m : M (List D)} {pos' : Pos} (hN : X.N.Nodup) (he : RL X W e m) (hi : X.N[i]? = some x := by rfl) (hx : Loc X.env.scope x := by first | exact Or.inl rfl | exact Or.inr rfl) (hs : swapsWith e (some (.Name x pos')) pos.line X.env = pure false := by rfl)
    (hf : X.fn x = true ∨ X.env.scope.names.lookup x = some .local := by first | exact .inl rfl | exact .inr rfl) : RS X W (.Assign [.Name x pos'] e pos) (sSetL i m) :=
  PS.imp (ps_set hN hi hx he hs hf) fun D σ H h => setL_of h
theorem r_setLc {i : Nat} {y : Str} {py spos : Pos} {elt iter : Expr} {ifs : List Expr} {scope : Scope} {own : List (Str × Nat)} {us : List Nat} {mi : M (List D)} {b : Bd} {t : M Bool} {m : M D} (hc : X.calm = true) (hN : X.N.Nodup) (hi : RI X W tg iter mi) (ok : BlkOk X.N X.env.scope scope own) (hus : ∀ i ∈ us, i ∈ own.map (·.2))
    (hg : ∀ (s : Shared) (H : Hp) (C : Addr) (cl : List (Str × Addr)) (fp : List Addr), RG (X.blk s H scope (compEnvC scope cl C X.env) fp) tg us b) (ht : ∀ (s : Shared) (H : Hp) (C : Addr) (cl : List (Str × Addr)) (fp : List Addr), RTs (X.blk s H scope (compEnvC scope cl C X.env) fp) WF ifs t)
    (he : ∀ (s : Shared) (H : Hp) (C : Addr) (cl : List (Str × Addr)) (fp : List Addr), RE (X.blk s H scope (compEnvC scope cl C X.env) fp) WF elt m)
    (hsw : swapsWith (.ListComp elt [⟨tg, iter, ifs, 0⟩] scope pos) (some (.Name y py)) spos.line X.env = pure true) (hy : X.N[i]? = some y := by rfl) (hyl : X.env.scope.names.lookup y = some .local := by rfl) (hs : ∀ x, foldedSetIterable iter X.env x = pure x := by intro _; rfl) :
    RS X W (.Assign [.Name y py] (.ListComp elt [⟨tg, iter, ifs, 0⟩] scope pos) spos) (sSetL i (eLc (own.map (·.2)) b t m mi)) := PS.imp (ps_setLc (g := tBd X.KF us b) (tt := tTD X.KF WF t) (te := tD X.KF WF m) hc hN hy hyl hsw hi ok hg ht he hs) fun D σ H h => lc_of hus (setL_of h)
/-! ### a list display, list(x), as new lists -/
theorem tL_new {m : M (List D)} {σ : St} {H : Hp} {Q : VK} (h : tL X.KF W m σ H Q) : tAD X.KF W m σ H fun vs H1 => ∀ p, H1 p = none → Q (.ref p) (L2.upd H1 p (.lst vs)) := by
  obtain ⟨g, R, s, n, h⟩ := h
  refine ⟨g, R, s, n, ?_⟩
  cases e : m g with
  | stuck => rw [e] at h; exact h
  | exc c g' => rw [e] at h; exact h
  | ok ys g1 =>
    rw [e] at h
    intro vs H1 go fa p np
    obtain ⟨bk, R1, s1, n1, e1, w1⟩ := go
    have sm := Same.upd (o := HO.lst vs) np
    refine h p vs _ ⟨bk, upd_same, fa.pers (.of_same sm), R1, s1.same sm, List.nodup_cons.mpr ⟨fun z => s1.root_some p z np, n1⟩, e1.trans w1 (Ext.of_same sm), fun c hc => ?_⟩
    rcases List.mem_cons.mp hc with z | z
    · subst z
      by_cases hr : c ∈ R
      · exact .inl hr
      · exact .inr (e1.none np hr)
    · exact w1 c z
def lLst (m : M (List D)) : M (List D) := bnd m fun xs g => if xs.length ≤ sizeLine then .ok xs g else .stuck
theorem lLst_ok {m : M (List D)} {σ : St} {H : Hp} {Q : VK} (h : tL X.KF W (lLst m) σ H Q) : tAD X.KF W m σ H fun vs H1 => vs.length ≤ sizeLine ∧ ∀ p, H1 p = none → Q (.ref p) (L2.upd H1 p (.lst vs)) := by
  obtain ⟨g, R, s, n, h⟩ := tL_new h
  refine ⟨g, R, s, n, ?_⟩
  unfold lLst bnd at h
  cases e : m g with
  | stuck => rw [e] at h; exact h
  | exc c g' => rw [e] at h; exact h
  | ok ys g1 =>
    rw [e] at h
    dsimp only at h
    intro vs H1 go fa
    by_cases hl : ys.length ≤ sizeLine
    · rw [if_pos hl] at h
      exact ⟨by rw [fa.length]; exact hl, h vs H1 go fa⟩
    · rw [if_neg hl] at h
      exact h.elim
theorem r_lstL {es : List Expr} {m : M (List D)} (h : RA X W es m) : RL X W (.List es pos) (lLst m) := PE.imp (pe_lst h) fun σ H Q h => lLst_ok h
/-! ### a list of one's own: read, changed -/
def isMl (g : Ga) (i : Nat) : Bool := match g[i]? with
  | some (some (.ml _ _)) => true
  | _ => false
theorem isMl_get {g : Ga} {i : Nat} (h : isMl g i = true) : ∃ b xs, g[i]? = some (some (.ml b xs)) := by
  unfold isMl at h
  split at h
  · exact ⟨_, _, by assumption⟩
  · cases h
theorem SRep.mlv {K : KF} {H : Hp} {σ : St} {g : Ga} {R : List Addr} {i : Nat} (s : SRep K H σ g R) (n : R.Nodup) (h : isMl g i = true) : ∃ p vs, σ[i]? = some (some (.ref p)) ∧ H p = some (.lst vs) := by
  obtain ⟨b, xs, e⟩ := isMl_get h
  obtain ⟨p, vs, h1, h2, _⟩ := s.put n e
  exact ⟨p, vs, h1, h2⟩
/-- rewritten in place -/
theorem put_go {K : KF} {g : Ga} {σ : St} {R : List Addr} {H : Hp} {i : Nat} {b : Bool} {xs : List D} (s : SRep K H σ g R) (n : R.Nodup) (e : g[i]? = some (some (.ml b xs))) :
    ∃ p vs, σ[i]? = some (some (.ref p)) ∧ H p = some (.lst vs) ∧ FzAll K H vs xs ∧ ∀ (us : List V) (ys : List D), FzAll K H us ys → Go K σ R H g (g.set i (some (.ml b ys))) (L2.upd H p (.lst us)) ∧ Pers H (L2.upd H p (.lst us)) := by
  obtain ⟨p, vs, h1, h2, h3, h4, h5⟩ := s.put n e
  refine ⟨p, vs, h1, h2, h3, fun us ys fa => ?_⟩
  have pe : Pers H (L2.upd H p (.lst us)) := fun c u hu hf => by
    rw [upd_ne]
    · exact hu
    · rintro rfl
      rw [h2] at hu
      cases hu
      cases hf
  obtain ⟨R', s', sb⟩ := h5 (L2.upd H p (.lst us)) (.ml b ys) [p] pe (fun c _ hc => upd_ne hc) (.ml upd_same (fa.pers pe)) (List.Sublist.refl _)
  refine ⟨⟨fun j t ej bb => ?_, R', s', sb.nodup n, fun c u hu hc => ?_, fun c hc => .inl (sb.subset hc)⟩, pe⟩
  · by_cases hj : i = j
    · subst hj
      rw [e] at ej
      cases ej
      have hl : i < g.length := (List.getElem?_eq_some_iff.mp e).1
      exact ⟨_, List.getElem?_set_self hl, bb⟩
    · exact ⟨t, by rw [List.getElem?_set_ne hj]; exact ej, bb⟩
  · rw [upd_ne]
    · exact hu
    · rintro rfl
      exact hc h4
theorem Go.then {K : KF} {g g1 g2 : Ga} {σ : St} {R R1 : List Addr} {H H1 H2 : Hp} (b1 : BorK g g1) (e1 : Ext R H H1) (w1 : New R H R1) (h : Go K σ R1 H1 g1 g2 H2) : Go K σ R H g g2 H2 := by
  obtain ⟨b2, R2, s2, n2, e2, w2⟩ := h
  exact ⟨b1.trans b2, R2, s2, n2, e1.trans w1 e2, New.trans e1 w1 w2⟩
/-- x.append(e), x.pop(e) ..: the slot's list, then the argument, then the deed -/
def onL {α β : Type} (i : Nat) (m : M β) (f : List D → β → Option (α × List D)) : M α := fun g => if isMl g i = true then (match m g with
  | .ok x g1 => (match g1[i]? with
    | some (some (.ml b xs)) => (match f xs x with
      | some (y, ys) => .ok y (g1.set i (some (.ml b ys)))
      | none => .stuck)
    | _ => .stuck)
  | .exc c g1 => .exc c g1
  | .stuck => .stuck) else .stuck
theorem onL_of {α β γ δ : Type} {i : Nat} {m : M β} {f : List D → β → Option (α × List D)} {rep : Hp → γ → β → Prop} {rep2 : Hp → δ → α → Prop} {σ : St} {H : Hp} {Q : δ → Hp → Prop} (h : tG rep2 X.KF W (onL i m f) σ H Q) :
    ∃ p vs, σ[i]? = some (some (.ref p)) ∧ H p = some (.lst vs) ∧ tG rep X.KF W m σ H fun u H1 => ∃ vs1 xs x y ys, H1 p = some (.lst vs1) ∧ FzAll X.KF H1 vs1 xs ∧ rep H1 u x ∧ f xs x = some (y, ys) ∧
      ∀ us d, FzAll X.KF H1 us ys → (Pers H1 (L2.upd H1 p (.lst us)) → rep2 (L2.upd H1 p (.lst us)) d y) → Q d (L2.upd H1 p (.lst us)) := by
  obtain ⟨g, R, s, n, h⟩ := h
  unfold onL at h
  by_cases hm : isMl g i = true
  · rw [if_pos hm] at h
    obtain ⟨p, vs, h1, h2⟩ := s.mlv n hm
    refine ⟨p, vs, h1, h2, g, R, s, n, ?_⟩
    cases e : m g with
    | stuck => rw [e] at h; exact h
    | exc c g' => rw [e] at h; exact h
    | ok x g1 =>
      rw [e] at h
      dsimp only at h
      intro u H1 go ru
      obtain ⟨bk, R1, s1, n1, e1, w1⟩ := go
      cases eg : g1[i]? with
      | none => rw [eg] at h; exact h.elim
      | some o =>
        cases o with
        | none => rw [eg] at h; exact h.elim
        | some t =>
          cases t with
          | d z => rw [eg] at h; exact h.elim
          | md _ _ _ => rw [eg] at h; exact h.elim
          | mf _ _ => rw [eg] at h; exact h.elim
          | ob _ _ _ => rw [eg] at h; exact h.elim
          | ml b xs =>
            rw [eg] at h
            dsimp only at h
            cases ef : f xs x with
            | none => rw [ef] at h; exact h.elim
            | some yy =>
              obtain ⟨y, ys⟩ := yy
              rw [ef] at h
              obtain ⟨p', vs1, q1, q2, q3, q4⟩ := put_go s1 n1 eg
              rw [h1] at q1
              cases q1
              refine ⟨vs1, xs, x, y, ys, q2, q3, ru, ef, fun us d fu rd => ?_⟩
              obtain ⟨go2, pe⟩ := q4 us ys fu
              exact h d _ (go2.then bk e1 w1) (rd pe)
  · rw [if_neg hm] at h
    exact h.elim
def fApp (xs : List D) (x : D) : Option (D × List D) := if xs.length < sizeLine then some (.none, xs ++ [x]) else none
def eApp (i : Nat) (m : M D) : M D := onL i m fApp
theorem r_app {x : Str} {i : Nat} {m : M D} {np apos cpos : Pos} (he : RE X W e m) (hN : X.N[i]? = some x := by rfl) (hv : Vis X.env.scope x := by first | exact Or.inl rfl | exact Or.inr (Or.inl rfl) | exact Or.inr (Or.inr rfl)) (hd : (x == ("__debug__" : Str)) = false := by decide)
    (hcd : (x == ("__classdict__" : Str)) = false := by decide) (hbase : attributeBase (.Name x np) "append" X.env (eval (.Name x np) X.env) = eval (.Name x np) X.env := by rfl)
    (hfew : ((backTo cpos (starEach [e] X.env)).all (fun x => !x.1) && (backToKw cpos (keywordEach [] X.env)).all (fun x => x.1.isSome)
      && decide ([e].length + ([] : List Keyword).length + (if ([] : List Keyword).isEmpty then 0 else 1) < 30)) = true := by rfl)
    (hline : (apos.endLine == cpos.line) = true := by rfl) (hs : starEach [e] X.env = (false, eval e X.env) :: starEach [] X.env := by rfl) (hplain : (backTo cpos (starEach [] X.env)).any (·.1) = false := by rfl) :
    RE X W (.Call (.Attribute (.Name x np) "append" apos) [e] [] cpos) (eApp i m) :=
  PE.imp (pe_bm PySem.F.plainAttrs_list PySem.F.slot_list_append PySem.F.type_list_append mt_append (pe_var hN hv hd hcd) (pa_cons he pa_nil hs) hbase hfew hline hs hplain) fun σ H Q h => by
    obtain ⟨p, vs, h1, h2, q⟩ := onL_of (rep := Fz X.KF) h
    refine ⟨.ref p, h1, .inl ⟨rfl, _, SqL.of h2⟩, tG_mono q fun u H1 _ ⟨vs1, xs, x, y, ys, q1, q2, q3, q4, q5⟩ => ?_⟩
    unfold fApp at q4
    split at q4
    · rename_i hl
      cases q4
      exact ⟨p, vs1, u, rfl, rfl, q1, by rw [q2.length]; exact hl, q5 _ _ (q2.append (.cons q3 .nil)) fun _ => .non⟩
    · cases q4
/-- the place of an index of any sign -/
def fPop (xs : List D) (x : D) : Option (D × List D) := match x with
  | .int i => if -(2 ^ 63) ≤ i ∧ i < 2 ^ 63 then (match seqIndex? i xs.length with
    | some k => (xs[k]?).map fun y => (y, xs.eraseIdx k)
    | none => none) else none
  | _ => none
def ePop (i : Nat) (m : M D) : M D := onL i m fPop
theorem r_pop {x : Str} {i : Nat} {m : M D} {np apos cpos : Pos} (he : RE X W e m) (hN : X.N[i]? = some x := by rfl) (hv : Vis X.env.scope x := by first | exact Or.inl rfl | exact Or.inr (Or.inl rfl) | exact Or.inr (Or.inr rfl)) (hd : (x == ("__debug__" : Str)) = false := by decide)
    (hcd : (x == ("__classdict__" : Str)) = false := by decide) (hbase : attributeBase (.Name x np) "pop" X.env (eval (.Name x np) X.env) = eval (.Name x np) X.env := by rfl)
    (hfew : ((backTo cpos (starEach [e] X.env)).all (fun x => !x.1) && (backToKw cpos (keywordEach [] X.env)).all (fun x => x.1.isSome)
      && decide ([e].length + ([] : List Keyword).length + (if ([] : List Keyword).isEmpty then 0 else 1) < 30)) = true := by rfl)
    (hline : (apos.endLine == cpos.line) = true := by rfl) (hs : starEach [e] X.env = (false, eval e X.env) :: starEach [] X.env := by rfl) (hplain : (backTo cpos (starEach [] X.env)).any (·.1) = false := by rfl) :
    RE X W (.Call (.Attribute (.Name x np) "pop" apos) [e] [] cpos) (ePop i m) :=
  PE.imp (pe_bm PySem.F.plainAttrs_list PySem.F.slot_list_pop PySem.F.type_list_pop mt_popAt (pe_var hN hv hd hcd) (pa_cons he pa_nil hs) hbase hfew hline hs hplain) fun σ H Q h => by
    obtain ⟨p, vs, h1, h2, q⟩ := onL_of (rep := Fz X.KF) h
    refine ⟨.ref p, h1, .inl ⟨rfl, _, SqL.of h2⟩, tG_mono q fun u H1 _ ⟨vs1, xs, x, y, ys, q1, q2, q3, q4, q5⟩ => ?_⟩
    unfold fPop at q4
    cases q3 with
    | int k0 =>
      dsimp only at q4
      split at q4
      · rename_i hb
        cases ek : seqIndex? k0 xs.length with
        | none => rw [ek] at q4; cases q4
        | some k =>
          rw [ek] at q4
          dsimp only at q4
          cases eg : xs[k]? with
          | none => rw [eg] at q4; cases q4
          | some z =>
            rw [eg] at q4
            cases q4
            obtain ⟨v, ev, fv⟩ := q2.get' eg
            exact ⟨p, vs1, k0, k, v, rfl, rfl, q1, hb.1, hb.2, by rw [q2.length]; exact ek, ev, q5 _ _ (q2.eraseIdx k) fun pe => fv.pers pe⟩
      · cases q4
    | _ => cases q4
end
/-- a list of one's own taken out of its slot -/
theorem SRep.takeOut {K : KF} {H : Hp} : ∀ {σ : St} {g : Ga} {R : List Addr} {i : Nat} {b : Bool} {xs : List D}, SRep K H σ g R → R.Nodup → g[i]? = some (some (.ml b xs)) →
    ∃ a vs R', σ[i]? = some (some (.ref a)) ∧ H a = some (.lst vs) ∧ FzAll K H vs xs ∧ a ∈ R ∧ SRep K H σ (g.set i none) R' ∧ R'.Sublist R ∧ a ∉ R'
  | _, _, _, _, _, _, .nil, _, e => by simp at e
  | _, _, _, 0, _, _, .skip h, _, e => by simp at e
  | _, _, _, i + 1, b, xs, .skip h, n, e => by
    obtain ⟨a, vs, R', h1, h2, h3, h4, h5, h6, h7⟩ := SRep.takeOut (i := i) (b := b) (xs := xs) h n (by simpa using e)
    exact ⟨a, vs, R', by simpa using h1, h2, h3, h4, .skip h5, h6, h7⟩
  | _, _, _, 0, _, _, .cons t h, n, e => by
    simp at e
    subst e
    cases t with
    | ml e1 e2 =>
      refine ⟨_, _, _, rfl, e1, e2, List.mem_append_left _ (List.mem_singleton.mpr rfl), .skip h, List.sublist_append_right _ _, fun z => ?_⟩
      exact (List.nodup_append.mp n).2.2 _ (List.mem_singleton.mpr rfl) _ z rfl
  | _, _, _, i + 1, b, xs, .cons t h, n, e => by
    obtain ⟨a, vs, R', h1, h2, h3, h4, h5, h6, h7⟩ := SRep.takeOut (i := i) (b := b) (xs := xs) h (List.nodup_append.mp n).2.1 (by simpa using e)
    refine ⟨a, vs, _, by simpa using h1, h2, h3, List.mem_append_right _ h4, .cons t h5, h6.append_left _, fun z => ?_⟩
    rcases List.mem_append.mp z with y | y
    · exact (List.nodup_append.mp n).2.2 a y a h4 rfl
    · exact h7 y
theorem set_self {σ : St} {i : Nat} {o : Option V} (h : σ[i]? = some o) : σ.set i o = σ := by
  apply List.ext_getElem?
  intro j
  by_cases e : i = j
  · subst e
    have hl := (List.getElem?_eq_some_iff.mp h).1
    rw [List.getElem?_set_self hl, h]
  · rw [List.getElem?_set_ne e]
theorem upd_self {H : Hp} {a : Addr} {o : HO} (h : H a = some o) : L2.upd H a o = H := by
  funext b
  by_cases e : b = a
  · subst e; rw [upd_same, h]
  · rw [upd_ne e]
section
variable {X : Cx} {W : WX} {tg e a : Expr} {pos : Pos}
theorem lcV_of {K : KF} {b : Bd} {us vs : List Nat} {t : M Bool} {e : M D} {j : Nat} {σ : St} {H : Hp} {Q : VK} (hus : ∀ i ∈ us, i ∈ vs) (h : tL K W (eLcV vs b t e j) σ H Q) :
    tLc (iList K (tVar j)) (tBd K us b) (tTD K WF t) (tD K WF e) vs σ H Q := by
  obtain ⟨g, R, s, n, h⟩ := h
  unfold eLcV at h
  cases eg : g[j]? with
  | none => rw [eg] at h; exact h.elim
  | some o =>
    cases o with
    | none => rw [eg] at h; exact h.elim
    | some tt =>
      cases tt with
      | d z => rw [eg] at h; exact h.elim
      | md _ _ _ => rw [eg] at h; exact h.elim
      | mf _ _ => rw [eg] at h; exact h.elim
      | ob _ _ _ => rw [eg] at h; exact h.elim
      | ml bb xs =>
        rw [eg] at h
        dsimp only at h
        by_cases cond : (vs.all fun i => freeAt (g.set j none) i) = true ∧ xs.length ≤ sizeLine ∧ j ∉ vs
        · rw [if_pos cond] at h
          obtain ⟨p, lv, R', h1, h2, h3, h4, h5, h6, h7⟩ := s.takeOut n eg
          refine ⟨.ref p, h1, p, rfl, ⟨lv, SqL.of h2⟩, fun Dd nD => ?_⟩
          have wk : Wk K (Itl K p) xs (fun Hx => Hx p = some (.lst lv) ∧ Pers H Hx) [p] := {
            st := fun Ha Hb ⟨q1, q2⟩ pe k => ⟨(k p (List.mem_singleton.mpr rfl)).trans q1, q2.trans pe⟩
            go := fun i Hx d ⟨q1, q2⟩ ei => by
              obtain ⟨v, e1, f⟩ := h3.get' ei
              refine ⟨⟨lv, v, SqL.of q1, e1⟩, fun x H' y => ?_⟩
              obtain ⟨eh, y⟩ := y
              subst eh
              rw [y lv (SqL.of q1)] at e1
              cases e1
              exact ⟨Same.refl _, f.pers q2⟩
            stop := fun Hx ⟨q1, q2⟩ => ⟨lv, SqL.of q1, by rw [h3.length]; exact Nat.le_refl _⟩ }
          refine lc_gen hus h5 (h6.nodup n) wk ⟨h2, Pers.refl _⟩ (fun c hc => ?_) cond.1 cond.2.1 rfl ?_ Dd nD
          · rw [List.mem_singleton] at hc
            subst hc
            exact ⟨by rw [h2]; simp, h7⟩
          · cases ec : cl vs b t e xs [] (wipeG (g.set j none) vs) with
            | stuck => rw [ec] at h; exact h
            | exc c g' => rw [ec] at h; exact h
            | ok ys g2 =>
              rw [ec] at h
              dsimp only at h
              intro q vs' H' go
              obtain ⟨bk, hq, fa, R2, s2, n2, e2, w2⟩ := go
              cases eg2 : g2[j]? with
              | none => rw [eg2] at h; exact h.elim
              | some o2 =>
                cases o2 with
                | some t2 => rw [eg2] at h; exact h.elim
                | none =>
                  rw [eg2] at h
                  obtain ⟨n3, n4⟩ := List.nodup_cons.mp n2
                  have hp' : H' p = some (.lst lv) := e2 p _ h2 h7
                  have pe : Pers H H' := e2.pers h5.live
                  have np2 : p ∉ R2 := fun z => by
                    rcases w2 p (List.mem_cons_of_mem _ z) with y | y
                    · exact h7 y
                    · rw [h2] at y; cases y
                  have npq : p ≠ q := fun z => by
                    rcases w2 q List.mem_cons_self with y | y
                    · rw [← z] at y; exact h7 y
                    · rw [← z, h2] at y; cases y
                  obtain ⟨R3, s3, m3, l3⟩ := SRep.set (TRep.ml (b := bb) hp' (h3.pers pe)) j s2 (by simpa using ⟨np2, n4⟩)
                  rw [set_self h1] at s3
                  have l3' : ∀ c ∈ R3, c = p ∨ c ∈ R2 := fun c hc => by simpa using l3 c hc
                  refine h q vs' H' ⟨fun i t ei bt => ?_, hq, fa, R3, s3, List.nodup_cons.mpr ⟨fun z => ?_, m3⟩, fun c o hc hr => e2 c o hc fun z => hr (h6.subset z), fun c hc => ?_⟩
                  · by_cases hj : j = i
                    · subst hj
                      rw [eg] at ei
                      cases ei
                      exact ⟨_, List.getElem?_set_self (List.getElem?_eq_some_iff.mp eg2).1, bt⟩
                    · obtain ⟨t', z1, z2⟩ := bk i t (by rw [List.getElem?_set_ne hj]; exact ei) bt
                      exact ⟨t', by rw [List.getElem?_set_ne hj]; exact z1, z2⟩
                  · rcases l3' q z with y | y
                    · exact npq y.symm
                    · exact n3 y
                  · rcases List.mem_cons.mp hc with z | z
                    · subst z
                      rcases w2 c List.mem_cons_self with y | y
                      · exact .inl (h6.subset y)
                      · exact .inr y
                    · rcases l3' c z with y | y
                      · rw [y]; exact .inl h4
                      · rcases w2 c (List.mem_cons_of_mem _ y) with x | x
                        · exact .inl (h6.subset x)
                        · exact .inr x
        · rw [if_neg cond] at h
          exact h.elim
theorem r_lcV {elt : Expr} {x : Str} {np : Pos} {j : Nat} {ifs : List Expr} {scope : Scope} {own : List (Str × Nat)} {us : List Nat} {b : Bd} {t : M Bool} {m : M D} (hc : X.calm = true) (hN : X.N.Nodup) (ok : BlkOk X.N X.env.scope scope own) (hus : ∀ i ∈ us, i ∈ own.map (·.2))
    (hg : ∀ (s : Shared) (H : Hp) (C : Addr) (cl : List (Str × Addr)) (fp : List Addr), RG (X.blk s H scope (compEnvC scope cl C X.env) fp) tg us b) (ht : ∀ (s : Shared) (H : Hp) (C : Addr) (cl : List (Str × Addr)) (fp : List Addr), RTs (X.blk s H scope (compEnvC scope cl C X.env) fp) WF ifs t)
    (he : ∀ (s : Shared) (H : Hp) (C : Addr) (cl : List (Str × Addr)) (fp : List Addr), RE (X.blk s H scope (compEnvC scope cl C X.env) fp) WF elt m) (hj : X.N[j]? = some x := by rfl) (hv : Vis X.env.scope x := by first | exact Or.inl rfl | exact Or.inr (Or.inl rfl) | exact Or.inr (Or.inr rfl)) (hd : (x == ("__debug__" : Str)) = false := by decide)
    (hcd : (x == ("__classdict__" : Str)) = false := by decide) (hs : ∀ y, foldedSetIterable (.Name x np) X.env y = pure y := by intro _; rfl) :
    RL X W (.ListComp elt [⟨tg, .Name x np, ifs, 0⟩] scope pos) (eLcV (own.map (·.2)) b t m j) := PE.imp (pe_lc (g := tBd X.KF us b) (tt := tTD X.KF WF t) (te := tD X.KF WF m) hc hN (pi_list (pe_var hj hv hd hcd)) ok hg ht he hs) fun σ H Q h => lcV_of hus h
theorem r_setLcV {i : Nat} {y : Str} {py spos : Pos} {elt : Expr} {x : Str} {np : Pos} {j : Nat} {ifs : List Expr} {scope : Scope} {own : List (Str × Nat)} {us : List Nat} {b : Bd} {t : M Bool} {m : M D} (hc : X.calm = true) (hN : X.N.Nodup) (ok : BlkOk X.N X.env.scope scope own) (hus : ∀ i ∈ us, i ∈ own.map (·.2))
    (hg : ∀ (s : Shared) (H : Hp) (C : Addr) (cl : List (Str × Addr)) (fp : List Addr), RG (X.blk s H scope (compEnvC scope cl C X.env) fp) tg us b) (ht : ∀ (s : Shared) (H : Hp) (C : Addr) (cl : List (Str × Addr)) (fp : List Addr), RTs (X.blk s H scope (compEnvC scope cl C X.env) fp) WF ifs t)
    (he : ∀ (s : Shared) (H : Hp) (C : Addr) (cl : List (Str × Addr)) (fp : List Addr), RE (X.blk s H scope (compEnvC scope cl C X.env) fp) WF elt m)
    (hsw : swapsWith (.ListComp elt [⟨tg, .Name x np, ifs, 0⟩] scope pos) (some (.Name y py)) spos.line X.env = pure true) (hy : X.N[i]? = some y := by rfl) (hyl : X.env.scope.names.lookup y = some .local := by rfl) (hj : X.N[j]? = some x := by rfl) (hv : Vis X.env.scope x := by first | exact Or.inl rfl | exact Or.inr (Or.inl rfl) | exact Or.inr (Or.inr rfl)) (hd : (x == ("__debug__" : Str)) = false := by decide)
    (hcd : (x == ("__classdict__" : Str)) = false := by decide) (hs : ∀ y, foldedSetIterable (.Name x np) X.env y = pure y := by intro _; rfl) :
    RS X W (.Assign [.Name y py] (.ListComp elt [⟨tg, .Name x np, ifs, 0⟩] scope pos) spos) (sSetL i (eLcV (own.map (·.2)) b t m j)) := PS.imp (ps_setLc (g := tBd X.KF us b) (tt := tTD X.KF WF t) (te := tD X.KF WF m) hc hN hy hyl hsw (pi_list (pe_var hj hv hd hcd)) ok hg ht he hs) fun D σ H h => lcV_of hus (setL_of h)
/-! ### x[e], len(x), truth of x, x[e] = v, of a list of one's own -/
theorem atI_fz {K : KF} {H : Hp} {vs : List V} {xs : List D} {i : Int} {y : D} (f : FzAll K H vs xs) (h : atI xs i = some y) : ∃ v, atI vs i = some v ∧ Fz K H v y := by
  unfold atI at h ⊢
  rw [f.length]
  cases e : ixN xs.length i with
  | none => rw [e] at h; cases h
  | some j =>
    rw [e] at h
    have h : xs[j]? = some y := h
    obtain ⟨v, e1, fv⟩ := f.get' h
    exact ⟨v, e1, fv⟩
def fIdx (xs : List D) (x : D) : Option (D × List D) := match x with
  | .int i => (atI xs i).map fun y => (y, xs)
  | _ => none
def eIdxV (i : Nat) (m : M D) : M D := onL i m fIdx
theorem r_idxV {x : Str} {i : Nat} {m : M D} {np : Pos} (he : RE X W e m) (hs : PlainIx e := by exact fun _ _ => rfl) (hN : X.N[i]? = some x := by rfl) (hv : Vis X.env.scope x := by first | exact Or.inl rfl | exact Or.inr (Or.inl rfl) | exact Or.inr (Or.inr rfl)) (hd : (x == ("__debug__" : Str)) = false := by decide)
    (hcd : (x == ("__classdict__" : Str)) = false := by decide) : RE X W (.Subscript (.Name x np) e pos) (eIdxV i m) := PE.imp (pe_ix ix_list (pe_var hN hv hd hcd) he hs) fun σ H Q h => by
    obtain ⟨p, vs, h1, h2, q⟩ := onL_of (rep := Fz X.KF) h
    refine ⟨.ref p, h1, tG_mono q fun u H1 _ ⟨vs1, xs, x, y, ys, q1, q2, q3, q4, q5⟩ => ?_⟩
    unfold fIdx at q4
    cases q3 with
    | int k =>
      dsimp only at q4
      cases ea : atI xs k with
      | none => rw [ea] at q4; cases q4
      | some z =>
        rw [ea] at q4
        cases q4
        obtain ⟨v, e1, fv⟩ := atI_fz q2 ea
        have := q5 vs1 v q2 fun pe => fv.pers pe
        rw [upd_self q1] at this
        exact ⟨p, vs1, k, v, rfl, rfl, SqL.of q1, e1, this⟩
    | _ => cases q4
def mU : M Unit := fun g => .ok () g
theorem tG_mU {σ : St} {H : Hp} {Q : Unit → Hp → Prop} (h : tG (fun _ (_ : Unit) (_ : Unit) => True) X.KF W mU σ H Q) : Q () H := tG_ret h trivial
def eLenV (i : Nat) : M D := onL i mU fun xs _ => some (.int xs.length, xs)
theorem r_lenV {x : Str} {i : Nat} {np p : Pos} (hm : X.mg "len" = none) (hg : Gl X "len" := by rfl) (hN : X.N[i]? = some x := by rfl) (hv : Vis X.env.scope x := by first | exact Or.inl rfl | exact Or.inr (Or.inl rfl) | exact Or.inr (Or.inr rfl)) (hd : (x == ("__debug__" : Str)) = false := by decide)
    (hcd : (x == ("__classdict__" : Str)) = false := by decide) (hs : starEach [Expr.Name x np] X.env = (false, eval (Expr.Name x np) X.env) :: starEach [] X.env := by rfl) (hpl : (backTo pos (starEach [] X.env)).any (·.1) = false := by rfl) : RE X W (.Call (.Name "len" p) [.Name x np] [] pos) (eLenV i) :=
  PE.imp (pe_callB call_len_seq hg hm PySem.boot_len (pa_cons (pe_var hN hv hd hcd) pa_nil hs) (he := hs) (hpl := hpl)) fun σ H Q h => by
    obtain ⟨p, vs, h1, h2, q⟩ := onL_of (rep := fun _ (_ : Unit) (_ : Unit) => True) h
    obtain ⟨vs1, xs, x, y, ys, q1, q2, q3, q4, q5⟩ := tG_mU q
    cases q4
    have := q5 vs1 (.int vs1.length) q2 fun pe => by rw [q2.length]; exact .int _
    rw [upd_self q1] at this
    exact ⟨.ref p, h1, p, vs1, rfl, .inl (SqL.of q1), this⟩
def tTruV (i : Nat) : M Bool := onL i mU fun xs _ => some (!xs.isEmpty, xs)
theorem r_truV {x : Str} {i : Nat} {np : Pos} (hN : X.N[i]? = some x := by rfl) (hv : Vis X.env.scope x := by first | exact Or.inl rfl | exact Or.inr (Or.inl rfl) | exact Or.inr (Or.inr rfl)) (hd : (x == ("__debug__" : Str)) = false := by decide)
    (hcd : (x == ("__classdict__" : Str)) = false := by decide) : RT X W (.Name x np) (tTruV i) := PT.imp (pt_truth (pe_var hN hv hd hcd) (by intro _; rfl)) fun σ H Q h => by
    obtain ⟨p, vs, h1, h2, q⟩ := onL_of (rep := fun _ (_ : Unit) (_ : Unit) => True) h
    obtain ⟨vs1, xs, x, y, ys, q1, q2, q3, q4, q5⟩ := tG_mU q
    cases q4
    have := q5 vs1 _ q2 fun pe => rfl
    rw [upd_self q1] at this
    refine ⟨.ref p, h1, _, .inl ⟨vs1, SqL.of q1, rfl⟩, ?_⟩
    have e : (!vs1.isEmpty) = !xs.isEmpty := by cases q2 <;> rfl
    rw [e]
    exact this
def fSetI (y : D) (xs : List D) (k : D) : Option (D × List D) := match k with
  | .int j => (ixN xs.length j).map fun jj => (.none, xs.set jj y)
  | _ => none
def sSetI (i : Nat) (mk mv : M D) : M Fl := bnd mv fun y => bnd (onL i mk (fSetI y)) fun _ g => .ok .nx g
theorem r_setI {x : Str} {i : Nat} {ek : Expr} {mk mv : M D} {np tpos : Pos} (hv' : RE X W e mv) (hk : RE X W ek mk) (hN : X.N[i]? = some x := by rfl) (hv : Vis X.env.scope x := by first | exact Or.inl rfl | exact Or.inr (Or.inl rfl) | exact Or.inr (Or.inr rfl)) (hd : (x == ("__debug__" : Str)) = false := by decide)
    (hcd : (x == ("__classdict__" : Str)) = false := by decide)
    (ha : ∀ v, assign (.Subscript (.Name x np) ek tpos) X.env v = (do
      let ov ← holding [v] (eval (.Name x np) X.env)
      let iv ← holding [v, ov] (eval ek X.env)
      standAt tpos
      holding [v, ov, iv] (setItem ov iv v)
      release [v, ov, iv] []) := by intro _; rfl)
    (hs : swapsWithSole [.Subscript (.Name x np) ek tpos] e pos.line X.env = pure false := by rfl) (hw : swappedStores [.Subscript (.Name x np) ek tpos] e X.env = pure none := by rfl)
    (h1 : (assignEach [.Subscript (.Name x np) ek tpos] X.env).map (·.2) = [assign (.Subscript (.Name x np) ek tpos) X.env] := by rfl) :
    RS X W (.Assign [.Subscript (.Name x np) ek tpos] e pos) (sSetI i mk mv) :=
  PS.imp (ps_asg hv' (pg_sub (pe_var hN hv hd hcd) hk set_list ha) hs hw h1) fun D σ H h => tG_mono (tS_bind (rep := Fz X.KF) h) fun v H1 _ ⟨y, ry, q⟩ => by
    obtain ⟨p, vs, h1, h2, q⟩ := onL_of (rep := Fz X.KF) (tS_bind (rep := Fz X.KF) q)
    refine ⟨.ref p, h1, tG_mono q fun u H2 pe ⟨vs1, xs, x, z, ys, q1, q2, q3, q4, q5⟩ => ?_⟩
    unfold fSetI at q4
    cases q3 with
    | int k =>
      dsimp only at q4
      cases ea : ixN xs.length k with
      | none => rw [ea] at q4; cases q4
      | some jj =>
        rw [ea] at q4
        cases q4
        obtain ⟨_, _, q6⟩ := q5 (vs1.set jj v) .non (q2.set (ry.pers pe) jj) fun _ => .non
        exact ⟨p, vs1, k, jj, rfl, rfl, q1, by rw [q2.length]; exact ea, tS_ok q6⟩
    | _ => cases q4
end
/-! ### defs that change nothing -/
inductive Rx where
  | ok (x : D)
  | exc (c : Str)
  | stuck
abbrev PF := List D → Rx
def spP (K : KF) (n : Nat) (f : PF) : Sp := fun vs H Q E => vs.length = n ∧ ∃ ds, FzAll K H vs ds ∧ match f ds with
  | .ok x => ∀ v H', Same H H' → Fz K H' v x → Q v H'
  | .exc c => ∀ H', Same H H' → E (.ref (He.ga K c)) none H'
  | .stuck => False
def dsG (ds : List D) (k : Nat) : Ga := ds.map (fun x => some (.d x)) ++ List.replicate (k - ds.length) none
def runP (k : Nat) (m : M Fl) : PF := fun ds => match m (dsG ds k) with
  | .ok (.ret x) _ => .ok x
  | .ok .nx _ => .ok .none
  | .ok _ _ => .stuck
  | .exc c _ => .exc c
  | .stuck => .stuck
theorem SRep.nones {K : KF} {H : Hp} : ∀ n : Nat, SRep K H (List.replicate n none) (List.replicate n none) []
  | 0 => .nil
  | n + 1 => .skip (SRep.nones n)
theorem SRep.ofDs {K : KF} {H : Hp} {σ : St} {g : Ga} {R : List Addr} (r : SRep K H σ g R) : ∀ {vs : List V} {ds : List D}, FzAll K H vs ds → SRep K H (vs.map some ++ σ) (ds.map (fun x => some (Tv.d x)) ++ g) R
  | _, _, .nil => r
  | _, _, .cons h t => .cons (rt := []) (.d h) (SRep.ofDs r t)
theorem start_ds {K : KF} {H : Hp} {N : List Str} {vs : List V} {ds : List D} (f : FzAll K H vs ds) : SRep K H (start N vs) (dsG ds N.length) [] := by
  unfold L2.start dsG
  rw [f.length]
  exact SRep.ofDs (SRep.nones _) f
abbrev WD (E : XK) : WX := fun cls d _ H => E cls d H
section
variable {P : Program} {w : World} {K : PySem.W.Frag} {mg : Str → Option Value} {base : Heap}
theorem fn_pure {x qual : Str} {params : Arguments} {body : List Stmt} {scope : Scope} {f : Addr} {fd : FuncData} {N ps : List Str} {k : Nat} {m : M Fl} (F : FunD K x qual params body scope [] [] f fd) (S : FnScope N ps scope)
    (hb : ∀ (X : Cx) (E : XK), X.prog = P → X.w = w → X.K = K → X.mg = mg → X.base = base → X.N = N → X.env.scope = scope → X.calm = true → X.fn = (fun _ => true) → X.stack = X.env :: X.outer → X.env.frame = some X.env.locals → Room k X.A → Takes X (WD E) → PassesOwn (model X.prog X.w) X.A X.env X.xe → RSs X (WD E) body m) :
    FnOk P w K mg base (L2.CX P w) (k + 1) f fd ps (spP ⟨K, P, w⟩ ps.length (runP N.length m)) := by
  refine F.ok S (fun vs H Q E h => h.1) fun cdv A outer s H vs Q E hr h => ?_
  obtain ⟨hl, ds, fa, h⟩ := h
  refine ⟨_, hb _ E rfl rfl rfl rfl rfl rfl rfl rfl rfl rfl rfl hr (takes_of rfl rfl rfl rfl) (passes_of rfl), dsG ds N.length, [], start_ds fa, List.nodup_nil, ?_⟩
  unfold runP at h
  have sm : ∀ {g' : Ga} {σ' : St} {H' : Hp}, GoS ⟨K, P, w⟩ (dsG ds N.length) (start N vs) [] H g' σ' H' → Same H H' := fun {g' σ' H'} go b o e => go.2.2.elim fun R' z => z.2.2.1 b o e (by simp)
  show match m (dsG ds N.length) with
    | .ok f g' => ∀ σ' H', GoS ⟨K, P, w⟩ (dsG ds N.length) (start N vs) [] H g' σ' H' → f.end ⟨K, P, w⟩ { nx := fun _ H' => Q .non H', rt := Q } σ' H'
    | .exc c g' => ∀ σ' H', GoS ⟨K, P, w⟩ (dsG ds N.length) (start N vs) [] H g' σ' H' → E (.ref (He.ga K c)) none H'
    | .stuck => False
  cases e : m (dsG ds N.length) with
  | stuck => rw [e] at h; exact h
  | exc c g' => rw [e] at h; exact fun σ' H' go => h H' (sm go)
  | ok fl g' =>
    rw [e] at h
    intro σ' H' go
    cases fl with
    | nx => exact h .non H' (sm go) .non
    | brk => exact h.elim
    | cnt => exact h.elim
    | ret x => exact fun v fv => h v H' (sm go) fv
end
/-- the name x stands for a def that is worth f, at level k -/
def Has (P : Program) (w : World) (K : PySem.W.Frag) (mg : Str → Option Value) (base : Heap) (k : Nat) (x : Str) (n : Nat) (f : PF) : Prop :=
  ∃ fa fd ps, FnOk P w K mg base (L2.CX P w) k fa fd ps (spP ⟨K, P, w⟩ n f) ∧ mg x = some (.ref fa) ∧ PySem.W.keepIn K (.ref fa) = true ∧ Binds K fd ps []
theorem Has.mono {P : Program} {w : World} {K : PySem.W.Frag} {mg : Str → Option Value} {base : Heap} {j k : Nat} {x : Str} {n : Nat} {f : PF} (h : Has P w K mg base j x n f) (hk : j ≤ k) : Has P w K mg base k x n f := by
  obtain ⟨fa, fd, ps, F, r⟩ := h
  exact ⟨fa, fd, ps, F.mono hk, r⟩
def rxM (r : Rx) : M D := fun g => match r with
  | .ok x => .ok x g
  | .exc c => .exc c g
  | .stuck => .stuck
def eCall (n : Nat) (f : PF) (m : M (List D)) : M D := bnd m fun ds => if ds.length = n then rxM (f ds) else fun _ => .stuck
section
variable {X : Cx} {W : WX} {e : Expr} {es : List Expr} {pos : Pos}
theorem call_of {n : Nat} {f : PF} {m : M (List D)} {σ : St} {H : Hp} {Q : VK} (h : tD X.KF W (eCall n f m) σ H Q) : tAD X.KF W m σ H fun vs H1 => spP X.KF n f vs H1 Q (WE W σ) :=
  tG_mono (tG_bind (rep1 := FzAll X.KF) h) fun vs H1 _ ⟨ds, fa, q⟩ => by
    by_cases hl : ds.length = n
    · rw [if_pos hl] at q
      refine ⟨by rw [fa.length]; exact hl, ds, fa, ?_⟩
      obtain ⟨g, R, s, n, q⟩ := q
      unfold rxM at q
      cases ef : f ds with
      | stuck => rw [ef] at q; exact q
      | exc c => rw [ef] at q; exact fun H' sm => q H' (Go.same s n sm)
      | ok x => rw [ef] at q; exact fun v H' sm fv => q v H' (Go.same s n sm) fv
    · rw [if_neg hl] at q
      obtain ⟨_, _, _, _, q⟩ := q
      exact q.elim
theorem r_call {k n : Nat} {x : Str} {f : PF} {m : M (List D)} {p : Pos} (F : Has X.prog X.w X.K X.mg X.base k x n f) (hr : Room k X.A) (tk : Takes X W) (ha : RA X W (e :: es) m) (hg : Gl X x := by rfl) (hdb : (x == ("__debug__" : Str)) = false := by decide)
    (he : starEach (e :: es) X.env = (false, eval e X.env) :: starEach es X.env := by rfl) (hpl : (backTo pos (starEach es X.env)).any (·.1) = false := by rfl) : RE X W (.Call (.Name x p) (e :: es) [] pos) (eCall n f m) := by
  obtain ⟨fa, fd, ps, F, hm, hk, hb⟩ := F
  exact PE.imp (pe_callS F hr hg hm hk hb (fun σ => passAt tk σ) ha hdb he hpl) fun σ H Q h => call_of h
end
/-! ### defs that change one list of the caller's -/
inductive Rb where
  | ok (x : D) (zs : List D)
  | exc (c : Str) (zs : List D)
  | stuck
abbrev BF := List D → List D → List D → Rb
def spB (K : KF) (np nq : Nat) (f : BF) : Sp := fun vs H Q E => ∃ us p ws lv xs zs ys, vs = us ++ .ref p :: ws ∧ us.length = np ∧ ws.length = nq ∧ FzAll K H us xs ∧ H p = some (.lst lv) ∧ FzAll K H lv zs ∧ FzAll K H ws ys ∧ match f xs zs ys with
  | .ok x zs' => ∀ v H' lv', Ext [p] H H' → H' p = some (.lst lv') → FzAll K H' lv' zs' → Fz K H' v x → Q v H'
  | .exc c zs' => ∀ H' lv', Ext [p] H H' → H' p = some (.lst lv') → FzAll K H' lv' zs' → E (.ref (He.ga K c)) none H'
  | .stuck => False
def bG (xs zs ys : List D) (k : Nat) : Ga := xs.map (fun x => some (.d x)) ++ some (.ml true zs) :: (ys.map (fun x => some (.d x)) ++ List.replicate (k - (xs.length + (ys.length + 1))) none)
def outB (np : Nat) (g : Ga) : Option (List D) := match g[np]? with
  | some (some (.ml true zs)) => some zs
  | _ => none
def runB (np k : Nat) (m : M Fl) : BF := fun xs zs ys => match m (bG xs zs ys k) with
  | .ok (.ret x) g => (match outB np g with
    | some zs' => .ok x zs'
    | none => .stuck)
  | .ok .nx g => (match outB np g with
    | some zs' => .ok .none zs'
    | none => .stuck)
  | .ok _ _ => .stuck
  | .exc c g => (match outB np g with
    | some zs' => .exc c zs'
    | none => .stuck)
  | .stuck => .stuck
theorem start_b {K : KF} {H : Hp} {N : List Str} {us ws lv : List V} {p : Addr} {xs zs ys : List D} (f1 : FzAll K H us xs) (hp : H p = some (.lst lv)) (f2 : FzAll K H lv zs) (f3 : FzAll K H ws ys) : SRep K H (start N (us ++ .ref p :: ws)) (bG xs zs ys N.length) [p] := by
  unfold L2.start bG
  rw [List.map_append, List.length_append, List.length_cons, f1.length, f3.length, List.append_assoc]
  exact SRep.ofDs (.cons (rt := [p]) (R := []) (.ml hp f2) (SRep.ofDs (SRep.nones _) f3)) f1
theorem bor_b {xs zs ys : List D} {k : Nat} : (bG xs zs ys k)[xs.length]? = some (some (.ml true zs)) := by
  unfold bG
  rw [List.getElem?_append_right (by simp)]
  simp
section
variable {P : Program} {w : World} {K : PySem.W.Frag} {mg : Str → Option Value} {base : Heap}
theorem end_b {N : List Str} {us ws : List V} {p : Addr} {xs zs ys : List D} {H H' : Hp} {g' : Ga} {σ' : St} {zs' : List D} {np : Nat} (hx : us.length = np) (f1 : FzAll ⟨K, P, w⟩ H us xs) (go : GoS ⟨K, P, w⟩ (bG xs zs ys N.length) (start N (us ++ .ref p :: ws)) [p] H g' σ' H') (eo : outB np g' = some zs') :
    ∃ lv', Ext [p] H H' ∧ H' p = some (.lst lv') ∧ FzAll ⟨K, P, w⟩ H' lv' zs' := by
  obtain ⟨bk, kp, R', s', n', e', w'⟩ := go
  unfold outB at eo
  split at eo
  · rename_i q
    cases eo
    obtain ⟨v, rt, h1, h2, h3⟩ := s'.get q
    have hlen : xs.length = np := by rw [← f1.length]; exact hx
    have k1 := kp np _ (by rw [← hlen]; exact bor_b) rfl
    have e0 : (start N (us ++ V.ref p :: ws))[np]? = some (some (.ref p)) := by
      unfold L2.start
      rw [List.map_append, List.append_assoc, List.getElem?_append_right (by simp [hx])]
      simp [hx]
    rw [k1, e0] at h1
    cases h1
    cases h2 with
    | ml h4 h5 => exact ⟨_, e', h4, h5⟩
  · cases eo
theorem fn_ref {x qual : Str} {params : Arguments} {body : List Stmt} {scope : Scope} {f : Addr} {fd : FuncData} {N ps : List Str} {k np nq : Nat} {m : M Fl} (F : FunD K x qual params body scope [] [] f fd) (S : FnScope N ps scope) (hn : np + (nq + 1) = ps.length)
    (hb : ∀ (X : Cx) (E : XK), X.prog = P → X.w = w → X.K = K → X.mg = mg → X.base = base → X.N = N → X.env.scope = scope → X.calm = true → X.fn = (fun _ => true) → X.stack = X.env :: X.outer → X.env.frame = some X.env.locals → Room k X.A → Takes X (WD E) → PassesOwn (model X.prog X.w) X.A X.env X.xe → RSs X (WD E) body m) :
    FnOk P w K mg base (L2.CX P w) (k + 1) f fd ps (spB ⟨K, P, w⟩ np nq (runB np N.length m)) := by
  refine F.ok S (fun vs H Q E h => ?_) fun cdv A outer s H vs Q E hr h => ?_
  · obtain ⟨us, p, ws, lv, xs, zs, ys, e1, e2, e3, _⟩ := h
    rw [e1, List.length_append, List.length_cons]
    omega
  · obtain ⟨us, p, ws, lv, xs, zs, ys, e1, e2, e3, f1, hp, f2, f3, h⟩ := h
    subst e1
    refine ⟨_, hb _ E rfl rfl rfl rfl rfl rfl rfl rfl rfl rfl rfl hr (takes_of rfl rfl rfl rfl) (passes_of rfl), bG xs zs ys N.length, [p], start_b f1 hp f2 f3, by simp, ?_⟩
    unfold runB at h
    show match m (bG xs zs ys N.length) with
      | .ok f g' => ∀ σ' H', GoS ⟨K, P, w⟩ (bG xs zs ys N.length) (start N (us ++ V.ref p :: ws)) [p] H g' σ' H' → f.end ⟨K, P, w⟩ { nx := fun _ H' => Q .non H', rt := Q } σ' H'
      | .exc c g' => ∀ σ' H', GoS ⟨K, P, w⟩ (bG xs zs ys N.length) (start N (us ++ V.ref p :: ws)) [p] H g' σ' H' → E (.ref (He.ga K c)) none H'
      | .stuck => False
    cases e : m (bG xs zs ys N.length) with
    | stuck => rw [e] at h; exact h
    | exc c g' =>
      rw [e] at h
      dsimp only at h
      cases eo : outB np g' with
      | none => rw [eo] at h; exact h.elim
      | some zs' =>
        rw [eo] at h
        intro σ' H' go
        obtain ⟨lv', z1, z2, z3⟩ := end_b e2 f1 go eo
        exact h H' lv' z1 z2 z3
    | ok fl g' =>
      rw [e] at h
      cases fl with
      | brk => exact h.elim
      | cnt => exact h.elim
      | nx =>
        dsimp only at h
        cases eo : outB np g' with
        | none => rw [eo] at h; exact h.elim
        | some zs' =>
          rw [eo] at h
          intro σ' H' go
          obtain ⟨lv', z1, z2, z3⟩ := end_b e2 f1 go eo
          exact h .non H' lv' z1 z2 z3 .non
      | ret y =>
        dsimp only at h
        cases eo : outB np g' with
        | none => rw [eo] at h; exact h.elim
        | some zs' =>
          rw [eo] at h
          intro σ' H' go v fv
          obtain ⟨lv', z1, z2, z3⟩ := end_b e2 f1 go eo
          exact h v H' lv' z1 z2 z3 fv
end
def HasB (P : Program) (w : World) (K : PySem.W.Frag) (mg : Str → Option Value) (base : Heap) (k : Nat) (x : Str) (np nq : Nat) (f : BF) : Prop :=
  ∃ fa fd ps, FnOk P w K mg base (L2.CX P w) k fa fd ps (spB ⟨K, P, w⟩ np nq f) ∧ mg x = some (.ref fa) ∧ PySem.W.keepIn K (.ref fa) = true ∧ Binds K fd ps []
theorem HasB.mono {P : Program} {w : World} {K : PySem.W.Frag} {mg : Str → Option Value} {base : Heap} {j k : Nat} {x : Str} {np nq : Nat} {f : BF} (h : HasB P w K mg base j x np nq f) (hk : j ≤ k) : HasB P w K mg base k x np nq f := by
  obtain ⟨fa, fd, ps, F, r⟩ := h
  exact ⟨fa, fd, ps, F.mono hk, r⟩
/-- values, the list in slot i, values -/
def eCB (np nq : Nat) (f : BF) (i : Nat) (mq : M (List D)) : List D → List (M D) → M D
  | xs, m :: ms => bnd m fun x => eCB np nq f i mq (xs ++ [x]) ms
  | xs, [] => fun g => if isMl g i = true ∧ xs.length = np then (match mq g with
    | .ok ys g1 => if ys.length = nq then (match g1[i]? with
      | some (some (.ml b zs)) => (match f xs zs ys with
        | .ok y zs' => .ok y (g1.set i (some (.ml b zs')))
        | .exc c zs' => .exc c (g1.set i (some (.ml b zs')))
        | .stuck => .stuck)
      | _ => .stuck) else .stuck
    | .exc c g1 => .exc c g1
    | .stuck => .stuck) else .stuck
def tPre (K : KF) (W : WX) : List (M D) → Nat → M (List D) → TA
  | [], i, mq => tCons (tVar i) (tAD K W mq)
  | m :: ms, i, mq => tCons (tD K W m) (tPre K W ms i mq)
section
variable {X : Cx} {W : WX} {e : Expr} {es : List Expr} {pos : Pos}
def RB (X : Cx) (W : WX) (es : List Expr) (ms : List (M D)) (i : Nat) (mq : M (List D)) : Prop := PA X es (tPre X.KF W ms i mq)
theorem r_b0 {i : Nat} {x : Str} {np : Pos} {mq : M (List D)} (hq : RA X W es mq) (hN : X.N[i]? = some x := by rfl) (hv : Vis X.env.scope x := by first | exact Or.inl rfl | exact Or.inr (Or.inl rfl) | exact Or.inr (Or.inr rfl)) (hd : (x == ("__debug__" : Str)) = false := by decide)
    (hcd : (x == ("__classdict__" : Str)) = false := by decide) (hs : starEach (.Name x np :: es) X.env = (false, eval (.Name x np) X.env) :: starEach es X.env := by rfl) : RB X W (.Name x np :: es) [] i mq := pa_cons (pe_var hN hv hd hcd) hq hs
theorem r_bc {i : Nat} {m : M D} {ms : List (M D)} {mq : M (List D)} (h : RE X W e m) (hr : RB X W es ms i mq) (hs : starEach (e :: es) X.env = (false, eval e X.env) :: starEach es X.env := by rfl) : RB X W (e :: es) (m :: ms) i mq := pa_cons h hr hs
theorem cb_of {np nq : Nat} {f : BF} {i : Nat} {mq : M (List D)} {σ : St} {Q : VK} : ∀ (ms : List (M D)) (us : List V) (xs : List D) (H : Hp), FzAll X.KF H us xs → tD X.KF W (eCB np nq f i mq xs ms) σ H Q → tPre X.KF W ms i mq σ H fun vs H1 => spB X.KF np nq f (us ++ vs) H1 Q (WE W σ)
  | m :: ms, us, xs, H, fa, h => by
    refine tG_mono (tG_bind (rep1 := Fz X.KF) h) fun v H1 pe ⟨x, fx, q⟩ => ?_
    have := cb_of ms (us ++ [v]) (xs ++ [x]) H1 ((fa.pers pe).append (.cons fx .nil)) q
    simpa only [List.append_assoc, List.singleton_append] using this
  | [], us, xs, H, fa, h => by
    obtain ⟨g, R, s, n, h⟩ := h
    unfold eCB at h
    by_cases hm : isMl g i = true ∧ xs.length = np
    · rw [if_pos hm] at h
      obtain ⟨p, lv0, h1, h2⟩ := s.mlv n hm.1
      refine ⟨.ref p, h1, g, R, s, n, ?_⟩
      cases e : mq g with
      | stuck => rw [e] at h; exact h
      | exc c g' => rw [e] at h; exact h
      | ok ys g1 =>
        rw [e] at h
        dsimp only at h
        intro ws H1 go fw
        obtain ⟨bk, R1, s1, n1, e1, w1⟩ := go
        by_cases hl : ys.length = nq
        · rw [if_pos hl] at h
          cases eg : g1[i]? with
          | none => rw [eg] at h; exact h.elim
          | some o =>
            cases o with
            | none => rw [eg] at h; exact h.elim
            | some t =>
              cases t with
              | d z => rw [eg] at h; exact h.elim
              | md _ _ _ => rw [eg] at h; exact h.elim
              | mf _ _ => rw [eg] at h; exact h.elim
              | ob _ _ _ => rw [eg] at h; exact h.elim
              | ml b zs =>
                rw [eg] at h
                dsimp only at h
                obtain ⟨p', lv, q1, q2, q3, q4, q5⟩ := s1.put n1 eg
                rw [h1] at q1
                cases q1
                refine ⟨us, p, ws, lv, xs, zs, ys, rfl, by rw [fa.length]; exact hm.2, by rw [fw.length]; exact hl, fa.pers (e1.pers s.live), q2, q3, fw, ?_⟩
                -- behind the call
                have fin : ∀ {H' : Hp} {lv' : List V} {zs' : List D}, Ext [p] H1 H' → H' p = some (.lst lv') → FzAll X.KF H' lv' zs' → Go X.KF σ R H g (g1.set i (some (.ml b zs'))) H' := fun {H' lv' zs'} x1 x2 x3 => by
                  have lvp : Live [p] H1 := fun a ha o ho => by
                    rw [List.mem_singleton] at ha
                    subst ha
                    rw [q2] at ho
                    cases ho
                    rfl
                  have pe : Pers H1 H' := x1.pers lvp
                  obtain ⟨R', s', sb⟩ := q5 H' (.ml b zs') [p] pe (fun c hc hn => by
                    cases q : H1 c with
                    | none => exact absurd q (s1.root_some c hc)
                    | some o => exact x1 c o q (by simpa using hn)) (.ml x2 x3) (List.Sublist.refl _)
                  have go1 : Go X.KF σ R1 H1 g1 (g1.set i (some (.ml b zs'))) H' := ⟨fun j t ej bb => by
                    by_cases hj : i = j
                    · subst hj
                      rw [eg] at ej
                      cases ej
                      exact ⟨_, List.getElem?_set_self (List.getElem?_eq_some_iff.mp eg).1, bb⟩
                    · exact ⟨t, by rw [List.getElem?_set_ne hj]; exact ej, bb⟩, R', s', sb.nodup n1, fun c o hc hn => x1 c o hc fun z => by
                      rw [List.mem_singleton] at z
                      subst z
                      exact hn q4, fun c hc => .inl (sb.subset hc)⟩
                  exact go1.then bk e1 w1
                cases ef : f xs zs ys with
                | stuck => rw [ef] at h; exact h
                | exc c zs' => rw [ef] at h; exact fun H' lv' x1 x2 x3 => h H' (fin x1 x2 x3)
                | ok y zs' => rw [ef] at h; exact fun v H' lv' x1 x2 x3 x4 => h v H' (fin x1 x2 x3) x4
        · rw [if_neg hl] at h
          exact h.elim
    · rw [if_neg hm] at h
      exact h.elim
theorem r_callB {k np nq : Nat} {x : Str} {f : BF} {ms : List (M D)} {i : Nat} {mq : M (List D)} {p : Pos} (F : HasB X.prog X.w X.K X.mg X.base k x np nq f) (hr : Room k X.A) (tk : Takes X W) (ha : RB X W (e :: es) ms i mq) (hg : Gl X x := by rfl) (hdb : (x == ("__debug__" : Str)) = false := by decide)
    (he : starEach (e :: es) X.env = (false, eval e X.env) :: starEach es X.env := by rfl) (hpl : (backTo pos (starEach es X.env)).any (·.1) = false := by rfl) : RE X W (.Call (.Name x p) (e :: es) [] pos) (eCB np nq f i mq [] ms) := by
  obtain ⟨fa, fd, ps, F, hm, hk, hb⟩ := F
  exact PE.imp (pe_callS F hr hg hm hk hb (fun σ => passAt tk σ) ha hdb he hpl) fun σ H Q h => cb_of ms [] [] H .nil h
end
section
variable {X : Cx} {W : WX} {pins : List (Addr × Obj)} {σ : St} {H : Hp} {s : Shared} {Q : VK}
/-! ### new things -/
theorem ep_list (I : Inv X pins σ H s) {us : List V} {its : List Value} {ds : List D} {t : Nat} (r : Vals us its) (f : FzAll X.KF H us ds) (hz : us.length ≤ sizeLine) (q : ∀ b H', Same H H' → Fz X.KF H' b (.list ds) → Q b H') :
    EP X pins σ Q (.ref s.heap.objs.size) { s with heap := s.heap.push { cls := .type "list", data := .seq its.toArray }, toks := t } := by
  obtain ⟨od, I2⟩ := (I.lnew (t' := t) r hz).lock upd_same trivial
  obtain ⟨h1, h2⟩ := fz_new (o := od) I.fresh f
  exact ⟨.ref _, _, I2, rfl, q _ _ h1 h2⟩
theorem ep_tup (I : Inv X pins σ H s) {us : List V} {its : List Value} {ds : List D} {t : Nat} (r : Vals us its) (f : FzAll X.KF H us ds) (hz : us.length ≤ sizeLine) (q : ∀ b H', Same H H' → Fz X.KF H' b (.tuple ds) → Q b H') :
    EP X pins σ Q (.ref s.heap.objs.size) { s with heap := s.heap.push { cls := .type "tuple", data := .seq its.toArray }, toks := t } := by
  have sm := Same.upd (o := tupO { cls := .type "tuple", data := .seq its.toArray } us) I.fresh
  exact ⟨.ref _, _, I.laid (a := s.heap.objs.size) (t' := t) (fun b u e => Heap.get?_push_of_some _ e) (Nat.le_refl _) (tupO_ok (Heap.get?_push_size _ rfl) rfl rfl r hz), rfl, q _ _ sm (.tup (.new rfl) (f.pers (.of_same sm)))⟩
theorem reads_of (I : Inv X pins σ H s) {v : V} {u : Value} {x : D} (r : RelV v u) (f : Fz X.KF H v x) (hp : x.plain = true) : ∃ as, Reads s.heap u x as := Dp.reads I x v u (f.dp hp) r
theorem readsAll_of (I : Inv X pins σ H s) {vs : List V} {us : List Value} {xs : List D} (r : Vals vs us) (f : FzAll X.KF H vs xs) (hp : PyData.plainAll xs = true) : ∃ as, ReadsAll s.heap us xs as := Dp.readsAll I xs vs us (f.dp hp) r
/-! ### + -/
def addD : D → D → Option D
  | .int i, .int j => some (.int (i + j))
  | .str x, .str y => if x.length + y.length ≤ sizeLine then some (.str (x ++ y)) else none
  | .list xs, .list ys => if xs.length + ys.length ≤ sizeLine then some (.list (xs ++ ys)) else none
  | .tuple xs, .tuple ys => if xs.length + ys.length ≤ sizeLine then some (.tuple (xs ++ ys)) else none
  | _, _ => none
theorem add_listsI {l b : Addr} {vs ws : List Value} {Q : Value → Shared → Prop} {E : Value → Shared → Prop} {prog : Program} {w : World} {A : Around} (hl : s.heap.IsList l vs.toArray) (hb : s.heap.IsList b ws.toArray)
    (h : Q (.ref s.heap.objs.size) { s with heap := s.heap.push { cls := .type "list", data := .seq (vs ++ ws).toArray } }) (hsz : vs.length + ws.length ≤ sizeLine) : wpAny (model prog w) A (binaryOp .Add (.ref l) (.ref b)) Q E s := by
  obtain ⟨⟨cls, dd, data, sl⟩, ho, hc, n, hd⟩ := id hl
  obtain ⟨⟨cls2, dd2, data2, sl2⟩, ho2, hc2, n2, hd2⟩ := id hb
  simp only at hc hd hc2 hd2
  subst hc hd hc2 hd2
  refine concat_meets ⟨_, ho, rfl⟩ ⟨_, ho2, rfl⟩ noFill_list_add seq_list_add PySem.F.slot_list_add PySem.F.entry_list_add (PySem.F.args_list_add_2 _ _) (list_addW l b vs.toArray ws.toArray n n2 dd dd2 sl sl2 (by simpa using hsz)) ⟨ho, ho2, ?_⟩
  rw [show vs.toArray ++ ws.toArray = (vs ++ ws).toArray by simp]
  exact h
theorem o_add : OpR X (binaryOp .Add) (rO2 X.KF addD) := by
  intro pins s σ H x y v u Q I rx ry ⟨dx, dy, fx, fy, c, e, q⟩
  cases fx with
  | int i =>
    cases fy with
    | int j => cases e; exact op_add pins s σ H _ _ v u Q I rx ry ⟨i, j, rfl, rfl, q _ _ (Same.refl _) (.int _)⟩
    | _ => cases e
  | str i =>
    cases fy with
    | str j =>
      simp only [addD] at e
      split at e
      · rename_i hz
        cases e
        exact op_add_str pins s σ H _ _ v u Q I rx ry ⟨i, j, rfl, rfl, hz, q _ _ (Same.refl _) (.str _)⟩
      · cases e
    | _ => cases e
  | lst h a =>
    cases fy with
    | lst h2 a2 =>
      simp only [addD] at e
      split at e
      · rename_i hz
        cases e
        cases rx
        cases ry
        obtain ⟨its, r1, p1, _⟩ := I.list h.sq
        obtain ⟨its2, r2, p2, _⟩ := I.list h2.sq
        have l1 := r1.length
        have l2 := r2.length
        have l3 := a.length
        have l4 := a2.length
        exact add_listsI p1.isList p2.isList (ep_list I (r1.append r2) (a.append a2) (by rw [List.length_append]; omega) q) (by omega)
      · cases e
    | _ => cases e
  | tup h a =>
    cases fy with
    | tup h2 a2 =>
      simp only [addD] at e
      split at e
      · rename_i hz
        cases e
        have l3 := a.length
        have l4 := a2.length
        cases rx
        cases ry
        obtain ⟨its, r1, p1, _⟩ := I.tuple h.sq
        obtain ⟨its2, r2, p2, _⟩ := I.tuple h2.sq
        have l1 := r1.length
        have l2 := r2.length
        cases a with
        | nil =>
          cases r1
          exact cat_tup0 p1 p2 ⟨.ref _, H, I, rfl, q _ _ (Same.refl _) (.tup h2 a2)⟩
        | cons b1 b2 =>
          cases a2 with
          | nil =>
            cases r2
            rw [List.append_nil] at q
            refine HT.cat_tup p1 p2 (by cases r1; simp) (fun _ => ⟨.ref _, H, I, rfl, q _ _ (Same.refl _) (.tup h (.cons b1 b2))⟩) (fun z => absurd rfl z) ?_
            simp only [List.length_nil]
            omega
          | cons c1 c2 =>
            refine HT.cat_tup p1 p2 (by cases r1; simp) (fun z => by cases r2; simp at z) (fun _ => ?_) (by omega)
            exact ep_tup (t := s.toks) I (r1.append r2) (FzAll.append (.cons b1 b2) (.cons c1 c2)) (by rw [List.length_append]; omega) q
      · cases e
    | _ => cases e
  | _ => cases e
/-! ### - * // % of ints; a list times an int -/
def subD : D → D → Option D
  | .int i, .int j => some (.int (i - j))
  | _, _ => none
theorem o_sub : OpR X (binaryOp .Sub) (rO2 X.KF subD) := by
  intro pins s σ H x y v u Q I rx ry ⟨dx, dy, fx, fy, c, e, q⟩
  cases fx with
  | int i =>
    cases fy with
    | int j => cases e; exact op_sub pins s σ H _ _ v u Q I rx ry ⟨i, j, rfl, rfl, q _ _ (Same.refl _) (.int _)⟩
    | _ => cases e
  | _ => cases e
def mulOk (i j : Int) : Bool := (decide (-(2 ^ 64) < i) && decide (i < 2 ^ 64)) || (decide (-(2 ^ 64) < j) && decide (j < 2 ^ 64))
def mulD : D → D → Option D
  | .int i, .int j => if mulOk i j = true then some (.int (i * j)) else none
  | .list xs, .int k => if (decide (-(2 ^ 63) ≤ k) && decide (k < 2 ^ 63) && decide (xs.length * k.toNat ≤ 2 ^ 24)) = true then some (.list (List.replicate k.toNat xs).flatten) else none
  | _, _ => none
theorem FzAll.rep {K : KF} {H : Hp} {vs : List V} {ds : List D} (h : FzAll K H vs ds) : ∀ k : Nat, FzAll K H (List.replicate k vs).flatten (List.replicate k ds).flatten
  | 0 => .nil
  | k + 1 => by
    rw [List.replicate_succ, List.replicate_succ, List.flatten_cons, List.flatten_cons]
    exact h.append (FzAll.rep h k)
theorem mul_listI {l : Addr} {vs : List Value} {x : Int} {u : Tok} {Q : Value → Shared → Prop} {E : Value → Shared → Prop} {prog : Program} {w : World} {A : Around} (hl : s.heap.IsList l vs.toArray) (hlo : -(2 ^ 63 : Int) ≤ x) (hhi : x < 2 ^ 63) (hsz : vs.length * x.toNat ≤ 2 ^ 24)
    (h : Q (.ref s.heap.objs.size) { s with heap := s.heap.push { cls := .type "list", data := .seq (List.replicate x.toNat vs).flatten.toArray } }) : wpAny (model prog w) A (binaryOp .Mult (.ref l) (.int x u)) Q E s := by
  obtain ⟨⟨cls, d, data, sl⟩, ho, hcl, k, hd⟩ := id hl
  simp only at hcl hd
  subst hcl hd
  have hsz' : vs.toArray.size * x.toNat ≤ 2 ^ 24 := by simpa using hsz
  refine wpAny_binaryOp_repeat_ref (T := "list") (U := "int") (by decide) ⟨_, ho, rfl⟩ (fun s' => typeIs_int s' x u) noFill_list_mul F.fills_int_mul F.slot_int_rmul repeat_list F.slot_int_index.lookup
    (call_meets F.slot_int_rmul (typeIs_int s x u) F.entry_int_rmul (F.args_int_rmul_2 _ _) (lm_int_rmul_list_any x u l vs.toArray k d sl)
      ⟨ho, rfl, ⟨_, ho, rfl⟩, call_meets F.slot_list_mul ⟨_, ho, rfl⟩ F.entry_list_mul (F.args_list_mul_2 _ _)
        (lm_list_mul_any l vs.toArray k d sl x u (by simp [Builtin.List.listFitsIndex]; omega) (by omega) (by simp [Builtin.List.listTooLong, sizeLine]; omega))
        ⟨ho, ?_⟩⟩)
  rw [listMul_foldl_if]
  exact h
theorem len_rep {α : Type} (xs : List α) : ∀ k : Nat, (List.replicate k xs).flatten.length = xs.length * k
  | 0 => by simp
  | k + 1 => by rw [List.replicate_succ, List.flatten_cons, List.length_append, len_rep xs k, Nat.mul_succ]; omega
theorem o_mul : OpR X (binaryOp .Mult) (rO2 X.KF mulD) := by
  intro pins s σ H x y v u Q I rx ry ⟨dx, dy, fx, fy, c, e, q⟩
  cases fx with
  | int i =>
    cases fy with
    | int j =>
      simp only [mulD] at e
      split at e
      · rename_i hm
        cases e
        refine op_mul pins s σ H _ _ v u Q I rx ry ⟨i, j, rfl, rfl, ?_, q _ _ (Same.refl _) (.int _)⟩
        simp only [mulOk, Bool.or_eq_true, Bool.and_eq_true, decide_eq_true_eq] at hm
        exact hm
      · cases e
    | _ => cases e
  | lst h a =>
    cases fy with
    | int k =>
      simp only [mulD] at e
      split at e
      · rename_i hm
        simp only [Bool.and_eq_true, decide_eq_true_eq] at hm
        cases e
        cases rx
        obtain ⟨t, rfl⟩ := ry
        obtain ⟨its, r1, p1, _⟩ := I.list h.sq
        have l1 := r1.length
        have l3 := a.length
        refine mul_listI p1.isList hm.1.1 hm.1.2 (by rw [← l1, l3]; exact hm.2) (ep_list I (r1.rep k.toNat) (a.rep k.toNat) ?_ q)
        rw [len_rep, l3, sizeLine_eq]
        exact hm.2
      · cases e
    | _ => cases e
  | _ => cases e
def fdivD : D → D → Option D
  | .int i, .int j => if (decide (j ≠ 0) && decide (j.natAbs < 1073741824)) = true then some (.int (i.fdiv j)) else none
  | _, _ => none
theorem o_fdiv : OpR X (binaryOp .FloorDiv) (rO2 X.KF fdivD) := by
  intro pins s σ H x y v u Q I rx ry ⟨dx, dy, fx, fy, c, e, q⟩
  cases fx with
  | int i =>
    cases fy with
    | int j =>
      simp only [fdivD] at e
      split at e
      · rename_i hm
        simp only [Bool.and_eq_true, decide_eq_true_eq] at hm
        cases e
        exact op_fdivN pins s σ H _ _ v u Q I rx ry ⟨i, j, rfl, rfl, hm, q _ _ (Same.refl _) (.int _)⟩
      · cases e
    | _ => cases e
  | _ => cases e
def modD : D → D → Option D
  | .int i, .int j => if j ≠ 0 then some (.int (i.fmod j)) else none
  | _, _ => none
theorem o_mod : OpR X (binaryOp .Mod) (rO2 X.KF modD) := by
  intro pins s σ H x y v u Q I rx ry ⟨dx, dy, fx, fy, c, e, q⟩
  cases fx with
  | int i =>
    cases fy with
    | int j =>
      simp only [modD] at e
      split at e
      · rename_i hm
        cases e
        exact op_modN pins s σ H _ _ v u Q I rx ry ⟨i, j, rfl, rfl, hm, q _ _ (Same.refl _) (.int _)⟩
      · cases e
    | _ => cases e
  | _ => cases e
def negD : D → Option D
  | .int i => some (.int (-i))
  | _ => none
theorem u_neg : UnR X (unaryOp .USub) (rO1 X.KF negD) := by
  intro pins s σ H x v Q I rx ⟨dx, fx, c, e, q⟩
  cases fx with
  | int i => cases e; exact un_neg pins s σ H _ v Q I rx ⟨i, rfl, q _ _ (Same.refl _) (.int _)⟩
  | _ => cases e
/-! ### comparisons -/
def cmpOk (x y : D) : Bool := x.plain && (y.plain && decide (x.depth ≤ 60))
def eqD (x y : D) : Option D := if cmpOk x y = true then some (.bool (PyData.eqv x y)) else none
def neD (x y : D) : Option D := if cmpOk x y = true then some (.bool (!PyData.eqv x y)) else none
theorem o_eq (hu : X.A.units + 64 < cLine) : OpR X (compareOp .Eq) (rO2 X.KF eqD) := by
  intro pins s σ H x y v u Q I rx ry ⟨dx, dy, fx, fy, c, e, q⟩
  unfold eqD at e
  split at e
  · rename_i hm
    simp only [cmpOk, Bool.and_eq_true, decide_eq_true_eq] at hm
    cases e
    obtain ⟨as, ra⟩ := reads_of I rx fx hm.1
    obtain ⟨bs, rb⟩ := reads_of I ry fy hm.2.1
    exact SeqAt.eq_plain ra rb hm.1 hm.2.1 (by have := Nat.min_le_left dx.depth dy.depth; omega) ⟨.bl _, H, I, rfl, q _ _ (Same.refl _) (.bl _)⟩
  · cases e
theorem o_ne (hu : X.A.units + 64 < cLine) : OpR X (compareOp .NotEq) (rO2 X.KF neD) := by
  intro pins s σ H x y v u Q I rx ry ⟨dx, dy, fx, fy, c, e, q⟩
  unfold neD at e
  split at e
  · rename_i hm
    simp only [cmpOk, Bool.and_eq_true, decide_eq_true_eq] at hm
    cases e
    obtain ⟨as, ra⟩ := reads_of I rx fx hm.1
    obtain ⟨bs, rb⟩ := reads_of I ry fy hm.2.1
    exact SeqAt.ne_plain ra rb hm.1 hm.2.1 (by have := Nat.min_le_left dx.depth dy.depth; omega) ⟨.bl _, H, I, rfl, q _ _ (Same.refl _) (.bl _)⟩
  · cases e
def isNo : D → Bool
  | .none => true
  | _ => false
theorem isNo_ne {x : D} (h : isNo x = false) : x ≠ .none := by
  rintro rfl
  cases h
def ordOk (x y : D) : Bool := x.plain && (y.plain && (decide (x.depth ≤ 60) && (PySem.W.alike x y && !isNo x)))
def ltD (x y : D) : Option D := if ordOk x y = true then some (.bool (PySem.W.dataLt x y)) else none
def gtD (x y : D) : Option D := if ordOk x y = true then some (.bool (PySem.W.dataLt y x)) else none
def leD (x y : D) : Option D := if ordOk x y = true then some (.bool (!PySem.W.dataLt y x)) else none
theorem ordOk_inv {x y : D} (h : ordOk x y = true) : x.plain = true ∧ y.plain = true ∧ x.depth ≤ 60 ∧ PySem.W.alike x y = true ∧ x ≠ .none := by
  simp only [ordOk, Bool.and_eq_true, decide_eq_true_eq, Bool.not_eq_true'] at h
  exact ⟨h.1, h.2.1, h.2.2.1, h.2.2.2.1, isNo_ne h.2.2.2.2⟩
theorem o_lt (hu : X.A.units + 64 < cLine) : OpR X (compareOp .Lt) (rO2 X.KF ltD) := by
  intro pins s σ H x y v u Q I rx ry ⟨dx, dy, fx, fy, c, e, q⟩
  unfold ltD at e
  split at e
  · rename_i hm
    obtain ⟨m1, m2, m3, m4, m5⟩ := ordOk_inv hm
    cases e
    obtain ⟨as, ra⟩ := reads_of I rx fx m1
    obtain ⟨bs, rb⟩ := reads_of I ry fy m2
    exact PySem.W.lt_data ra rb m4 m5 (by have := Nat.min_le_left dx.depth dy.depth; omega) ⟨.bl _, H, I, rfl, q _ _ (Same.refl _) (.bl _)⟩
  · cases e
theorem o_gt (hu : X.A.units + 64 < cLine) : OpR X (compareOp .Gt) (rO2 X.KF gtD) := by
  intro pins s σ H x y v u Q I rx ry ⟨dx, dy, fx, fy, c, e, q⟩
  unfold gtD at e
  split at e
  · rename_i hm
    obtain ⟨m1, m2, m3, m4, m5⟩ := ordOk_inv hm
    cases e
    obtain ⟨as, ra⟩ := reads_of I rx fx m1
    obtain ⟨bs, rb⟩ := reads_of I ry fy m2
    exact PySem.W.gt_data ra rb m4 m5 (by have := Nat.min_le_left dx.depth dy.depth; omega) ⟨.bl _, H, I, rfl, q _ _ (Same.refl _) (.bl _)⟩
  · cases e
theorem o_le (hu : X.A.units + 64 < cLine) : OpR X (compareOp .LtE) (rO2 X.KF leD) := by
  intro pins s σ H x y v u Q I rx ry ⟨dx, dy, fx, fy, c, e, q⟩
  unfold leD at e
  split at e
  · rename_i hm
    obtain ⟨m1, m2, m3, m4, m5⟩ := ordOk_inv hm
    cases e
    obtain ⟨as, ra⟩ := reads_of I rx fx m1
    obtain ⟨bs, rb⟩ := reads_of I ry fy m2
    exact PySem.W.le_data ra rb m4 m5 (by have := Nat.min_le_left dx.depth dy.depth; omega) ⟨.bl _, H, I, rfl, q _ _ (Same.refl _) (.bl _)⟩
  · cases e
def inB (x : D) (xs : List D) : Bool := xs.any fun y => PyData.eqv y x
def inOk (x : D) (xs : List D) : Bool := x.plain && (PyData.plainAll xs && decide (x.depth ≤ 60))
def inD (x y : D) : Option D := match seqD y with
  | some xs => if inOk x xs = true then some (.bool (inB x xs)) else none
  | none => none
def ninD (x y : D) : Option D := match seqD y with
  | some xs => if inOk x xs = true then some (.bool (!inB x xs)) else none
  | none => none
theorem o_in (hu : X.A.units + 64 < cLine) : OpR X (compareOp .In) (rO2 X.KF inD) := by
  intro pins s σ H x y v u Q I rx ry ⟨dx, dy, fx, fy, c, e, q⟩
  unfold inD at e
  cases fy with
  | lst h a =>
    simp only [seqD] at e
    split at e
    · rename_i xs _ hm
      simp only [inOk, Bool.and_eq_true, decide_eq_true_eq] at hm
      cases e
      obtain ⟨as, ra⟩ := reads_of I rx fx hm.1
      obtain ⟨bs, rb⟩ := reads_of I ry (.lst h a) (by simp only [PyData.plain]; exact hm.2.1)
      exact SeqAt.in_list_data rb ra hm.2.1 hm.1 (Nat.lt_of_le_of_lt (Nat.add_le_add_left (Nat.min_le_right _ _) _) (by omega)) ⟨.bl _, H, I, rfl, q _ _ (Same.refl _) (.bl _)⟩
    · cases e
  | tup h a =>
    simp only [seqD] at e
    split at e
    · rename_i xs _ hm
      simp only [inOk, Bool.and_eq_true, decide_eq_true_eq] at hm
      cases e
      obtain ⟨as, ra⟩ := reads_of I rx fx hm.1
      obtain ⟨bs, rb⟩ := reads_of I ry (.tup h a) (by simp only [PyData.plain]; exact hm.2.1)
      exact SeqAt.in_tuple_data rb ra hm.2.1 hm.1 (Nat.lt_of_le_of_lt (Nat.add_le_add_left (Nat.min_le_right _ _) _) (by omega)) ⟨.bl _, H, I, rfl, q _ _ (Same.refl _) (.bl _)⟩
    · cases e
  | _ => cases e
theorem o_nin (hu : X.A.units + 64 < cLine) : OpR X (compareOp .NotIn) (rO2 X.KF ninD) := by
  intro pins s σ H x y v u Q I rx ry ⟨dx, dy, fx, fy, c, e, q⟩
  unfold ninD at e
  cases fy with
  | lst h a =>
    simp only [seqD] at e
    split at e
    · rename_i xs _ hm
      simp only [inOk, Bool.and_eq_true, decide_eq_true_eq] at hm
      cases e
      obtain ⟨as, ra⟩ := reads_of I rx fx hm.1
      obtain ⟨bs, rb⟩ := reads_of I ry (.lst h a) (by simp only [PyData.plain]; exact hm.2.1)
      exact SeqAt.notIn_list_data rb ra hm.2.1 hm.1 (Nat.lt_of_le_of_lt (Nat.add_le_add_left (Nat.min_le_right _ _) _) (by omega)) ⟨.bl _, H, I, rfl, q _ _ (Same.refl _) (.bl _)⟩
    · cases e
  | tup h a =>
    simp only [seqD] at e
    split at e
    · rename_i xs _ hm
      simp only [inOk, Bool.and_eq_true, decide_eq_true_eq] at hm
      cases e
      obtain ⟨as, ra⟩ := reads_of I rx fx hm.1
      obtain ⟨bs, rb⟩ := reads_of I ry (.tup h a) (by simp only [PyData.plain]; exact hm.2.1)
      exact SeqAt.notIn_tuple_data rb ra hm.2.1 hm.1 (Nat.lt_of_le_of_lt (Nat.add_le_add_left (Nat.min_le_right _ _) _) (by omega)) ⟨.bl _, H, I, rfl, q _ _ (Same.refl _) (.bl _)⟩
    · cases e
  | _ => cases e
end
section
variable {X : Cx} {W : WX} {pins : List (Addr × Obj)} {σ : St} {H : Hp} {s : Shared} {Q : VK} {e : Expr} {es : List Expr} {pos p : Pos}
/-! ### a call of a builtin, of a type -/
theorem r_blt {x : Str} {id : String} {f : List D → Option D} {m : M (List D)} (hc : CallR X (.builtin id) (rOA X.KF f)) (hm : X.mg x = none) (hv : bootBuiltins x = some (.builtin id)) (ha : RA X W (e :: es) m) (hg : Gl X x := by rfl) (hn : x ≠ "__name__" := by decide) (hdb : (x == ("__debug__" : Str)) = false := by decide)
    (he : starEach (e :: es) X.env = (false, eval e X.env) :: starEach es X.env := by rfl) (hpl : (backTo pos (starEach es X.env)).any (·.1) = false := by rfl) : RE X W (.Call (.Name x p) (e :: es) [] pos) (apA f m) :=
  PE.imp (pe_callB hc hg hm hv ha hn hdb he hpl) fun _ _ _ h => tDA h
theorem r_typ {x : Str} {T : String} {f : List D → Option D} {m : M (List D)} (hc : CallR X (.type T) (rOA X.KF f)) (hm : X.mg x = none) (hv : bootBuiltins x = some (.type T)) (ha : RA X W (e :: es) m) (hg : Gl X x := by rfl) (hn : x ≠ "__name__" := by decide) (hdb : (x == ("__debug__" : Str)) = false := by decide)
    (he : starEach (e :: es) X.env = (false, eval e X.env) :: starEach es X.env := by rfl) (hpl : (backTo pos (starEach es X.env)).any (·.1) = false := by rfl) : RE X W (.Call (.Name x p) (e :: es) [] pos) (apA f m) :=
  PE.imp (pe_callTy hc hg hm hv ha hn hdb he hpl) fun _ _ _ h => tDA h
/-! ### len, abs, int, str -/
def lenD : List D → Option D
  | [.list xs] => some (.int xs.length)
  | [.tuple xs] => some (.int xs.length)
  | [.str z] => if z.length ≤ sizeLine then some (.int z.length) else none
  | _ => none
theorem c_len : CallR X (.builtin "len") (rOA X.KF lenD) := by
  intro pins s σ H xs us Q I r ⟨ds, fa, c, e, q⟩
  unfold lenD at e
  split at e
  · cases fa with | cons f fa => cases fa; cases f with | lst h a => cases e; rw [← a.length] at q; exact call_len_seq pins s σ H _ us Q I r ⟨_, _, rfl, .inl h.sq, q _ _ (Same.refl _) (.int _)⟩
  · cases fa with | cons f fa => cases fa; cases f with | tup h a => cases e; rw [← a.length] at q; exact call_len_seq pins s σ H _ us Q I r ⟨_, _, rfl, .inr h.sq, q _ _ (Same.refl _) (.int _)⟩
  · split at e
    · rename_i hz
      cases fa with | cons f fa => cases fa; cases f with | str z => cases e; exact call_len_str pins s σ H _ us Q I r ⟨_, rfl, hz, q _ _ (Same.refl _) (.int _)⟩
    · cases e
  · cases e
def absD : List D → Option D
  | [.int i] => some (.int (if i < 0 then -i else i))
  | _ => none
theorem c_abs : CallR X (.builtin "abs") (rOA X.KF absD) := by
  intro pins s σ H xs us Q I r ⟨ds, fa, c, e, q⟩
  unfold absD at e
  split at e
  · cases fa with | cons f fa => cases fa; cases f with | int i => cases e; exact call_abs pins s σ H _ us Q I r ⟨_, rfl, q _ _ (Same.refl _) (.int _)⟩
  · cases e
def intD : List D → Option D
  | [.int i] => some (.int i)
  | [.bool k] => some (.int (if k then 1 else 0))
  | _ => none
theorem c_int : CallR X (.type "int") (rOA X.KF intD) := by
  intro pins s σ H xs us Q I r ⟨ds, fa, c, e, q⟩
  unfold intD at e
  split at e
  · cases fa with | cons f fa => cases fa; cases f with | int i => cases e; exact call_int1 pins s σ H _ us Q I r (.inl ⟨_, rfl, q _ _ (Same.refl _) (.int _)⟩)
  · cases fa with | cons f fa => cases fa; cases f with | bl i => cases e; exact call_int1 pins s σ H _ us Q I r (.inr ⟨_, rfl, q _ _ (Same.refl _) (.int _)⟩)
  · cases e
def strD : List D → Option D
  | [.int i] => if i.natAbs.log2 < 1920 then some (.str (toString i)) else none
  | _ => none
theorem c_str : CallR X (.type "str") (rOA X.KF strD) := by
  intro pins s σ H xs us Q I r ⟨ds, fa, c, e, q⟩
  unfold strD at e
  split at e
  · split at e
    · rename_i hz
      cases fa with | cons f fa => cases fa; cases f with | int i => cases e; exact call_str_int pins s σ H _ us Q I r ⟨_, rfl, hz, q _ _ (Same.refl _) (.str _)⟩
    · cases e
  · cases e
/-! ### any, all -/
def fitB : D → Bool
  | .str x => decide (x.length < 9223372036854775808)
  | .list xs => decide (xs.length < 9223372036854775808)
  | .tuple xs => decide (xs.length < 9223372036854775808)
  | _ => true
theorem fitB_ok {x : D} (h : fitB x = true) : x.fits63 := by
  cases x with
  | str x => have h1 : x.length < 9223372036854775808 := of_decide_eq_true h; show ((x.length : Int) < 2 ^ 63); omega
  | list x => have h1 : x.length < 9223372036854775808 := of_decide_eq_true h; show ((x.length : Int) < 2 ^ 63); omega
  | tuple x => have h1 : x.length < 9223372036854775808 := of_decide_eq_true h; show ((x.length : Int) < 2 ^ 63); omega
  | _ => trivial
def anyOk (xs : List D) : Bool := PyData.plainAll xs && xs.all fitB
def anyD : List D → Option D
  | [.list xs] => if anyOk xs = true then some (.bool (xs.any PyData.truthy)) else none
  | [.tuple xs] => if anyOk xs = true then some (.bool (xs.any PyData.truthy)) else none
  | _ => none
def allD : List D → Option D
  | [.list xs] => if anyOk xs = true then some (.bool (xs.all PyData.truthy)) else none
  | [.tuple xs] => if anyOk xs = true then some (.bool (xs.all PyData.truthy)) else none
  | _ => none
theorem anyOk_inv {xs : List D} (h : anyOk xs = true) : PyData.plainAll xs = true ∧ ∀ x ∈ xs, x.fits63 := by
  simp only [anyOk, Bool.and_eq_true, List.all_eq_true] at h
  exact ⟨h.1, fun x hx => fitB_ok (h.2 x hx)⟩
theorem ref1 {a : Addr} {us : List Value} (r : Vals [.ref a] us) : us = [.ref a] := Vals.ref1 r
theorem c_any (hc : X.calm = true) : CallR X (.builtin "any") (rOA X.KF anyD) := by
  intro pins s σ H xs us Q I r ⟨ds, fa, c, e, q⟩
  unfold anyD at e
  split at e
  · split at e
    · rename_i hm
      obtain ⟨m1, m2⟩ := anyOk_inv hm
      cases fa with | cons f fa => cases fa; cases f with | lst h a =>
        cases e
        rw [ref1 r]
        obtain ⟨its, rv, pl, _⟩ := I.list h.sq
        obtain ⟨as, ra⟩ := readsAll_of I rv a m1
        exact PySem.W.any_list_data (I.ok.hd hc) pl.isList ra m1 m2 fun h' tk k => ⟨.bl _, H, I.kept k, rfl, q _ _ (Same.refl _) (.bl _)⟩
    · cases e
  · split at e
    · rename_i hm
      obtain ⟨m1, m2⟩ := anyOk_inv hm
      cases fa with | cons f fa => cases fa; cases f with | tup h a =>
        cases e
        rw [ref1 r]
        obtain ⟨its, rv, pl, _⟩ := I.tuple h.sq
        obtain ⟨as, ra⟩ := readsAll_of I rv a m1
        exact PySem.W.any_tuple_data (I.ok.hd hc) pl ra m1 m2 fun h' tk k => ⟨.bl _, H, I.kept k, rfl, q _ _ (Same.refl _) (.bl _)⟩
    · cases e
  · cases e
theorem c_all (hc : X.calm = true) : CallR X (.builtin "all") (rOA X.KF allD) := by
  intro pins s σ H xs us Q I r ⟨ds, fa, c, e, q⟩
  unfold allD at e
  split at e
  · split at e
    · rename_i hm
      obtain ⟨m1, m2⟩ := anyOk_inv hm
      cases fa with | cons f fa => cases fa; cases f with | lst h a =>
        cases e
        rw [ref1 r]
        obtain ⟨its, rv, pl, _⟩ := I.list h.sq
        obtain ⟨as, ra⟩ := readsAll_of I rv a m1
        exact PySem.W.all_list_data (I.ok.hd hc) pl.isList ra m1 m2 fun h' tk k => ⟨.bl _, H, I.kept k, rfl, q _ _ (Same.refl _) (.bl _)⟩
    · cases e
  · split at e
    · rename_i hm
      obtain ⟨m1, m2⟩ := anyOk_inv hm
      cases fa with | cons f fa => cases fa; cases f with | tup h a =>
        cases e
        rw [ref1 r]
        obtain ⟨its, rv, pl, _⟩ := I.tuple h.sq
        obtain ⟨as, ra⟩ := readsAll_of I rv a m1
        exact PySem.W.all_tuple_data (I.ok.hd hc) pl ra m1 m2 fun h' tk k => ⟨.bl _, H, I.kept k, rfl, q _ _ (Same.refl _) (.bl _)⟩
    · cases e
  · cases e
/-! ### sum, max, min -/
def intsD : List D → Option (List Int)
  | [] => some []
  | .int i :: xs => (intsD xs).map (i :: ·)
  | _ :: _ => none
theorem intsD_fz {K : KF} {H : Hp} : ∀ {vs : List V} {ds : List D} {ns : List Int}, FzAll K H vs ds → intsD ds = some ns → vs = ns.map V.int
  | _, _, _, .nil, e => by cases e; rfl
  | _, _, ns, .cons (d := d) f fa, e => by
    cases f with
    | int i =>
      simp only [intsD, Option.map_eq_some_iff] at e
      obtain ⟨ms, e1, e2⟩ := e
      subst e2
      rw [intsD_fz fa e1]
      rfl
    | _ => cases e
def sumD : List D → Option D
  | [.list xs] => (intsD xs).map fun ns => .int ns.sum
  | [.tuple xs] => (intsD xs).map fun ns => .int ns.sum
  | _ => none
theorem sum_tup {prog : Program} {w : World} {A : Around} {E : Value → Shared → Prop} {s : Shared} {l : Addr} {its : List Value} {ns : List Int} {Q : Value → Shared → Prop} (hh : A.handled = none) (hl : s.heap.IsTuple l its.toArray) (hi : IntsAre its ns)
    (h : ∀ h' tk t', (∀ b o, s.heap.get? b = some o → h'.get? b = some o) → Q (.int ns.sum t') { s with heap := h', toks := tk }) : wpAny (model prog w) A (call (.builtin "sum") [.ref l]) Q E s := by
  obtain ⟨xs, e⟩ := hi.allInts.items
  have hn : numsOf (intItems xs).toList = ns := by rw [← e]; exact hi.numsOf
  rw [nums_intItems] at hn
  rw [e] at hl
  refine PySem.W.ktm_sumG hh hl fun h' tk t' hk => ?_
  have := h h' tk t' hk
  rw [preSum_eq, List.take_of_length_le (by simp), hn]; exact this
theorem c_sum (hc : X.calm = true) : CallR X (.builtin "sum") (rOA X.KF sumD) := by
  intro pins s σ H xs us Q I r ⟨ds, fa, c, e, q⟩
  unfold sumD at e
  split at e
  · cases fa with | cons f fa => cases fa; cases f with | lst h a =>
      rw [Option.map_eq_some_iff] at e
      obtain ⟨ns, e1, e2⟩ := e
      subst e2
      have ev := intsD_fz a e1
      subst ev
      exact cr_sum hc pins s σ H _ us Q I r ⟨_, ns, rfl, h.sq, q _ _ (Same.refl _) (.int _)⟩
  · cases fa with | cons f fa => cases fa; cases f with | tup h a =>
      rw [Option.map_eq_some_iff] at e
      obtain ⟨ns, e1, e2⟩ := e
      subst e2
      have ev := intsD_fz a e1
      subst ev
      rw [ref1 r]
      obtain ⟨its, rv, pl, _⟩ := I.tuple h.sq
      exact sum_tup (I.ok.hd hc) pl rv.ints fun h' tk t' hk => ⟨.int _, H, I.kept hk, ⟨_, rfl⟩, q _ _ (Same.refl _) (.int _)⟩
  · cases e
theorem intsD_eq : ∀ {ds : List D} {ns : List Int}, intsD ds = some ns → ds = ns.map PyData.int
  | [], ns, e => by cases e; rfl
  | d :: ds, ns, e => by
    cases d with
    | int i =>
      simp only [intsD, Option.map_eq_some_iff] at e
      obtain ⟨ms, e1, e2⟩ := e
      subst e2
      rw [intsD_eq e1]
      rfl
    | _ => cases e
theorem ints_plain : ∀ ns : List Int, PyData.plainAll (ns.map PyData.int) = true
  | [] => rfl
  | n :: ns => by rw [List.map_cons, PyData.plainAll, ints_plain ns]; rfl
theorem ints_depth : ∀ ns : List Int, PyData.depthAll (ns.map PyData.int) ≤ 1
  | [] => by decide
  | n :: ns => by
    rw [List.map_cons, PyData.depthAll]
    have := ints_depth ns
    have e : (PyData.int n).depth ≤ 1 := by rw [PyData.depth]; omega
    omega
theorem ints_alike (ns : List Int) : PySem.W.AlikeAll (ns.map PyData.int) := by
  constructor
  · intro x hx y hy
    obtain ⟨i, _, rfl⟩ := List.mem_map.mp hx
    obtain ⟨j, _, rfl⟩ := List.mem_map.mp hy
    rfl
  · intro x hx
    obtain ⟨i, _, rfl⟩ := List.mem_map.mp hx
    exact fun z => nomatch z
def foldI (f : Int → Int → Int) : List Int → Option D
  | [] => none
  | n :: ns => some (.int (ns.foldl f n))
def maxD : List D → Option D
  | [.list xs] => (intsD xs).bind (foldI max)
  | [.tuple xs] => (intsD xs).bind (foldI max)
  | [.int i, .int j] => some (.int (if j > i then j else i))
  | _ => none
theorem reads_int {h : Heap} {v : Value} {i : Int} {bs : List Addr} (r : Reads h v (.int i) bs) : ∃ t, v = .int i t := by
  cases r
  exact ⟨_, rfl⟩
theorem foldI_inv {f : Int → Int → Int} {xs : List D} {c : D} (e : (intsD xs).bind (foldI f) = some c) : ∃ (n : Int) (ns : List Int), xs = PyData.int n :: ns.map PyData.int ∧ c = .int (ns.foldl f n) := by
  rw [Option.bind_eq_some_iff] at e
  obtain ⟨ns, e1, e2⟩ := e
  cases ns with
  | nil => cases e2
  | cons n ns =>
    cases e2
    exact ⟨n, ns, intsD_eq e1, rfl⟩
theorem c_max (hc : X.calm = true) (hu : X.A.units + 64 < cLine) : CallR X (.builtin "max") (rOA X.KF maxD) := by
  intro pins s σ H xs us Q I r ⟨ds, fa, c, e, q⟩
  unfold maxD at e
  split at e
  · obtain ⟨n, ns, rfl, rfl⟩ := foldI_inv e
    cases fa with | cons f fa => cases fa; cases f with | lst h a =>
      rw [ref1 r]
      obtain ⟨its, rv, pl, _⟩ := I.list h.sq
      obtain ⟨as, ra⟩ := readsAll_of I rv a (ints_plain (n :: ns))
      have hd := ints_depth (n :: ns)
      rw [List.map_cons] at hd
      refine PySem.W.max_list_data (I.ok.hd hc) pl.isList ra (ints_alike (n :: ns)) (by omega) fun i v h' tk bs hv rd k => ?_
      rw [PySem.W.maxD_ints] at rd
      obtain ⟨t, rfl⟩ := reads_int rd
      exact ⟨.int _, H, I.kept k, ⟨_, rfl⟩, q _ _ (Same.refl _) (.int _)⟩
  · obtain ⟨n, ns, rfl, rfl⟩ := foldI_inv e
    cases fa with | cons f fa => cases fa; cases f with | tup h a =>
      rw [ref1 r]
      obtain ⟨its, rv, pl, _⟩ := I.tuple h.sq
      obtain ⟨as, ra⟩ := readsAll_of I rv a (ints_plain (n :: ns))
      have hd := ints_depth (n :: ns)
      rw [List.map_cons] at hd
      refine PySem.W.max_tuple_data (I.ok.hd hc) pl ra (ints_alike (n :: ns)) (by omega) fun i v h' tk bs hv rd k => ?_
      rw [PySem.W.maxD_ints] at rd
      obtain ⟨t, rfl⟩ := reads_int rd
      exact ⟨.int _, H, I.kept k, ⟨_, rfl⟩, q _ _ (Same.refl _) (.int _)⟩
  · cases e
    cases fa with | cons f fa => cases fa with | cons f2 fa => cases fa; cases f; cases f2; exact call_max2 hc pins s σ H _ us Q I r ⟨_, _, rfl, q _ _ (Same.refl _) (.int _)⟩
  · cases e
/-! ### list(x), tuple(x), sorted(x) -/
def seqA : List D → Option (List D)
  | [x] => seqD x
  | _ => none
def tupD : List D → Option D := fun xs => (seqA xs).map .tuple
theorem c_tup : CallR X (.type "tuple") (rOA X.KF tupD) := by
  intro pins s σ H xs us Q I r ⟨ds, fa, c, e, q⟩
  unfold tupD at e
  rw [Option.map_eq_some_iff] at e
  obtain ⟨ys, e, rfl⟩ := e
  unfold seqA at e
  split at e
  · cases fa with | cons f fa => cases fa; cases f with
    | lst h a =>
      cases e
      rw [ref1 r]
      obtain ⟨its, r', pl, hz⟩ := I.list h.sq
      have hlen := r'.length
      refine call_tuple_list pl.isList (fun h' kp => ?_) (by simp only [List.size_toArray] <;> omega)
      exact ep_tup (I.kept (t' := s.toks) kp) r' a hz q
    | tup h a =>
      cases e
      exact call_tuple_of pins s σ H _ us Q I r ⟨_, _, rfl, .inr ⟨h.sq, q _ _ (Same.refl _) (.tup h a)⟩⟩
    | _ => cases e
  · cases e
def eList (m : M (List D)) : M (List D) := bnd m fun xs => lift (seqA xs)
theorem r_list {m : M (List D)} (hm : X.mg "list" = none) (ha : RA X W (e :: es) m) (hg : Gl X "list" := by rfl) (he : starEach (e :: es) X.env = (false, eval e X.env) :: starEach es X.env := by rfl) (hpl : (backTo pos (starEach es X.env)).any (·.1) = false := by rfl) :
    RL X W (.Call (.Name "list" p) (e :: es) [] pos) (eList m) := PE.imp (pe_callTy call_list_of hg hm (by rfl) ha (by decide) (by decide) he hpl) fun σ H Q h => by
  obtain ⟨g, R, s, n, h⟩ := h
  refine ⟨g, R, s, n, ?_⟩
  unfold eList bnd at h
  cases em : m g with
  | stuck => rw [em] at h; exact h
  | exc c g' => rw [em] at h; exact h
  | ok ds g1 =>
    rw [em] at h
    dsimp only [lift] at h
    intro vs H1 go fa
    obtain ⟨bk1, R1, s1, n1, e1, w1⟩ := go
    cases es : seqA ds with
    | none => rw [es] at h; exact h.elim
    | some ys =>
      rw [es] at h
      have fin : ∀ {ws : List V} {l : Addr}, FzAll X.KF H1 ws ys → H1 l = none → Q (.ref l) (L2.upd H1 l (.lst ws)) := fun {ws l} fw nl => by
        have sm : Same H1 (L2.upd H1 l (.lst ws)) := Same.upd nl
        refine h l ws _ ⟨bk1, upd_same, fw.pers (.of_same sm), R1, s1.same sm, ?_, e1.trans w1 (.of_same sm), ?_⟩
        · exact List.nodup_cons.mpr ⟨fun z => s1.root_some l z nl, n1⟩
        · intro a ha
          rcases List.mem_cons.mp ha with rfl | ha
          · by_cases hr : a ∈ R
            · exact .inl hr
            · exact .inr (e1.none nl hr)
          · exact w1 a ha
      unfold seqA at es
      split at es
      · cases fa with | cons f fa => cases fa; cases f with
        | lst h a => cases es; exact ⟨_, _, rfl, .inl h.sq, fun l nl => fin a nl⟩
        | tup h a => cases es; exact ⟨_, _, rfl, .inr h.sq, fun l nl => fin a nl⟩
        | _ => cases es
      · cases es
end
end PP
namespace PP
open PySem PySem.W PySem.Calls PyProof.Rows PySem.SeqAt
/-! ### sorting tuples, the empty tuple among them -/
section
variable {prog : Program} {w : World} {A : Around} {s : Shared}
theorem call_tuple_ltM {E : Value → Shared → Prop} {Q : Value → Shared → Prop} {l b : Addr} {items items2 : Array Value} {e r : Nat → Bool} (hl : s.heap.IsTuple l items) (hb : s.heap.IsTuple b items2)
    (he : ∀ j (h1 : j < items.size) (h2 : j < items2.size), EqAt A.in1 s items[j] items2[j] (e j)) (hr : ∀ j (h1 : j < items.size) (h2 : j < items2.size), e j = false → RcLt A.in1 s items[j] items2[j] (r j))
    (h : Q (.bool (firstLt e r (decide (items.size < items2.size)) (List.range (min items.size items2.size)))) s) : wpAny (model prog w) A (call (.builtin "tuple.__lt__") [.ref l, .ref b]) Q E s := by
  obtain ⟨⟨cls, dd, data, sl⟩, ho, hc, n, hd⟩ := id hl
  obtain ⟨⟨cls2, dd2, data2, sl2⟩, ho2, hc2, n2, hd2⟩ := id hb
  simp only at hc hd hc2 hd2
  subst hc hd hc2 hd2
  exact call_meets F.slot_tuple_lt ⟨_, ho, rfl⟩ F.entry_tuple_lt (F.args_tuple_lt_2 _ _) (tuple_ltAt l b items items2 n n2 dd dd2 sl sl2 e r) ⟨ho, ho2, he, hr, h⟩
theorem oneLt_tupM {E : Value → Shared → Prop} {f : Bool} {xs ys : List PyData} {a b : Value} {as bs : List Addr} {Q : Bool → Shared → Prop} (ra : Reads s.heap a (.tuple xs) as) (rb : Reads s.heap b (.tuple ys) bs) (h : alike (.tuple xs) (.tuple ys) = true)
    (hu : A.units + min (PyData.tuple xs).depth (PyData.tuple ys).depth < cLine) (hq : Q (dataLt (.tuple xs) (.tuple ys)) s) : wpAny (model prog w) A (oneLt' f a b) Q E s := by
  cases f with
  | false => exact oneLt_alike (f := false) (fun e => by cases e) ra rb h (fun e => by cases e) hu hq
  | true =>
    have hal : alikeAll xs ys = true := by simpa [alike] using h
    cases ra with
    | @tuple l o vs n _ as₁ h1 h2 h3 h4 =>
      cases rb with
      | @tuple l' o' vs' n' _ bs₁ k1 k2 k3 k4 =>
        have n1 : vs.size = xs.length := by simpa using ReadsAll.length _ _ _ h4
        have n2 : vs'.size = ys.length := by simpa using ReadsAll.length _ _ _ k4
        rw [dataLt_tuple, ← firstLt_toks xs ys hal, ← n1, ← n2] at hq
        rw [oneLt'_eq]
        simp only [if_true]
        refine wpAny_bind (wpAny_cRoomFor (room_here hu) ?_)
        refine wpAny_bind (wpAny_callSpecialIfBound?_slot (T := "tuple") ⟨_, h1, h2⟩ F.slot_tuple_lt (call_tuple_ltM (e := pairEq xs ys) (r := fun j => dataLt (xs.getD j .none) (ys.getD j .none)) ⟨_, h1, h2, _, h3⟩ ⟨_, k1, k2, _, k3⟩ (fun j j1 j2 => ?_) (fun j j1 j2 hj => ?_) ?_))
        · have := eqAt_alikeAll xs ys A.in1 s vs.toList vs'.toList _ _ h4 k4 hal (room_in hu) j (by simpa using j1) (by simpa using j2)
          simpa using this
        · have := rcLt_alikeAll xs ys A.in1 s vs.toList vs'.toList _ _ h4 k4 hal (room_in hu) j (by simpa using j1) (by simpa using j2) hj
          simpa using this
        · exact wpAny_truthy_bool hq
def TupsO (h : Heap) : List Value → List (Option Value) → Prop
  | [], [] => True
  | v :: vs, f :: fs => (∃ a o xs n, v = .ref a ∧ h.get? a = some o ∧ o.cls = .type "tuple" ∧ o.data = .seq xs n ∧ xs[0]? = f) ∧ TupsO h vs fs
  | _, _ => False
theorem firstsO {M : Model} {E : Value → Shared → Prop} : ∀ (vs : List Value) (fs : List (Option Value)) {Q : List (Option Value) → Shared → Prop}, TupsO s.heap vs fs → Q fs s → wpAny M A (vs.mapM firstOfTuple') Q E s
  | [], [], _, _, h => by rw [List.mapM_nil]; exact wpAny_pure h
  | [], _ :: _, _, t, _ => t.elim
  | _ :: _, [], _, t, _ => t.elim
  | v :: vs, f :: fs, Q, t, h => by
    obtain ⟨⟨a, o, xs, n, rfl, ho, hc, hd, hf⟩, t⟩ := t
    rw [List.mapM_cons]
    refine wpAny_bind ?_
    rw [kas_first_eq]
    refine wpAny_bind (Looks.here (show Looks M s.heap (typeOf (.ref a)) o.cls from (Looks.ld ho).andThen .now) ?_)
    rw [hc, if_neg (by first | decide | simp)]
    refine wpAny_bind (listItems_at ho hd (wpAny_pure ?_))
    rw [hf]
    exact wpAny_bind (firstsO vs fs (Q := fun bs s' => wpAny M A (pure (f :: bs)) Q E s') t (wpAny_pure h))
theorem TupsO.look {M : Model} {h : Heap} : ∀ {vs : List Value} {fs : List (Option Value)}, TupsO h vs fs → ∀ v ∈ vs, Looks M h (typeOf v) (.type "tuple")
  | v :: vs, f :: fs, t, u, hu => by
    obtain ⟨⟨a, o, xs, n, rfl, ho, hc, hd, hf⟩, t⟩ := t
    rcases List.mem_cons.mp hu with rfl | hu
    · exact hc ▸ (Looks.ld ho).andThen .now
    · exact TupsO.look t u hu
  | [], _, _, u, hu => by cases hu
  | _ :: _, [], t, _, _ => t.elim
theorem TupsO.length {h : Heap} : ∀ {vs : List Value} {fs : List (Option Value)}, TupsO h vs fs → fs.length = vs.length
  | [], [], _ => rfl
  | v :: vs, f :: fs, t => by rw [List.length_cons, List.length_cons, TupsO.length t.2]
  | [], _ :: _, t => t.elim
  | _ :: _, [], t => t.elim
theorem kindO {M : Model} {E : Value → Shared → Prop} {vs : List Value} {fs : List (Option Value)} {Q : SortKind → Shared → Prop} (t : TupsO s.heap vs fs) (hn : none ∈ fs) (h : Q (if (fs[0]?.bind id).isSome = true then general' else oneType') s) :
    wpAny M A (keyKind' vs.toArray) Q E s := by
  rw [kat_kind_eq, List.mapM_toArray, map_eq_pure_bind]
  refine wpAny_bind (wpAny_bind (firstsO vs _ t (wpAny_pure ?_)))
  have hall : (fs.toArray.all fun x => x.isSome) = false := by
    rw [List.all_toArray, List.all_eq_false]
    exact ⟨none, hn, by simp⟩
  rw [if_neg (by rw [hall]; exact Bool.false_ne_true)]
  rw [List.getElem?_toArray]
  by_cases hf : (fs[0]?.bind id).isSome = true
  · rw [if_pos hf] at h ⊢
    exact wpAny_pure h
  · rw [if_neg hf] at h ⊢
    rw [oneTypeOnly'_eq, List.mapM_toArray, map_eq_pure_bind]
    refine wpAny_bind (wpAny_bind (wpAny_bind (kas_mapM (r := Value.type "tuple") _ (fun v hv Q' hq => (t.look v hv).here hq) (wpAny_pure ?_))))
    have hl := t.length
    obtain ⟨v₁, rest, rfl⟩ : ∃ v₁ rest, vs = v₁ :: rest := by
      cases vs with
      | nil => cases fs with
        | nil => cases hn
        | cons => exact t.elim
      | cons v r => exact ⟨v, r, rfl⟩
    have hall : ((List.map (fun _ => Value.type "tuple") (v₁ :: rest)).toArray.all fun x => x == Value.type "tuple") = true := by
      simp only [List.all_toArray, List.all_map, List.all_eq_true]
      intro _ _
      exact beq_self_eq_true _
    have h0 : (List.map (fun _ => Value.type "tuple") (v₁ :: rest)).toArray[0]? = some (Value.type "tuple") := by simp
    rw [h0]
    simp only [hall, if_true]
    exact wpAny_pure (wpAny_pure h)
theorem each_tupsO {h : Heap} : ∀ {vs : List Value} {ds : List PyData}, EachIs (fun v d => ∃ as, Reads h v d as) vs ds → (∀ d, d ∈ ds → ∃ xs, d = .tuple xs) → ∃ fs, TupsO h vs fs ∧ (PyData.tuple [] ∈ ds → none ∈ fs)
  | _, _, .nil, _ => ⟨[], trivial, fun h => by cases h⟩
  | _, _, .cons (b := d) ⟨as, r⟩ t, ht => by
    obtain ⟨fs, h1, h2⟩ := each_tupsO t fun d hd => ht d (List.mem_cons_of_mem _ hd)
    obtain ⟨xs, rfl⟩ := ht d (List.mem_cons_self ..)
    cases r with
    | @tuple a o ys n _ _ ho hc hd hr =>
      refine ⟨ys[0]? :: fs, ⟨⟨a, o, ys, n, rfl, ho, hc, hd, rfl⟩, h1⟩, fun hm => ?_⟩
      rcases List.mem_cons.mp hm with he | hm
      · cases he
        have : ys.size = 0 := by simpa using ReadsAll.length _ _ _ hr
        rw [show ys[0]? = none from by rw [Array.getElem?_eq_none]; omega]
        exact List.mem_cons_self
      · exact List.mem_cons_of_mem _ (h2 hm)
/-- all are tuples, or none is a tuple or None -/
def SrtAny (ds : List PyData) : Prop := (∀ d, d ∈ ds → ∃ xs, d = .tuple xs) ∨ ∀ d, d ∈ ds → d ≠ .none ∧ ∀ xs, d ≠ .tuple xs
theorem sortsAtM {vs : List Value} {ds : List PyData} (e : EachIs (fun v d => ∃ as, Reads s.heap v d as) vs ds) (hal : AllAlike ds) (hk : SrtAny ds) (hu : ∀ d, d ∈ ds → A.units + d.depth < cLine) : SortsAt prog w A s (dataKind s.heap ds) vs := by
  rcases hk with ht | hn
  · by_cases hE : PyData.tuple [] ∈ ds
    · obtain ⟨fs, t, hno⟩ := each_tupsO e ht
      have room : ∀ {d d' : PyData}, d ∈ ds → A.units + min d.depth d'.depth < cLine := fun {d d'} hd => Nat.lt_of_le_of_lt (Nat.add_le_add_left (Nat.min_le_left _ _) _) (hu d hd)
      refine ⟨fun v hv => ?_, if (fs[0]?.bind id).isSome = true then general' else oneType', ?_, fun h2 E Q hq => kindO t (hno hE) hq⟩
      · obtain ⟨d, hd, as, r⟩ := e.left v hv
        exact ⟨_, dataKind_some hal hd r⟩
      · intro E x y a b Q ha hb hq
        obtain ⟨d, as, hd, ra, rfl⟩ := dataKind_inv ha
        obtain ⟨d', as', hd', rb, rfl⟩ := dataKind_inv hb
        have hdd := hal d hd d' hd'
        have hroom := room (d' := d') hd
        obtain ⟨x1, rfl⟩ := ht d hd
        obtain ⟨x2, rfl⟩ := ht d' hd'
        split
        · exact oneLt_tupM (f := false) ra rb hdd hroom hq
        · rw [keyLt'_oneType]
          exact oneLt_tupM (f := true) ra rb hdd hroom hq
    · refine SortsAt.data e hal (.inl fun d hd => ?_) hu
      obtain ⟨xs, rfl⟩ := ht d hd
      cases xs with
      | nil => exact absurd hd hE
      | cons x r => exact ⟨x, r, rfl⟩
  · exact SortsAt.data e hal (.inr hn) hu
end
section
variable {β : Type} {prog : Program} {w : World} {A : Around} {E : Value → Shared → Prop} {s : Shared} {R : Value → β → Prop} {enc : β → PyData} {vs : List Value} {bs : List β}
theorem sorted_dataM {l : Addr} {Q : Value → Shared → Prop} (hl : s.heap.IsList l vs.toArray) (e : EachIs R vs bs) (er : EachIs (fun v b => ∃ as, Reads s.heap v (enc b) as) vs bs) (hal : AllAlike (bs.map enc)) (hk : SrtAny (bs.map enc)) (hL : bs.length ≤ sizeLine)
    (hu : ∀ b, b ∈ bs → A.units + 2 + (enc b).depth < cLine) (h : ∀ out, out.length = bs.length → EachIs R out (bs.mergeSort (dataLe false enc)) → Q (.ref (s.heap.objs.size + 1)) { s with heap := sortedAll s.heap vs (List.toArray out) }) :
    wpAny (model prog w) A (call (.builtin "sorted") [.ref l]) Q E s := by
  have er' : EachIs (fun v b => ∃ as, Reads (sortingHeap (copyHeap s.heap vs) (s.heap.objs.size + 1) vs) v (enc b) as) vs bs := er.mono fun _ _ ⟨as, r⟩ => ⟨as, PyProof.Rows.Reads.keeps (fun _ _ => sorting_copy_old) r⟩
  exact sorted_vals hl (sortsAtM (s := { s with heap := sortingHeap (copyHeap s.heap vs) (s.heap.objs.size + 1) vs }) (each_map (R := fun v d => ∃ as, Reads (sortingHeap (copyHeap s.heap vs) (s.heap.objs.size + 1) vs) v d as) enc er') hal hk (bound_map hu)) (by rw [e.length]; exact hL)
    (h _ (by rw [sortVals_length false rfl]; exact e.length) (sortVals_data false e er' hal))
theorem list_sort_dataM {a : Addr} {n : Nat} {Q : Value → Shared → Prop} (ho : s.heap.get? a = some (seqObj "list" vs.toArray n)) (e : EachIs R vs bs) (er : EachIs (fun v b => ∃ as, Reads s.heap v (enc b) as ∧ a ∉ as) vs bs) (hal : AllAlike (bs.map enc)) (hk : SrtAny (bs.map enc)) (hL : bs.length ≤ sizeLine)
    (hu : ∀ b, b ∈ bs → A.units + 1 + (enc b).depth < cLine) (h : ∀ out, out.length = bs.length → EachIs R out (bs.mergeSort (dataLe false enc)) → Q .none { s with heap := sortedHeap s.heap a vs (List.toArray out) }) :
    wpAny (model prog w) A (call (.builtin "list.sort") [.ref a]) Q E s := by
  have er' : EachIs (fun v b => ∃ as, Reads (sortingHeap s.heap a vs) v (enc b) as) vs bs := each_keepBut (h' := sortingHeap s.heap a vs) (fun _ _ hb q => sortingHeap_old hb q) (fun o q => by rw [ho] at q; rw [← Option.some.inj q]) hal er
  refine wpAny_call_entry slot_list_sort ⟨_, ho, rfl⟩ entry_list_sort (list_sort_vals (κ := dataKind (sortingHeap s.heap a vs) (bs.map enc)) ho (sortsAtM (s := { s with heap := sortingHeap s.heap a vs }) (each_map (R := fun v d => ∃ as, Reads (sortingHeap s.heap a vs) v d as) enc er') hal hk (bound_map hu)) (by rw [e.length]; exact hL) ⟨.none, rfl, ?_⟩) (args_list_sort _)
  exact h _ (by rw [sortVals_length false rfl]; exact e.length) (sortVals_data false e er' hal)
end
end PP
namespace PP
open PySem PySem.Spec L2
open PyProof.Rows hiding St
section
variable {X : Cx} {W : WX} {pins : List (Addr × Obj)} {σ : St} {H : Hp} {s : Shared} {Q : VK} {e a b : Expr} {es : List Expr} {pos p : Pos} {ma mb : M D}
/-! ### isinstance -/
def tyD : D → String
  | .none => "NoneType"
  | .bool _ => "bool"
  | .int _ => "int"
  | .str _ => "str"
  | .list _ => "list"
  | .tuple _ => "tuple"
  | .dict _ => "dict"
theorem tyX_of {K : KF} {v : V} {x : D} (f : Fz K H v x) (hd : ∀ k, x ≠ .dict k) : TyX K H v (.type (tyD x)) := by
  cases f with
  | non => exact .base .non
  | bl b => exact .base (.bl b)
  | int i => exact .base (.int i)
  | str x => exact .base (.str x)
  | lst h a =>
    rcases h with ⟨o, h⟩ | ⟨o, its, n, h, hc, _⟩
    · exact .base (.frz h)
    · exact .kList h hc
  | tup h a =>
    obtain ⟨o, _, h⟩ := h
    unfold tupO at h
    split at h
    · exact .base (.tup h)
    · exact .fTuple h
  | dK h a => exact absurd rfl (hd _)
  | dT h a _ => exact absurd rfl (hd _)
  | dF h k r a => exact absurd rfl (hd _)
def isDict : D → Bool
  | .dict _ => true
  | _ => false
def isiD (T : String) (x : D) : Option D := if isDict x = true then none else (kitB (tyD x) T).map .bool
theorem r_isi {T : String} {x : Str} {np : Pos} (hm : X.mg "isinstance" = none) (hmT : X.mg x = none) (hT : bootBuiltins x = some (.type T)) (ha : RE X W a ma) (hg : Gl X "isinstance" := by rfl) (hgT : Gl X x := by rfl) (hn : x ≠ "__name__" := by decide) (hd : (x == ("__debug__" : Str)) = false := by decide)
    (hs1 : starEach [a, .Name x np] X.env = (false, eval a X.env) :: starEach [.Name x np] X.env := by rfl) (hs2 : starEach [.Name x np] X.env = (false, eval (.Name x np) X.env) :: starEach [] X.env := by rfl)
    (hpl : (backTo pos (starEach [.Name x np] X.env)).any (·.1) = false := by rfl) : RE X W (.Call (.Name "isinstance" p) [a, .Name x np] [] pos) (ap1 (isiD T) ma) :=
  PE.imp (pe_callB call_isi hg hm PyProof.Rows.boot_isinstance (pa_cons ha (pa_cons (pe_bltn (v := .ty T) hgT hmT hT rfl hn hd) pa_nil hs2) hs1) (by decide) (by decide) hs1 hpl) fun σ H Q h => by
    refine tG_mono (tD1 h) fun v H1 _ ⟨d, fd, c, e, q⟩ => ?_
    unfold isiD at e
    split at e
    · cases e
    · rename_i hnd
      rw [Option.map_eq_some_iff] at e
      obtain ⟨k, e, rfl⟩ := e
      exact ⟨v, .ty T, .type (tyD d), .type T, k, rfl, .ty T, tyX_of fd (fun z zz => by subst zz; exact hnd rfl), kit_ty e, q _ _ (Same.refl _) (.bl _)⟩
/-! ### freezing what was made -/
theorem ep_lock {u : Value} (h : EP X pins σ (fun v H1 => ∃ p u, v = .ref p ∧ H1 p = some u ∧ Mut (some u) ∧ ∀ o, Q v (L2.upd H1 p (.frz o u))) u s) : EP X pins σ Q u s := by
  obtain ⟨x, H1, I1, r, p, u, e, hu, mu, q⟩ := h
  subst e
  obtain ⟨od, I2⟩ := I1.lock hu mu
  exact ⟨.ref p, _, I2, r, q od⟩
/-! ### x[i], any plain thing -/
def keyD : D → Option Key
  | .int i => some (.inl i)
  | .str x => some (.inr x)
  | _ => none
def dKey : D → Bool
  | .int _ => true
  | _ => false
def keysD : List D → Option (List Key)
  | [] => some []
  | x :: r => match keyD x, keysD r with
    | some k, some ks => some (k :: ks)
    | _, _ => none
/-- a tuple of keys; one of ints -/
def tkD : D → Option (List Key)
  | .tuple xs => keysD xs
  | _ => none
def tkI : D → Option (List Key)
  | .tuple xs => if xs.all dKey = true then keysD xs else none
  | _ => none
def tGet (kvs : List (D × D)) (ks : List Key) : Option D := (kvs.find? fun p => decide (tkD p.1 = some ks)).map (·.2)
def dGet (kvs : List (D × D)) (k : D) : Option D := match keyD k with
  | some kk => (kvs.find? fun p => decide (keyD p.1 = some kk)).map (·.2)
  | none => match tkD k with
    | some ks => tGet kvs ks
    | none => none
def ixD : D → D → Option D
  | .list xs, .int i => atI xs i
  | .tuple xs, .int i => atI xs i
  | .str z, .int i => if z.length ≤ sizeLine then (atI z.cps.toList i).map fun c => .str ⟨#[c]⟩ else none
  | .dict kvs, k => dGet kvs k
  | _, _ => none
theorem keyD_kD (k : Key) : keyD (kD k) = some k := by cases k <;> rfl
theorem kV_of {K : KF} {v : V} {x : D} {k : Key} (f : Fz K H v x) (e : keyD x = some k) : v = kV k := by
  cases f <;> first | (cases e; rfl) | cases e
theorem dget_fz {K : KF} {k : Key} : ∀ {kvs : List (Key × V)} {ds : List D} {y : D}, FzAll K H (kvs.map (·.2)) ds → (((kvs.map fun p => kD p.1).zip ds).find? fun p => decide (keyD p.1 = some k)).map (·.2) = some y → ∃ v, valV kvs k = some v ∧ Fz K H v y
  | [], _, y, _, e => by simp at e
  | (k1, v1) :: kvs, _, y, .cons (ds := ds) f fa, e => by
    rw [List.map_cons, List.zip_cons_cons, List.find?_cons] at e
    by_cases h : k1 = k
    · subst h
      simp only [keyD_kD, decide_true] at e
      cases e
      exact ⟨v1, valV_pos rfl, f⟩
    · have h2 : decide (keyD (kD k1) = some k) = false := by
        rw [keyD_kD]
        exact decide_eq_false fun z => h (Option.some.inj z)
      simp only [h2] at e
      obtain ⟨v, e1, e2⟩ := dget_fz fa e
      exact ⟨v, by rw [valV_neg h]; exact e1, e2⟩
theorem keyD_tuple (xs : List D) : keyD (.tuple xs) = none := rfl
theorem find_tups {k : Key} : ∀ (kvs : List (List Key × V)) (ds : List D), (((kvs.map fun p => PyData.tuple (p.1.map kD)).zip ds).find? fun p => decide (keyD p.1 = some k)) = none
  | [], _ => rfl
  | _ :: _, [] => rfl
  | p :: kvs, d :: ds => by
    rw [List.map_cons, List.zip_cons_cons, List.find?_cons]
    simp only [keyD_tuple]
    exact find_tups kvs ds
theorem keysD_map : ∀ k : List Key, keysD (k.map kD) = some k
  | [] => rfl
  | a :: k => by rw [List.map_cons, keysD, keyD_kD, keysD_map k]
theorem keys_fz {K : KF} {H : Hp} : ∀ {vs : List V} {ds : List D} {ks : List Key}, FzAll K H vs ds → keysD ds = some ks → vs = ks.map kV
  | _, _, ks, .nil, e => by cases e; rfl
  | _, _, ks, .cons (d := d) (ds := ds) h a, e => by
    rw [keysD] at e
    cases e1 : keyD d with
    | none => rw [e1] at e; cases e
    | some k =>
      cases e2 : keysD ds with
      | none => rw [e1, e2] at e; cases e
      | some ks' =>
        rw [e1, e2] at e
        cases e
        rw [List.map_cons, kV_of h e1, keys_fz a e2]
theorem find_keys {ks : List Key} : ∀ (kvs : List (Key × V)) (ds : List D), (((kvs.map fun p => kD p.1).zip ds).find? fun p => decide (tkD p.1 = some ks)) = none
  | [], _ => rfl
  | _ :: _, [] => rfl
  | (k, v) :: kvs, d :: ds => by
    rw [List.map_cons, List.zip_cons_cons, List.find?_cons]
    have : tkD (kD k) = none := by cases k <;> rfl
    simp only [this]
    exact find_keys kvs ds
theorem dgetT_fz {K : KF} {ks : List Key} : ∀ {kvs : List (List Key × V)} {ds : List D} {y : D}, FzAll K H (kvs.map (·.2)) ds → tGet ((kvs.map fun p => PyData.tuple (p.1.map kD)).zip ds) ks = some y → ∃ v, valV kvs ks = some v ∧ Fz K H v y
  | [], _, y, _, e => by simp [tGet] at e
  | (k1, v1) :: kvs, _, y, .cons (ds := ds) f fa, e => by
    unfold tGet at e
    rw [List.map_cons, List.zip_cons_cons, List.find?_cons] at e
    have kk : tkD (.tuple (k1.map kD)) = some k1 := keysD_map k1
    by_cases h : k1 = ks
    · subst h
      simp only [kk, decide_true] at e
      cases e
      exact ⟨v1, valV_pos rfl, f⟩
    · have h2 : decide (tkD (.tuple (k1.map kD)) = some ks) = false := by
        rw [kk]
        exact decide_eq_false fun z => h (Option.some.inj z)
      simp only [h2] at e
      obtain ⟨v, e1, e2⟩ := dgetT_fz fa e
      exact ⟨v, by rw [valV_neg h]; exact e1, e2⟩
theorem find_tupsF {k : Key} : ∀ (xs : List Rw3) (ds : List D), (((xs.map fun x => PyData.tuple (x.1.map kD)).zip ds).find? fun p => decide (keyD p.1 = some k)) = none
  | [], _ => rfl
  | _ :: _, [] => rfl
  | p :: xs, d :: ds => by
    rw [List.map_cons, List.zip_cons_cons, List.find?_cons]
    simp only [keyD_tuple]
    exact find_tupsF xs ds
/-- a tuple of ints and texts, as a key -/
theorem fz_key {K : KF} {v : V} {y : D} {ks : List Key} (f : Fz K H v y) (e : tkD y = some ks) : ∃ b, v = .ref b ∧ FT H b (ks.map kV) := by
  cases f with
  | tup h a =>
    unfold tkD at e
    dsimp only at e
    rw [← keys_fz a e]
    exact ⟨_, rfl, h⟩
  | _ => cases e
theorem ft_key {b : Addr} {ks : List Key} (I : Inv X pins σ H s) (h : FT H b (ks.map kV)) : (tupleKind (mixKind X.prog X.w)).is s.heap ks b := by
  obtain ⟨o0, _, e⟩ := h
  have ok : ObjOk X.prog X.w H s.heap b (.tup (ks.map kV)) := by
    unfold tupO at e
    split at e
    · exact I.hok _ _ e
    · exact (I.hok _ _ e).2
  obtain ⟨_, its1, rv1, ob1, g1, g2, m1, g3⟩ := ok
  refine ⟨ob1, its1.toArray, m1, g1, g2, g3, ?_⟩
  have := items_are (P := X.prog) (w := X.w) rv1
  simpa using this
theorem dfo_ok {a : Addr} {xs : List Rw3} (I : Inv X pins σ H s) (e : Rd H a (dFo X.KF a xs)) (hk : ∀ x ∈ xs, FT H x.2.1 (x.1.map kV)) : xs.length ≤ sizeLine ∧ (a == sysModules) = false ∧ s.heap.DictOfH (tupleKind (mixKind X.prog X.w)) a xs := by
  have ok := e.ok I.hok
  obtain ⟨⟨z, y, o1, es1, ep1, g1, g2, g3, g4, g5⟩, _⟩ := ok
  exact ⟨z, y, o1, es1, ep1, g1, g2, g3, g4, fun x hx => ft_key I (hk x hx), g5⟩
theorem dF_get {K : KF} {ks : List Key} : ∀ {xs : List Rw3} {vs : List V} {ds : List D} {y : D}, Vals vs (xs.map (·.2.2)) → FzAll K H vs ds → tGet ((xs.map fun x => PyData.tuple (x.1.map kD)).zip ds) ks = some y → ∃ p v, atKey xs ks = some p ∧ RelV v p.2 ∧ Fz K H v y
  | [], _, _, _, _, _, e => by simp [tGet] at e
  | (k1, b1, u1) :: xs, _, _, y, .cons r rs, .cons (ds := ds) f fa, e => by
    unfold tGet at e
    rw [List.map_cons, List.zip_cons_cons, List.find?_cons] at e
    have kk : tkD (.tuple (k1.map kD)) = some k1 := keysD_map k1
    by_cases h : k1 = ks
    · subst h
      simp only [kk, decide_true] at e
      cases e
      exact ⟨(b1, u1), _, by simp [atKey, List.find?_cons], r, f⟩
    · have h2 : decide (tkD (.tuple (k1.map kD)) = some ks) = false := by
        rw [kk]
        exact decide_eq_false fun z => h (Option.some.inj z)
      simp only [h2] at e
      obtain ⟨p, v, e1, e2, e3⟩ := dF_get rs fa e
      exact ⟨p, v, by simpa [atKey, List.find?_cons, h] using e1, e2, e3⟩
theorem i_ix (hu : X.A.units + 64 < cLine) : IxR X (rO2 X.KF ixD) := by
  intro value slice pins s σ H x y v u Q I rx ry ⟨dx, dy, fx, fy, c, e, q⟩ hs
  cases fx with
  | lst h a =>
    cases fy with
    | int i =>
      obtain ⟨w, e1, fw⟩ := atI_fz a e
      exact ix_list value slice pins s σ H _ _ v u Q I rx ry ⟨_, _, _, w, rfl, rfl, h.sq, e1, q _ _ (Same.refl _) fw⟩ hs
    | _ => cases e
  | tup h a =>
    cases fy with
    | int i =>
      obtain ⟨w, e1, fw⟩ := atI_fz a e
      exact ix_tup value slice pins s σ H _ _ v u Q I rx ry ⟨_, _, _, w, rfl, rfl, h.sq, e1, q _ _ (Same.refl _) fw⟩ hs
    | _ => cases e
  | str z =>
    cases fy with
    | int i =>
      simp only [ixD] at e
      split at e
      · rename_i hz
        rw [Option.map_eq_some_iff] at e
        obtain ⟨k, e1, rfl⟩ := e
        exact ix_str value slice pins s σ H _ _ v u Q I rx ry ⟨_, _, k, rfl, rfl, hz, e1, q _ _ (Same.refl _) (.str _)⟩ hs
      · cases e
    | _ => cases e
  | dK h a =>
    simp only [ixD, dGet] at e
    split at e
    · rename_i kk ek
      obtain ⟨w, e1, fw⟩ := dget_fz a e
      have ey := kV_of fy ek
      subst ey
      have g : DGet H _ (kV kk) (some w) := .inl ⟨_, kk, .inr ⟨_, h⟩, rfl, e1.symm⟩
      cases rx
      exact tail_any (dict_typeIs I g) PySem.F.slot_dict_getitem.lookup (d_getItem (by omega) I g ry fun w' s3 I3 rw' => ⟨w, H, I3, rw', q _ _ (Same.refl _) fw⟩) hs
    · split at e
      · unfold tGet at e
        rw [find_keys] at e
        cases e
      · cases e
  | dT h a _ =>
    simp only [ixD, dGet] at e
    split at e
    · rw [find_tups] at e
      cases e
    · split at e
      · rename_i ks ek
        obtain ⟨w, e1, fw⟩ := dgetT_fz a e
        obtain ⟨b, eb, hb⟩ := fz_key fy ek
        subst eb
        obtain ⟨_, _, L1, rl, dd⟩ := dt_rd I.hok (.inr ⟨_, h⟩)
        have rl := rl.val ks
        rw [e1] at rl
        obtain ⟨w1, hw1, rw1⟩ := RelO.some_of rl
        obtain ⟨p1, hp1, hp2⟩ := Option.map_eq_some_iff.mp hw1
        subst hp2
        cases rx
        cases (show u = Value.ref b from ry)
        exact tail_any dd.typeIs PySem.F.slot_dict_getitem.lookup (wpAny_getItem_heap (tupleKind_room_in1 (by omega)) (ft_key I hb) dd hp1 ⟨w, H, I.tok _, rw1, q _ _ (Same.refl _) fw⟩) hs
      · cases e
  | dF h hk r a =>
    simp only [ixD, dGet] at e
    split at e
    · rw [find_tupsF] at e
      cases e
    · split at e
      · rename_i ks ek
        obtain ⟨p1, w, hp1, rw1, fw⟩ := dF_get r a e
        obtain ⟨b, eb, hb⟩ := fz_key fy ek
        subst eb
        obtain ⟨_, _, dd⟩ := dfo_ok I (.inr ⟨_, h⟩) hk
        cases rx
        cases (show u = Value.ref b from ry)
        exact tail_any dd.typeIs PySem.F.slot_dict_getitem.lookup (wpAny_getItem_heap (tupleKind_room_in1 (by omega)) (ft_key I hb) dd hp1 ⟨w, H, I.tok _, rw1, q _ _ (Same.refl _) fw⟩) hs
      · cases e
  | _ => cases e
theorem r_ix (hu : X.A.units + 64 < cLine) (ha : RE X W a ma) (hb : RE X W b mb) (hs : PlainIx b := by exact fun _ _ => rfl) : RE X W (.Subscript a b pos) (ap2 ixD ma mb) := PE.imp (pe_ix (i_ix hu) ha hb hs) fun _ _ _ h => tD2 h
/-! ### slices -/
def RP (X : Cx) (W : WX) (e : Option Expr) (m : M (Option Int)) : Prop := PO X e (tG (fun _ b a => b = a) X.KF W m)
theorem PO.imp {e : Option Expr} {t t' : TO} (h : PO X e t) (k : ∀ σ H Q, t' σ H Q → t σ H Q) : PO X e t' := ⟨fun pins s σ H Q I q => h.run pins s σ H Q I (k σ H Q q)⟩
def pN : M (Option Int) := fun g => .ok none g
def partD : D → Option (Option Int)
  | .int i => some (some i)
  | _ => none
def pS (m : M D) : M (Option Int) := ap1 partD m
theorem r_pn : RP X W none pN := PO.imp po_none fun σ H Q h => tG_ret h rfl
theorem r_ps (h : RE X W a ma) : RP X W (some a) (pS ma) := PO.imp (po_some h) fun σ H Q h => tG_mono (tD1 h) fun v H1 _ ⟨d, fd, c, e, q⟩ => by
  cases fd with
  | int i => cases e; exact ⟨i, rfl, q _ _ (Same.refl _) rfl⟩
  | _ => cases e
def cutD {α : Type} (xs : List α) (lo hi : Option Int) : List α := (xs.drop (HT.sIx xs.length 0 lo)).take (HT.sIx xs.length xs.length hi - HT.sIx xs.length 0 lo)
def slD (x : D) (lo hi : Option Int) : Option D := match x with
  | .list xs => some (.list (cutD xs lo hi))
  | .tuple xs => some (.tuple (cutD xs lo hi))
  | .str z => if z.length ≤ sizeLine then some (.str (cutS z lo hi)) else none
  | _ => none
theorem cut_fz {K : KF} {vs : List V} {ds : List D} {lo hi : Option Int} (f : FzAll K H vs ds) : FzAll K H (cutV vs lo hi) (cutD ds lo hi) := by
  unfold cutV cutD
  rw [f.length]
  exact (f.drop _).take _
theorem cut_all {α : Type} {xs : List α} {lo hi : Option Int} (h : HT.sIx xs.length 0 lo = 0 ∧ HT.sIx xs.length xs.length hi = xs.length) : cutD xs lo hi = xs := by
  unfold cutD
  rw [h.1, h.2]
  simp
def rSlD (K : KF) : V → Option Int → Option Int → Hp → VK → Prop := fun v lo hi H Q => ∃ x, Fz K H v x ∧ ∃ c, slD x lo hi = some c ∧ ∀ b H', Same H H' → Fz K H' b c → Q b H'
theorem i_sl : SlR X (rSlD X.KF) := by
  intro pins s σ H x v vl vu lo hi sl Q I rx hs pl pu ⟨dx, fx, c, e, q⟩
  cases fx with
  | lst h a =>
    cases e
    obtain ⟨T, id, h1, h2, h3⟩ := sl_list pins s σ H _ v vl vu lo hi sl (fun v H1 => ∃ p u, v = .ref p ∧ H1 p = some u ∧ Mut (some u) ∧ ∀ o, Q v (L2.upd H1 p (.frz o u))) I rx hs pl pu ⟨_, _, rfl, h.sq, fun p np => ⟨p, _, rfl, upd_same, trivial, fun o => by
      obtain ⟨h1, h2⟩ := fz_new (o := o) np (cut_fz a (lo := lo) (hi := hi))
      exact q _ _ h1 h2⟩⟩
    exact ⟨T, id, h1, h2, wpAny_mono h3 (fun u s' h => ep_lock h) fun _ _ x => x⟩
  | tup h a =>
    cases e
    cases rx
    obtain ⟨its, r, ht, hz⟩ := I.tuple h.sq
    have hlen := (show its.toArray.size = its.length from List.size_toArray).trans r.length.symm
    refine ⟨"tuple", _, PyProof.Rows.slot_tuple_getitem.lookup, ht.typeIs, ?_⟩
    by_cases hw : HT.sIx its.toArray.size 0 lo = 0 ∧ HT.sIx its.toArray.size its.toArray.size hi = its.toArray.size
    · refine getItem_tuple_whole ht hs pl pu hw ⟨.ref _, H, I, rfl, ?_⟩
      rw [hlen, a.length] at hw
      rw [cut_all hw] at q
      exact q _ _ (Same.refl _) (.tup h a)
    · refine HT.getItem_tuple_cut ht hs pl pu hw ?_ (by rw [hlen]; exact hz)
      rw [hlen]
      exact ep_tup (t := s.toks) I ((r.drop _).take _) (cut_fz a (lo := lo) (hi := hi)) (Nat.le_trans (cutV_length _ lo hi) hz) q
  | str z =>
    simp only [slD] at e
    split at e
    · rename_i hz
      cases e
      exact sl_str pins s σ H _ v vl vu lo hi sl Q I rx hs pl pu ⟨_, rfl, hz, q _ _ (Same.refl _) (.str _)⟩
    · cases e
  | _ => cases e
def eSl (m : M D) (l h : M (Option Int)) : M D := bnd m fun x => bnd l fun lo => bnd h fun hi => lift (slD x lo hi)
theorem r_sl {lo hi : Option Expr} {ml mh : M (Option Int)} {p2 : Pos} (ha : RE X W a ma) (hl : RP X W lo ml) (hh : RP X W hi mh) : RE X W (.Subscript a (.Slice lo hi none p2) pos) (eSl ma ml mh) := PE.imp (pe_slice i_sl ha hl hh) fun σ H Q h =>
  tG_mono (tG_bind h) fun v H1 _ ⟨x, r, q⟩ => tG_mono (tG_bind q) fun l H2 p2 ⟨lo, e2, q2⟩ => tG_mono (tG_bind q2) fun u H3 p3 ⟨hi, e3, q3⟩ => by
    subst e2 e3
    obtain ⟨c, e, q⟩ := tG_lift q3
    exact ⟨x, (r.pers p2).pers p3, c, e, q⟩
/-! ### sorted -/
def alkB (xs : List D) : Bool := xs.all fun x => xs.all fun y => PySem.W.alike x y
def tup1 : D → Bool
  | .tuple _ => true
  | _ => false
def noTN : D → Bool
  | .none => false
  | .tuple _ => false
  | _ => true
def srtOk (xs : List D) : Bool := PyData.plainAll xs && (alkB xs && (decide (PyData.depthAll xs ≤ 60) && (xs.all tup1 || xs.all noTN)))
def sortD (xs : List D) : List D := xs.mergeSort fun a b => !PySem.W.dataLt b a
def sorted1 : D → Option (List D)
  | .list xs => if srtOk xs = true then some (sortD xs) else none
  | _ => none
def sortedD : List D → Option D
  | [x] => (sorted1 x).map .list
  | _ => none
theorem depth_mem : ∀ {xs : List D} {x : D}, x ∈ xs → x.depth ≤ PyData.depthAll xs
  | y :: ys, x, h => by
    rw [PyData.depthAll]
    rcases List.mem_cons.mp h with rfl | h
    · omega
    · have := depth_mem h
      omega
theorem each_of {K : KF} : ∀ {vs : List V} {us : List Value} {ds : List D}, Vals vs us → FzAll K H vs ds → PySem.W.EachIs (fun u (b : V × D) => RelV b.1 u ∧ Fz K H b.1 b.2) us (vs.zip ds) ∧ (vs.zip ds).map (·.2) = ds ∧ (vs.zip ds).length = ds.length
  | _, _, _, .nil, .nil => ⟨.nil, rfl, rfl⟩
  | _, _, _, .cons r rs, .cons f fs => by
    obtain ⟨h1, h2, h3⟩ := each_of rs fs
    exact ⟨.cons ⟨r, f⟩ h1, by rw [List.zip_cons_cons, List.map_cons, h2], by rw [List.zip_cons_cons, List.length_cons, h3, List.length_cons]⟩
theorem of_each {K : KF} : ∀ {us : List Value} {bs : List (V × D)}, PySem.W.EachIs (fun u (b : V × D) => RelV b.1 u ∧ Fz K H b.1 b.2) us bs → Vals (bs.map (·.1)) us ∧ FzAll K H (bs.map (·.1)) (bs.map (·.2))
  | _, _, .nil => ⟨.nil, .nil⟩
  | _, _, .cons ⟨r, f⟩ t => by
    obtain ⟨h1, h2⟩ := of_each t
    exact ⟨.cons r h1, .cons f h2⟩
theorem sorted_list (hu : X.A.units + 64 < cLine) {l : Addr} {its : List Value} {vs : List V} {xs : List D} (I : Inv X pins σ H s) (pl : s.heap.IsList l its.toArray) (rv : Vals vs its) (a : FzAll X.KF H vs xs) (hm : srtOk xs = true) (hz : vs.length ≤ sizeLine)
    (q : ∀ b H', Same H H' → Fz X.KF H' b (.list (sortD xs)) → Q b H') : wpAny (model X.prog X.w) X.A (call (.builtin "sorted") [.ref l]) (EP X pins σ Q) X.xe s := by
  simp only [srtOk, Bool.and_eq_true, decide_eq_true_eq, Bool.or_eq_true, List.all_eq_true] at hm
  obtain ⟨m1, m2, m3, m4⟩ := hm
  obtain ⟨h1, h2, h3⟩ := each_of rv a
  have hz' : xs.length ≤ sizeLine := by rw [← a.length]; exact hz
  obtain ⟨as, ra⟩ := readsAll_of I rv a m1
  have er : PySem.W.EachIs (fun v (b : V × D) => ∃ as, Reads s.heap v b.2 as) its (vs.zip xs) := by
    clear h2 h3 m2 m3 m4 q hz hz' pl h1 hu
    induction rv generalizing xs as with
    | nil => cases a; exact .nil
    | cons r t ih =>
      cases a with | cons f fs =>
        cases ra with | cons r1 rs =>
          rw [PyData.plainAll, Bool.and_eq_true] at m1
          exact .cons ⟨_, r1⟩ (ih fs m1.2 _ rs)
  refine sorted_dataM (R := fun u (b : V × D) => RelV b.1 u ∧ Fz X.KF H b.1 b.2) (enc := fun b : V × D => b.2) pl h1 er ?_ ?_ (by rw [h3]; exact hz') ?_ fun out ho eo => ?_
  · rw [h2]
    intro d hd d' hd'
    simp only [alkB, List.all_eq_true] at m2
    exact m2 d hd d' hd'
  · rw [h2]
    rcases m4 with m4 | m4
    · refine .inl fun d hd => ?_
      have := m4 d hd
      unfold tup1 at this
      split at this
      · exact ⟨_, rfl⟩
      · cases this
    · refine .inr fun d hd => ?_
      have := m4 d hd
      unfold noTN at this
      split at this
      · cases this
      · cases this
      · rename_i n1 n2
        exact ⟨n1, n2⟩
  · intro b hb
    have : b.2 ∈ xs := by rw [← h2]; exact List.mem_map_of_mem hb
    have := depth_mem this
    omega
  · obtain ⟨ep, he'⟩ := PyProof.Rows.sortedAll_at s.heap its out.toArray
    obtain ⟨o1, o2⟩ := of_each eo
    have e2 : ((vs.zip xs).mergeSort (PySem.W.dataLe false fun b : V × D => b.2)).map (·.2) = sortD xs := by
      refine (PySem.W.sort_maps (s := fun a b : D => !PySem.W.dataLt b a) (fun b : V × D => b.2) (fun _ _ _ _ => rfl)).trans ?_
      rw [h2]
      rfl
    rw [e2] at o2
    have hlen := o2.length
    have hl2 : (sortD xs).length = xs.length := List.length_mergeSort _
    have I2 := I.laid (a := s.heap.objs.size + 1) (o := .lst _) (t' := s.toks) (fun _ _ => PyProof.Rows.sortedAll_old) (Nat.le_succ _) ⟨by rw [hlen, hl2]; exact hz', out, ep, o1, he'⟩
    have np : H (s.heap.objs.size + 1) = none := I.hok.fresh (Nat.le_succ _)
    refine ep_lock ⟨.ref _, _, I2, rfl, _, _, rfl, upd_same, trivial, fun o => ?_⟩
    obtain ⟨z1, z2⟩ := fz_new (o := o) np o2
    exact q _ _ z1 z2
theorem c_sorted (hu : X.A.units + 64 < cLine) : CallR X (.builtin "sorted") (rOA X.KF sortedD) := by
  intro pins s σ H xs us Q I r ⟨ds, fa, c, e, q⟩
  unfold sortedD at e
  split at e
  · rw [Option.map_eq_some_iff] at e
    obtain ⟨ys, e, rfl⟩ := e
    unfold sorted1 at e
    split at e
    · split at e
      · rename_i hm
        cases e
        cases fa with | cons f fa => cases fa; cases f with | lst h a =>
          obtain ⟨its, rv, pl, hz⟩ := I.list h.sq
          rw [ref1 r]
          exact sorted_list hu I pl.isList rv a hm hz q
      · cases e
    · cases e
  · cases e
end
section
variable {X : Cx} {W : WX} {pins : List (Addr × Obj)} {σ : St} {H : Hp} {s : Shared} {Q : VK} {e a b : Expr} {es : List Expr} {pos p : Pos} {ma mb : M D}
/-! ### name op= e -/
def sAug (i : Nat) (f : D → D → Option D) (m : M D) : M Fl := fun g => match g[i]? with
  | some (some (.d x)) => (match m g with
    | .ok y g1 => (match f x y with
      | some z => if freeAt g1 i = true then .ok .nx (g1.set i (some (.d z))) else .stuck
      | none => .stuck)
    | .exc c g1 => .exc c g1
    | .stuck => .stuck)
  | _ => .stuck
theorem r_aug {i : Nat} {x : Str} {m : M D} {op : Operator} {f : D → D → Option D} {pos' : Pos} (ho : OpR X (inplaceOp op) (rO2 X.KF f)) (hN : X.N.Nodup) (he : RE X W e m) (hi : X.N[i]? = some x := by rfl) (hx : Loc X.env.scope x := by first | exact Or.inl rfl | exact Or.inr rfl)
    (hf : X.fn x = true ∨ X.env.scope.names.lookup x = some .local := by first | exact .inl rfl | exact .inr rfl) : RS X W (.AugAssign (.Name x pos') op e pos) (sAug i f m) :=
  PS.imp (ps_aug hN hi hx he (fun pins s σ H x y v u Q I rx ry q => ho pins s σ H x y v u Q I rx ry q) hf) fun D σ H h => by
    obtain ⟨g, R, s, n, h⟩ := h
    unfold sAug at h
    cases eg : g[i]? with
    | none => rw [eg] at h; exact h.elim
    | some o =>
      cases o with
      | none => rw [eg] at h; exact h.elim
      | some t =>
        cases t with
        | ml b xs => rw [eg] at h; exact h.elim
        | md _ _ _ => rw [eg] at h; exact h.elim
        | mf _ _ => rw [eg] at h; exact h.elim
        | ob _ _ _ => rw [eg] at h; exact h.elim
        | d x =>
          rw [eg] at h
          obtain ⟨v, rt, h1, h2, h3⟩ := s.get eg
          cases h2 with
          | d fx =>
            refine ⟨v, h1, g, R, s, n, ?_⟩
            dsimp only at h
            cases em : m g with
            | stuck => rw [em] at h; exact h
            | exc c g1 => rw [em] at h; exact fun H' go => h σ H' go.s
            | ok y g1 =>
              rw [em] at h
              dsimp only at h
              intro u H1 go fy
              have pe : Pers H H1 := by
                obtain ⟨_, R1, s1, n1, e1, w1⟩ := go
                exact e1.pers s.live
              obtain ⟨bk, R1, s1, n1, e1, w1⟩ := go
              cases ef : f x y with
              | none => rw [ef] at h; exact h.elim
              | some z =>
                rw [ef] at h
                dsimp only at h
                by_cases hfr : freeAt g1 i = true
                · rw [if_pos hfr] at h
                  refine ⟨x, y, fx.pers pe, fy, z, ef, fun w H2 sm fz => ?_⟩
                  obtain ⟨R2, s2, n2, w2⟩ := (s1.same sm).set (.d fz) i (by simpa using n1)
                  exact h _ H2 ⟨bk.trans (borK_set hfr), (Kp.refl g σ).trans bk (kp_set hfr), R2, s2, n2, e1.trans w1 (.of_same sm), fun a ha => w1 a (by simpa using w2 a ha)⟩
                · rw [if_neg hfr] at h
                  exact h.elim
def imulD : D → D → Option D
  | .int i, .int j => if mulOk i j = true then some (.int (i * j)) else none
  | _, _ => none
theorem io_mul : OpR X (inplaceOp .Mult) (rO2 X.KF imulD) := by
  intro pins s σ H x y v u Q I rx ry ⟨dx, dy, fx, fy, c, e, q⟩
  cases fx with
  | int i =>
    cases fy with
    | int j =>
      simp only [imulD] at e
      split at e
      · rename_i hm
        cases e
        refine iop_mul pins s σ H _ _ v u Q I rx ry ⟨i, j, rfl, rfl, ?_, q _ _ (Same.refl _) (.int _)⟩
        simp only [mulOk, Bool.or_eq_true, Bool.and_eq_true, decide_eq_true_eq] at hm
        exact hm
      · cases e
    | _ => cases e
  | _ => cases e
/-! ### several values at once, new lists among them -/
inductive TReps (K : KF) (H : Hp) : List V → List Tv → List Addr → Prop
  | nil : TReps K H [] [] []
  | cons {v : V} {t : Tv} {rt : List Addr} {vs : List V} {ts : List Tv} {R : List Addr} : TRep K H v t rt → TReps K H vs ts R → TReps K H (v :: vs) (t :: ts) (rt ++ R)
def GoM (K : KF) (σ : St) (R : List Addr) (H : Hp) (g g' : Ga) (vs : List V) (ts : List Tv) (H' : Hp) : Prop :=
  BorK g g' ∧ ∃ Rt R', TReps K H' vs ts Rt ∧ SRep K H' σ g' R' ∧ (Rt ++ R').Nodup ∧ Ext R H H' ∧ New R H (Rt ++ R')
def tM (K : KF) (W : WX) (m : M (List Tv)) : TA := fun σ H Q => ∃ g R, SRep K H σ g R ∧ R.Nodup ∧ match m g with
  | .ok ts g' => ∀ vs H', GoM K σ R H g g' vs ts H' → Q vs H'
  | .exc c g' => ∀ H', Go K σ R H g g' H' → W (.ref (He.ga K c)) none σ H'
  | .stuck => False
def RM (X : Cx) (W : WX) (es : List Expr) (m : M (List Tv)) : Prop := PA X es (tM X.KF W m)
theorem m_nil : RM X W [] (fun g => .ok [] g) := PA.imp pa_nil fun σ H Q h => by
  obtain ⟨g, R, s, n, h⟩ := h
  exact h [] H ⟨BorK.refl g, [], R, .nil, s, by simpa using n, Ext.refl R H, by simpa using New.refl R H⟩
def mConsD (a : M D) (b : M (List Tv)) : M (List Tv) := bnd a fun x => bnd b fun xs g => .ok (.d x :: xs) g
def mConsL (a : M (List D)) (b : M (List Tv)) : M (List Tv) := bnd a fun x => bnd b fun xs g => .ok (.ml false x :: xs) g
theorem m_consD {es : List Expr} {m : M (List Tv)} (ha : RE X W a ma) (hr : RM X W es m) (hs : starEach (a :: es) X.env = (false, eval a X.env) :: starEach es X.env := by rfl) : RM X W (a :: es) (mConsD ma m) :=
  PA.imp (pa_cons ha hr hs) fun σ H Q h => by
    obtain ⟨g, R, s, n, h⟩ := h
    refine ⟨g, R, s, n, ?_⟩
    unfold mConsD bnd at h
    cases e1 : ma g with
    | stuck => rw [e1] at h; exact h
    | exc c g' => rw [e1] at h; exact h
    | ok x g1 =>
      rw [e1] at h
      dsimp only at h
      intro v H1 go fx
      obtain ⟨bk1, R1, s1, n1, x1, w1⟩ := go
      refine ⟨g1, R1, s1, n1, ?_⟩
      cases e2 : m g1 with
      | stuck => rw [e2] at h; exact h
      | exc c g' =>
        rw [e2] at h
        exact fun H' go => h H' (go.then bk1 x1 w1)
      | ok xs g2 =>
        rw [e2] at h
        dsimp only at h
        intro vs H2 go
        obtain ⟨bk2, Rt, R2, t2, s2, n2, x2, w2⟩ := go
        exact h (v :: vs) H2 ⟨bk1.trans bk2, Rt, R2, .cons (rt := []) (.d (fx.pers (x2.pers s1.live))) t2, s2, n2, x1.trans w1 x2, New.trans x1 w1 w2⟩
theorem m_consL {es : List Expr} {ma : M (List D)} {m : M (List Tv)} (ha : RL X W a ma) (hr : RM X W es m) (hs : starEach (a :: es) X.env = (false, eval a X.env) :: starEach es X.env := by rfl) : RM X W (a :: es) (mConsL ma m) :=
  PA.imp (pa_cons ha hr hs) fun σ H Q h => by
    obtain ⟨g, R, s, n, h⟩ := h
    refine ⟨g, R, s, n, ?_⟩
    unfold mConsL bnd at h
    cases e1 : ma g with
    | stuck => rw [e1] at h; exact h
    | exc c g' => rw [e1] at h; exact h
    | ok x g1 =>
      rw [e1] at h
      dsimp only at h
      intro p ws H1 go
      obtain ⟨bk1, hp, fx, R1, s1, n1, x1, w1⟩ := go
      obtain ⟨np, n1'⟩ := List.nodup_cons.mp n1
      have w1' : New R H R1 := w1.sub fun a ha => List.mem_cons_of_mem _ ha
      refine ⟨g1, R1, s1, n1', ?_⟩
      cases e2 : m g1 with
      | stuck => rw [e2] at h; exact h
      | exc c g' =>
        rw [e2] at h
        exact fun H' go => h H' (go.then bk1 x1 w1')
      | ok xs g2 =>
        rw [e2] at h
        dsimp only at h
        intro vs H2 go
        obtain ⟨bk2, Rt, R2, t2, s2, n2, x2, w2⟩ := go
        have hp2 : H2 p = some (.lst ws) := x2 p _ hp np
        have npp : p ∉ Rt ++ R2 := fun z => by
          rcases w2 p z with q | q
          · exact np q
          · rw [hp] at q; cases q
        refine h (.ref p :: vs) H2 ⟨bk1.trans bk2, [p] ++ Rt, R2, .cons (.ml hp2 (fx.pers (x2.pers s1.live))) t2, s2, ?_, x1.trans w1' x2, ?_⟩
        · rw [List.append_assoc, List.singleton_append]
          exact List.nodup_cons.mpr ⟨npp, n2⟩
        · intro c hc
          rw [List.append_assoc, List.singleton_append] at hc
          rcases List.mem_cons.mp hc with rfl | hc
          · exact w1 _ List.mem_cons_self
          · exact New.trans x1 w1' w2 c hc
/-- stored one after the other -/
def setAll : List Nat → List Tv → Ga → Option Ga
  | [], [], g => some g
  | i :: is, t :: ts, g => if freeAt g i = true then setAll is ts (g.set i (some t)) else none
  | _, _, _ => none
def sPar (is : List Nat) (m : M (List Tv)) : M Fl := bnd m fun ts g => match setAll is ts g with
  | some g' => .ok .nx g'
  | none => .stuck
def setVs : List Nat → List V → St → St
  | i :: is, v :: vs, σ => setVs is vs (σ.set i (some v))
  | _, _, σ => σ
theorem setAll_rep {K : KF} {H : Hp} : ∀ {is : List Nat} {vs : List V} {ts : List Tv} {Rt R : List Addr} {σ : St} {g g' : Ga}, TReps K H vs ts Rt → SRep K H σ g R → (Rt ++ R).Nodup → setAll is ts g = some g' →
    BorK g g' ∧ Kp g σ (setVs is vs σ) ∧ vs.length = is.length ∧ ∃ R', SRep K H (setVs is vs σ) g' R' ∧ R'.Nodup ∧ ∀ a ∈ R', a ∈ Rt ++ R
  | [], _, _, _, R, σ, g, g', .nil, s, n, e => by
    cases e
    exact ⟨BorK.refl _, Kp.refl _ _, rfl, R, s, by simpa using n, fun a h => by simpa using h⟩
  | i :: is, _, _, _, R, σ, g, g', .cons (rt := rt) (R := Rt) t ts, s, n, e => by
    unfold setAll at e
    split at e
    · rename_i hfr
      rw [List.append_assoc] at n
      have n0 : (Rt ++ R).Nodup := (List.nodup_append.mp n).2.1
      have n1 : (rt ++ R).Nodup := n.sublist (List.Sublist.append_left (List.sublist_append_right _ _) _)
      obtain ⟨R1, s1, m1, w1⟩ := s.set t i n1
      have n2 : (Rt ++ R1).Nodup := by
        rw [List.nodup_append]
        refine ⟨(List.nodup_append.mp n0).1, m1, fun a ha b hb hab => ?_⟩
        subst hab
        rcases List.mem_append.mp (w1 a hb) with z | z
        · exact (List.nodup_append.mp n).2.2 a z a (List.mem_append_left _ ha) rfl
        · exact (List.nodup_append.mp n0).2.2 a ha a z rfl
      obtain ⟨b2, k2, l2, R2, s2, m2, w2⟩ := setAll_rep ts s1 n2 e
      refine ⟨(borK_set hfr).trans b2, (kp_set hfr).trans (borK_set hfr) k2, by rw [List.length_cons, List.length_cons, l2], R2, s2, m2, fun a ha => ?_⟩
      rcases List.mem_append.mp (w2 a ha) with z | z
      · exact List.mem_append_left _ (List.mem_append_right _ z)
      · rcases List.mem_append.mp (w1 a z) with z | z
        · exact List.mem_append_left _ (List.mem_append_left _ z)
        · exact List.mem_append_right _ z
    · cases e
  | [], _, _, _, _, _, _, _, .cons _ _, _, _, e => by cases e
  | _ :: _, _, _, _, _, _, _, _, .nil, _, _, e => by cases e
theorem par_of {is : List Nat} {m : M (List Tv)} {D : Ends} {σ : St} {H : Hp} (h : tS X.KF W (sPar is m) D σ H) : tM X.KF W m σ H fun vs H1 => vs.length = is.length ∧ D.nx (setVs is vs σ) H1 := by
  obtain ⟨g, R, s, n, h⟩ := h
  refine ⟨g, R, s, n, ?_⟩
  unfold sPar bnd at h
  cases e1 : m g with
  | stuck => rw [e1] at h; exact h
  | exc c g' => rw [e1] at h; exact fun H' go => h σ H' go.s
  | ok ts g1 =>
    rw [e1] at h
    dsimp only at h
    intro vs H1 go
    obtain ⟨bk1, Rt, R1, t1, s1, n1, x1, w1⟩ := go
    cases es : setAll is ts g1 with
    | none => rw [es] at h; exact h.elim
    | some g' =>
      rw [es] at h
      obtain ⟨b2, k2, l2, R2, s2, n2, w2⟩ := setAll_rep t1 s1 n1 es
      exact ⟨l2, h _ H1 ⟨bk1.trans b2, (Kp.refl g σ).trans bk1 k2, R2, s2, n2, x1, w1.sub w2⟩⟩
theorem tM_mono {m : M (List Tv)} {σ : St} {H : Hp} {Q Q' : List V → Hp → Prop} (h : tM X.KF W m σ H Q) (k : ∀ vs H', Q vs H' → Q' vs H') : tM X.KF W m σ H Q' := by
  obtain ⟨g, R, s, n, h⟩ := h
  refine ⟨g, R, s, n, ?_⟩
  cases e1 : m g with
  | stuck => rw [e1] at h; exact h
  | exc c g' => rw [e1] at h; exact h
  | ok ts g1 => rw [e1] at h; exact fun vs H' go => k vs H' (h vs H' go)
theorem r_par2 {i j : Nat} {x y : Str} {m : M (List Tv)} {px py pt : Pos} {kt k2 pt2} (hc : X.calm = true) (hN : X.N.Nodup) (ha : RM X W [a, b] m) (hij : i ≠ j := by decide) (hi : X.N[i]? = some x := by rfl) (hj : X.N[j]? = some y := by rfl)
    (hx : X.env.scope.names.lookup x = some .local := by rfl) (hy : X.env.scope.names.lookup y = some .local := by rfl)
    (hw : swappedStores [.Tuple [.Name x px, .Name y py] kt pt] (.Tuple [a, b] k2 pt2) X.env = pure (some [x, y]) := by rfl)
    (hs : swapsWithSole [.Tuple [.Name x px, .Name y py] kt pt] (.Tuple [a, b] k2 pt2) pos.line X.env = pure false := by rfl) : RS X W (.Assign [.Tuple [.Name x px, .Name y py] kt pt] (.Tuple [a, b] k2 pt2) pos) (sPar [i, j] m) :=
  PS.imp (ps_par hc hN hi hj hij hx hy ha hw hs) fun D σ H h => tM_mono (par_of h) fun vs H1 ⟨l, q⟩ => by
    match vs, l with
    | [v, w], _ => exact ⟨v, w, rfl, q⟩
theorem r_par3 {i j l : Nat} {x y z : Str} {c : Expr} {m : M (List Tv)} {px py pz pt : Pos} {kt k2 pt2} (hc : X.calm = true) (hN : X.N.Nodup) (ha : RM X W [a, b, c] m) (hij : i ≠ j := by decide) (hil : i ≠ l := by decide) (hjl : j ≠ l := by decide) (hi : X.N[i]? = some x := by rfl) (hj : X.N[j]? = some y := by rfl) (hl : X.N[l]? = some z := by rfl)
    (hx : X.env.scope.names.lookup x = some .local := by rfl) (hy : X.env.scope.names.lookup y = some .local := by rfl) (hz : X.env.scope.names.lookup z = some .local := by rfl)
    (hw : swappedStores [.Tuple [.Name x px, .Name y py, .Name z pz] kt pt] (.Tuple [a, b, c] k2 pt2) X.env = pure (some [x, y, z]) := by rfl)
    (hs : swapsWithSole [.Tuple [.Name x px, .Name y py, .Name z pz] kt pt] (.Tuple [a, b, c] k2 pt2) pos.line X.env = pure false := by rfl) : RS X W (.Assign [.Tuple [.Name x px, .Name y py, .Name z pz] kt pt] (.Tuple [a, b, c] k2 pt2) pos) (sPar [i, j, l] m) :=
  PS.imp (ps_par3 hc hN hi hj hl hij hil hjl hx hy hz ha hw hs) fun D σ H h => tM_mono (par_of h) fun vs H1 ⟨l, q⟩ => by
    match vs, l with
    | [v, w, u], _ => exact ⟨v, w, u, rfl, q⟩
/-! ### raise X() -/
structure ExcOk (X : Cx) (x : Str) : Prop where
  mg : X.mg x = some (.ref (He.ga X.KF x))
  kp : PySem.W.keepIn X.KF (.ref (He.ga X.KF x)) = true
  rs : Raises X (.ref (He.ga X.KF x))
  ex : ∃ bmB B newId initId, ExcBaseFacts B newId initId bmB ∧ PySem.W.excIn X.KF (He.ga X.KF x) bmB newId = true
def sRaise (x : Str) : M Fl := fun g => .exc x g
/-! ### try: .. except X: return 'text' .. -/
/-- the clauses: the class's name, which exceptions it takes, the text -/
abbrev Hd := Str × List (Str × Bool) × Str
def tRetS (z : Str) : Addr → Value → Option Addr → TS := fun _ _ _ D _ H => D.rt (.str z) H
inductive HdsR (X : Cx) : List ExceptHandler → List Hd → Prop
  | nil : HdsR X [] []
  | cons {x z : Str} {tb : List (Str × Bool)} {hds : List ExceptHandler} {l : List Hd} {np pos' p1 p2 : Pos} {k : Nat} (hm : X.mg x = some (.ref (He.ga X.KF x))) (ht : ∀ q ∈ tb, PySem.W.exmOne X.KF (.ref (He.ga X.KF q.1)) (.ref (He.ga X.KF x)) = some q.2) (r : HdsR X hds l) (hg : Gl X x := by rfl) (hdb : (x == ("__debug__" : Str)) = false := by decide) :
      HdsR X (.ExceptHandler (some (.Name x np)) none [.Return (some (.Constant (.str z) k p1)) p2] pos' :: hds) ((x, tb, z) :: l)
def hdT (K : KF) (l : List Hd) : List (Value × (Addr → Value → Option Addr → TS)) := l.map fun h => (.ref (He.ga K h.1), tRetS h.2.2)
theorem HdsR.ok : ∀ {hds : List ExceptHandler} {l : List Hd}, HdsR X hds l → HdsOk X hds (hdT X.KF l)
  | _, _, .nil => .nil
  | _, _, .cons hm ht r hg hdb => .cons ⟨hg, hdb, .inl hm⟩ (fun a oe cls d pn _ _ => pss_one (ps_ret pe_str)) (HdsR.ok r)
/-! ### is None -/
end
section
variable {X : Cx} {W : WX} {pins : List (Addr × Obj)} {σ : St} {H : Hp} {s : Shared} {Q : VK} {e a b : Expr} {es : List Expr} {pos p : Pos} {ma mb : M D}
/-! ### dict(pairs) -/
def pairD : D → Option (Key × D)
  | .tuple [k, v] => (keyD k).map fun kk => (kk, v)
  | _ => none
def pairsD : List D → Option (List (Key × D))
  | [] => some []
  | x :: xs => match pairD x, pairsD xs with
    | some p, some ps => some (p :: ps)
    | _, _ => none
def putA {α : Type} (kvs : List (Key × α)) (k : Key) (v : α) : List (Key × α) :=
  if (kvs.any fun kv => decide (kv.1 = k)) = true then kvs.map (fun kv => if kv.1 = k then (kv.1, v) else kv) else kvs ++ [(k, v)]
def mergeA {α : Type} (kvs more : List (Key × α)) : List (Key × α) := more.foldl (fun acc kv => putA acc kv.1 kv.2) kvs
def toDict (kvs : List (Key × D)) : D := .dict (kvs.map fun p => (kD p.1, p.2))
inductive KR (K : KF) (H : Hp) : List (Key × V) → List (Key × D) → Prop
  | nil : KR K H [] []
  | cons {k : Key} {v : V} {d : D} {vs : List (Key × V)} {ds : List (Key × D)} : Fz K H v d → KR K H vs ds → KR K H ((k, v) :: vs) ((k, d) :: ds)
theorem KR.pers {K : KF} {H H' : Hp} {vs : List (Key × V)} {ds : List (Key × D)} (h : KR K H vs ds) (p : Pers H H') : KR K H' vs ds := by
  induction h with
  | nil => exact .nil
  | cons f _ ih => exact .cons (f.pers p) ih
theorem KR.append {K : KF} {vs ws : List (Key × V)} {ds es : List (Key × D)} (h : KR K H vs ds) (h2 : KR K H ws es) : KR K H (vs ++ ws) (ds ++ es) := by
  induction h with
  | nil => exact h2
  | cons f _ ih => exact .cons f ih
theorem KR.any {K : KF} {k : Key} {vs : List (Key × V)} {ds : List (Key × D)} (h : KR K H vs ds) : (vs.any fun kv => decide (kv.1 = k)) = ds.any fun kv => decide (kv.1 = k) := by
  induction h with
  | nil => rfl
  | cons f _ ih => rw [List.any_cons, List.any_cons, ih]
theorem KR.put {K : KF} {k : Key} {v : V} {d : D} {vs : List (Key × V)} {ds : List (Key × D)} (h : KR K H vs ds) (f : Fz K H v d) : KR K H (putK vs k v) (putA ds k d) := by
  unfold putK putA
  rw [h.any]
  split
  · rename_i hh
    clear hh
    induction h with
    | nil => exact .nil
    | @cons k1 v1 d1 vs ds f1 _ ih =>
      rw [List.map_cons, List.map_cons]
      by_cases hk : k1 = k
      · rw [if_pos hk, if_pos hk]
        exact .cons f ih
      · rw [if_neg hk, if_neg hk]
        exact .cons f1 ih
  · exact h.append (.cons f .nil)
theorem KR.merge {K : KF} {ws : List (Key × V)} {es : List (Key × D)} (h2 : KR K H ws es) : ∀ {vs : List (Key × V)} {ds : List (Key × D)}, KR K H vs ds → KR K H (mergeK vs ws) (mergeA ds es) := by
  induction h2 with
  | nil => exact fun h => h
  | cons f _ ih => exact fun h => ih (h.put f)
theorem KR.fz {K : KF} {a : Addr} {o : Obj} {vs : List (Key × V)} {ds : List (Key × D)} (h : KR K H vs ds) (e : H a = some (.frz o (.dK vs))) : Fz K H (.ref a) (toDict ds) := by
  have h1 : FzAll K H (vs.map (·.2)) (ds.map (·.2)) := by
    clear e
    induction h with
    | nil => exact .nil
    | cons f _ ih => exact .cons f ih
  have h2 : (vs.map fun p => kD p.1).zip (ds.map (·.2)) = ds.map fun p => (kD p.1, p.2) := by
    clear e h1
    induction h with
    | nil => rfl
    | cons f _ ih => rw [List.map_cons, List.map_cons, List.zip_cons_cons, ih, List.map_cons]
  have := Fz.dK (K := K) e h1
  rw [h2] at this
  exact this
/-- the pairs, as the heap has them -/
theorem pairs_fz (I : Inv X pins σ H s) : ∀ {vs : List V} {ds : List D} {ks : List (Key × D)}, FzAll X.KF H vs ds → pairsD ds = some ks →
    ∃ (ts : List Addr) (kvs : List (Key × V)) (prs : List (Key × Value)) (ps : List (Value × Value)), vs = ts.map V.ref ∧ KR X.KF H kvs ks ∧ KV kvs prs ∧ prs.length = ts.length ∧ ps.length = ts.length ∧
      ∀ (j : Nat) (k v : Value), ps[j]? = some (k, v) → ∃ (b : Addr) (kk : Key), ts[j]? = some b ∧ PySem.PairAt s.heap b k v ∧ prs[j]? = some (kk, v) ∧ (mixKind X.prog X.w).is kk k = true
  | _, _, ks, .nil, e => by
    cases e
    exact ⟨[], [], [], [], rfl, .nil, .nil, rfl, rfl, fun j k v q => by simp at q⟩
  | _, _, ks, .cons (d := d) (ds := ds) f fa, e => by
    unfold pairsD at e
    split at e
    · rename_i p ps e1 e2
      cases e
      obtain ⟨ts, kvs, prs, pvs, rfl, h2, h3, h4, h5, h6⟩ := pairs_fz I fa e2
      unfold pairD at e1
      split at e1
      · rw [Option.map_eq_some_iff] at e1
        obtain ⟨kk, ek, rfl⟩ := e1
        cases f with
        | tup h a =>
          cases a with | cons fk a => cases a with | cons fv a =>
            cases a
            have := kV_of fk ek
            subst this
            obtain ⟨its, rv, ht, _⟩ := I.tuple h.sq
            obtain ⟨u, y, ei, ru, ry⟩ := vals2 rv
            subst ei
            refine ⟨_ :: ts, (kk, _) :: kvs, (kk, y) :: prs, (u, y) :: pvs, rfl, .cons fv h2, .cons ⟨rfl, ry⟩ h3, by rw [List.length_cons, List.length_cons, h4], by rw [List.length_cons, List.length_cons, h5], fun j k v q => ?_⟩
            cases j with
            | zero =>
              have q' : (u, y) = (k, v) := Option.some.inj q
              cases q'
              exact ⟨_, kk, rfl, .inl ht, rfl, kV_is ru⟩
            | succ j =>
              obtain ⟨b, k2, q1, q2, q3, q4⟩ := h6 j k v (by simpa using q)
              exact ⟨b, k2, by simpa using q1, q2, by simpa using q3, q4⟩
      · cases e1
    · cases e
def dictD : List D → Option D
  | [.list xs] => (pairsD xs).map fun ks => toDict (mergeA [] ks)
  | [.tuple (x :: xs)] => (pairsD (x :: xs)).map fun ks => toDict (mergeA [] ks)
  | _ => none
theorem dict_fin {T : String} {l : Addr} {items : List Value} {vs : List V} {ds : List D} {ks : List (Key × D)} {n : Nat} {o : Obj} (hc : X.calm = true) (I : Inv X pins σ H s) (fa : FzAll X.KF H vs ds) (ek : pairsD ds = some ks) (rv : Vals vs items) (hz : vs.length ≤ sizeLine)
    (ho : s.heap.get? l = some o) (hcl : o.cls = .type T) (hd : o.dict = none) (hdat : o.data = .seq items.toArray n) (hT : T = "list" ∨ T = "tuple")
    (q : ∀ b H', Same H H' → Fz X.KF H' b (toDict (mergeA [] ks)) → Q b H') : wpAny (model X.prog X.w) X.A (call (.type "dict") [.ref l]) (EP X pins σ Q) X.xe s := by
  obtain ⟨ts, kvs, prs, ps, rfl, h2, h3, h4, h5, h6⟩ := pairs_fz I fa ek
  have ei := refs_at rv
  subst ei
  rw [List.length_map] at hz
  have items_ok : PySem.PairItems s.heap (ts.map Value.ref).toArray (fun j => ts.getD j 0) ps := by
    refine ⟨by simp [h5], fun j k v e => ?_⟩
    obtain ⟨b, kk, q1, q2, q3, q4⟩ := h6 j k v e
    have e1 : ts.getD j 0 = b := by rw [List.getD_eq_getElem?_getD, q1]; rfl
    exact ⟨by simp [q1, e1], by show PairAt s.heap (ts.getD j 0) k v; rw [e1]; exact q2⟩
  have have_ok : PySem.PairsHave (mixKind X.prog X.w) ps.length (PySem.PairRel ps) prs := by
    refine ⟨by rw [h4, h5], fun i key v e => ?_⟩
    obtain ⟨b, kk, q1, q2, q3, q4⟩ := h6 i key v e
    exact ⟨kk, q3, q4⟩
  have pl : PySem.PlainSeq T s.heap l (ts.map Value.ref).toArray := ⟨o, n, ho, hcl, hd, hdat⟩
  have fin : ∀ h' tk, h'.DictOf (mixKind X.prog X.w) s.heap.objs.size (merged [] prs) → (∀ b o, b ∉ ([] : List Addr) → s.heap.get? b = some o → h'.get? b = some o) → EP X pins σ Q (.ref s.heap.objs.size) { s with heap := h', toks := tk } := fun h' tk hd' k => by
    have hm : (s.heap.objs.size == sysModules) = false := beq_eq_false_iff_ne.mpr (Nat.ne_of_gt I.big)
    have hlen : (mergeK [] kvs).length ≤ sizeLine := by
      refine Nat.le_trans (length_mergeK kvs []) ?_
      rw [List.length_nil, Nat.zero_add, h3.length, h4]
      exact hz
    have np : H s.heap.objs.size = none := I.hok.fresh (Nat.le_refl _)
    have I2 := I.laid (a := s.heap.objs.size) (t' := tk) (fun b o => k b o (by simp)) (Nat.le_refl _) (show ObjOk X.prog X.w _ _ _ (.dK (mergeK [] kvs)) from ⟨hlen, hm, merged [] prs, KV.merge h3 .nil, hd'⟩)
    refine ep_lock ⟨.ref s.heap.objs.size, _, I2, rfl, _, _, rfl, upd_same, trivial, fun od => ?_⟩
    rw [upd_upd]
    have sm : Same H (L2.upd H s.heap.objs.size (.frz od (.dK (mergeK [] kvs)))) := Same.upd np
    exact q _ _ sm (KR.fz ((KR.merge h2 .nil).pers (.of_same sm)) upd_same)
  rcases hT with rfl | rfl
  · exact PySem.call_dict_pairs (PySem.PairArg.list l _ _ ps) (I.ok.hd hc) ⟨pl, items_ok⟩ have_ok (by rw [h5]; exact hz) fin
  · exact PySem.call_dict_pairs (PySem.PairArg.tuple l _ _ ps) (I.ok.hd hc) ⟨pl, items_ok⟩ have_ok (by rw [h5]; exact hz) fin
theorem c_dict (hc : X.calm = true) : CallR X (.type "dict") (rOA X.KF dictD) := by
  intro pins s σ H xs us Q I r ⟨ds, fa, c, e, q⟩
  unfold dictD at e
  split at e
  · rw [Option.map_eq_some_iff] at e
    obtain ⟨ks, e, rfl⟩ := e
    cases fa with | cons f fa => cases fa; cases f with | lst h a =>
      rw [ref1 r]
      obtain ⟨its, rv, pl, hz⟩ := I.list h.sq
      obtain ⟨o, n, ho, hcl, hd, hdat⟩ := pl
      exact dict_fin hc I a e rv hz ho hcl hd hdat (.inl rfl) q
  · rw [Option.map_eq_some_iff] at e
    obtain ⟨ks, e, rfl⟩ := e
    cases fa with | cons f fa => cases fa; cases f with | tup h a =>
      rw [ref1 r]
      obtain ⟨its, rv, pl, hz⟩ := I.tuple h.sq
      have nk : ∀ {vs : List V} {x : D} {xs : List D}, FzAll X.KF H vs (x :: xs) → pairsD (x :: xs) = some ks → vs.all vKey = false := fun {vs x xs} a e => by
        cases a with | cons f a =>
          unfold pairsD at e
          split at e
          · rename_i p ps e1 e2
            unfold pairD at e1
            split at e1
            · cases f
              rfl
            · cases e1
          · cases e
      obtain ⟨o, od, ho⟩ := h.exact (nk a e)
      obtain ⟨ho, _⟩ := I.hok _ _ ho
      obtain ⟨o2, ho2, hcl, n, hdat⟩ := pl
      rw [ho] at ho2
      cases ho2
      exact dict_fin hc I a e rv hz ho hcl od hdat (.inr rfl) q
  · cases e
end
theorem takesF {X : Cx} : Takes X WF := fun u s' ⟨a, B, sI, pins, σ, H, cls, d, e, I, nb, up, sky, na, os, ag, w⟩ => w.elim
def blkB (N : List Str) (sc scope : Scope) (own : List (Str × Nat)) : Bool :=
  (match scope.kind with | .function => true | _ => false) && (scope.names.all (fun y => decide (scope.names.lookup y.1 = some y.2)) && (own.all (fun p => decide (N[p.2]? = some p.1)) &&
  (scope.names.all (fun y => !decide (y.2 = .free) || (decide (sc.names.lookup y.1 = some .cell) || decide (sc.names.lookup y.1 = some .free))) &&
  scope.names.all (fun y => !(decide (y.2 = .local) || decide (y.2 = .cell)) || ((own.map (·.1)).contains y.1 || !N.contains y.1)))))
theorem blk_of {N : List Str} {sc scope : Scope} {own : List (Str × Nat)} (h : blkB N sc scope own = true) : BlkOk N sc scope own := by
  simp only [blkB, Bool.and_eq_true, List.all_eq_true, decide_eq_true_eq, Bool.or_eq_true, Bool.not_eq_true', decide_eq_false_iff_not] at h
  obtain ⟨h1, h2, h3, h4, h5⟩ := h
  refine ⟨?_, h2, h3, fun y hy e => ?_, fun y hy e => ?_⟩
  · split at h1
    · assumption
    · cases h1
  · rcases h4 y hy with q | q
    · exact absurd e q
    · exact q
  · rcases h5 y hy with q | q
    · simp only [Bool.or_eq_false_iff, decide_eq_false_iff_not] at q
      rcases e with e | e
      · exact absurd e q.1
      · exact absurd e q.2
    · rcases q with q | q
      · exact .inl (by simpa using q)
      · exact .inr (by simpa using q)
abbrev nilA : M (List D) := fun g => .ok [] g
def fuelL (i : Nat) : Ga → Nat := fun g => match g[i]? with
  | some (some (.ml _ xs)) => xs.length + 1
  | _ => 0
/-! ### own exceptions -/
structure ExcK (K : PySem.W.Frag) (mg : Str → Option Value) (x : Str) : Prop where
  mg : mg x = some (.ref (He.ga K x))
  kp : PySem.W.keepIn K (.ref (He.ga K x)) = true
  su : PySem.W.subIn K (.ref (He.ga K x)) (.type "BaseException") = some true
  ty : PySem.W.typeIn K (.ref (He.ga K x)) = some (.type "type")
  ex : ∃ bmB B newId initId, ExcBaseFacts B newId initId bmB ∧ PySem.W.excIn K (He.ga K x) bmB newId = true
theorem exc_ok {X : Cx} {x : Str} (h : ExcK X.K X.mg x) : ExcOk X x := ⟨h.mg, h.kp, raises_own h.su h.ty, h.ex⟩
def ExcF (K : PySem.W.Frag) (mg : Str → Option Value) (l : List Str) : Prop := ∀ x, l.contains x = true → ExcK K mg x
def tabE (l : List Str) (x : Str) : List (Str × Bool) := l.map fun c => (c, decide (c = x))
def ExcM (K : PySem.W.Frag) (l : List Str) : Prop := ∀ x, l.contains x = true → ∀ tb, tabE l x = tb → ∀ q ∈ tb, PySem.W.exmOne K (.ref (He.ga K q.1)) (.ref (He.ga K x)) = some q.2
theorem ExcK.of {K : PySem.W.Frag} {mg : Str → Option Value} {h : Heap} {x : Str} (KX : K.In h) (G : h.Ns mainGlobals mg) (a : (He.Fa.glo x).ok K = true) (b : (He.Fa.exc x).ok K = true) : ExcK K mg x := by
  obtain ⟨b1, b2, b3, b4⟩ := He.exc_ok b
  exact ⟨He.glo_ok KX G a, b2, b3, b4, _, _, _, _, PySem.F.excBase_ValueError, b1⟩
theorem ExcF.nil {K : PySem.W.Frag} {mg : Str → Option Value} : ExcF K mg [] := fun x h => by simp at h
theorem ExcF.cons {K : PySem.W.Frag} {mg : Str → Option Value} {x : Str} {l : List Str} (a : ExcK K mg x) (b : ExcF K mg l) : ExcF K mg (x :: l) := fun y h => by
  rw [List.contains_cons, Bool.or_eq_true, beq_iff_eq] at h
  rcases h with rfl | h
  · exact a
  · exact b y h
def ExmR (K : PySem.W.Frag) (x : Str) (l : List Str) : Prop := ∀ c ∈ l, PySem.W.exmOne K (.ref (He.ga K c)) (.ref (He.ga K x)) = some (decide (c = x))
theorem ExmR.nil {K : PySem.W.Frag} {x : Str} : ExmR K x [] := fun x h => by simp at h
theorem ExmR.cons {K : PySem.W.Frag} {x y : Str} {b : Bool} {l : List Str} (a : (He.Fa.exm y x b).ok K = true) (r : ExmR K x l) (e : decide (y = x) = b := by decide +kernel) : ExmR K x (y :: l) := fun c h => by
  rcases List.mem_cons.mp h with rfl | h
  · rw [e]; exact He.exm_ok a
  · exact r c h
def ExmA (K : PySem.W.Frag) (l : List Str) : List Str → Prop
  | [] => True
  | x :: r => ExmR K x l ∧ ExmA K l r
theorem ExmA.get {K : PySem.W.Frag} {l : List Str} : ∀ {r : List Str}, ExmA K l r → ∀ x ∈ r, ExmR K x l
  | y :: r, h, x, hx => by
    rcases List.mem_cons.mp hx with rfl | hx
    · exact h.1
    · exact ExmA.get h.2 x hx
theorem ExcM.of {K : PySem.W.Frag} {l : List Str} (h : ExmA K l l) : ExcM K l := fun x hx tb e q hq => by
  subst e
  obtain ⟨c, hc, rfl⟩ := List.mem_map.mp hq
  exact h.get x (by simpa using hx) c hc
/-! ### law(script) -/
def spLaw (K : PySem.W.Frag) : Sp := fun vs H Q _ => ∃ (a : Addr) (ns : List Int), vs = [.ref a] ∧ ns.length ≤ 63 ∧ SqL K H a (ns.map V.int) ∧ ∀ H', Q (.bl true) H'
theorem ints_fz {K : KF} {H : Hp} : ∀ ns : List Int, FzAll K H (ns.map V.int) (ns.map PyData.int)
  | [] => .nil
  | n :: ns => .cons (.int n) (ints_fz ns)
theorem fn_law {P : Program} {w : World} {K : PySem.W.Frag} {mg : Str → Option Value} {base : Heap} {x qual : Str} {params : Arguments} {body : List Stmt} {scope : Scope} {f : Addr} {fd : FuncData} {N : List Str} {y : Str} {k : Nat} {m : M Fl} (F : FunD K x qual params body scope [] [] f fd) (S : FnScope N [y] scope)
    (hb : ∀ (X : Cx) (E : XK), X.prog = P → X.w = w → X.K = K → X.mg = mg → X.base = base → X.N = N → X.env.scope = scope → X.calm = true → X.fn = (fun _ => true) → X.stack = X.env :: X.outer → X.env.frame = some X.env.locals → Room k X.A → Takes X (WD E) → PassesOwn (model X.prog X.w) X.A X.env X.xe → RSs X (WD E) body m)
    (hm : ∀ ns : List Int, ns.length ≤ 63 → runP N.length m [.list (ns.map PyData.int)] = .ok (.bool true)) :
    FnOk P w K mg base (L2.CX P w) (k + 1) f fd [y] (spLaw K) := by
  have hpos : 0 < N.length := by
    have := S.pre
    cases N with
    | nil => simp at this
    | cons _ _ => simp
  refine F.ok S (fun vs H Q E h => ?_) fun cdv A outer s H vs Q E hr h => ?_
  · obtain ⟨a, ns, rfl, _⟩ := h
    rfl
  · obtain ⟨a, ns, rfl, hl, hs, q⟩ := h
    have hm' := hm ns hl
    have fin : ∀ {g g' : Ga} {σ σ' : St} {R : List Addr} {H0 H' : Hp}, (match m (dsG [.list (ns.map PyData.int)] N.length) with
        | .ok f g' => ∀ σ' H', GoS ⟨K, P, w⟩ (dsG [.list (ns.map PyData.int)] N.length) σ R H0 g' σ' H' → f.end ⟨K, P, w⟩ { nx := fun _ H' => Q .non H', rt := Q } σ' H'
        | .exc c g' => ∀ σ' H', GoS ⟨K, P, w⟩ (dsG [.list (ns.map PyData.int)] N.length) σ R H0 g' σ' H' → E (.ref (He.ga K c)) none H'
        | .stuck => False) := by
      intro g g' σ σ' R H0 H'
      unfold runP at hm'
      split at hm' <;> rename_i em
      · cases hm'
        rw [em]
        intro σ1 H1 _ v fv
        cases fv
        exact q H1
      · cases hm'
      · cases hm'
      · cases hm'
      · cases hm'
    by_cases hfz : FzL ⟨K, P, w⟩ H a (ns.map V.int)
    · exact ⟨_, (hb _ E rfl rfl rfl rfl rfl rfl rfl rfl rfl rfl rfl hr (takes_of rfl rfl rfl rfl) (passes_of rfl)), dsG _ N.length, [], start_ds (.cons (.lst hfz (ints_fz ns)) .nil), List.nodup_nil, fin (g := []) (g' := []) (σ' := []) (H' := H)⟩
    · have hlst : H a = some (.lst (ns.map V.int)) := by
        rcases hs with (hs | ⟨o, hs⟩) | hs
        · exact hs
        · exact absurd (.inl ⟨o, hs⟩) hfz
        · exact absurd (.inr hs) hfz
      refine ⟨_, r_frz (i := 0) (hb _ E rfl rfl rfl rfl rfl rfl rfl rfl rfl rfl rfl hr (takes_of rfl rfl rfl rfl) (passes_of rfl)), some (.ml false (ns.map PyData.int)) :: List.replicate (N.length - 1) none, [a], ?_, by simp, ?_⟩
      · unfold L2.start
        exact .cons (rt := [a]) (R := []) (.ml hlst (ints_fz ns)) (SRep.nones _)
      · have e1 : sSeq (sFrz 0) m (some (.ml false (ns.map PyData.int)) :: List.replicate (N.length - 1) none) = m (dsG [.list (ns.map PyData.int)] N.length) := rfl
        rw [e1]
        unfold runP at hm'
        split at hm' <;> rename_i em
        · cases hm'
          rw [em]
          intro σ1 H1 _ v fv
          cases fv
          exact q H1
        · cases hm'
        · cases hm'
        · cases hm'
        · cases hm'
/-! ### the mirrors, run on slots -/
def Rs.bind {α β : Type} (r : Rs α) (f : α → M β) : Rs β := match r with
  | .ok a g => f a g
  | .exc c g => .exc c g
  | .stuck => .stuck
section
variable {α β : Type} {g g' : Ga}
@[simp] theorem bind_ok (a : α) (f : α → M β) : (Rs.ok a g).bind f = f a g := rfl
@[simp] theorem bind_exc (c : Str) (f : α → M β) : (Rs.exc c g).bind f = .exc c g := rfl
@[simp] theorem bind_stuck (f : α → M β) : Rs.stuck.bind f = .stuck := rfl
@[simp] theorem bnd_app (m : M α) (f : α → M β) : bnd m f g = (m g).bind f := rfl
@[simp] theorem lift_some (a : α) : lift (some a) g = .ok a g := rfl
@[simp] theorem eC_app (x : D) : eC x g = .ok x g := rfl
@[simp] theorem eVar_0 {x : D} {r : Ga} : eVar 0 (some (.d x) :: r) = .ok x (some (.d x) :: r) := rfl
@[simp] theorem eVar_1 {a : Option Tv} {x : D} {r : Ga} : eVar 1 (a :: some (.d x) :: r) = .ok x (a :: some (.d x) :: r) := rfl
@[simp] theorem eVar_2 {a b : Option Tv} {x : D} {r : Ga} : eVar 2 (a :: b :: some (.d x) :: r) = .ok x (a :: b :: some (.d x) :: r) := rfl
@[simp] theorem eVar_3 {a b c : Option Tv} {x : D} {r : Ga} : eVar 3 (a :: b :: c :: some (.d x) :: r) = .ok x (a :: b :: c :: some (.d x) :: r) := rfl
@[simp] theorem eVar_4 {a b c d : Option Tv} {x : D} {r : Ga} : eVar 4 (a :: b :: c :: d :: some (.d x) :: r) = .ok x (a :: b :: c :: d :: some (.d x) :: r) := rfl
@[simp] theorem eVar_5 {a b c d e : Option Tv} {x : D} {r : Ga} : eVar 5 (a :: b :: c :: d :: e :: some (.d x) :: r) = .ok x (a :: b :: c :: d :: e :: some (.d x) :: r) := rfl
@[simp] theorem eVar_6 {a b c d e f : Option Tv} {x : D} {r : Ga} : eVar 6 (a :: b :: c :: d :: e :: f :: some (.d x) :: r) = .ok x (a :: b :: c :: d :: e :: f :: some (.d x) :: r) := rfl
@[simp] theorem eVar_7 {a b c d e f h : Option Tv} {x : D} {r : Ga} : eVar 7 (a :: b :: c :: d :: e :: f :: h :: some (.d x) :: r) = .ok x (a :: b :: c :: d :: e :: f :: h :: some (.d x) :: r) := rfl
@[simp] theorem eVar_8 {a b c d e f h i : Option Tv} {x : D} {r : Ga} : eVar 8 (a :: b :: c :: d :: e :: f :: h :: i :: some (.d x) :: r) = .ok x (a :: b :: c :: d :: e :: f :: h :: i :: some (.d x) :: r) := rfl
@[simp] theorem eVar_9 {a b c d e f h i j : Option Tv} {x : D} {r : Ga} : eVar 9 (a :: b :: c :: d :: e :: f :: h :: i :: j :: some (.d x) :: r) = .ok x (a :: b :: c :: d :: e :: f :: h :: i :: j :: some (.d x) :: r) := rfl
@[simp] theorem eVar_10 {a b c d e f h i j k : Option Tv} {x : D} {r : Ga} : eVar 10 (a :: b :: c :: d :: e :: f :: h :: i :: j :: k :: some (.d x) :: r) = .ok x (a :: b :: c :: d :: e :: f :: h :: i :: j :: k :: some (.d x) :: r) := rfl
@[simp] theorem ap1_app (f : D → Option α) (a : M D) : ap1 f a g = (a g).bind fun x => lift (f x) := rfl
@[simp] theorem ap2_app (f : D → D → Option α) (a b : M D) : ap2 f a b g = (a g).bind fun x => bnd b fun y => lift (f x y) := rfl
@[simp] theorem apA_app (f : List D → Option α) (a : M (List D)) : apA f a g = (a g).bind fun x => lift (f x) := rfl
@[simp] theorem aCons_app (a : M D) (b : M (List D)) : aCons a b g = (a g).bind fun x => bnd b fun xs g => .ok (x :: xs) g := rfl
@[simp] theorem nilA_app : nilA g = .ok [] g := rfl
@[simp] theorem tru_app (m : M D) : tru m g = (m g).bind fun x => lift (truD x) := rfl
@[simp] theorem tst_app (m : M D) : tst m g = (m g).bind fun x => lift (asB x) := rfl
@[simp] theorem asB_bool (b : Bool) : asB (.bool b) = some b := rfl
@[simp] theorem truD_bool (b : Bool) : truD (.bool b) = some b := rfl
@[simp] theorem truD_list (xs : List D) : truD (.list xs) = some (!xs.isEmpty) := rfl
@[simp] theorem truD_tuple (xs : List D) : truD (.tuple xs) = some (!xs.isEmpty) := rfl
@[simp] theorem mNot_app (t : M Bool) : mNot t g = (t g).bind fun k g => .ok (!k) g := rfl
@[simp] theorem mAnd_app (t u : M Bool) : mAnd t u g = (t g).bind fun k => if k = true then u else fun g => .ok false g := rfl
@[simp] theorem mOr_app (t u : M Bool) : mOr t u g = (t g).bind fun k => if k = true then fun g => .ok true g else u := rfl
@[simp] theorem eNot_app (m : M D) : eNot m g = (m g).bind fun x => lift ((truD x).map fun k => .bool (!k)) := rfl
def andK (x : D) (u : M D) : M D := match truD x with
  | some true => u
  | some false => fun g => .ok x g
  | none => fun _ => .stuck
def orK (x : D) (u : M D) : M D := match truD x with
  | some true => fun g => .ok x g
  | some false => u
  | none => fun _ => .stuck
@[simp] theorem eAnd_app (m u : M D) : eAnd m u g = (m g).bind fun x => andK x u := rfl
@[simp] theorem eOr_app (m u : M D) : eOr m u g = (m g).bind fun x => orK x u := rfl
@[simp] theorem andK_b (b : Bool) (u : M D) : andK (.bool b) u g = if b = true then u g else .ok (.bool false) g := by cases b <;> rfl
@[simp] theorem orK_b (b : Bool) (u : M D) : orK (.bool b) u g = if b = true then .ok (.bool true) g else u g := by cases b <;> rfl
@[simp] theorem eIf_app (t : M Bool) (a b : M α) : eIf t a b g = (t g).bind fun k => if k = true then a else b := rfl
@[simp] theorem eTup_app (m : M (List D)) : eTup m g = (m g).bind fun xs => lift (if xs.length ≤ sizeLine then some (.tuple xs) else none) := rfl
@[simp] theorem eLst_app (m : M (List D)) : eLst m g = (m g).bind fun xs => lift (if xs.length ≤ sizeLine then some (.list xs) else none) := rfl
@[simp] theorem lLst_app (m : M (List D)) : lLst m g = (m g).bind fun xs g => if xs.length ≤ sizeLine then .ok xs g else .stuck := rfl
@[simp] theorem frzL_app (m : M (List D)) : frzL m g = (m g).bind fun ys g => .ok (.list ys) g := rfl
@[simp] theorem eList_app (m : M (List D)) : eList m g = (m g).bind fun xs => lift (seqA xs) := rfl
@[simp] theorem eSl_app (m : M D) (l h : M (Option Int)) : eSl m l h g = (m g).bind fun x => bnd l fun lo => bnd h fun hi => lift (slD x lo hi) := rfl
@[simp] theorem pN_app : pN g = .ok none g := rfl
@[simp] theorem pS_app (m : M D) : pS m g = (m g).bind fun x => lift (partD x) := rfl
@[simp] theorem partD_int (i : Int) : partD (.int i) = some (some i) := rfl
def chn (r : Option D) (k : M D) : M D := match r with
  | some (.bool true) => k
  | some (.bool false) => fun g => .ok (.bool false) g
  | _ => fun _ => .stuck
@[simp] theorem chn_b (b : Bool) (k : M D) : chn (some (.bool b)) k g = if b = true then k g else .ok (.bool false) g := by cases b <;> rfl
@[simp] theorem eChain_app (f f' : D → D → Option D) (a b c : M D) : eChain f f' a b c g = (a g).bind fun x => bnd b fun y => chn (f x y) (bnd c fun z => lift (f' y z)) := by
  unfold eChain
  rfl
def Rs.seq (r : Rs Fl) (k : M Fl) : Rs Fl := match r with
  | .ok .nx g' => k g'
  | r => r
@[simp] theorem seq_nx (k : M Fl) : (Rs.ok .nx g).seq k = k g := rfl
@[simp] theorem seq_ret (x : D) (k : M Fl) : (Rs.ok (.ret x) g).seq k = .ok (.ret x) g := rfl
@[simp] theorem seq_brk (k : M Fl) : (Rs.ok .brk g).seq k = .ok .brk g := rfl
@[simp] theorem seq_cnt (k : M Fl) : (Rs.ok .cnt g).seq k = .ok .cnt g := rfl
@[simp] theorem seq_exc (c : Str) (k : M Fl) : (Rs.exc c g).seq k = .exc c g := rfl
theorem seq_ite {c : Prop} [Decidable c] (a b : Rs Fl) (k : M Fl) : (if c then a else b).seq k = if c then a.seq k else b.seq k := by split <;> rfl
theorem bind_ite {c : Prop} [Decidable c] (a b : Rs α) (f : α → M β) : (if c then a else b).bind f = if c then a.bind f else b.bind f := by split <;> rfl
theorem app_ite {c : Prop} [Decidable c] (a b : M α) : (if c then a else b) g = if c then a g else b g := by split <;> rfl
@[simp] theorem sSeq_app (m k : M Fl) : sSeq m k g = (m g).seq k := rfl
@[simp] theorem sRet_app (m : M D) : sRet m g = (m g).bind fun x g => .ok (.ret x) g := rfl
@[simp] theorem sDrop_app (m : M D) : sDrop m g = (m g).bind fun _ g => .ok .nx g := rfl
@[simp] theorem sIf_app (t : M Bool) (a b : M Fl) : sIf t a b g = (t g).bind fun k => if k = true then a else b := rfl
@[simp] theorem sRaise_app (x : Str) : sRaise x g = .exc x g := rfl
@[simp] theorem sAsg_name (i : Nat) (m : M D) : sAsg (bName i) m g = (m g).bind fun x g => if freeAt g i = true then .ok .nx (g.set i (some (.d x))) else .stuck := by
  show (m g).bind _ = (m g).bind _
  congr 1
  funext x g
  unfold bName
  by_cases h : freeAt g i = true
  · rw [if_pos h, if_pos h]
  · rw [if_neg h, if_neg h]
@[simp] theorem sSetL_app (i : Nat) (m : M (List D)) : sSetL i m g = (m g).bind fun ys g1 => if freeAt g1 i = true then .ok .nx (g1.set i (some (.ml false ys))) else .stuck := rfl
@[simp] theorem rxM_ok (x : D) : rxM (.ok x) g = .ok x g := rfl
@[simp] theorem rxM_exc (c : Str) : rxM (.exc c) g = .exc c g := rfl
@[simp] theorem eCall_app (n : Nat) (f : PF) (m : M (List D)) : eCall n f m g = (m g).bind fun ds => if ds.length = n then rxM (f ds) else fun _ => .stuck := rfl
theorem sFor_app (b : Bd) (mi : M (List D)) (body : M Fl) : sFor b mi body g = (mi g).bind fun items => loop b body items := rfl
/-- the result of a def's body -/
def outP : Rs Fl → Rx
  | .ok (.ret x) _ => .ok x
  | .ok .nx _ => .ok .none
  | .ok _ _ => .stuck
  | .exc c _ => .exc c
  | .stuck => .stuck
theorem runP_out (k : Nat) (m : M Fl) (ds : List D) : runP k m ds = outP (m (dsG ds k)) := by
  unfold runP outP
  rfl
@[simp] theorem outP_ret (x : D) : outP (.ok (.ret x) g) = .ok x := rfl
@[simp] theorem outP_nx : outP (.ok .nx g) = .ok .none := rfl
@[simp] theorem outP_exc (c : Str) : outP (.exc c g) = .exc c := rfl
theorem outP_ite {c : Prop} [Decidable c] {a b : Rs Fl} : outP (if c then a else b) = if c then outP a else outP b := by split <;> rfl
/-! ### for -/
theorem loop_nil {b : Bd} {body : M Fl} : loop b body [] g = .ok .nx g := rfl
theorem loop_cons {b : Bd} {body : M Fl} {x : D} {r : List D} : loop b body (x :: r) g = match b x g with
  | none => .stuck
  | some g1 => match body g1 with
    | .ok .nx g2 => loop b body r g2
    | .ok .cnt g2 => loop b body r g2
    | .ok .brk g2 => .ok .nx g2
    | .ok (.ret v) g2 => .ok (.ret v) g2
    | .exc c g2 => .exc c g2
    | .stuck => .stuck := by
  rw [loop] <;> rfl
/-! ### comprehensions -/
theorem cl_eq {vs : List Nat} {b : Bd} {t : M Bool} {e : M D} {p : D → Bool} {f : D → D} {g : Ga} : ∀ (items acc : List D), (∀ x ∈ items, ∃ g1, b x g = some g1 ∧ t g1 = .ok (p x) g1 ∧ (p x = true → e g1 = .ok (f x) g1) ∧ vs.all (fun i => freeAt g1 i) = true ∧ wipeG g1 vs = g) →
    cl vs b t e items acc g = .ok (acc ++ (items.filter p).map f) g
  | [], acc, _ => by rw [cl]; simp
  | x :: r, acc, h => by
    obtain ⟨g1, e1, e2, e3, e4, e5⟩ := h x List.mem_cons_self
    have ih := fun acc => cl_eq r acc (fun y hy => h y (List.mem_cons_of_mem _ hy))
    rw [cl, e1]
    dsimp only
    rw [e2]
    cases hp : p x with
    | false =>
      dsimp only
      rw [if_pos e4, e5, ih, List.filter_cons_of_neg (by rw [hp]; decide)]
    | true =>
      dsimp only
      rw [e3 hp]
      dsimp only
      rw [if_pos e4, e5, ih, List.filter_cons_of_pos hp, List.map_cons, List.append_assoc]
      rfl
theorem lc_eq {vs : List Nat} {b : Bd} {t : M Bool} {e : M D} {mi : M (List D)} {items : List D} {g : Ga} (p : D → Bool) (f : D → D) (hi : mi g = .ok items g) (hw : wipeG g vs = g) (hf : vs.all (fun i => freeAt g i) = true) (hl : items.length ≤ sizeLine)
    (h : ∀ x ∈ items, ∃ g1, b x g = some g1 ∧ t g1 = .ok (p x) g1 ∧ (p x = true → e g1 = .ok (f x) g1) ∧ vs.all (fun i => freeAt g1 i) = true ∧ wipeG g1 vs = g) : eLc vs b t e mi g = .ok ((items.filter p).map f) g := by
  unfold eLc
  rw [bnd_app, hi, bind_ok, if_pos ⟨hf, hl⟩, hw, cl_eq items [] h]
  rfl
/-- no condition -/
theorem lc_map {vs : List Nat} {b : Bd} {e : M D} {mi : M (List D)} {items : List D} {g : Ga} (f : D → D) (hi : mi g = .ok items g) (hw : wipeG g vs = g) (hf : vs.all (fun i => freeAt g i) = true) (hl : items.length ≤ sizeLine)
    (h : ∀ x ∈ items, ∃ g1, b x g = some g1 ∧ e g1 = .ok (f x) g1 ∧ vs.all (fun i => freeAt g1 i) = true ∧ wipeG g1 vs = g) : eLc vs b tAll e mi g = .ok (items.map f) g := by
  rw [lc_eq (fun _ => true) f hi hw hf hl (fun x hx => by
    obtain ⟨g1, h1, h2, h3, h4⟩ := h x hx
    exact ⟨g1, h1, rfl, fun _ => h2, h3, h4⟩), List.filter_eq_self.mpr (fun _ _ => rfl)]
theorem cl_src {γ : Type} {vs : List Nat} {b : Bd} {t : M Bool} {e : M D} {mk : γ → D} {p : γ → Bool} {f : γ → D} {g : Ga} : ∀ (src : List γ) (acc : List D), (∀ x ∈ src, ∃ g1, b (mk x) g = some g1 ∧ t g1 = .ok (p x) g1 ∧ (p x = true → e g1 = .ok (f x) g1) ∧ vs.all (fun i => freeAt g1 i) = true ∧ wipeG g1 vs = g) →
    cl vs b t e (src.map mk) acc g = .ok (acc ++ (src.filter p).map f) g
  | [], acc, _ => by rw [List.map_nil, cl]; simp
  | x :: r, acc, h => by
    obtain ⟨g1, e1, e2, e3, e4, e5⟩ := h x List.mem_cons_self
    have ih := fun acc => cl_src r acc (fun y hy => h y (List.mem_cons_of_mem _ hy))
    rw [List.map_cons, cl, e1]
    dsimp only
    rw [e2]
    cases hp : p x with
    | false =>
      dsimp only
      rw [if_pos e4, e5, ih, List.filter_cons_of_neg (by rw [hp]; decide)]
    | true =>
      dsimp only
      rw [e3 hp]
      dsimp only
      rw [if_pos e4, e5, ih, List.filter_cons_of_pos hp, List.map_cons, List.append_assoc]
      rfl
/-- from a list of anything: what it is as data, the condition, the item -/
theorem lcF {γ : Type} {vs : List Nat} {b : Bd} {t : M Bool} {e : M D} {mi : M (List D)} {g : Ga} (src : List γ) (mk : γ → D) (p : γ → Bool) (f : γ → D) (hi : mi g = .ok (src.map mk) g) (hl : src.length ≤ sizeLine)
    (h : ∀ x ∈ src, ∃ g1, b (mk x) g = some g1 ∧ t g1 = .ok (p x) g1 ∧ (p x = true → e g1 = .ok (f x) g1) ∧ vs.all (fun i => freeAt g1 i) = true ∧ wipeG g1 vs = g) (hw : wipeG g vs = g := by rfl) (hf : vs.all (fun i => freeAt g i) = true := by rfl) : eLc vs b t e mi g = .ok ((src.filter p).map f) g := by
  unfold eLc
  rw [bnd_app, hi, bind_ok, if_pos ⟨hf, by rw [List.length_map]; exact hl⟩, hw, cl_src src [] h]
  rfl
theorem lcM {γ : Type} {vs : List Nat} {b : Bd} {e : M D} {mi : M (List D)} {g : Ga} (src : List γ) (mk : γ → D) (f : γ → D) (hi : mi g = .ok (src.map mk) g) (hl : src.length ≤ sizeLine)
    (h : ∀ x ∈ src, ∃ g1, b (mk x) g = some g1 ∧ e g1 = .ok (f x) g1 ∧ vs.all (fun i => freeAt g1 i) = true ∧ wipeG g1 vs = g) (hw : wipeG g vs = g := by rfl) (hf : vs.all (fun i => freeAt g i) = true := by rfl) : eLc vs b tAll e mi g = .ok (src.map f) g := by
  rw [lcF src mk (fun _ => true) f hi hl (fun x hx => by
    obtain ⟨g1, h1, h2, h3, h4⟩ := h x hx
    exact ⟨g1, h1, rfl, fun _ => h2, h3, h4⟩) hw hf, List.filter_eq_self.mpr (fun _ _ => rfl)]
/-- a loop that may return v at an item -/
theorem loop_any {γ : Type} {b : Bd} {body : M Fl} {P : Ga → Prop} {mk : γ → D} {c : γ → Bool} {v : D} : ∀ (src : List γ), (∀ x ∈ src, ∀ g, P g → ∃ g1 g2, b (mk x) g = some g1 ∧ body g1 = (if c x = true then .ok (.ret v) g2 else .ok .nx g2) ∧ P g2) →
    ∀ g, P g → ∃ g', P g' ∧ loop b body (src.map mk) g = if src.any c = true then .ok (.ret v) g' else .ok .nx g'
  | [], _, g, h => ⟨g, h, rfl⟩
  | x :: r, st, g, h => by
    obtain ⟨g1, g2, e1, e2, h2⟩ := st x List.mem_cons_self g h
    rw [List.map_cons, loop_cons, e1]
    dsimp only
    rw [e2, List.any_cons]
    cases hc : c x with
    | true => exact ⟨g2, h2, rfl⟩
    | false =>
      obtain ⟨g', h', e'⟩ := loop_any r (fun y hy => st y (List.mem_cons_of_mem _ hy)) g2 h2
      exact ⟨g', h', by simpa using e'⟩
/-- a comprehension whose parts forget slots -/
theorem cl_inv {γ : Type} {vs : List Nat} {b : Bd} {t : M Bool} {e : M D} {mk : γ → D} {p : γ → Bool} {f : γ → D} {P : Ga → Prop} : ∀ (src : List γ) (acc : List D), (∀ x ∈ src, ∀ g, P g → ∃ g1 g2 g3, b (mk x) g = some g1 ∧ t g1 = .ok (p x) g2 ∧ (p x = true → e g2 = .ok (f x) g3) ∧ (p x = false → g3 = g2) ∧ vs.all (fun i => freeAt g3 i) = true ∧ P (wipeG g3 vs)) →
    ∀ g, P g → ∃ g', P g' ∧ cl vs b t e (src.map mk) acc g = .ok (acc ++ (src.filter p).map f) g'
  | [], acc, _, g, h => ⟨g, h, by rw [List.map_nil, cl]; simp⟩
  | x :: r, acc, h, g, hg => by
    obtain ⟨g1, g2, g3, e1, e2, e3, e4, e5, e6⟩ := h x List.mem_cons_self g hg
    have ih := fun acc => cl_inv r acc (fun y hy => h y (List.mem_cons_of_mem _ hy)) _ e6
    rw [List.map_cons, cl, e1]
    dsimp only
    rw [e2]
    cases hp : p x with
    | false =>
      dsimp only
      rw [← e4 hp, if_pos e5, List.filter_cons_of_neg (by rw [hp]; decide)]
      exact ih acc
    | true =>
      dsimp only
      rw [e3 hp]
      dsimp only
      rw [if_pos e5, List.filter_cons_of_pos hp, List.map_cons]
      obtain ⟨g', h1, h2⟩ := ih (acc ++ [f x])
      exact ⟨g', h1, by rw [h2, List.append_assoc]; rfl⟩
theorem lcI {γ : Type} {vs : List Nat} {b : Bd} {t : M Bool} {e : M D} {mi : M (List D)} {g g1 : Ga} (src : List γ) (mk : γ → D) (p : γ → Bool) (f : γ → D) (P : Ga → Prop) (hi : mi g = .ok (src.map mk) g1) (hl : src.length ≤ sizeLine) (hP : P (wipeG g1 vs))
    (h : ∀ x ∈ src, ∀ g, P g → ∃ g1 g2 g3, b (mk x) g = some g1 ∧ t g1 = .ok (p x) g2 ∧ (p x = true → e g2 = .ok (f x) g3) ∧ (p x = false → g3 = g2) ∧ vs.all (fun i => freeAt g3 i) = true ∧ P (wipeG g3 vs)) (hf : vs.all (fun i => freeAt g1 i) = true := by rfl) : ∃ g', P g' ∧ eLc vs b t e mi g = .ok ((src.filter p).map f) g' := by
  obtain ⟨g', h1, h2⟩ := cl_inv src [] h _ hP
  refine ⟨g', h1, ?_⟩
  unfold eLc
  rw [bnd_app, hi, bind_ok, if_pos ⟨hf, by rw [List.length_map]; exact hl⟩, h2]
  rfl
/-- the own slots may be in use -/
theorem lcW {γ : Type} {vs : List Nat} {b : Bd} {e : M D} {mi : M (List D)} {g : Ga} (src : List γ) (mk : γ → D) (f : γ → D) (hi : mi g = .ok (src.map mk) g) (hl : src.length ≤ sizeLine) (hf : vs.all (fun i => freeAt g i) = true)
    (h : ∀ x ∈ src, ∃ g1, b (mk x) (wipeG g vs) = some g1 ∧ e g1 = .ok (f x) g1 ∧ vs.all (fun i => freeAt g1 i) = true ∧ wipeG g1 vs = wipeG g vs) : eLc vs b tAll e mi g = .ok (src.map f) (wipeG g vs) := by
  unfold eLc
  rw [bnd_app, hi, bind_ok, if_pos ⟨hf, by rw [List.length_map]; exact hl⟩, cl_src (p := fun _ => true) (f := f) src [] (fun x hx => by
    obtain ⟨g1, h1, h2, h3, h4⟩ := h x hx
    exact ⟨g1, h1, rfl, fun _ => h2, h3, h4⟩), List.filter_eq_self.mpr (fun _ _ => rfl)]
  rfl
/-- a slot that holds no list -/
def dat : Option Tv → Bool
  | none => true
  | some (.d _) => true
  | _ => false
@[simp] theorem freeAt_s (a : Option Tv) (r : Ga) (n : Nat) : freeAt (a :: r) (n + 1) = freeAt r n := rfl
@[simp] theorem freeAt_n (r : Ga) : freeAt (none :: r) 0 = true := rfl
@[simp] theorem freeAt_d (x : D) (r : Ga) : freeAt (some (.d x) :: r) 0 = true := rfl
@[simp] theorem freeAt_m (b : Bool) (xs : List D) (r : Ga) : freeAt (some (.ml b xs) :: r) 0 = !b := rfl
def frzK (o : Option (Option Tv)) (i : Nat) : M Fl := fun g => match o with
  | some (some t) => (match frzT t with
    | some x => .ok .nx (g.set i (some (.d x)))
    | none => .stuck)
  | _ => .stuck
@[simp] theorem sFrz_app (i : Nat) : sFrz i g = frzK (g[i]?) i g := by
  unfold sFrz frzK
  rfl
@[simp] theorem frzK_md (t : Bool) (kvs : List (D × D)) (i : Nat) : frzK (some (some (.md false t kvs))) i g = .ok .nx (g.set i (some (.d (.dict kvs)))) := rfl
@[simp] theorem frzK_ml (xs : List D) (i : Nat) : frzK (some (some (.ml false xs))) i g = .ok .nx (g.set i (some (.d (.list xs)))) := rfl
theorem bTup_app (bs : List Bd) (xs : List D) : bTup bs (.tuple xs) g = bAll bs xs g := rfl
theorem bAll_nil : bAll [] [] g = some g := rfl
theorem bAll_cons (b : Bd) (bs : List Bd) (x : D) (xs : List D) : bAll (b :: bs) (x :: xs) g = (b x g).bind fun g1 => bAll bs xs g1 := by rw [bAll]
theorem bName_app (i : Nat) (x : D) : bName i x g = if freeAt g i = true then some (g.set i (some (.d x))) else none := rfl
def asgK (o : Option Ga) : Rs Fl := match o with
  | some g' => .ok .nx g'
  | none => .stuck
@[simp] theorem sAsg_tup (bs : List Bd) (m : M D) : sAsg (bTup bs) m g = (m g).bind fun x g => asgK (bTup bs x g) := rfl
@[simp] theorem asgK_some : asgK (some g') = .ok .nx g' := rfl
end
section
variable {α β : Type} {g g' : Ga}
theorem len1 (a : D) : [a].length = 1 := rfl
theorem len2 (a b : D) : [a, b].length = 2 := rfl
theorem len3 (a b c : D) : [a, b, c].length = 3 := rfl
theorem len4 (a b c d : D) : [a, b, c, d].length = 4 := rfl
theorem len5 (a b c d e : D) : [a, b, c, d, e].length = 5 := rfl
theorem len0 : ([] : List D).length = 0 := rfl
theorem sz0 : (0 ≤ sizeLine) = True := eq_true (by decide)
theorem sz1 : (1 ≤ sizeLine) = True := eq_true (by decide)
theorem sz2 : (2 ≤ sizeLine) = True := eq_true (by decide)
theorem sz3 : (3 ≤ sizeLine) = True := eq_true (by decide)
theorem sz4 : (4 ≤ sizeLine) = True := eq_true (by decide)
theorem sz5 : (5 ≤ sizeLine) = True := eq_true (by decide)
theorem sz6 : (6 ≤ sizeLine) = True := eq_true (by decide)
theorem sz7 : (7 ≤ sizeLine) = True := eq_true (by decide)
theorem sz8 : (8 ≤ sizeLine) = True := eq_true (by decide)
theorem sz9 : (9 ≤ sizeLine) = True := eq_true (by decide)
theorem sz10 : (10 ≤ sizeLine) = True := eq_true (by decide)
theorem sz11 : (11 ≤ sizeLine) = True := eq_true (by decide)
theorem len6 (a b c d e f : D) : [a, b, c, d, e, f].length = 6 := rfl
theorem len7 (a b c d e f h : D) : [a, b, c, d, e, f, h].length = 7 := rfl
theorem len8 (a b c d e f h i : D) : [a, b, c, d, e, f, h, i].length = 8 := rfl
/-! ### lists of one's own -/
@[simp] theorem isMl_s (a : Option Tv) (r : Ga) (n : Nat) : isMl (a :: r) (n + 1) = isMl r n := rfl
@[simp] theorem isMl_m (b : Bool) (xs : List D) (r : Ga) : isMl (some (.ml b xs) :: r) 0 = true := rfl
def resK (o : Option (α × List D)) (b : Bool) (i : Nat) : M α := fun g => match o with
  | some (y, ys) => .ok y (g.set i (some (.ml b ys)))
  | none => .stuck
@[simp] theorem resK_some (y : α) (ys : List D) (b : Bool) (i : Nat) : resK (some (y, ys)) b i g = .ok y (g.set i (some (.ml b ys))) := rfl
def onK (o : Option (Option Tv)) (i : Nat) (f : List D → β → Option (α × List D)) (x : β) : M α := match o with
  | some (some (.ml b xs)) => resK (f xs x) b i
  | _ => fun _ => .stuck
@[simp] theorem onK_ml (b : Bool) (xs : List D) (i : Nat) (f : List D → β → Option (α × List D)) (x : β) : onK (some (some (.ml b xs))) i f x = resK (f xs x) b i := rfl
theorem onL_app (i : Nat) (m : M β) (f : List D → β → Option (α × List D)) : onL i m f g = if isMl g i = true then (m g).bind fun x g1 => onK (g1[i]?) i f x g1 else .stuck := by
  unfold onL
  by_cases h : isMl g i = true
  · rw [if_pos h, if_pos h]
    cases m g with
    | stuck => rfl
    | exc c g1 => rfl
    | ok x g1 =>
      show _ = onK (g1[i]?) i f x g1
      dsimp only
      cases e : g1[i]? with
      | none => rfl
      | some o =>
        cases o with
        | none => rfl
        | some t =>
          cases t with
          | d _ => rfl
          | md _ _ _ => rfl
          | mf _ _ => rfl
          | ob _ _ _ => rfl
          | ml b xs =>
            show _ = resK (f xs x) b i g1
            dsimp only
            cases f xs x with
            | none => rfl
            | some p => rfl
  · rw [if_neg h, if_neg h]
theorem eApp_app (i : Nat) (m : M D) : eApp i m g = if isMl g i = true then (m g).bind fun x g1 => onK (g1[i]?) i fApp x g1 else .stuck := onL_app i m fApp
theorem ePop_app (i : Nat) (m : M D) : ePop i m g = if isMl g i = true then (m g).bind fun x g1 => onK (g1[i]?) i fPop x g1 else .stuck := onL_app i m fPop
theorem eIdxV_app (i : Nat) (m : M D) : eIdxV i m g = if isMl g i = true then (m g).bind fun x g1 => onK (g1[i]?) i fIdx x g1 else .stuck := onL_app i m fIdx
def fLen (xs : List D) (_ : Unit) : Option (D × List D) := some (.int xs.length, xs)
def fTru (xs : List D) (_ : Unit) : Option (Bool × List D) := some (!xs.isEmpty, xs)
theorem eLenV_app (i : Nat) : eLenV i g = if isMl g i = true then onK (g[i]?) i fLen () g else .stuck := onL_app i mU fLen
theorem tTruV_app (i : Nat) : tTruV i g = if isMl g i = true then onK (g[i]?) i fTru () g else .stuck := onL_app i mU fTru
theorem sSetI_app (i : Nat) (mk mv : M D) : sSetI i mk mv g = (mv g).bind fun y => bnd (onL i mk (fSetI y)) fun _ g => .ok .nx g := rfl
theorem fApp_ok {xs : List D} {x : D} (h : xs.length < sizeLine) : fApp xs x = some (.none, xs ++ [x]) := by rw [fApp, if_pos h]
theorem fLen_ok (xs : List D) : fLen xs () = some (.int xs.length, xs) := rfl
theorem fTru_ok (xs : List D) : fTru xs () = some (!xs.isEmpty, xs) := rfl
/-! ### calls by reference -/
def rbK (r : Rb) (b : Bool) (i : Nat) : M D := fun g => match r with
  | .ok y zs => .ok y (g.set i (some (.ml b zs)))
  | .exc c zs => .exc c (g.set i (some (.ml b zs)))
  | .stuck => .stuck
@[simp] theorem rbK_ok (y : D) (zs : List D) (b : Bool) (i : Nat) : rbK (.ok y zs) b i g = .ok y (g.set i (some (.ml b zs))) := rfl
def cbK (o : Option (Option Tv)) (i : Nat) (f : List D → Rb) : M D := match o with
  | some (some (.ml b zs)) => rbK (f zs) b i
  | _ => fun _ => .stuck
@[simp] theorem cbK_ml (b : Bool) (zs : List D) (i : Nat) (f : List D → Rb) : cbK (some (some (.ml b zs))) i f = rbK (f zs) b i := rfl
theorem eCB_cons (np nq : Nat) (f : BF) (i : Nat) (mq : M (List D)) (xs : List D) (m : M D) (ms : List (M D)) : eCB np nq f i mq xs (m :: ms) g = (m g).bind fun x => eCB np nq f i mq (xs ++ [x]) ms := by rw [eCB]; rfl
theorem eCB_nil (np nq : Nat) (f : BF) (i : Nat) (mq : M (List D)) (xs : List D) : eCB np nq f i mq xs [] g = if isMl g i = true ∧ xs.length = np then (mq g).bind fun ys g1 => if ys.length = nq then cbK (g1[i]?) i (fun zs => f xs zs ys) g1 else .stuck else .stuck := by
  rw [eCB]
  dsimp only
  by_cases h : isMl g i = true ∧ xs.length = np
  · rw [if_pos h, if_pos h]
    cases mq g with
    | stuck => rfl
    | exc c g1 => rfl
    | ok ys g1 =>
      show _ = if ys.length = nq then cbK (g1[i]?) i (fun zs => f xs zs ys) g1 else .stuck
      dsimp only
      by_cases h2 : ys.length = nq
      · rw [if_pos h2, if_pos h2]
        cases e : g1[i]? with
        | none => rfl
        | some o =>
          cases o with
          | none => rfl
          | some t =>
            cases t with
            | d _ => rfl
            | md _ _ _ => rfl
            | mf _ _ => rfl
            | ob _ _ _ => rfl
            | ml b zs =>
              show _ = rbK (f xs zs ys) b i g1
              dsimp only
              cases f xs zs ys <;> rfl
      · rw [if_neg h2, if_neg h2]
  · rw [if_neg h, if_neg h]
def outK (o : Option (List D)) (f : List D → Rb) : Rb := match o with
  | some zs => f zs
  | none => .stuck
@[simp] theorem outK_some (zs : List D) (f : List D → Rb) : outK (some zs) f = f zs := rfl
def outR (np : Nat) (r : Rs Fl) : Rb := match r with
  | .ok (.ret x) g => outK (outB np g) fun zs => .ok x zs
  | .ok .nx g => outK (outB np g) fun zs => .ok .none zs
  | .ok _ _ => .stuck
  | .exc c g => outK (outB np g) fun zs => .exc c zs
  | .stuck => .stuck
theorem runB_out (np k : Nat) (m : M Fl) (xs zs ys : List D) : runB np k m xs zs ys = outR np (m (bG xs zs ys k)) := by
  unfold runB outR
  cases m (bG xs zs ys k) with
  | stuck => rfl
  | exc c g => cases h : outB np g <;> simp [h, outK]
  | ok f g => cases f <;> first | rfl | (cases h : outB np g <;> simp [h, outK])
@[simp] theorem outR_ret (np : Nat) (x : D) : outR np (.ok (.ret x) g) = outK (outB np g) fun zs => .ok x zs := rfl
@[simp] theorem outR_nx (np : Nat) : outR np (.ok .nx g) = outK (outB np g) fun zs => .ok .none zs := rfl
@[simp] theorem outB_s (a : Option Tv) (r : Ga) (n : Nat) : outB (n + 1) (a :: r) = outB n r := rfl
@[simp] theorem outB_m (zs : List D) (r : Ga) : outB 0 (some (.ml true zs) :: r) = some zs := rfl
/-! ### several at once -/
@[simp] theorem mConsD_app (a : M D) (b : M (List Tv)) : mConsD a b g = (a g).bind fun x => bnd b fun xs g => .ok (.d x :: xs) g := rfl
@[simp] theorem mConsL_app (a : M (List D)) (b : M (List Tv)) : mConsL a b g = (a g).bind fun x => bnd b fun xs g => .ok (.ml false x :: xs) g := rfl
@[simp] theorem sPar_app (is : List Nat) (m : M (List Tv)) : sPar is m g = (m g).bind fun ts g => asgK (setAll is ts g) := rfl
theorem setAll_nil : setAll [] [] g = some g := rfl
theorem setAll_cons (i : Nat) (is : List Nat) (t : Tv) (ts : List Tv) : setAll (i :: is) (t :: ts) g = if freeAt g i = true then setAll is ts (g.set i (some t)) else none := rfl
/-! ### a comprehension over a list of one's own -/
theorem lcVF {γ : Type} {vs : List Nat} {b : Bd} {t : M Bool} {e : M D} {j : Nat} {g : Ga} {bb : Bool} (src : List γ) (mk : γ → D) (p : γ → Bool) (f : γ → D) (hj : g[j]? = some (some (.ml bb (src.map mk)))) (hl : src.length ≤ sizeLine) (hv : j ∉ vs)
    (h : ∀ x ∈ src, ∃ g1, b (mk x) (g.set j none) = some g1 ∧ t g1 = .ok (p x) g1 ∧ (p x = true → e g1 = .ok (f x) g1) ∧ vs.all (fun i => freeAt g1 i) = true ∧ wipeG g1 vs = g.set j none) (hw : wipeG (g.set j none) vs = g.set j none) (hf : vs.all (fun i => freeAt (g.set j none) i) = true) :
    eLcV vs b t e j g = .ok ((src.filter p).map f) g := by
  unfold eLcV
  rw [hj]
  dsimp only
  have hlt : j < g.length := (List.getElem?_eq_some_iff.mp hj).1
  rw [if_pos ⟨hf, by rw [List.length_map]; exact hl, hv⟩, hw, cl_src src [] h]
  dsimp only
  rw [List.getElem?_set_self hlt]
  dsimp only
  rw [List.set_set]
  congr 1
  apply List.ext_getElem?
  intro i
  by_cases hi : j = i
  · subst hi
    rw [List.getElem?_set_self hlt, hj]
  · rw [List.getElem?_set_ne hi]
end
theorem walk_ofW {l : PySem.W.OpenLaw} {n k : Nat} {q : Program} {loose : List Str} {XP : (Str → Option Value) → Heap → Prop} {YP : World → Heap → Prop} {d : DefRec} {x : Str}
    (hn : l.most = some n) (hn2 : n ≤ sizeLine) (hdf : d.params.defaults = []) (hr : Room k callerA)
    (F : ∀ (w : World) (mg : Str → Option Value) (fa : Addr) (h : Heap), YP w h → h.Ns mainGlobals mg → mg d.name = some (.ref fa) →
      ∃ (K : PySem.W.Frag) (fd : FuncData) (sp : Sp), K.In h ∧ (∀ (s : Shared) (u : Value), BindsTo s fd ⟨[u], []⟩ [(x, u)]) ∧
        (∀ (H : Hp) (a : Addr) (ns : List Int), ns.length ≤ n → Only H → SqL K H a (ns.map V.int) → sp [.ref a] H (fun v _ => v = .bl true) fun _ _ _ => False) ∧
        ∀ base : Heap, K.In base → base.Ns mainGlobals mg → FnOk l.prog w K mg base (L2.CX l.prog w) k fa fd [x] sp) :
    PySem.W.WalkO q loose XP YP l.row.toRowW d [] (fun f vs => PySem.call f vs) := by
  refine Att.attach_call hn hdf fun w s₀ s₁ mg mb fa o pm cd doc a vs ns G Y ho hd hcd hmg hobj hints hlen hg => ?_
  obtain ⟨K, fd, sp, KX, hb, hsp, hF⟩ := F w mg fa _ Y G.T.g hmg
  refine law_call KX G.T.g G.T.b G.T.builtins G.T.nolimit hg hobj hints (Nat.le_trans hlen hn2) hr hF hb (fun H hO hS => hsp H a ns hlen hO hS) fun H e s' h => ?_
  obtain ⟨a, B, H', cls, d, h1, h2, h3, h4, h5, h6, h7, h8, h9⟩ := h
  first | exact h9 | exact h9.elim | skip
section
variable {X : Cx} {W : WX}
/-! ### a ghost step: slots are forgotten -/
def sWipe (vs : List Nat) : M Fl := fun g => if vs.all (fun i => freeAt g i) = true then .ok .nx (wipeG g vs) else .stuck
theorem r_wipe {vs : List Nat} {ss : List Stmt} {m : M Fl} (h : RSs X W ss m) : RSs X W ss (sSeq (sWipe vs) m) := by
  refine ⟨fun pins s σ H D I q => ?_⟩
  obtain ⟨g, R, sr, n, q⟩ := q
  unfold sSeq sWipe at q
  by_cases hf : vs.all (fun i => freeAt g i) = true
  · rw [if_pos hf] at q
    obtain ⟨R1, s1, n1, m1⟩ := wipe_rep sr n vs
    have s2 := unwipe s1
    refine h.run pins s σ H D I ⟨_, R1, s2, n1, ?_⟩
    dsimp only at q
    have b1 := borK_wipe hf
    cases e2 : m (wipeG g vs) with
    | stuck => rw [e2] at q; exact q
    | exc c g' => rw [e2] at q; exact fun σ' H' go => q σ' H' (go.then b1 (Kp.refl g σ) (Ext.refl R H) (fun a ha => .inl (m1 a ha)))
    | ok a g' => rw [e2] at q; exact fun σ' H' go => q σ' H' (go.then b1 (Kp.refl g σ) (Ext.refl R H) (fun a ha => .inl (m1 a ha)))
  · rw [if_neg hf] at q
    exact q.elim
end
/-! ### comprehensions of two clauses -/
section
variable {X : Cx} {W : WX} {pins : List (Addr × Obj)} {σ : St} {H : Hp} {s : Shared} {Q : VK} {e a b : Expr} {pos : Pos} {ma mb : M D}
/-! ### the same in a heap with new things -/
/-! ### a + b, a * k as lists of one's own -/
def ap2L (f : D → D → Option (List D)) (a b : M D) : M (List D) := bnd a fun x => bnd b fun y => lift (f x y)
/-! ### x.index(y) -/
def idxOk : D → Bool
  | .list _ => true
  | .tuple xs => !(xs.all dKey)
  | _ => false
def itsD : D → List D
  | .list xs => xs
  | .tuple xs => xs
  | _ => []
def idxL (xs : List D) (y : D) : Option D := if inOk y xs = true then (xs.findIdx? fun z => PyData.eqv z y).map fun j => .int (j : Nat) else none
def eIdx (mo me : M D) : M D := bnd mo fun x => if idxOk x = true then bnd me fun y => lift (idxL (itsD x) y) else fun _ => .stuck
end
section
variable {X : Cx} {W : WX} {pins : List (Addr × Obj)} {σ : St} {H : Hp} {s : Shared} {Q : VK} {e a b : Expr} {pos : Pos} {ma mb : M D}
/-! ### is, is not -/
def isE : D → D → Option D
  | x, .none => some (.bool (isNo x))
  | .bool a, .bool b => some (.bool (a == b))
  | _, _ => none
/-! ### x.extend(new list) -/
def fExt (xs ys : List D) : Option (D × List D) := if xs.length + ys.length ≤ sizeLine then some (.none, xs ++ ys) else none
def eExt (i : Nat) (m : M (List D)) : M D := onL i m fExt
/-! ### x[k] op= e, x a list of one's own -/
def fIdxP (xs : List D) (k : D) : Option ((D × D) × List D) := match k with
  | .int j => (atI xs j).map fun y => ((.int j, y), xs)
  | _ => none
def augK (i : Nat) (k z : D) : M Fl := bnd (onL i (eC k) (fSetI z)) fun _ g => .ok .nx g
def sAugI (i : Nat) (f : D → D → Option D) (mk me : M D) : M Fl := bnd (onL i mk fIdxP) fun kx => bnd me fun y => bnd (lift (f kx.2 y)) fun z => augK i kx.1 z
end
/-! ### dicts of one's own, keys tuples of ints -/
inductive DKT (K : KF) (H : Hp) : List (List Key × V) → List (D × D) → Prop
  | nil : DKT K H [] []
  | cons {k : List Key} {v : V} {d : D} {vs : List (List Key × V)} {ds : List (D × D)} : iKs k = true → Fz K H v d → DKT K H vs ds → DKT K H ((k, v) :: vs) ((.tuple (k.map kD), d) :: ds)
def putT (kvs : List (D × D)) (ks : List Key) (y : D) : List (D × D) :=
  if (kvs.any fun p => decide (tkD p.1 = some ks)) = true then kvs.map (fun p => if tkD p.1 = some ks then (p.1, y) else p) else kvs ++ [(.tuple (ks.map kD), y)]
section
variable {K : KF} {H H' : Hp}
theorem DKT.pers {vs : List (List Key × V)} {ds : List (D × D)} (h : DKT K H vs ds) (p : Pers H H') : DKT K H' vs ds := by
  induction h with
  | nil => exact .nil
  | cons ik f _ ih => exact .cons ik (f.pers p) ih
theorem DKT.append {vs ws : List (List Key × V)} {ds es : List (D × D)} (h : DKT K H vs ds) (h2 : DKT K H ws es) : DKT K H (vs ++ ws) (ds ++ es) := by
  induction h with
  | nil => exact h2
  | cons ik f _ ih => exact .cons ik f ih
theorem DKT.length {vs : List (List Key × V)} {ds : List (D × D)} (h : DKT K H vs ds) : vs.length = ds.length := by
  induction h with
  | nil => rfl
  | cons _ f _ ih => rw [List.length_cons, List.length_cons, ih]
theorem tk_tup (k : List Key) : tkD (.tuple (k.map kD)) = some k := keysD_map k
theorem tk_dec (k ks : List Key) : decide (tkD (.tuple (k.map kD)) = some ks) = decide (k = ks) := by
  rw [tk_tup]
  by_cases h : k = ks
  · rw [decide_eq_true h, decide_eq_true (by rw [h])]
  · rw [decide_eq_false h, decide_eq_false (fun z => h (Option.some.inj z))]
theorem DKT.any {ks : List Key} {vs : List (List Key × V)} {ds : List (D × D)} (h : DKT K H vs ds) : (vs.any fun kv => decide (kv.1 = ks)) = ds.any fun p => decide (tkD p.1 = some ks) := by
  induction h with
  | nil => rfl
  | cons _ f _ ih => rw [List.any_cons, List.any_cons, ih, tk_dec]
theorem DKT.put {ks : List Key} {v : V} {d : D} {vs : List (List Key × V)} {ds : List (D × D)} (h : DKT K H vs ds) (f : Fz K H v d) (ik : iKs ks = true) : DKT K H (putK vs ks v) (putT ds ks d) := by
  unfold putK putT
  rw [h.any]
  split
  · rename_i hh
    clear hh
    induction h with
    | nil => exact .nil
    | @cons k1 v1 d1 vs ds ik1 f1 _ ih =>
      rw [List.map_cons, List.map_cons]
      by_cases hk : k1 = ks
      · rw [if_pos hk, if_pos (by rw [tk_tup, hk])]
        exact .cons ik1 f ih
      · rw [if_neg hk, if_neg (by rw [tk_tup]; exact fun z => hk (Option.some.inj z))]
        exact .cons ik1 f1 ih
  · exact h.append (.cons ik f .nil)
theorem DKT.get {ks : List Key} {y : D} {vs : List (List Key × V)} {ds : List (D × D)} (h : DKT K H vs ds) : tGet ds ks = some y → ∃ v, valV vs ks = some v ∧ Fz K H v y := by
  induction h with
  | nil => intro e; simp [tGet] at e
  | @cons k1 v1 d1 vs ds ik1 f1 _ ih =>
    intro e
    unfold tGet at e
    rw [List.find?_cons, tk_dec] at e
    by_cases hk : k1 = ks
    · subst hk
      simp only [decide_true] at e
      cases e
      exact ⟨v1, valV_pos rfl, f1⟩
    · rw [decide_eq_false hk] at e
      obtain ⟨v, e1, e2⟩ := ih e
      exact ⟨v, by rw [valV_neg hk]; exact e1, e2⟩
theorem DKT.of {kvs : List (List Key × V)} : ∀ {ds : List D}, FzAll K H (kvs.map (·.2)) ds → (∀ p ∈ kvs, iKs p.1 = true) → DKT K H kvs ((kvs.map fun p => PyData.tuple (p.1.map kD)).zip ds) := by
  induction kvs with
  | nil => intro ds h _; exact .nil
  | cons p r ih =>
    intro ds h ik
    cases h with
    | cons f fa => exact .cons (ik p List.mem_cons_self) f (ih fa fun q hq => ik q (List.mem_cons_of_mem _ hq))
theorem DKT.to {kvs : List (List Key × V)} {L : List (D × D)} (h : DKT K H kvs L) : ∃ ds, FzAll K H (kvs.map (·.2)) ds ∧ L = (kvs.map fun p => PyData.tuple (p.1.map kD)).zip ds ∧ ∀ p ∈ kvs, iKs p.1 = true := by
  induction h with
  | nil => exact ⟨[], .nil, rfl, fun p hp => by cases hp⟩
  | cons ik f _ ih =>
    obtain ⟨ds, h1, h2, h3⟩ := ih
    exact ⟨_ :: ds, .cons f h1, by rw [List.map_cons, List.zip_cons_cons, h2], fun p hp => by
      rcases List.mem_cons.mp hp with rfl | hp
      · exact ik
      · exact h3 p hp⟩
end
def isMt (g : Ga) (i : Nat) : Bool := match g[i]? with
  | some (some (.md _ true _)) => true
  | _ => false
def onT {α β : Type} (i : Nat) (m : M β) (f : List (D × D) → β → Option (α × List (D × D))) : M α := fun g => if isMt g i = true then (match m g with
  | .ok x g1 => (match g1[i]? with
    | some (some (.md b true L)) => (match f L x with
      | some (y, L') => .ok y (g1.set i (some (.md b true L')))
      | none => .stuck)
    | _ => .stuck)
  | .exc c g1 => .exc c g1
  | .stuck => .stuck) else .stuck
section
variable {X : Cx} {W : WX} {e a b : Expr} {pos : Pos} {ma mb : M D}
def fGetT (L : List (D × D)) (k : D) : Option ((D × D) × List (D × D)) := match tkI k with
  | some ks => (tGet L ks).map fun y => ((k, y), L)
  | none => none
def fPutT (z : D) (L : List (D × D)) (k : D) : Option (D × List (D × D)) := match tkI k with
  | some ks => if L.length < sizeLine then some (.none, putT L ks z) else none
  | none => none
def augKT (i : Nat) (k z : D) : M Fl := bnd (onT i (eC k) (fPutT z)) fun _ g => .ok .nx g
def sAugT (i : Nat) (f : D → D → Option D) (mk me : M D) : M Fl := bnd (onT i mk fGetT) fun kx => bnd me fun y => bnd (lift (f kx.2 y)) fun z => augKT i kx.1 z
end
/-! ### expressions that make a thing of one's own -/
def GoO (K : KF) (σ : St) (R : List Addr) (H : Hp) (g g' : Ga) (p : Addr) (t : Tv) (H' : Hp) : Prop :=
  BorK g g' ∧ TRep K H' (.ref p) t [p] ∧ ∃ R', SRep K H' σ g' R' ∧ (p :: R').Nodup ∧ Ext R H H' ∧ New R H (p :: R')
theorem GoO.then {K : KF} {g g1 g2 : Ga} {σ : St} {R R1 : List Addr} {H H1 H2 : Hp} {p : Addr} {t : Tv} (b1 : BorK g g1) (e1 : Ext R H H1) (w1 : New R H R1) (h : GoO K σ R1 H1 g1 g2 p t H2) : GoO K σ R H g g2 p t H2 := by
  obtain ⟨b2, tr, R2, s2, n2, e2, w2⟩ := h
  exact ⟨b1.trans b2, tr, R2, s2, n2, e1.trans w1 e2, New.trans e1 w1 w2⟩
def sSetO (i : Nat) (m : M Tv) : M Fl := bnd m fun t g1 => if freeAt g1 i = true then .ok .nx (g1.set i (some t)) else .stuck
section
variable {X : Cx} {W : WX} {tg e a : Expr} {pos : Pos}
/-- {} -/
def eNewT : M Tv := fun g => .ok (.md false true []) g
end
/-! ### {k: v for ..} -/
section
variable {X : Cx} {W : WX} {tg e a b c d : Expr} {pos : Pos}
/-! ### several targets, cells among them: by a tuple -/
theorem TReps.same {K : KF} {H H' : Hp} (sm : Same H H') : ∀ {vs : List V} {ts : List Tv} {R : List Addr}, TReps K H vs ts R → TReps K H' vs ts R
  | _, _, _, .nil => .nil
  | _, _, _, .cons t r => .cons (t.keep (.of_same sm) fun a ha => by
      cases q : H a with
      | none => exact absurd q (t.root_some a ha)
      | some o => exact sm a o q) (TReps.same sm r)
/-- a block that is never run -/
theorem r_stuck {ss : List Stmt} : RSs X W ss (fun _ => .stuck) := ⟨fun pins s σ H D I q => by
  obtain ⟨_, _, _, _, q⟩ := q
  exact q.elim⟩
/-- a new thing of any kind among the values -/
def mConsO (a : M Tv) (b : M (List Tv)) : M (List Tv) := bnd a fun t => bnd b fun xs g => .ok (t :: xs) g
end
/-! ### x[::-1] -/
theorem places_rev (n : Nat) : Builtin.Slice.slicePlaces ((n : Int) - 1) (-1) (-1) = n := by
  unfold Builtin.Slice.slicePlaces
  rw [if_neg (by decide)]
  split
  · have : ((n : Int) - 1 - -1 - 1) / (- -1) + 1 = n := by
      rw [show (- -1 : Int) = 1 from rfl, Int.ediv_one]
      omega
    omega
  · omega
theorem sliceApplied_rev {prog : Program} {w : World} {A : Around} {E : Value → Shared → Prop} {s : Shared} {sl : Addr} {vl vu vs : Value} {n : Nat} {Q : Int × Int × Nat → Shared → Prop} (hs : s.heap.IsSliceOf sl vl vu vs) (pl : IsPart vl none) (pu : IsPart vu none) (ps : IsPart vs (some (-1)))
    (h : Q ((n : Int) - 1, -1, n) s) : wpAny (model prog w) A (Builtin.Slice.sliceApplied (.ref sl) (pure (n : Int))) Q E s := by
  obtain ⟨os, hos, hcs, hds⟩ := id hs
  unfold Builtin.Slice.sliceApplied Builtin.Slice.sliceFields
  refine wpAny_bind (wpAny_bind (wpAny_field hos hds (x := vl) rfl (wpAny_bind (wpAny_field hos hds (x := vu) rfl (wpAny_bind (wpAny_field hos hds (x := vs) rfl (wpAny_pure ?_)))))))
  refine wpAny_bind (HT.slicePart_ ps ?_)
  show wpAny _ _ (if ((-1 : Int) == 0) = true then _ else _) _ _ s
  rw [if_neg (by decide)]
  refine wpAny_bind (HT.slicePart_ pl (wpAny_bind (HT.slicePart_ pu (wpAny_bind (wpAny_pure ?_)))))
  show wpAny _ _ (pure ((n : Int) - 1, (-1 : Int), Builtin.Slice.slicePlaces ((n : Int) - 1) (-1) (-1))) _ _ s
  rw [places_rev]
  exact wpAny_pure h
theorem fm_congr {α β : Type} {f g : α → Option β} : ∀ {l : List α}, (∀ a ∈ l, f a = g a) → l.filterMap f = l.filterMap g
  | [], _ => rfl
  | a :: l, h => by rw [List.filterMap_cons, List.filterMap_cons, h a List.mem_cons_self, fm_congr fun b hb => h b (List.mem_cons_of_mem _ hb)]
theorem pick_rev (xs : Array Value) : ((List.range xs.size).filterMap fun (m : Nat) => xs[(((xs.size : Int) - 1) + (m : Int) * (-1)).toNat]?).toArray = xs.toList.reverse.toArray := by
  congr 1
  have e : ∀ m ∈ List.range xs.size, xs[(((xs.size : Int) - 1) + (m : Int) * (-1)).toNat]? = xs[xs.size - 1 - m]? := fun m hm => by
    have : (((xs.size : Int) - 1) + (m : Int) * (-1)).toNat = xs.size - 1 - m := by
      have := List.mem_range.mp hm
      omega
    rw [this]
  rw [fm_congr e]
  have h2 : (List.range xs.size).filterMap (fun m => xs[xs.size - 1 - m]?) = ((List.range xs.size).map fun k => xs.size - 1 - k).filterMap fun j => xs[j]? := by
    rw [List.filterMap_map]
    rfl
  rw [h2, PySem.W.krv_range, List.filterMap_reverse, PySem.W.krv_all]
theorem getItem_tuple_rev {prog : Program} {w : World} {A : Around} {E : Value → Shared → Prop} {s : Shared} {t sl : Addr} {items : Array Value} {vl vu vs : Value} {Q : Value → Shared → Prop} (ht : IsTup s.heap t items) (hs : s.heap.IsSliceOf sl vl vu vs) (pl : IsPart vl none) (pu : IsPart vu none) (ps : IsPart vs (some (-1)))
    (h : Q (.ref s.heap.objs.size) { s with heap := s.heap.push { cls := .type "tuple", data := .seq items.toList.reverse.toArray } }) (hsz : items.size ≤ sizeLine) : wpAny (model prog w) A (getItem (.ref t) (.ref sl)) Q E s := by
  have hok : sizeOk (.seq items.toList.reverse.toArray) := by
    show items.toList.reverse.toArray.size ≤ sizeLine
    rw [List.size_toArray, List.length_reverse, Array.length_toList]
    exact hsz
  obtain ⟨os, hos, hcs, hds⟩ := id hs
  have hTs : s.TypeIs (.ref sl) "slice" := ⟨os, hos, hcs⟩
  unfold getItem
  try with_reducible refine wpAny_holding ?_
  first | refine wpAny_bind (wpAny_pure ?_) | skip
  refine wpAny_bind (wpAny_sequenceKey ht.typeIs (by decide) ?_)
  refine wpAny_bind (wpAny_callSpecial?_slot (name := Str.ofString "__getitem__") ht.typeIs PyProof.Rows.slot_tuple_getitem (wpAny_call_entry PyProof.Rows.slot_tuple_getitem ht.typeIs entry_tuple_getitem ?_ (args_tuple_getitem _ _)))
  show wpAny _ _ (Builtin.Tuple.tupleItemsOf (.ref t) >>= _) _ _ s
  refine wpAny_bind (tupleItemsOf_ ht (wpAny_bind (wpAny_typeOf hTs ?_)))
  rw [if_pos (by decide)]
  refine wpAny_bind (sliceApplied_rev hs pl pu ps ?_)
  show wpAny _ _ (if (((items.size : Int) - 1) == 0 && (-1 : Int) == 1 && items.size == items.size) = true then _ else _) _ _ s
  rw [if_neg (by rw [show ((-1 : Int) == 1) = false from rfl, Bool.and_false, Bool.false_and]; decide), pick_rev]
  first
    | exact wpAny_bind (m := Builtin.Tuple.tupleExact _) (wpAny_newObj_type (wpAny_pure ⟨_, rfl, wpAny_pure h⟩) hok)
    | exact wpAny_bind (m := Builtin.Tuple.tupleExact _) (wpAny_newObj_type (wpAny_bind (wpAny_pure (wpAny_pure ⟨_, rfl, wpAny_pure h⟩))) hok)
    | exact wpAny_bind (wpAny_bind (m := Builtin.Tuple.tupleExact _) (wpAny_newObj_type (wpAny_pure (wpAny_pure ⟨_, rfl, wpAny_pure h⟩)) hok))
    | exact wpAny_bind (wpAny_bind (m := Builtin.Tuple.tupleExact _) (wpAny_newObj_type (wpAny_pure ⟨_, rfl, wpAny_pure h⟩) hok))
def revD : D → Option D
  | .list xs => some (.list xs.reverse)
  | .tuple xs => some (.tuple xs.reverse)
  | _ => none
theorem FzAll.rev {K : KF} {H : Hp} : ∀ {vs : List V} {ds : List D}, FzAll K H vs ds → FzAll K H vs.reverse ds.reverse
  | _, _, .nil => .nil
  | _, _, .cons h a => by
    rw [List.reverse_cons, List.reverse_cons]
    exact (FzAll.rev a).append (.cons h .nil)
section
variable {X : Cx} {W : WX} {e : Expr} {m : M D} {pos : Pos}
theorem r_rev {k : Nat} {p1 p2 p3 : Pos} (he : RE X W e m) : RE X W (.Subscript e (.Slice none none (some (.UnaryOp .USub (.Constant (.int 1) k p1) p2)) p3) pos) (ap1 revD m) := by
  refine ⟨fun pins s σ H Q I h => ?_⟩
  refine Subscript_ (thn (he.run pins s σ H _ I (tD1 h)) fun v s1 ⟨x, H1, I1, r1, dx, fx, c, ec, q⟩ => ?_)
  have hst : PO X (some (.UnaryOp .USub (.Constant (.int 1) k p1) p2)) (tPart (tUn (rU fun i => .int (-i)) (tC (.int 1)))) := po_some (pe_un un_neg pe_int)
  refine wpAny_Slice (thn (po_none.run pins s1 σ H1 (fun o H2 => o = none ∧ H2 = H1) I1 ⟨rfl, rfl⟩) fun vl s2 ⟨l, H2, I2, pl, el, e2⟩ => ?_)
  subst el e2
  refine thn (po_none.run pins s2 σ H2 (fun o H3 => o = none ∧ H3 = H2) I2 ⟨rfl, rfl⟩) fun vu s3 ⟨u, H3, I3, pu, eu, e3⟩ => ?_
  subst eu e3
  refine thn (hst.run pins s3 σ H3 (fun o H4 => o = some (-1) ∧ H4 = H3) I3 ⟨1, rfl, -1, rfl, rfl, rfl⟩) fun vs s4 ⟨o, H4, I4, ps, eo, e4⟩ => ?_
  subst eo e4
  have I5 : Inv X pins σ H4 { s4 with heap := s4.heap.push { cls := .type "slice", data := .fields #[vl, vu, vs] } } := I4.kept (t' := s4.toks) fun b ob q => Heap.get?_push_of_some _ q
  show wpAny (model X.prog X.w) X.A (subscriptTail e (.Slice none none (some (.UnaryOp .USub (.Constant (.int 1) k p1) p2)) p3) v (.ref s4.heap.objs.size)) (EP X pins σ Q) X.xe { s4 with heap := s4.heap.push { cls := .type "slice", data := .fields #[vl, vu, vs] } }
  cases fx with
  | lst hx fa =>
    cases ec
    cases r1
    obtain ⟨its, r, ht, hz⟩ := I5.list hx.sq
    refine tail_any (ops := [_, .ref s4.heap.objs.size]) ht.isList.typeIs (PySem.slot_list_getitem.lookup) ?_ (by with_unfolding_all rfl)
    refine wpAny_getItem_list_slice ht.isList (Heap.IsSliceOf.new _ vl vu vs) pl pu ps (by decide) ?_ (by rw [List.size_toArray, ← r.length]; exact hz)
    rw [PySem.W.krv_pick]
    exact ep_list (t := s4.toks) I5 r.reverse fa.rev (by rw [List.length_reverse]; exact hz) q
  | tup hx fa =>
    cases ec
    cases r1
    obtain ⟨its, r, ht, hz⟩ := I5.tuple hx.sq
    refine tail_any (ops := [_, .ref s4.heap.objs.size]) ht.typeIs (PyProof.Rows.slot_tuple_getitem.lookup) ?_ (by with_unfolding_all rfl)
    refine getItem_tuple_rev ht (Heap.IsSliceOf.new _ vl vu vs) pl pu ps ?_ (by rw [List.size_toArray, ← r.length]; exact hz)
    exact ep_tup (t := s4.toks) I5 r.reverse fa.rev (by rw [List.length_reverse]; exact hz) q
  | _ => cases ec
end
/-! ### the newer mirrors, run on slots -/
section
variable {α β : Type} {g g' : Ga}
theorem eVar_11 {a0 a1 a2 a3 a4 a5 a6 a7 a8 a9 a10 : Option Tv} {x : D} {r : Ga} : eVar 11 (a0 :: a1 :: a2 :: a3 :: a4 :: a5 :: a6 :: a7 :: a8 :: a9 :: a10 :: some (.d x) :: r) = .ok x (a0 :: a1 :: a2 :: a3 :: a4 :: a5 :: a6 :: a7 :: a8 :: a9 :: a10 :: some (.d x) :: r) := rfl
theorem eVar_12 {a0 a1 a2 a3 a4 a5 a6 a7 a8 a9 a10 a11 : Option Tv} {x : D} {r : Ga} : eVar 12 (a0 :: a1 :: a2 :: a3 :: a4 :: a5 :: a6 :: a7 :: a8 :: a9 :: a10 :: a11 :: some (.d x) :: r) = .ok x (a0 :: a1 :: a2 :: a3 :: a4 :: a5 :: a6 :: a7 :: a8 :: a9 :: a10 :: a11 :: some (.d x) :: r) := rfl
theorem eVar_13 {a0 a1 a2 a3 a4 a5 a6 a7 a8 a9 a10 a11 a12 : Option Tv} {x : D} {r : Ga} : eVar 13 (a0 :: a1 :: a2 :: a3 :: a4 :: a5 :: a6 :: a7 :: a8 :: a9 :: a10 :: a11 :: a12 :: some (.d x) :: r) = .ok x (a0 :: a1 :: a2 :: a3 :: a4 :: a5 :: a6 :: a7 :: a8 :: a9 :: a10 :: a11 :: a12 :: some (.d x) :: r) := rfl
theorem eVar_14 {a0 a1 a2 a3 a4 a5 a6 a7 a8 a9 a10 a11 a12 a13 : Option Tv} {x : D} {r : Ga} : eVar 14 (a0 :: a1 :: a2 :: a3 :: a4 :: a5 :: a6 :: a7 :: a8 :: a9 :: a10 :: a11 :: a12 :: a13 :: some (.d x) :: r) = .ok x (a0 :: a1 :: a2 :: a3 :: a4 :: a5 :: a6 :: a7 :: a8 :: a9 :: a10 :: a11 :: a12 :: a13 :: some (.d x) :: r) := rfl
theorem eVar_15 {a0 a1 a2 a3 a4 a5 a6 a7 a8 a9 a10 a11 a12 a13 a14 : Option Tv} {x : D} {r : Ga} : eVar 15 (a0 :: a1 :: a2 :: a3 :: a4 :: a5 :: a6 :: a7 :: a8 :: a9 :: a10 :: a11 :: a12 :: a13 :: a14 :: some (.d x) :: r) = .ok x (a0 :: a1 :: a2 :: a3 :: a4 :: a5 :: a6 :: a7 :: a8 :: a9 :: a10 :: a11 :: a12 :: a13 :: a14 :: some (.d x) :: r) := rfl
theorem eVar_16 {a0 a1 a2 a3 a4 a5 a6 a7 a8 a9 a10 a11 a12 a13 a14 a15 : Option Tv} {x : D} {r : Ga} : eVar 16 (a0 :: a1 :: a2 :: a3 :: a4 :: a5 :: a6 :: a7 :: a8 :: a9 :: a10 :: a11 :: a12 :: a13 :: a14 :: a15 :: some (.d x) :: r) = .ok x (a0 :: a1 :: a2 :: a3 :: a4 :: a5 :: a6 :: a7 :: a8 :: a9 :: a10 :: a11 :: a12 :: a13 :: a14 :: a15 :: some (.d x) :: r) := rfl
theorem eVar_17 {a0 a1 a2 a3 a4 a5 a6 a7 a8 a9 a10 a11 a12 a13 a14 a15 a16 : Option Tv} {x : D} {r : Ga} : eVar 17 (a0 :: a1 :: a2 :: a3 :: a4 :: a5 :: a6 :: a7 :: a8 :: a9 :: a10 :: a11 :: a12 :: a13 :: a14 :: a15 :: a16 :: some (.d x) :: r) = .ok x (a0 :: a1 :: a2 :: a3 :: a4 :: a5 :: a6 :: a7 :: a8 :: a9 :: a10 :: a11 :: a12 :: a13 :: a14 :: a15 :: a16 :: some (.d x) :: r) := rfl
theorem eVar_18 {a0 a1 a2 a3 a4 a5 a6 a7 a8 a9 a10 a11 a12 a13 a14 a15 a16 a17 : Option Tv} {x : D} {r : Ga} : eVar 18 (a0 :: a1 :: a2 :: a3 :: a4 :: a5 :: a6 :: a7 :: a8 :: a9 :: a10 :: a11 :: a12 :: a13 :: a14 :: a15 :: a16 :: a17 :: some (.d x) :: r) = .ok x (a0 :: a1 :: a2 :: a3 :: a4 :: a5 :: a6 :: a7 :: a8 :: a9 :: a10 :: a11 :: a12 :: a13 :: a14 :: a15 :: a16 :: a17 :: some (.d x) :: r) := rfl
theorem eVar_19 {a0 a1 a2 a3 a4 a5 a6 a7 a8 a9 a10 a11 a12 a13 a14 a15 a16 a17 a18 : Option Tv} {x : D} {r : Ga} : eVar 19 (a0 :: a1 :: a2 :: a3 :: a4 :: a5 :: a6 :: a7 :: a8 :: a9 :: a10 :: a11 :: a12 :: a13 :: a14 :: a15 :: a16 :: a17 :: a18 :: some (.d x) :: r) = .ok x (a0 :: a1 :: a2 :: a3 :: a4 :: a5 :: a6 :: a7 :: a8 :: a9 :: a10 :: a11 :: a12 :: a13 :: a14 :: a15 :: a16 :: a17 :: a18 :: some (.d x) :: r) := rfl
theorem eVar_20 {a0 a1 a2 a3 a4 a5 a6 a7 a8 a9 a10 a11 a12 a13 a14 a15 a16 a17 a18 a19 : Option Tv} {x : D} {r : Ga} : eVar 20 (a0 :: a1 :: a2 :: a3 :: a4 :: a5 :: a6 :: a7 :: a8 :: a9 :: a10 :: a11 :: a12 :: a13 :: a14 :: a15 :: a16 :: a17 :: a18 :: a19 :: some (.d x) :: r) = .ok x (a0 :: a1 :: a2 :: a3 :: a4 :: a5 :: a6 :: a7 :: a8 :: a9 :: a10 :: a11 :: a12 :: a13 :: a14 :: a15 :: a16 :: a17 :: a18 :: a19 :: some (.d x) :: r) := rfl
theorem eVar_21 {a0 a1 a2 a3 a4 a5 a6 a7 a8 a9 a10 a11 a12 a13 a14 a15 a16 a17 a18 a19 a20 : Option Tv} {x : D} {r : Ga} : eVar 21 (a0 :: a1 :: a2 :: a3 :: a4 :: a5 :: a6 :: a7 :: a8 :: a9 :: a10 :: a11 :: a12 :: a13 :: a14 :: a15 :: a16 :: a17 :: a18 :: a19 :: a20 :: some (.d x) :: r) = .ok x (a0 :: a1 :: a2 :: a3 :: a4 :: a5 :: a6 :: a7 :: a8 :: a9 :: a10 :: a11 :: a12 :: a13 :: a14 :: a15 :: a16 :: a17 :: a18 :: a19 :: a20 :: some (.d x) :: r) := rfl
theorem eVar_22 {a0 a1 a2 a3 a4 a5 a6 a7 a8 a9 a10 a11 a12 a13 a14 a15 a16 a17 a18 a19 a20 a21 : Option Tv} {x : D} {r : Ga} : eVar 22 (a0 :: a1 :: a2 :: a3 :: a4 :: a5 :: a6 :: a7 :: a8 :: a9 :: a10 :: a11 :: a12 :: a13 :: a14 :: a15 :: a16 :: a17 :: a18 :: a19 :: a20 :: a21 :: some (.d x) :: r) = .ok x (a0 :: a1 :: a2 :: a3 :: a4 :: a5 :: a6 :: a7 :: a8 :: a9 :: a10 :: a11 :: a12 :: a13 :: a14 :: a15 :: a16 :: a17 :: a18 :: a19 :: a20 :: a21 :: some (.d x) :: r) := rfl
theorem eVar_23 {a0 a1 a2 a3 a4 a5 a6 a7 a8 a9 a10 a11 a12 a13 a14 a15 a16 a17 a18 a19 a20 a21 a22 : Option Tv} {x : D} {r : Ga} : eVar 23 (a0 :: a1 :: a2 :: a3 :: a4 :: a5 :: a6 :: a7 :: a8 :: a9 :: a10 :: a11 :: a12 :: a13 :: a14 :: a15 :: a16 :: a17 :: a18 :: a19 :: a20 :: a21 :: a22 :: some (.d x) :: r) = .ok x (a0 :: a1 :: a2 :: a3 :: a4 :: a5 :: a6 :: a7 :: a8 :: a9 :: a10 :: a11 :: a12 :: a13 :: a14 :: a15 :: a16 :: a17 :: a18 :: a19 :: a20 :: a21 :: a22 :: some (.d x) :: r) := rfl
theorem eVar_24 {a0 a1 a2 a3 a4 a5 a6 a7 a8 a9 a10 a11 a12 a13 a14 a15 a16 a17 a18 a19 a20 a21 a22 a23 : Option Tv} {x : D} {r : Ga} : eVar 24 (a0 :: a1 :: a2 :: a3 :: a4 :: a5 :: a6 :: a7 :: a8 :: a9 :: a10 :: a11 :: a12 :: a13 :: a14 :: a15 :: a16 :: a17 :: a18 :: a19 :: a20 :: a21 :: a22 :: a23 :: some (.d x) :: r) = .ok x (a0 :: a1 :: a2 :: a3 :: a4 :: a5 :: a6 :: a7 :: a8 :: a9 :: a10 :: a11 :: a12 :: a13 :: a14 :: a15 :: a16 :: a17 :: a18 :: a19 :: a20 :: a21 :: a22 :: a23 :: some (.d x) :: r) := rfl
theorem eVar_25 {a0 a1 a2 a3 a4 a5 a6 a7 a8 a9 a10 a11 a12 a13 a14 a15 a16 a17 a18 a19 a20 a21 a22 a23 a24 : Option Tv} {x : D} {r : Ga} : eVar 25 (a0 :: a1 :: a2 :: a3 :: a4 :: a5 :: a6 :: a7 :: a8 :: a9 :: a10 :: a11 :: a12 :: a13 :: a14 :: a15 :: a16 :: a17 :: a18 :: a19 :: a20 :: a21 :: a22 :: a23 :: a24 :: some (.d x) :: r) = .ok x (a0 :: a1 :: a2 :: a3 :: a4 :: a5 :: a6 :: a7 :: a8 :: a9 :: a10 :: a11 :: a12 :: a13 :: a14 :: a15 :: a16 :: a17 :: a18 :: a19 :: a20 :: a21 :: a22 :: a23 :: a24 :: some (.d x) :: r) := rfl
theorem sWipe_app (vs : List Nat) : sWipe vs g = if vs.all (fun i => freeAt g i) = true then .ok .nx (wipeG g vs) else .stuck := rfl
theorem wipeG_nil : wipeG g [] = g := rfl
theorem wipeG_cons (v : Nat) (vs : List Nat) : wipeG g (v :: vs) = (wipeG g vs).set v none := rfl
theorem sSetO_app (i : Nat) (m : M Tv) : sSetO i m g = (m g).bind fun t g1 => if freeAt g1 i = true then .ok .nx (g1.set i (some t)) else .stuck := rfl
theorem mConsO_app (a : M Tv) (b : M (List Tv)) : mConsO a b g = (a g).bind fun t => bnd b fun xs g => .ok (t :: xs) g := rfl
theorem ap2L_app (f : D → D → Option (List D)) (a b : M D) : ap2L f a b g = (a g).bind fun x => bnd b fun y => lift (f x y) := rfl
theorem eIdx_app (mo me : M D) : eIdx mo me g = (mo g).bind fun x => if idxOk x = true then bnd me fun y => lift (idxL (itsD x) y) else fun _ => .stuck := rfl
theorem eExt_app (i : Nat) (m : M (List D)) : eExt i m g = if isMl g i = true then (m g).bind fun x g1 => onK (g1[i]?) i fExt x g1 else .stuck := onL_app i m fExt
theorem eNewT_app : eNewT g = .ok (.md false true []) g := rfl
/-- x[k] op= e on a list of one's own -/
theorem sAugI_app (i : Nat) (f : D → D → Option D) (mk me : M D) : sAugI i f mk me g = if isMl g i = true then ((mk g).bind fun x g1 => onK (g1[i]?) i fIdxP x g1).bind fun kx => bnd me fun y => bnd (lift (f kx.2 y)) fun z => augK i kx.1 z else .stuck := by
  show (onL i mk fIdxP g).bind _ = _
  rw [onL_app]
  by_cases h : isMl g i = true
  · rw [if_pos h, if_pos h]
  · rw [if_neg h, if_neg h]
    rfl
theorem augK_app (i : Nat) (k z : D) : augK i k z g = if isMl g i = true then (onK (g[i]?) i (fSetI z) k g).bind fun _ g => .ok .nx g else .stuck := by
  show (onL i (eC k) (fSetI z) g).bind _ = _
  rw [onL_app]
  by_cases h : isMl g i = true
  · rw [if_pos h, if_pos h]
    rfl
  · rw [if_neg h, if_neg h]
    rfl
/-- one step over slots with an own dict -/
def onKT (o : Option (Option Tv)) (i : Nat) (f : List (D × D) → β → Option (α × List (D × D))) (x : β) : M α := fun g => match o with
  | some (some (.md b true L)) => (match f L x with
    | some (y, L') => .ok y (g.set i (some (.md b true L')))
    | none => .stuck)
  | _ => .stuck
theorem onT_app (i : Nat) (m : M β) (f : List (D × D) → β → Option (α × List (D × D))) : onT i m f g = if isMt g i = true then (m g).bind fun x g1 => onKT (g1[i]?) i f x g1 else .stuck := by
  unfold onT
  by_cases h : isMt g i = true
  · rw [if_pos h, if_pos h]
    cases m g <;> rfl
  · rw [if_neg h, if_neg h]
theorem isMt_s (a : Option Tv) (r : Ga) (n : Nat) : isMt (a :: r) (n + 1) = isMt r n := rfl
theorem isMt_m (b : Bool) (L : List (D × D)) (r : Ga) : isMt (some (.md b true L) :: r) 0 = true := rfl
theorem sAugT_app (i : Nat) (f : D → D → Option D) (mk me : M D) : sAugT i f mk me g = if isMt g i = true then ((mk g).bind fun x g1 => onKT (g1[i]?) i fGetT x g1).bind fun kx => bnd me fun y => bnd (lift (f kx.2 y)) fun z => augKT i kx.1 z else .stuck := by
  show (onT i mk fGetT g).bind _ = _
  rw [onT_app]
  by_cases h : isMt g i = true
  · rw [if_pos h, if_pos h]
  · rw [if_neg h, if_neg h]
    rfl
theorem augKT_app (i : Nat) (k z : D) : augKT i k z g = if isMt g i = true then (onKT (g[i]?) i (fPutT z) k g).bind fun _ g => .ok .nx g else .stuck := by
  show (onT i (eC k) (fPutT z) g).bind _ = _
  rw [onT_app]
  by_cases h : isMt g i = true
  · rw [if_pos h, if_pos h]
    rfl
  · rw [if_neg h, if_neg h]
    rfl
theorem freeAt_t (b t : Bool) (L : List (D × D)) (r : Ga) : freeAt (some (.md b t L) :: r) 0 = !b := rfl
/-! ### comprehensions of two clauses -/
/-! ### dict comprehensions -/
/-! ### loops that keep a shape -/
end
end PP
/-! ### fuel of a loop that counts a whole number down -/
namespace PP
open PySem PySem.Calls PySem.W PySem.Spec L2
open PyProof.Rows hiding St
/-! ### list(zip(a, b)): the pairs stay -/
section
variable {prog : Program} {w : World} {A : Around} {E : Value → Shared → Prop} {s : Shared} {z TI TO i1 i2 : Addr} {fp1 fp2 : List Addr} {n1 n2 i : Nat} {P1 P2 : Nat → Value → Prop} {St1 St2 : Nat → Heap → Prop} {W : List Addr}
/-- a zip that has begun, or one whose pair is out -/
def ZSt (z TI TO : Addr) (W : List Addr) (i : Nat) (h : Heap) : Prop := (i = 0 ∧ IsZip h z TI TO .none) ∨ ∃ T f oT, IsZipHeld h z TI TO T f ∧ h.get? T = some oT ∧ T ∉ W
theorem ZSt.at {h h' : Heap} (x : ZSt z TI TO W i h) (hz : ∀ o, h.get? z = some o → h'.get? z = some o) (hk : ∀ b o, b ∉ W → h.get? b = some o → h'.get? b = some o) : ZSt z TI TO W i h' := by
  rcases x with ⟨e, x⟩ | ⟨T, f, oT, x, y, n⟩
  · exact .inl ⟨e, hz _ x⟩
  · exact .inr ⟨T, f, oT, hz _ x, hk _ _ n y, n⟩
end
/-- the pairs laid so far, at as -/
structure ZG (P1 P2 : Nat → Value → Prop) (lo : Addr) (h : Heap) (as : List Addr) : Prop where
  rise : as.Pairwise (· < ·)
  above : ∀ a ∈ as, lo ≤ a
  pairs : ∀ (j : Nat) (a : Addr), as[j]? = some a → ∃ x y, P1 j x ∧ P2 j y ∧ IsTupOf2 h a x y
theorem ZG.there {P1 P2 : Nat → Value → Prop} {lo : Addr} {h : Heap} {as : List Addr} (g : ZG P1 P2 lo h as) {a : Addr} (ha : a ∈ as) : a < h.objs.size := by
  obtain ⟨j, hj⟩ := List.mem_iff_getElem?.mp ha
  obtain ⟨_, _, _, _, e⟩ := g.pairs j a hj
  exact Heap.lt_size e
theorem ZG.at {P1 P2 : Nat → Value → Prop} {lo : Addr} {h h' : Heap} {as : List Addr} (g : ZG P1 P2 lo h as) (k : ∀ b o, lo ≤ b → h.get? b = some o → h'.get? b = some o) : ZG P1 P2 lo h' as :=
  ⟨g.rise, g.above, fun j a hj => by
    obtain ⟨x, y, p, q, e⟩ := g.pairs j a hj
    exact ⟨x, y, p, q, k a _ (g.above a (List.mem_of_getElem? hj)) e⟩⟩
end PP
namespace PP
open PySem PySem.Spec PySem.SeqAt L2
open PyProof.Rows hiding St
/-! ### sets of texts, of ints, of tuples -/
abbrev NK := NestedKey
abbrev rw1 (w : World) (p : Value × NK) : Int × Value := (p.2.hash w, p.1)
/-- the set at a holds L -/
structure SetK (w : World) (h : Heap) (a : Addr) (L : List (Value × NK)) (es : Array (Int × Value)) (ep : Nat) (t : SetTable) : Prop where
  ob : ∃ o, h.get? a = some o ∧ o.ExactSet ∧ o.data = .set es ep t
  rows : es.toList = L.map (rw1 w)
  nd : (L.map (·.2)).Nodup
  is : ∀ p ∈ L, NestedIs h p.2 p.1
  fit : t.fits es.size = true
  ris : Ris t.place.toList
  led : w.params.followText "set-order" = true ∨ t.led = true
  few : L.length < 64
theorem SetK.size {w : World} {h : Heap} {a : Addr} {L : List (Value × NK)} {es : Array (Int × Value)} {ep : Nat} {t : SetTable} (R : SetK w h a L es ep t) : es.size = L.length := by
  have q := congrArg List.length R.rows
  rwa [Array.length_toList, List.length_map] at q
theorem nis_keep {h h' : Heap} {k : NK} {v : Value} (x : NestedIs h k v) (f : ∀ b o, h.get? b = some o → h'.get? b = some o) : NestedIs h' k v := NestedIs.at (fun b o _ _ e _ => f b o e) k v x
theorem nis_but {h h' : Heap} {k : NK} {v : Value} {a : Addr} {o : Obj} {es : Array (Int × Value)} {ep : Nat} {t : SetTable} (x : NestedIs h k v) (go : h.get? a = some o) (gd : o.data = .set es ep t) (sb : Heap.SameBut a h h') : NestedIs h' k v :=
  NestedIs.at (fun b u vs n e1 e2 => by
    have ne : b ≠ a := fun z => by
      subst z
      rw [go] at e1
      cases e1
      rw [gd] at e2
      cases e2
    rw [sb.2 b ne]
    exact e1) k v x
theorem SetK.keep {w : World} {h h' : Heap} {a : Addr} {L : List (Value × NK)} {es : Array (Int × Value)} {ep : Nat} {t : SetTable} (R : SetK w h a L es ep t) (fa : ∀ o, h.get? a = some o → h'.get? a = some o) (fk : ∀ p ∈ L, NestedIs h' p.2 p.1) : SetK w h' a L es ep t := by
  obtain ⟨o, e, r⟩ := R.ob
  exact ⟨⟨o, fa o e, r⟩, R.rows, R.nd, fk, R.fit, R.ris, R.led, R.few⟩
section
variable {P : Program} {w : World} {A : Around} {E : Value → Shared → Prop} {s : Shared} {a : Addr} {L : List (Value × NK)} {es : Array (Int × Value)} {ep : Nat} {t : SetTable}
/-! keys that are scanned: texts, ints -/
structure ScanK (P : Program) (w : World) (K : Type) [DecidableEq K] where
  knd : KeyKind P w K
  emb : K → NK
  inj : ∀ {x y : K}, emb x = emb y → x = y
  is : ∀ {h : Heap} {k : K} {v : Value}, knd.is k v = true → NestedIs h (emb k) v
  hash : ∀ k, (emb k).hash w = knd.hash k
  scan : ∀ {k : K} {v : Value}, knd.is k v = true → v.scannable = true
def scStr (P : Program) (w : World) : ScanK P w Str where
  knd := PySem.strKind P w
  emb := .text
  inj := fun e => by injection e
  is := fun {h k v} e => by obtain ⟨t, rfl⟩ := Value.isStrOf_shape e; exact .text _ _
  hash := fun _ => rfl
  scan := fun {k v} e => by obtain ⟨t, rfl⟩ := Value.isStrOf_shape e; rfl
def scInt (P : Program) (w : World) : ScanK P w Int where
  knd := PySem.intKind P w
  emb := .num
  inj := fun e => by injection e
  is := fun {h k v} e => by obtain ⟨t, rfl⟩ := Value.isInt_shape e; exact .int _ _
  hash := fun _ => rfl
  scan := fun {k v} e => by obtain ⟨t, rfl⟩ := Value.isInt_shape e; rfl
variable {K : Type} [DecidableEq K]
def AllS (sc : ScanK P w K) (L : List (Value × NK)) : Prop := ∀ p ∈ L, ∃ k, p.2 = sc.emb k ∧ sc.knd.is k p.1 = true
theorem elems_of {sc : ScanK P w K} (R : SetK w s.heap a L es ep t) (al : AllS sc L) : ElemsOf sc.knd es.toList := by
  intro e he
  rw [R.rows] at he
  obtain ⟨p, hp, rfl⟩ := List.mem_map.mp he
  obtain ⟨k, e1, e2⟩ := al p hp
  exact ⟨⟨k, e2, by show p.2.hash w = _; rw [e1, sc.hash]⟩, sc.scan e2⟩
theorem has_key {sc : ScanK P w K} (R : SetK w s.heap a L es ep t) (al : AllS sc L) (k : K) : (∃ e ∈ es.toList, sc.knd.is k e.2 = true) ↔ sc.emb k ∈ L.map (·.2) := by
  rw [R.rows]
  constructor
  · rintro ⟨e, he, q⟩
    obtain ⟨p, hp, rfl⟩ := List.mem_map.mp he
    obtain ⟨k', e1, e2⟩ := al p hp
    have : k' = k := sc.knd.inj p.1 k' k e2 q
    subst this
    exact List.mem_map.mpr ⟨p, hp, e1⟩
  · intro q
    obtain ⟨p, hp, e⟩ := List.mem_map.mp q
    obtain ⟨k', e1, e2⟩ := al p hp
    have : k' = k := sc.inj (e1.symm.trans e)
    subst this
    exact ⟨rw1 w p, List.mem_map.mpr ⟨p, hp, rfl⟩, e2⟩
/-- rows in another order -/
theorem rows_perm {es2 : List (Int × Value)} {L : List (Value × NK)} (pm : es2.Perm (L.map (rw1 w))) : ∃ L2 : List (Value × NK), es2 = L2.map (rw1 w) ∧ L2.Perm L := by
  have key : ∀ (X Y : List (Int × Value)), X.Perm Y → ∀ L : List (Value × NK), Y = L.map (rw1 w) → ∃ L2 : List (Value × NK), X = L2.map (rw1 w) ∧ L2.Perm L := by
    intro X Y pm
    induction pm with
    | nil => intro L e; exact ⟨L, e, .refl _⟩
    | cons x _ ih =>
      intro L e
      cases L with
      | nil => cases e
      | cons p L =>
        rw [List.map_cons] at e
        injection e with e1 e2
        obtain ⟨L2, f1, f2⟩ := ih L e2
        exact ⟨p :: L2, by rw [List.map_cons, ← f1, e1], f2.cons p⟩
    | swap x y l =>
      intro L e
      cases L with
      | nil => cases e
      | cons p L =>
        cases L with
        | nil => cases e
        | cons q L =>
          rw [List.map_cons, List.map_cons] at e
          injection e with e1 e2
          injection e2 with e2 e3
          exact ⟨q :: p :: L, by rw [List.map_cons, List.map_cons, ← e3, e1, e2], List.Perm.swap p q L⟩
    | trans _ _ i1 i2 =>
      intro L e
      obtain ⟨L1, f1, f2⟩ := i2 L e
      obtain ⟨L2, g1, g2⟩ := i1 L1 f1
      exact ⟨L2, g1, g2.trans f2⟩
  exact key _ _ pm L rfl
/-- one more, then perhaps all laid anew -/
theorem tail_scan {sc : ScanK P w K} {g : Bool → Sem Unit} (hg : ∀ (b : Bool) (s1 : Shared) (Q' : Unit → Shared → Prop), Q' () s1 → wpAny (model P w) A (g b) Q' E s1) (R : SetK w s.heap a L es ep t) {L1 : List (Value × NK)} {es1 : Array (Int × Value)} {t1 : SetTable} (r1 : es1.toList = L1.map (rw1 w)) (n1 : (L1.map (·.2)).Nodup) (i1 : ∀ p ∈ L1, NestedIs s.heap p.2 p.1) (f1 : t1.fits es1.size = true) (s1 : Ris t1.place.toList)
    (l1 : w.params.followText "set-order" = true ∨ t1.led = true) (w1 : L1.length < 64) {dm : Bool} {Q : Option Bool → Shared → Prop} (hQ : ∀ h' L' es' ep' t', Heap.SameBut a s.heap h' → SetK w h' a L' es' ep' t' → L'.Perm L1 → Q (some true) { s with heap := h' }) :
    wpAny (model P w) A (do
      storeSet a es1 t1
      if (!dm && t1.tooFull) = true then do
          g (relayAll t1 es1 (SetTable.grown es1.size)).2.2
          storeSet a (relayAll t1 es1 (SetTable.grown es1.size)).1 (relayAll t1 es1 (SetTable.grown es1.size)).2.1
          pure (some true)
        else pure (some true)) Q E s := by
  obtain ⟨o, go, gx, gd⟩ := R.ob
  have z1 : es1.size = L1.length := by
    have q := congrArg List.length r1
    rwa [Array.length_toList, List.length_map] at q
  have b1 : es1.size < scanBound := by unfold scanBound; omega
  refine wpAny_bind (wpAny_storeSet_of go gd ?_ (fits_of_scanBound b1))
  have sb := Heap.SameBut.update s.heap a (Obj.putSet es1 t1)
  have g1 := store_at (es' := es1) (t' := t1) go gd
  have hi : ∀ p ∈ L1, NestedIs (s.heap.update a (Obj.putSet es1 t1)) p.2 p.1 := fun p hp => nis_but (i1 p hp) go gd sb
  generalize s.heap.update a (Obj.putSet es1 t1) = h1 at sb g1 hi ⊢
  split
  · have pm := relayAll_perm t1 es1 (SetTable.grown es1.size)
    have ft := relayAll_fits t1 es1 (SetTable.grown es1.size)
    have rs := relayAll_ris t1 es1 (SetTable.grown es1.size)
    have ld := relayAll_led t1 es1 (SetTable.grown es1.size)
    generalize relayAll t1 es1 (SetTable.grown es1.size) = Z at pm ft rs ld ⊢
    obtain ⟨es2, t2, gv⟩ := Z
    dsimp only at pm ft rs ld ⊢
    rw [r1] at pm
    obtain ⟨L2, e2, p2⟩ := rows_perm pm
    have z2 : es2.size = L2.length := by
      have q := congrArg List.length e2
      rwa [Array.length_toList, List.length_map] at q
    have y2 : L2.length = L1.length := p2.length_eq
    refine wpAny_bind (hg _ _ _ (wpAny_bind (wpAny_storeSet_of (s := { s with heap := h1 }) g1 rfl (wpAny_pure ?_) (fits_of_scanBound (by unfold scanBound; omega)))))
    have sb2 := Heap.SameBut.update h1 a (Obj.putSet es2 t2)
    refine hQ _ L2 es2 _ t2 (sb.trans sb2) ⟨⟨_, store_at (es' := es2) (t' := t2) g1 rfl, gx, rfl⟩, e2, (p2.map (·.2)).nodup_iff.mpr n1, fun p hp => nis_but (hi p (p2.mem_iff.mp hp)) g1 rfl sb2, ft, rs, l1.imp id fun z => by rw [ld]; exact z, by omega⟩ p2
  · exact wpAny_pure (hQ _ L1 es1 _ t1 sb ⟨⟨_, g1, gx, rfl⟩, r1, n1, hi, f1, s1, l1, w1⟩ (.refl _))
theorem add_scan {sc : ScanK P w K} (R : SetK w s.heap a L es ep t) (al : AllS sc L) {k : K} {x : Value} (hx : sc.knd.is k x = true) (room : L.length + 1 < 64) {Q : Bool → Shared → Prop}
    (hQ : ∀ b h' L' es' ep' t', Heap.SameBut a s.heap h' → SetK w h' a L' es' ep' t' → (sc.emb k ∈ L.map (·.2) → L' = L) → (sc.emb k ∉ L.map (·.2) → L'.Perm ((x, sc.emb k) :: L)) → Q b { s with heap := h' }) : wpAny (model P w) A (setAddHashed a x ((sc.emb k).hash w)) Q E s := by
  obtain ⟨o, go, gx, gd⟩ := R.ob
  have el := elems_of R al
  have sx := sc.scan hx
  have zz := R.size
  have bd : es.size < scanBound := by unfold scanBound; omega
  rw [sc.hash]
  unfold setAddHashed setAddHashedIn
  refine wpAny_holding (wpAny_bind (wpAny_setState_of go gd R.fit ?_))
  dsimp only
  rw [byScan_of sx bd el]
  simp only [if_true]
  unfold setAddByScan
  refine wpAny_bind (wpAny_bind (wpAny_rule (wpAny_bind (wpAny_setScan_of hx go gd R.fit el ?_))))
  cases fi : List.findIdx? (fun e => sc.knd.is k e.2) es.toList with
  | some j =>
    dsimp only
    obtain ⟨hj, pj, _⟩ := List.findIdx?_eq_some_iff_getElem.mp fi
    have hm := (has_key R al k).mp ⟨es.toList[j], List.getElem_mem hj, pj⟩
    exact wpAny_pure (wpAny_pure (hQ false s.heap L es ep t (Heap.SameBut.refl a s.heap) R (fun _ => rfl) fun z => absurd hm z))
  | none =>
    dsimp only
    have hm : sc.emb k ∉ L.map (·.2) := fun z => by
      obtain ⟨e, he, q⟩ := (has_key R al k).mpr z
      have c := List.findIdx?_eq_none_iff.mp fi e he
      rw [q] at c
      cases c
    have gw : ∀ (b : Bool) (s1 : Shared) (Q' : Unit → Shared → Prop), Q' () s1 → wpAny (model P w) A (match b with | true => rule "set.scan.the-table-gave-way" | false => pure ()) Q' E s1 := fun b s1 Q' q => by
      cases b
      · exact wpAny_pure q
      · exact wpAny_rule q
    have pm := layNew_perm t es (sc.knd.hash k) x
    have ft := layNew_fits t es (sc.knd.hash k) x
    have rs := layNew_ris t es (sc.knd.hash k) x R.ris
    have ld := layNew_led t es (sc.knd.hash k) x
    generalize layNew t es (sc.knd.hash k) x = Z at pm ft rs ld ⊢
    obtain ⟨es1, t1, dm, gv⟩ := Z
    dsimp only at pm ft rs ld ⊢
    have pm2 : es1.toList.Perm (((x, sc.emb k) :: L).map (rw1 w)) := by
      rw [Array.toList_push, R.rows] at pm
      refine pm.trans ((List.perm_append_singleton _ _).trans ?_)
      rw [List.map_cons, rw1, sc.hash]
    obtain ⟨L1, e1, p1⟩ := rows_perm pm2
    have n1 : (L1.map (·.2)).Nodup := by
      refine (p1.map (·.2)).nodup_iff.mpr ?_
      rw [List.map_cons]
      exact List.nodup_cons.mpr ⟨hm, R.nd⟩
    have i1 : ∀ p ∈ L1, NestedIs s.heap p.2 p.1 := fun p hp => by
      rcases List.mem_cons.mp (p1.mem_iff.mp hp) with z | z
      · rw [z]; exact sc.is hx
      · exact R.is p z
    have w1 : L1.length < 64 := by rw [p1.length_eq, List.length_cons]; exact room
    have l1 : w.params.followText "set-order" = true ∨ t1.led = true := R.led.imp id fun z => by rw [ld]; exact z
    have fin : ∀ h' L' es' ep' t', Heap.SameBut a s.heap h' → SetK w h' a L' es' ep' t' → L'.Perm L1 → Q true { s with heap := h' } := fun h' L' es' ep' t' sb R' pp => hQ true h' L' es' ep' t' sb R' (fun z => absurd z hm) fun _ => pp.trans p1
    refine wpAny_bind (gw _ _ _ ?_)
    split
    · refine wpAny_bind ?_
      rw [hashByValue_scannable 8 sx]
      refine wpAny_pure (tail_scan (sc := sc) gw R e1 n1 i1 ?_ ?_ ?_ w1 fun h' L' es' ep' t' sb R' pp => by
        dsimp only
        exact wpAny_pure (fin h' L' es' ep' t' sb R' pp))
      · split
        · exact ft
        · exact SetTable.fits_plain_off ft
      · split <;> exact rs
      · split <;> exact l1
    · refine wpAny_bind (wpAny_pure ?_)
      simp only [if_true]
      exact tail_scan (sc := sc) gw R e1 n1 i1 ft rs l1 w1 fun h' L' es' ep' t' sb R' pp => by
        dsimp only
        exact wpAny_pure (fin h' L' es' ep' t' sb R' pp)
end
/-! ### sets of tuples -/
/-- found again from its hash -/
structure TabK (w : World) (L : List (Value × NK)) (t : SetTable) : Prop where
  tab : TabOk t (L.map fun p => p.2.hash w)
  room : L.length * 5 < t.mask * 3
  dep : ∀ p ∈ L, p.2.depth ≤ 8
  rf : ∀ p ∈ L, ∃ b, p.1 = .ref b
section
variable {P : Program} {w : World} {A : Around} {E : Value → Shared → Prop} {s : Shared} {a : Addr} {L : List (Value × NK)} {es : Array (Int × Value)} {ep : Nat} {t : SetTable}
theorem SetK.entry {h : Heap} (R : SetK w h a L es ep t) {i : Nat} {p : Value × NK} (e : L[i]? = some p) : es[i]? = some (p.2.hash w, p.1) := by
  rw [← Array.getElem?_toList, R.rows, List.getElem?_map, e]
  rfl
mutual
theorem oac_key : ∀ (k : NK) (v : Value) (n : Nat) (A : Around) (s : Shared) (Q : Bool → Shared → Prop), NestedIs s.heap k v → k.depth ≤ n → Q false s → wpAny (model P w) A (ofAClassStatement n v) Q E s
  | .none, _, n, A, s, Q, x, _, q => by cases x; cases n <;> exact wpAny_pure q
  | .num i, _, n, A, s, Q, x, _, q => by cases x <;> cases n <;> exact wpAny_pure q
  | .text y, _, n, A, s, Q, x, _, q => by cases x; cases n <;> exact wpAny_pure q
  | .tup ks, _, n, A, s, Q, x, hn, q => by
    cases x with
    | @tup b o vs m _ g1 g2 g3 g4 =>
      simp only [NestedKey.depth] at hn
      cases n with
      | zero => omega
      | succ n =>
        unfold ofAClassStatement
        refine wpAny_bind (wpAny_typeOf (T := "tuple") ⟨o, g1, g2⟩ ?_)
        dsimp only
        rw [if_pos (show (("tuple" : String) == "tuple") = true by decide)]
        refine wpAny_bind (wpAny_pure ?_)
        simp only [Bool.not_true, Bool.false_eq_true, if_false]
        try refine wpAny_bind (wpAny_pure ?_)
        refine wpAny_bind (wpAny_seqItems g1 g3 ?_)
        dsimp only
        refine wpAny_bind ?_
        rw [← Array.forIn_toList]
        refine oac_keys ks vs.toList n A s (fun r s' => r.1 = none ∧ s' = s) _ ?_ g4 (by omega) ?_
        · rintro ⟨r1, r2⟩ s' ⟨e1, e2⟩
          simp only at e1
          subst e1 e2
          exact wpAny_pure q
        · exact ⟨rfl, rfl⟩
theorem oac_keys : ∀ (ks : List NK) (vs : List Value) (n : Nat) (A : Around) (s : Shared) (I : (Option Bool × Unit) → Shared → Prop) (Q : (Option Bool × Unit) → Shared → Prop), (∀ r s', I r s' → Q r s') → NestedAll s.heap ks vs → NestedKey.depthAll ks ≤ n → I (none, ()) s →
    wpAny (model P w) A (forIn vs ((none, ()) : Option Bool × Unit) fun y r => do
      if ← ofAClassStatement n y then pure (ForInStep.done (some true, ())) else pure (ForInStep.yield (none, ()))) Q E s
  | [], _, n, A, s, I, Q, hI, x, _, q => by cases x; exact wpAny_pure (hI _ _ q)
  | k :: ks, _, n, A, s, I, Q, hI, x, hn, q => by
    cases x with
    | cons x1 x2 =>
      simp only [NestedKey.depthAll] at hn
      rw [List.forIn_cons]
      refine wpAny_bind (wpAny_bind (oac_key k _ n A s _ x1 (by omega) ?_))
      simp only [Bool.false_eq_true, if_false]
      refine wpAny_pure ?_
      exact oac_keys ks _ n A s I Q hI x2 (by omega) q
end
mutual
theorem hbv_key : ∀ (k : NK) (v : Value) (n : Nat) (A : Around) (s : Shared) (Q : Bool → Shared → Prop), NestedIs s.heap k v → (∀ b, Q b s) → wpAny (model P w) A (hashByValue n v) Q E s
  | .none, _, n, A, s, Q, x, q => by cases x; cases n <;> exact wpAny_pure (q _)
  | .num i, _, n, A, s, Q, x, q => by cases x <;> cases n <;> exact wpAny_pure (q _)
  | .text y, _, n, A, s, Q, x, q => by cases x; cases n <;> exact wpAny_pure (q _)
  | .tup ks, _, n, A, s, Q, x, q => by
    cases x with
    | @tup b o vs m _ g1 g2 g3 g4 =>
      cases n with
      | zero => exact wpAny_pure (q _)
      | succ n =>
        unfold hashByValue
        refine wpAny_bind (wpAny_specialOf (T := "tuple") ⟨o, g1, g2⟩ F.slot_tuple_hash.lookup ?_)
        show wpAny _ _ (seqItems? (.ref b) >>= _) _ _ s
        refine wpAny_bind (wpAny_seqItems g1 g3 ?_)
        refine wpAny_bind ?_
        show wpAny _ _ (forIn vs _ _) _ _ s
        rw [← Array.forIn_toList]
        refine hbv_keys ks vs.toList n A s _ g4 fun r => ?_
        obtain ⟨r1, r2⟩ := r
        dsimp only
        cases r1 with
        | none => exact wpAny_pure (q _)
        | some b => exact wpAny_pure (q _)
theorem hbv_keys : ∀ (ks : List NK) (vs : List Value) (n : Nat) (A : Around) (s : Shared) (Q : Option Bool × Unit → Shared → Prop), NestedAll s.heap ks vs → (∀ r : Option Bool × Unit, Q r s) →
    wpAny (model P w) A (forIn vs ((none, ()) : Option Bool × Unit) fun y r => do
      if !(← hashByValue n y) then pure (ForInStep.done (some false, ())) else pure (ForInStep.yield (none, ()))) Q E s
  | [], _, n, A, s, Q, x, q => by cases x; exact wpAny_pure (q _)
  | k :: ks, _, n, A, s, Q, x, q => by
    cases x with
    | cons x1 x2 =>
      rw [List.forIn_cons]
      refine wpAny_bind (wpAny_bind (hbv_key k _ n A s _ x1 fun b => ?_))
      cases b with
      | false =>
        simp only [Bool.not_false, if_true]
        exact wpAny_pure (wpAny_pure (q _))
      | true =>
        simp only [Bool.not_true, Bool.false_eq_true, if_false]
        exact wpAny_pure (hbv_keys ks _ n A s Q x2 q)
end
theorem wp_ite {α : Type} {M : Model} {c : Prop} [Decidable c] {x y : Sem α} {Q : α → Shared → Prop} (h1 : c → wpAny M A x Q E s) (h2 : ¬ c → wpAny M A y Q E s) : wpAny M A (if c then x else y) Q E s := by
  by_cases hc : c
  · rw [if_pos hc]; exact h1 hc
  · rw [if_neg hc]; exact h2 hc
/-- nobody sees the search -/
theorem unseen {k : NK} {v : Value} (hx : NestedIs s.heap k v) (dx : k.depth ≤ 8) {ys : List Value} (hy : ∀ y ∈ ys, ∃ k' : NK, NestedIs s.heap k' y ∧ k'.depth ≤ 8) {Q : Bool → Shared → Prop} (q : Q false s) : wpAny (model P w) A (searchCouldBeSeen v ys) Q E s := by
  unfold searchCouldBeSeen
  refine wpAny_bind ?_
  refine wpAny_forIn_list _ (fun rest r s' => r.1 = none ∧ s' = s ∧ ∀ y ∈ rest, ∃ k' : NK, NestedIs s.heap k' y ∧ k'.depth ≤ 8) _ ?_ ?_ _ _ ⟨rfl, rfl, hy⟩
  · rintro y rest r s' ⟨e1, e2, al⟩
    subst e2
    obtain ⟨k', hk, dk⟩ := al y List.mem_cons_self
    have al2 : ∀ z ∈ rest, ∃ k' : NK, NestedIs s'.heap k' z ∧ k'.depth ≤ 8 := fun z hz => al z (List.mem_cons_of_mem _ hz)
    dsimp only
    refine wp_ite (fun _ => ?_) fun _ => ?_
    · exact wpAny_pure ⟨rfl, rfl, al2⟩
    · refine wpAny_bind (quiet_key k v 8 s' hx dx A E _ ?_)
      simp only [Bool.not_true, Bool.false_eq_true, if_false]
      refine wpAny_bind (quiet_key k' y 8 s' hk dk A E _ ?_)
      simp only [Bool.not_true, Bool.false_eq_true, if_false]
      refine wpAny_bind (oac_key k v 8 A s' _ hx dx ?_)
      simp only [Bool.false_eq_true, if_false]
      refine wpAny_bind (oac_key k' y 8 A s' _ hk dk ?_)
      simp only [Bool.false_eq_true, if_false]
      exact wpAny_pure ⟨rfl, rfl, al2⟩
  · rintro ⟨r1, r2⟩ s' ⟨e1, e2, _⟩
    simp only at e1
    subst e1 e2
    exact wpAny_pure q
/-- the search for k, from the c-th slot of its way on -/
theorem look_from (R : SetK w s.heap a L es ep t) (B : TabK w L t) {k : NK} {x : Value} (hx : NestedIs s.heap k x) (dx : k.depth ≤ 8) (hu : A.units + 8 < cLine) {N : Nat} (hN : N < 10 * SetTable.turns t.mask) (fr : way t.mask (k.hash w) N ∉ t.place.toList) (oc : ∀ c, c < N → way t.mask (k.hash w) c ∈ t.place.toList) {Q : SetFound → Shared → Prop}
    (yes : k ∈ L.map (·.2) → Q (.there none) s) (no : k ∉ L.map (·.2) → Q (.free (way t.mask (k.hash w) N) false) s) : ∀ (f c : Nat) (st : Option SetTable.Probe), st.getD (t.probeStart (k.hash w)) = L2.nth t.mask (runAt t.mask (SetTable.bits (k.hash w) % (t.mask + 1)) (SetTable.bits (k.hash w))) c → c ≤ N → N - c < f →
      (∀ (i : Nat) p, L[i]? = some p → p.2 = k → ∃ c', c ≤ c' ∧ c' < N ∧ t.place.toList[i]? = some (way t.mask (k.hash w) c')) → wpAny (model P w) A (setSearchFrom a x (k.hash w) true f st) Q E s := by
  intro f
  induction f with
  | zero => intro c st _ _ hf; omega
  | succ f ih =>
    intro c st est hc hf left
    obtain ⟨o, go, gx, gd⟩ := R.ob
    obtain ⟨p0, hp0⟩ : ∃ p0, p0 = runAt t.mask (SetTable.bits (k.hash w) % (t.mask + 1)) (SetTable.bits (k.hash w)) := ⟨_, rfl⟩
    have wy : ∀ q, (L2.nth t.mask p0 q).j = way t.mask (k.hash w) q := fun q => by rw [hp0]
    rw [← hp0] at est
    have dm : ∀ (q : Nat) (r : SetTable.Probe), r.dummy = none → (L2.nth t.mask r q).dummy = none := by
      intro q
      induction q with
      | zero => intro r e; exact e
      | succ q jh =>
        intro r e
        refine jh _ ?_
        unfold adv
        split <;> exact e
    have d0 : (L2.nth t.mask p0 c).dummy = none := dm c p0 (by rw [hp0]; rfl)
    have sh : ∀ q, L2.nth t.mask (L2.nth t.mask p0 c) q = L2.nth t.mask p0 (c + q) := fun q => (nth_add t.mask c p0 q).symm
    have shj : ∀ q, (L2.nth t.mask (L2.nth t.mask p0 c) q).j = way t.mask (k.hash w) (c + q) := fun q => by rw [sh, wy]
    have hat : ∀ (i : Nat) p, L[i]? = some p → (fun i => (es[i]?.map (·.1)).getD 0) i = p.2.hash w := fun i p e => by
      show (es[i]?.map (·.1)).getD 0 = _
      rw [R.entry e]
      rfl
    rw [setSearchFrom_succ]
    refine wpAny_bind (wpAny_setState_of go gd R.fit ?_)
    dsimp only
    have odd : ¬ t.gaveWay = true := by
      unfold SetTable.gaveWay
      rw [mask_odd B.tab.mok]
      decide
    refine wp_if_neg odd ?_
    try refine wpAny_bind (wpAny_pure ?_)
    rw [est]
    rcases go_spec t B.tab.ris B.tab.dm (fun i => (es[i]?.map (·.1)).getD 0) (k.hash w) (10 * SetTable.turns t.mask) (N - c) (L2.nth t.mask p0 c) d0 (by omega) (fun q hq => by rw [shj]; exact oc (c + q) (by omega)) (by rw [shj, show c + (N - c) = N by omega]; exact fr) with ⟨q, i, hq, hi, hh, first, pr⟩ | ⟨first, pr⟩
    · rw [shj] at hi
      have il : i < L.length := by
        have q1 : i < t.place.toList.length := (List.getElem?_eq_some_iff.mp hi).1
        have q2 := B.tab.sz
        rw [List.length_map] at q2
        rw [Array.length_toList] at q1
        omega
      obtain ⟨p, hp⟩ : ∃ p, L[i]? = some p := ⟨L[i], List.getElem?_eq_getElem il⟩
      have pm : p ∈ L := List.mem_of_getElem? hp
      obtain ⟨b, rb⟩ := B.rf p pm
      have rest : wpAny (model P w) A (searchRest a x (k.hash w) true f es t (way t.mask (k.hash w) (c + q)) i (L2.nth t.mask p0 (c + (q + 1)))) Q E s := by
        unfold searchRest
        rw [R.entry hp]
        dsimp only
        have dp := B.dep p pm
        refine wpAny_bind (wpAny_holding (eqAt_key p.2 k A s p.1 x (R.is p pm) hx (by omega) P w E _ ?_))
        refine wpAny_bind (wpAny_setState_of go gd R.fit ?_)
        dsimp only
        cases ek : NestedKey.beq p.2 k with
        | true =>
          have e := NestedKey.eq_of_beq _ _ ek
          exact wp_if_pos (by decide) (wpAny_pure (yes (List.mem_map.mpr ⟨p, pm, e⟩)))
        | false =>
          have ne : p.2 ≠ k := fun e => by rw [e, NestedKey.beq_self] at ek; cases ek
          have lv : t.slot (way t.mask (k.hash w) (c + q)) = .live i := slot_live B.tab.ris hi
          refine wp_if_neg (by decide) ?_
          try refine wpAny_bind (wpAny_pure ?_)
          rw [sameMem]
          dsimp only
          rw [if_pos rfl, lv]
          dsimp only
          rw [R.entry hp, rb]
          dsimp only
          refine wpAny_bind (wpAny_isSame_ref_self ?_)
          rw [if_pos rfl]
          refine wpAny_bind (wpAny_pure ?_)
          dsimp only
          refine wp_if_neg (by decide) ?_
          refine ih (c + (q + 1)) _ (by rw [← hp0]; rfl) (by omega) (by omega) fun i0 p1 e0 e1 => ?_
          obtain ⟨c', b1, b2, b3⟩ := left i0 p1 e0 e1
          refine ⟨c', ?_, b2, b3⟩
          rcases Nat.lt_trichotomy c' (c + q) with z | z | z
          · exact absurd ((hat i0 p1 e0).trans (congrArg (NestedKey.hash w) e1)) (first (c' - c) i0 (by omega) (by rw [shj, show c + (c' - c) = c' by omega]; exact b3))
          · rw [z] at b3
            have lv2 := slot_live B.tab.ris b3
            rw [lv] at lv2
            injection lv2 with lv2
            rw [← lv2, hp] at e0
            cases e0
            exact absurd e1 ne
          · omega
      have pr2 : t.probe (fun i => (es[i]?.map (·.1)).getD 0) (k.hash w) (L2.nth t.mask p0 c) = some (.candidate (way t.mask (k.hash w) (c + q)) i (L2.nth t.mask p0 (c + (q + 1)))) := by
        rw [← shj, ← sh]
        exact pr
      rw [pr2]
      dsimp only
      cases hl : t.led with
      | true =>
        refine wp_if_neg (by decide) ?_
        try refine wpAny_bind (wpAny_pure ?_)
        exact rest
      | false =>
        refine wp_if_pos (by decide) ?_
        refine wpAny_bind (unseen hx dx (fun y hy => ?_) ?_)
        · obtain ⟨e, he, rfl⟩ := List.mem_map.mp hy
          have he2 : e ∈ es.toList := by
            have := Array.mem_toList_iff.mp he
            exact Array.mem_toList_iff.mpr (Array.mem_filter.mp this).1
          rw [R.rows] at he2
          obtain ⟨p2, hp2, rfl⟩ := List.mem_map.mp he2
          exact ⟨p2.2, R.is p2 hp2, B.dep p2 hp2⟩
        · refine wp_if_neg (by decide) ?_
          try refine wpAny_bind (wpAny_pure ?_)
          exact rest
    · have pr2 : t.probe (fun i => (es[i]?.map (·.1)).getD 0) (k.hash w) (L2.nth t.mask p0 c) = some (.empty (way t.mask (k.hash w) N) none) := by
        have e2 : way t.mask (k.hash w) N = (L2.nth t.mask (L2.nth t.mask p0 c) (N - c)).j := by rw [shj, show c + (N - c) = N by omega]
        rw [e2]
        exact pr
      rw [pr2]
      dsimp only
      refine wpAny_pure (no fun hm => ?_)
      obtain ⟨p1, h1, e1⟩ := List.mem_map.mp hm
      obtain ⟨i0, hi0, e0⟩ := List.getElem_of_mem h1
      have e00 : L[i0]? = some p1 := by rw [List.getElem?_eq_getElem hi0, e0]
      obtain ⟨c', b1, b2, b3⟩ := left i0 p1 e00 e1
      exact first (c' - c) i0 (by omega) (by rw [shj, show c + (c' - c) = c' by omega]; exact b3) ((hat i0 p1 e00).trans (congrArg (NestedKey.hash w) e1))
theorem look_at (R : SetK w s.heap a L es ep t) (B : TabK w L t) {k : NK} {x : Value} (hx : NestedIs s.heap k x) (dx : k.depth ≤ 8) (hu : A.units + 8 < cLine) {Q : SetFound → Shared → Prop} (yes : k ∈ L.map (·.2) → Q (.there none) s)
    (no : ∀ N, k ∉ L.map (·.2) → way t.mask (k.hash w) N ∉ t.place.toList → (∀ c, c < N → way t.mask (k.hash w) c ∈ t.place.toList) → Q (.free (way t.mask (k.hash w) N) false) s) : wpAny (model P w) A (setSearch a x (k.hash w) true) Q E s := by
  have rm := B.room
  obtain ⟨N, n1, n2, n3⟩ := B.tab.first (by rw [List.length_map]; omega) (k.hash w)
  have small : 10 * SetTable.turns t.mask ≤ 1420 := by
    unfold SetTable.turns
    rcases B.tab.mok with e | e | e <;> omega
  unfold setSearch
  refine look_from R B hx dx hu n1 n2 n3 yes (fun z => no N z n2 n3) 100000 0 none rfl (Nat.zero_le _) (by omega) fun i p e ek => ?_
  have hi : (L.map fun p => p.2.hash w)[i]? = some (k.hash w) := by
    rw [List.getElem?_map, e, ← ek]
    rfl
  have il : i < t.place.toList.length := by
    have q1 : i < L.length := (List.getElem?_eq_some_iff.mp e).1
    have q2 := B.tab.sz
    rw [List.length_map] at q2
    rw [Array.length_toList]
    omega
  have hj := List.getElem?_eq_getElem il
  obtain ⟨c, c1, c2⟩ := B.tab.before n2 hi hj
  exact ⟨c, Nat.zero_le _, c1, by rw [hj, c2]⟩
/-- all laid anew, in a larger table -/
theorem anew_at (R0 : ∃ o, s.heap.get? a = some o ∧ o.ExactSet ∧ o.data = .set es ep t) (r1 : es.toList = L.map (rw1 w)) (nd : (L.map (·.2)).Nodup) (is : ∀ p ∈ L, NestedIs s.heap p.2 p.1) (dep : ∀ p ∈ L, p.2.depth ≤ 8) (rf : ∀ p ∈ L, ∃ b, p.1 = .ref b) (ft : t.fits es.size = true) (ld : w.params.followText "set-order" = true ∨ t.led = true) (few : L.length < 64)
    {wanted M : Nat} (hw : SetTable.sizeAbove wanted - 1 = M) (hM : MaskOk M) (hw2 : SetTable.sizeAbove wanted ≤ 128) (rm : L.length * 5 < M * 3) {Q : Unit → Shared → Prop} (hQ : ∀ h' L' es' ep' t', Heap.SameBut a s.heap h' → SetK w h' a L' es' ep' t' → TabK w L' t' → L'.Perm L → Q () { s with heap := h' }) : wpAny (model P w) A (setRelay a wanted) Q E s := by
  obtain ⟨o, go, gx, gd⟩ := R0
  have zs : es.size = L.length := by
    have q := congrArg List.length r1
    rwa [Array.length_toList, List.length_map] at q
  obtain ⟨t', ord, e, pm, tk, em, el, _, _⟩ := relaid_ok t (hs := es.map (·.1)) (wanted := wanted) hw hM (by rw [Array.size_map, zs]; omega)
  rw [Array.size_map, zs] at pm
  -- the rows, picked in that order
  have pick : ∀ l : List Nat, (∀ i ∈ l, i < L.length) → l.filterMap (fun i => es[i]?) = (l.filterMap fun i => L[i]?).map (rw1 w) ∧ ((l.filterMap fun i => L[i]?).map fun p => p.2.hash w) = l.map fun i => (es.map (·.1)).getD i 0 := by
    intro l
    induction l with
    | nil => intro _; exact ⟨rfl, rfl⟩
    | cons i l ih =>
      intro hl
      have hi := hl i List.mem_cons_self
      obtain ⟨j1, j2⟩ := ih fun j hj => hl j (List.mem_cons_of_mem _ hj)
      have eL : L[i]? = some L[i] := List.getElem?_eq_getElem hi
      have eE : es[i]? = some (rw1 w L[i]) := by
        rw [← Array.getElem?_toList, r1, List.getElem?_map, eL]
        rfl
      have eH : (es.map (·.1)).getD i 0 = (L[i]).2.hash w := by
        rw [Array.getD_eq_getD_getElem?, Array.getElem?_map, eE]
        rfl
      rw [List.filterMap_cons_some eE, List.filterMap_cons_some eL, List.map_cons, List.map_cons, List.map_cons, j1, j2, eH]
      exact ⟨rfl, rfl⟩
  obtain ⟨k1, k2⟩ := pick ord.toList fun i hi => List.mem_range.mp (pm.mem_iff.mp hi)
  have all : (List.range L.length).filterMap (fun i => L[i]?) = L := by
    have go : ∀ n, n ≤ L.length → (List.range n).filterMap (fun i => L[i]?) = L.take n := by
      intro n
      induction n with
      | zero => intro _; rfl
      | succ n ih =>
        intro hn
        have lt : n < L.length := hn
        rw [List.range_succ, List.filterMap_append, ih (by omega), List.take_succ, List.getElem?_eq_getElem lt, List.filterMap_cons_some (List.getElem?_eq_getElem lt)]
        rfl
    rw [go _ (Nat.le_refl _), List.take_length]
  have p2 : (ord.toList.filterMap fun i => L[i]?).Perm L := by
    have := pm.filterMap (fun i => L[i]?)
    rw [all] at this
    exact this
  obtain ⟨L2, hL2⟩ : ∃ L2, L2 = ord.toList.filterMap fun i => L[i]? := ⟨_, rfl⟩
  obtain ⟨es2, hes2⟩ : ∃ es2, es2 = ord.filterMap (es[·]?) := ⟨_, rfl⟩
  rw [← hL2] at k1 k2 p2
  have r2 : es2.toList = L2.map (rw1 w) := by
    rw [hes2, Array.toList_filterMap]
    exact k1
  have z2 : es2.size = es.size := by
    have q := congrArg List.length r2
    rw [Array.length_toList, List.length_map, p2.length_eq] at q
    omega
  rw [← k2] at tk
  rw [setRelay_eq]
  refine wpAny_bind (wpAny_setState_of go gd ft ?_)
  dsimp only
  refine wp_if_neg (by rw [sizeLine_eq]; omega) ?_
  try refine wpAny_bind (wpAny_pure ?_)
  rw [e]
  dsimp only
  rw [← hes2]
  refine wpAny_bind ?_
  refine wp_if_neg (by rw [z2]; simp) ?_
  try refine wpAny_bind (wpAny_pure ?_)
  refine wpAny_pure ?_
  dsimp only
  refine wpAny_storeSet_of go gd ?_ (by rw [z2, zs, sizeLine_eq]; omega)
  have sb : Heap.SameBut a s.heap (s.heap.update a (Obj.putSet es2 t')) := Heap.SameBut.update ..
  have tz := tk.sz
  have td := tk.dm
  rw [List.length_map, p2.length_eq] at tz
  have ft2 : t'.fits es2.size = true := by
    unfold SetTable.fits SetTable.fill
    rw [td, Bool.and_eq_true, beq_iff_eq, decide_eq_true_eq, em, z2]
    show t'.place.size = es.size ∧ t'.place.size + 0 ≤ M
    omega
  refine hQ _ L2 es2 (ep + 1) t' sb ⟨⟨_, store_at go gd, ⟨gx.1, gx.2.1, gx.2.2⟩, rfl⟩, r2, (p2.map (·.2)).nodup_iff.mpr nd, fun p hp => nis_but (is p (p2.mem_iff.mp hp)) go gd sb, ft2, tk.ris, by rw [el]; exact ld, by rw [p2.length_eq]; exact few⟩ ⟨tk, by rw [p2.length_eq, em]; exact rm, fun p hp => dep p (p2.mem_iff.mp hp), fun p hp => rf p (p2.mem_iff.mp hp)⟩ p2
end
section
variable {P : Program} {w : World} {A : Around} {E : Value → Shared → Prop} {s : Shared} {a : Addr} {L : List (Value × NK)} {es : Array (Int × Value)} {ep : Nat} {t : SetTable}
theorem add_tup (R : SetK w s.heap a L es ep t) (B : TabK w L t) {k : NK} {b : Addr} (hx : NestedIs s.heap k (.ref b)) (dx : k.depth ≤ 8) (hu : A.units + 8 < cLine) (room : L.length + 1 < 64) {Q : Bool → Shared → Prop}
    (hQ : ∀ r h' L' es' ep' t', Heap.SameBut a s.heap h' → SetK w h' a L' es' ep' t' → TabK w L' t' → (k ∈ L.map (·.2) → L' = L) → (k ∉ L.map (·.2) → L'.Perm ((.ref b, k) :: L)) → Q r { s with heap := h' }) : wpAny (model P w) A (setAddHashed a (.ref b) (k.hash w)) Q E s := by
  obtain ⟨o, go, gx, gd⟩ := R.ob
  have zz := R.size
  have rm := B.room
  unfold setAddHashed
  refine wpAny_holding ?_
  rw [show (100000 : Nat) = 99999 + 1 from rfl, setAddHashedIn_succ]
  refine wpAny_bind (wpAny_setState_of go gd R.fit ?_)
  dsimp only
  refine wp_if_neg (by simp [byScan, Value.scannable]) ?_
  try refine wpAny_bind (wpAny_pure ?_)
  refine wpAny_bind (look_at R B hx dx hu (fun hm => ?_) fun N hm n2 n3 => ?_)
  · dsimp only
    exact wpAny_pure (hQ false s.heap L es ep t (Heap.SameBut.refl a s.heap) R B (fun _ => rfl) fun z => absurd hm z)
  · dsimp only
    refine wpAny_bind (wpAny_setState_of go gd R.fit ?_)
    dsimp only
    obtain ⟨q1, q2, q3, q4, q5, q6, q7, q8, q9⟩ := B.tab.put n2 n3
    generalize t.put (way t.mask (k.hash w) N) = pt at q1 q3 q4 q5 q6 q7 q8 q9 ⊢
    obtain ⟨t1, c⟩ := pt
    dsimp only at q1 q3 q4 q5 q6 q7 q8 q9 ⊢
    subst q1
    generalize SetTable.below t.place (way t.mask (k.hash w) N) = c at q2 q3 ⊢
    rw [List.length_map] at q2
    have hL1 : ∃ L1, L1 = L.take c ++ (Value.ref b, k) :: L.drop c := ⟨_, rfl⟩
    obtain ⟨L1, hL1⟩ := hL1
    have p1 : L1.Perm ((.ref b, k) :: L) := by rw [hL1]; exact put_perm L c _
    have r1 : (SetTable.insertAt es c (k.hash w, Value.ref b)).toList = L1.map (rw1 w) := by
      rw [SetTable.toList_insertAt, R.rows, hL1, List.map_append, List.map_cons, List.map_take, List.map_drop]
    have hs1 : L1.map (fun p => p.2.hash w) = (L.map fun p => p.2.hash w).take c ++ k.hash w :: (L.map fun p => p.2.hash w).drop c := by
      rw [hL1, List.map_append, List.map_cons, List.map_take, List.map_drop]
    rw [← hs1] at q3
    have y1 : L1.length = L.length + 1 := p1.length_eq
    have nd1 : (L1.map (·.2)).Nodup := by
      refine (p1.map (·.2)).nodup_iff.mpr ?_
      rw [List.map_cons]
      exact List.nodup_cons.mpr ⟨hm, R.nd⟩
    have is1 : ∀ p ∈ L1, NestedIs s.heap p.2 p.1 := fun p hp => by
      rcases List.mem_cons.mp (p1.mem_iff.mp hp) with z | z
      · rw [z]; exact hx
      · exact R.is p z
    have dep1 : ∀ p ∈ L1, p.2.depth ≤ 8 := fun p hp => by
      rcases List.mem_cons.mp (p1.mem_iff.mp hp) with z | z
      · rw [z]; exact dx
      · exact B.dep p z
    have rf1 : ∀ p ∈ L1, ∃ b, p.1 = .ref b := fun p hp => by
      rcases List.mem_cons.mp (p1.mem_iff.mp hp) with z | z
      · rw [z]; exact ⟨b, rfl⟩
      · exact B.rf p z
    generalize SetTable.insertAt es c (k.hash w, Value.ref b) = es1 at r1 ⊢
    have z1 : es1.size = L.length + 1 := by
      have q := congrArg List.length r1
      rw [Array.length_toList, List.length_map] at q
      omega
    have main : ∀ t2 : SetTable, t2.mask = t1.mask → t2.place = t1.place → t2.dummies = t1.dummies → t2.led = t1.led → wpAny (model P w) A (do
        storeSet a es1 t2
        if (!false && t2.tooFull) = true then do
          setRelay a (SetTable.grown (es.size + 1))
          pure true
        else pure true) Q E s := by
      intro t2 m1 m2 m3 m4
      have tk2 : TabOk t2 (L1.map fun p => p.2.hash w) := ⟨by rw [m2]; exact q3.ris, by rw [m3]; exact q3.dm, by rw [m2]; exact q3.sz, by rw [m1]; exact q3.mok, by rw [m1, m2]; exact q3.bd, by rw [m1, m2]; exact q3.reach⟩
      have tz := tk2.sz
      rw [List.length_map] at tz
      have ft2 : t2.fits es1.size = true := by
        unfold SetTable.fits SetTable.fill
        rw [tk2.dm, Bool.and_eq_true, beq_iff_eq, decide_eq_true_eq, m1, q4]
        show t2.place.size = es1.size ∧ t2.place.size + 0 ≤ t.mask
        rcases B.tab.mok with e | e | e <;> omega
      have ld2 : w.params.followText "set-order" = true ∨ t2.led = true := by rw [m4, q5]; exact R.led
      have fl : t2.fill = L.length + 1 := by
        unfold SetTable.fill
        rw [tk2.dm]
        show t2.place.size + 0 = _
        omega
      refine wpAny_bind (wpAny_storeSet_of go gd ?_ (by rw [z1, sizeLine_eq]; omega))
      have sb : Heap.SameBut a s.heap (s.heap.update a (Obj.putSet es1 t2)) := Heap.SameBut.update ..
      have g1 := store_at (es' := es1) (t' := t2) go gd
      have is2 : ∀ p ∈ L1, NestedIs (s.heap.update a (Obj.putSet es1 t2)) p.2 p.1 := fun p hp => nis_but (is1 p hp) go gd sb
      generalize s.heap.update a (Obj.putSet es1 t2) = h1 at sb g1 is2 ⊢
      have gx1 : ({ o with data := .set es1 (ep + 1) t2 } : Obj).ExactSet := ⟨gx.1, gx.2.1, gx.2.2⟩
      refine wp_ite (fun hf => ?_) fun hf => ?_
      · have full : (L.length + 1) * 5 ≥ t2.mask * 3 := by
          have h := hf
          simp only [Bool.not_false, Bool.true_and] at h
          unfold SetTable.tooFull at h
          rw [decide_eq_true_eq, fl] at h
          exact h
        rw [zz]
        have two : (t.mask = 7 ∧ L.length = 4) ∨ (t.mask = 31 ∧ L.length = 18) := by
          rw [m1, q4] at full
          rcases B.tab.mok with e | e | e
          · left; rw [e] at full rm; exact ⟨e, by omega⟩
          · right; rw [e] at full rm; exact ⟨e, by omega⟩
          · rw [e] at full; omega
        have step : ∀ M, SetTable.sizeAbove (SetTable.grown (L.length + 1)) - 1 = M → MaskOk M → SetTable.sizeAbove (SetTable.grown (L.length + 1)) ≤ 128 → (L.length + 1) * 5 < M * 3 → wpAny (model P w) A (setRelay a (SetTable.grown (L.length + 1)) >>= fun _ => pure true) Q E { s with heap := h1 } := fun M a1 a2 a3 a4 => by
          refine wpAny_bind (anew_at (s := { s with heap := h1 }) ⟨_, g1, gx1, rfl⟩ r1 nd1 is2 dep1 rf1 ft2 ld2 (by omega) a1 a2 a3 (by rw [y1]; exact a4) ?_)
          intro h2 L2 es2 ep2 t3 sb2 R2 B2 pp
          exact wpAny_pure (hQ true h2 L2 es2 ep2 t3 (sb.trans sb2) R2 B2 (fun z => absurd z hm) fun _ => pp.trans p1)
        rcases two with ⟨_, e⟩ | ⟨_, e⟩
        · exact step 31 (by rw [e, size_20]) (.inr (.inl rfl)) (by rw [e, size_20]; decide) (by omega)
        · exact step 127 (by rw [e, size_76]) (.inr (.inr rfl)) (by rw [e, size_76]; decide) (by omega)
      · refine wpAny_pure (hQ true h1 L1 es1 (ep + 1) t2 sb ⟨⟨_, g1, gx1, rfl⟩, r1, nd1, is2, ft2, tk2.ris, ld2, by omega⟩ ⟨tk2, ?_, dep1, rf1⟩ (fun z => absurd z hm) fun _ => p1)
        have h := hf
        simp only [Bool.not_false, Bool.true_and] at h
        unfold SetTable.tooFull at h
        rw [decide_eq_true_eq, fl] at h
        omega
    split
    · refine wpAny_bind (hbv_key k (.ref b) 8 A s _ hx fun bv => ?_)
      cases bv with
      | true => exact main t1 rfl rfl rfl rfl
      | false => exact main { t1 with plain := false } rfl rfl rfl rfl
    · refine wpAny_bind (wpAny_pure ?_)
      exact main t1 rfl rfl rfl rfl
end
/-- a kind of members -/
structure Kd (P : Program) (w : World) where
  Al : Value × NK → Prop
  Ok : List (Value × NK) → SetTable → Prop
  dep : ∀ {p}, Al p → p.2.depth ≤ 8
  ok0 : Ok [] (.fresh 0 0 (!w.params.followText "set-order"))
  add : ∀ {A : Around} {E : Value → Shared → Prop} {s : Shared} {a : Addr} {L : List (Value × NK)} {es : Array (Int × Value)} {ep : Nat} {t : SetTable} {x : Value} {k : NK} {Q : Bool → Shared → Prop}, SetK w s.heap a L es ep t → Ok L t → Al (x, k) → NestedIs s.heap k x → A.units + 8 < cLine → L.length + 1 < 64 →
    (∀ r h' L' es' ep' t', Heap.SameBut a s.heap h' → SetK w h' a L' es' ep' t' → Ok L' t' → (k ∈ L.map (·.2) → L' = L) → (k ∉ L.map (·.2) → L'.Perm ((x, k) :: L)) → Q r { s with heap := h' }) → wpAny (model P w) A (setAddHashed a x (k.hash w)) Q E s
def kdS {P : Program} {w : World} {K : Type} [DecidableEq K] (sc : ScanK P w K) (hd : ∀ k, (sc.emb k).depth ≤ 8) : Kd P w where
  Al := fun p => ∃ k, p.2 = sc.emb k ∧ sc.knd.is k p.1 = true
  Ok := fun L _ => AllS sc L
  dep := fun {p} h => by obtain ⟨k, e, _⟩ := h; rw [e]; exact hd k
  ok0 := fun p hp => by cases hp
  add := fun {A E s a L es ep t x k Q} R al hx _ _ rm hQ => by
    obtain ⟨k', e, hx⟩ := hx
    dsimp only at e hx
    subst e
    refine add_scan R al hx rm fun b h' L' es' ep' t' sb R' c1 c2 => hQ b h' L' es' ep' t' sb R' ?_ c1 c2
    intro p hp
    by_cases hm : sc.emb k' ∈ L.map (·.2)
    · rw [c1 hm] at hp
      exact al p hp
    · rcases List.mem_cons.mp ((c2 hm).mem_iff.mp hp) with z | z
      · rw [z]; exact ⟨k', rfl, hx⟩
      · exact al p z
def kdT (P : Program) (w : World) : Kd P w where
  Al := fun p => p.2.depth ≤ 8 ∧ ∃ b, p.1 = .ref b
  Ok := fun L t => TabK w L t
  dep := fun h => h.1
  ok0 := ⟨⟨List.Pairwise.nil, rfl, rfl, .inl rfl, fun x hx => (by cases hx), fun i h j hi => (by simp at hi)⟩, (by show 0 * 5 < 7 * 3; decide), (fun p hp => by cases hp), (fun p hp => by cases hp)⟩
  add := fun {A E s a L es ep t x k Q} R B hx hk hu rm hQ => by
    obtain ⟨dx, b, e⟩ := hx
    dsimp only at dx e
    subst e
    exact add_tup R B hk dx hu rm hQ
/-- what has come in from the first i -/
structure In1 (ks : List (Value × NK)) (i : Nat) (L : List (Value × NK)) : Prop where
  sub : ∀ p ∈ L, p ∈ ks.take i
  all : ∀ p ∈ ks.take i, p.2 ∈ L.map (·.2)
  len : L.length ≤ i
theorem take_add {α : Type} {l : List α} {i : Nat} {x : α} (h : l[i]? = some x) : l.take (i + 1) = l.take i ++ [x] := by
  rw [List.take_succ, h]
  rfl
theorem In1.nil (ks : List (Value × NK)) : In1 ks 0 [] := ⟨(fun p h => by cases h), (fun p h => by simp at h), Nat.le_refl _⟩
theorem In1.step {ks L L' : List (Value × NK)} {i : Nat} {x : Value × NK} (g : In1 ks i L) (h : ks[i]? = some x) (c1 : x.2 ∈ L.map (·.2) → L' = L) (c2 : x.2 ∉ L.map (·.2) → L'.Perm (x :: L)) : In1 ks (i + 1) L' := by
  by_cases hm : x.2 ∈ L.map (·.2)
  · rw [c1 hm]
    refine ⟨fun p hp => ?_, fun p hp => ?_, Nat.le_succ_of_le g.len⟩
    · rw [take_add h]
      exact List.mem_append_left _ (g.sub p hp)
    · rw [take_add h, List.mem_append, List.mem_singleton] at hp
      rcases hp with z | z
      · exact g.all p z
      · rw [z]; exact hm
  · have pm := c2 hm
    refine ⟨fun p hp => ?_, fun p hp => ?_, ?_⟩
    · rw [take_add h]
      rcases List.mem_cons.mp (pm.mem_iff.mp hp) with z | z
      · rw [z]; exact List.mem_append_right _ (List.mem_singleton.mpr rfl)
      · exact List.mem_append_left _ (g.sub p z)
    · rw [(pm.map (·.2)).mem_iff, List.map_cons]
      rw [take_add h, List.mem_append, List.mem_singleton] at hp
      rcases hp with z | z
      · exact List.mem_cons_of_mem _ (g.all p z)
      · rw [z]; exact List.mem_cons_self
    · rw [pm.length_eq, List.length_cons]
      exact Nat.succ_le_succ g.len
section
variable {P : Program} {w : World} {A : Around} {E : Value → Shared → Prop} {s : Shared}
theorem setK_new {h : Heap} {a : Addr} (go : h.get? a = some { cls := .type "set", dict := none, data := .set #[] 0 (.fresh 0 0 (!w.params.followText "set-order")) }) : SetK w h a [] #[] 0 (.fresh 0 0 (!w.params.followText "set-order")) where
  ob := ⟨_, go, ⟨rfl, rfl, rfl⟩, rfl⟩
  rows := rfl
  nd := List.nodup_nil
  is := fun p hp => by cases hp
  fit := rfl
  ris := List.Pairwise.nil
  led := by
    show _ ∨ (!w.params.followText "set-order") = true
    cases w.params.followText "set-order" with
    | true => exact .inl rfl
    | false => exact .inr rfl
  few := by show 0 < 64; decide
theorem fill_set (kd : Kd P w) {I : Addr} {fp wr : List Addr} {G : Array GenState → Array GenState → Prop} {n : Nat} {Pv : Nat → Value → Prop} {St : Nat → Shared → Prop} {R : Result → Shared → Prop} (W : WalksS P w A.in1 I fp wr G n Pv St) (S : Addr) (sf : S ∉ fp) (ks : List (Value × NK)) (hn : n = ks.length) (few : ks.length < 64) (val : ∀ i v, Pv i v → ∃ p, ks[i]? = some p ∧ v = p.1)
    (h0 : Heap) (al : ∀ p ∈ ks, kd.Al p) (is : ∀ p ∈ ks, NestedIs h0 p.2 p.1) (s0 : h0.get? S = none) (w0 : ∀ b ∈ wr, h0.get? b = none) (hu : A.in1.units + 8 < cLine) :
    ∀ (m i : Nat) (s : Shared), n - i = m → i ≤ n → St i s → (∀ b o, h0.get? b = some o → s.heap.get? b = some o) → (∃ L es ep t, SetK w s.heap S L es ep t ∧ kd.Ok L t ∧ In1 ks i L) →
      (∀ s' L es ep t, Moved (S :: wr) G s s' → SetK w s'.heap S L es ep t → In1 ks n L → (∀ b o, h0.get? b = some o → s'.heap.get? b = some o) → R (.ok (.ret .none)) s') → codeAny (model P w) A (.builtin "set.update.loop" ⟨[.ref S, .ref I], []⟩) R s := by
  have sw : S ∉ wr := fun z => sf (W.sub _ z)
  have up : ∀ b ∈ wr, b ∈ S :: wr := fun b hb => List.mem_cons_of_mem _ hb
  have keep : ∀ {s s' : Shared}, Moved wr G s s' → (∀ b o, h0.get? b = some o → s.heap.get? b = some o) → ∀ b o, h0.get? b = some o → s'.heap.get? b = some o := fun mv kp b o e => mv.heap b o (fun z => by rw [w0 b z] at e; cases e) (kp b o e)
  intro m
  induction m with
  | zero =>
    intro i s hm hi hst kp ⟨L, es, ep, t, K1, o1, g⟩ fin
    obtain rfl : i = n := by omega
    refine codeAny_builtin PyProof.Rows.F.entry_set_update_loop ?_
    rw [Around.under_plainId PyProof.Rows.F.plain_set_update_loop _]
    show wpAny _ A.in1 (pyNext (.ref I) >>= _) _ _ s
    refine wpAny_bind (W.done s _ _ hst fun s' mv => ?_)
    show wpAny _ A.in1 (ret Value.none) _ _ s'
    have kp' := keep mv kp
    exact wpAny_pure (fin s' L es ep t (mv.mono up) (K1.keep (fun o e => mv.heap S o sw e) fun p hp => nis_keep (is p (List.mem_of_mem_take (g.sub p hp))) kp') g kp')
  | succ m ih =>
    intro i s hm hi hst kp ⟨L, es, ep, t, K1, o1, g⟩ fin
    have lt : i < n := by omega
    refine codeAny_builtin PyProof.Rows.F.entry_set_update_loop ?_
    rw [Around.under_plainId PyProof.Rows.F.plain_set_update_loop _]
    show wpAny _ A.in1 (pyNext (.ref I) >>= _) _ _ s
    refine wpAny_bind (W.item i s _ _ lt hst fun v s' hP hst' mv => ?_)
    obtain ⟨⟨x0, k⟩, hp0, e0⟩ := val i v hP
    obtain ⟨x, hxv⟩ : ∃ x, x = v := ⟨v, rfl⟩
    rw [← hxv] at e0 ⊢
    have hp : ks[i]? = some (x, k) := by rw [e0]; exact hp0
    have kp' := keep mv kp
    have pm : (x, k) ∈ ks := List.mem_of_getElem? hp
    have K2 : SetK w s'.heap S L es ep t := K1.keep (fun o e => mv.heap S o sw e) fun p hp => nis_keep (is p (List.mem_of_mem_take (g.sub p hp))) kp'
    have hx : NestedIs s'.heap k x := nis_keep (is _ pm) kp'
    have dk := kd.dep (al _ pm)
    dsimp only at dk
    show wpAny _ A.in1 (holding [x] (setAdd S x) >>= _) _ _ s'
    refine wpAny_bind (wpAny_holding ?_)
    unfold setAdd
    refine wpAny_holding (wpAny_bind (pyHash_key k x A.in1 s' _ hx (by omega) ?_))
    refine kd.add (s := { s' with toks := s'.toks + k.draws }) K2 o1 (al _ pm) hx hu (by have := g.len; omega) fun r h' L' es' ep' t' sb K3 o3 c1 c2 => ?_
    have g' : In1 ks (i + 1) L' := g.step hp c1 c2
    have kp2 : ∀ b o, h0.get? b = some o → h'.get? b = some o := fun b o e => (sb.2 b (fun z => by rw [z, s0] at e; cases e)).trans (kp' b o e)
    refine wpAny_pure ⟨plainId_quiet PyProof.Rows.F.plain_set_update_loop _, ih (i + 1) _ (by omega) lt (W.frame _ s' _ _ hst' (Nat.le_add_right _ _) fun b hb o e => ?_) kp2 ⟨L', es', ep', t', K3, o3, g'⟩ fun s2 L2 es2 ep2 t2 mv2 K4 g4 kp4 => ?_⟩
    · rw [sb.2 b fun z => sf (by rw [← z]; exact hb)]
      exact e
    · refine fin s2 L2 es2 ep2 t2 (Moved.trans W.gtrans ((mv.mono up).then_heap (Nat.le_add_right _ _) fun b o hb e => ?_) mv2) K4 g4 kp4
      rw [sb.2 b fun z => hb (by rw [z]; exact List.mem_cons_self)]
      exact e
end
section
variable {P : Program} {w : World} {A : Around} {E : Value → Shared → Prop} {s : Shared}
abbrev nuS (w : World) : Obj := { cls := .type "set", dict := none, data := .set #[] 0 (.fresh 0 0 (!w.params.followText "set-order")) }
set_option maxHeartbeats 3200000 in
/-- set(xs), xs a list or a tuple -/
theorem call_setK (kd : Kd P w) (lst : Bool) {l : Addr} {items : Array Value} (ks : List (Value × NK)) {Q : Value → Shared → Prop} (nh : A.handled = none) (hl : if lst = true then s.heap.IsList l items else s.heap.IsTuple l items) (hit : items.toList = ks.map (·.1)) (al : ∀ p ∈ ks, kd.Al p) (is : ∀ p ∈ ks, NestedIs s.heap p.2 p.1) (few : ks.length < 64) (hu : A.units + 11 < cLine)
    (hQ : ∀ (h' : Heap) (tk : Nat) L es ep t, SetK w h' s.heap.objs.size L es ep t → In1 ks ks.length L → (∀ b o, s.heap.get? b = some o → h'.get? b = some o) → Q (.ref s.heap.objs.size) { s with heap := h', toks := tk }) : wpAny (model P w) A (call (.type "set") [.ref l]) Q E s := by
  have zi : items.size = ks.length := by
    have q := congrArg List.length hit
    rwa [Array.length_toList, List.length_map] at q
  obtain ⟨c, tl, hmro⟩ := PySem.F.called_set.mro
  have hmade := PySem.F.called_set.made
  have hsub := PySem.F.called_set.sub
  refine wpAny_call (codeAny_of_tree ?_)
  show wpAny _ _ (callAny (.type "set") _) _ _ _
  refine wpAny_pure ⟨Code.quiet_builtin _ (by decide +kernel), codeAny_builtin PySem.F.entry_type_call ?_⟩
  rw [Around.under_plain (weight_type_call_type "set" [.ref l] []) rfl]
  have f1 := PySem.F.called_set.notType
  have f2 := PySem.F.called_set.canCreate
  have f3 := PySem.F.typeCall_set_1 (.ref l)
  repeat (any_goals (first | assumption | wp_step))
  refine codeAny_mono (code_set_led1 (.ref l) (E := E) (Q₁ := fun ob s1 => ob = .ref s.heap.objs.size ∧ s1 = { s with heap := s.heap.push (nuS w) }) ⟨rfl, rfl⟩) fun r s1 hr => ?_
  cases r with
  | error e => exact hr
  | ok fl =>
    cases fl with
    | ret ob =>
      obtain ⟨rfl, rfl⟩ := hr
      have gS : (s.heap.push (nuS w)).get? s.heap.objs.size = some (nuS w) := Heap.get?_push_size _ rfl
      have tS : Shared.TypeIs { s with heap := s.heap.push (nuS w) } (.ref s.heap.objs.size) "set" := ⟨_, gS, rfl⟩
      have f4 := PySem.F.called_set.init.lookup
      have f5 := PySem.F.called_set.init.bind (.ref s.heap.objs.size)
      repeat (any_goals (first | assumption | wp_step))
      have none_of : ∀ b, s.heap.objs.size ≤ b → s.heap.get? b = none := fun b hb => by
        cases q : s.heap.get? b with
        | none => rfl
        | some o => exact absurd (Nat.lt_of_lt_of_le (Heap.lt_size q) hb) (Nat.lt_irrefl _)
      have nh3 : A.in1.in1.in1.handled = none := by simp [nh]
      have val : ∀ (i : Nat) (v : Value), items[i]? = some v → ∃ p, ks[i]? = some p ∧ v = p.1 := fun i v hv => by
        have q : items.toList[i]? = some v := by rw [Array.getElem?_toList]; exact hv
        rw [hit, List.getElem?_map] at q
        cases hq : ks[i]? with
        | none => rw [hq] at q; cases q
        | some p =>
          rw [hq] at q
          exact ⟨p, rfl, (Option.some.inj q).symm⟩
      refine codeAny_mono (codeAny_call_builtin (R := wants (fun r s2 => r = .none ∧ ∃ h' tk L es ep t, s2 = { s with heap := h', toks := tk } ∧ SetK w h' s.heap.objs.size L es ep t ∧ In1 ks ks.length L ∧ (∀ b o, s.heap.get? b = some o → h'.get? b = some o)) E) PySem.F.called_set.init.plain PySem.F.entry_set_init (check_set_init_1 tS ?_)) fun r2 s2 hr2 => ?_
      · cases lst with
        | true =>
          rw [if_pos rfl] at hl
          obtain ⟨ol, gl, cl, nl, dl⟩ := hl
          obtain ⟨c1, c2, c3, c4⟩ := ol
          simp only at cl dl
          subst cl; subst dl
          have gl' : (s.heap.push (nuS w)).get? l = some { cls := .type "list", dict := c2, data := .seq items nl, slots := c4 } := Heap.get?_push_of_some _ gl
          have u1 := PySem.F.sub_list_set
          have u2 := PySem.F.sub_list_frozenset
          have u3 : (Value.type "list" == Value.type "dict") = false := by decide
          have l1 : (s.heap.push (nuS w)).IsList l items := ⟨_, gl', rfl, nl, rfl⟩
          unfold Builtin.«set.__init__» noKeywords Builtin.Frozenset.updateFrom
          generalize hPI : pyIter = PI
          wp_walk
          subst hPI
          refine wpAny_pyIter_list l1 (wpAny_bind (wpAny_runValue ?_))
          have lS : l < s.heap.objs.size := Heap.lt_size gl
          have neI : l ≠ (s.heap.push (nuS w)).objs.size := by rw [Heap.size_push]; exact Nat.ne_of_lt (Nat.lt_succ_of_lt lS)
          have sfp : s.heap.objs.size ∉ [(s.heap.push (nuS w)).objs.size, l] := by
            rw [Heap.size_push, List.mem_cons, List.mem_singleton, not_or]
            exact ⟨Nat.ne_of_lt (Nat.lt_succ_self _), Nat.ne_of_gt lS⟩
          refine fill_set kd ((Walks.list nh3 _ l neI items).toS) s.heap.objs.size sfp ks zi few val s.heap al is (none_of _ (Nat.le_refl _)) (fun b hb => none_of b (by rw [List.mem_singleton.mp hb, Heap.size_push]; omega)) hu (items.size - 0) 0 _ (by omega) (Nat.zero_le _) ⟨⟨_, Heap.get?_push_size _ rfl, rfl, rfl⟩, l1.push _⟩ (fun b o e => Heap.get?_push_of_some _ (Heap.get?_push_of_some _ e)) ⟨[], #[], 0, _, setK_new (Heap.get?_push_of_some _ gS), kd.ok0, In1.nil ks⟩ fun s' L es ep t mv K' g' kp => ?_
          obtain ⟨h', g2, d', tk', os'⟩ := s'
          have eg : g2 = s.gens := mv.gens
          have ed : d' = s.drawn := mv.drawn
          have eo : os' = s.os := mv.os
          subst eg; subst ed; subst eo
          rw [zi] at g'
          refine wpAny_pure ?_
          exact wpAny_pure ⟨rfl, h', tk', L, es, ep, t, rfl, K', g', kp⟩
        | false =>
          rw [if_neg (by decide)] at hl
          obtain ⟨ol, gl, cl, nl, dl⟩ := hl
          obtain ⟨c1, c2, c3, c4⟩ := ol
          simp only at cl dl
          subst cl; subst dl
          have gl' : (s.heap.push (nuS w)).get? l = some { cls := .type "tuple", dict := c2, data := .seq items nl, slots := c4 } := Heap.get?_push_of_some _ gl
          have u1 := PySem.F.sub_tuple_set
          have u2 := PySem.F.sub_tuple_frozenset
          have u3 : (Value.type "tuple" == Value.type "dict") = false := by decide
          have l1 : (s.heap.push (nuS w)).IsTuple l items := ⟨_, gl', rfl, nl, rfl⟩
          unfold Builtin.«set.__init__» noKeywords Builtin.Frozenset.updateFrom
          generalize hPI : pyIter = PI
          wp_walk
          subst hPI
          refine wpAny_pyIter_tuple l1 (wpAny_bind (wpAny_runValue ?_))
          have lS : l < s.heap.objs.size := Heap.lt_size gl
          have neI : l ≠ (s.heap.push (nuS w)).objs.size := by rw [Heap.size_push]; exact Nat.ne_of_lt (Nat.lt_succ_of_lt lS)
          have sfp : s.heap.objs.size ∉ [(s.heap.push (nuS w)).objs.size, l] := by
            rw [Heap.size_push, List.mem_cons, List.mem_singleton, not_or]
            exact ⟨Nat.ne_of_lt (Nat.lt_succ_self _), Nat.ne_of_gt lS⟩
          refine fill_set kd ((Walks.tuple nh3 _ l neI items).toS) s.heap.objs.size sfp ks zi few val s.heap al is (none_of _ (Nat.le_refl _)) (fun b hb => none_of b (by rw [List.mem_singleton.mp hb, Heap.size_push]; omega)) hu (items.size - 0) 0 _ (by omega) (Nat.zero_le _) ⟨⟨_, Heap.get?_push_size _ rfl, rfl, rfl⟩, l1.push _⟩ (fun b o e => Heap.get?_push_of_some _ (Heap.get?_push_of_some _ e)) ⟨[], #[], 0, _, setK_new (Heap.get?_push_of_some _ gS), kd.ok0, In1.nil ks⟩ fun s' L es ep t mv K' g' kp => ?_
          obtain ⟨h', g2, d', tk', os'⟩ := s'
          have eg : g2 = s.gens := mv.gens
          have ed : d' = s.drawn := mv.drawn
          have eo : os' = s.os := mv.os
          subst eg; subst ed; subst eo
          rw [zi] at g'
          refine wpAny_pure ?_
          exact wpAny_pure ⟨rfl, h', tk', L, es, ep, t, rfl, K', g', kp⟩
      · cases r2 with
        | error e => exact hr2
        | ok f2 =>
          cases f2 with
          | ret r =>
            obtain ⟨rfl, h', tk, L, es, ep, t, rfl, K', g', k'⟩ := hr2
            repeat (any_goals (first | assumption | wp_step))
            exact hQ _ _ _ _ _ _ K' g' k'
          | _ => exact hr2.elim
    | _ => exact hr.elim
end
/-! ### data as keys -/
mutual
def nkD : D → Option NK
  | .int i => some (.num i)
  | .str x => some (.text x)
  | .tuple xs => (nkDs xs).map .tup
  | _ => none
def nkDs : List D → Option (List NK)
  | [] => some []
  | x :: xs => match nkD x, nkDs xs with
    | some k, some ks => some (k :: ks)
    | _, _ => none
end
mutual
theorem nk_data : ∀ (d : D) (k : NK), nkD d = some k → k.data = d ∧ k.depth = d.depth
  | .int i, k, e => by cases e; exact ⟨rfl, rfl⟩
  | .str x, k, e => by cases e; exact ⟨rfl, rfl⟩
  | .tuple xs, k, e => by
    rw [nkD, Option.map_eq_some_iff] at e
    obtain ⟨ks, e, rfl⟩ := e
    obtain ⟨h1, h2⟩ := nks_data xs ks e
    exact ⟨by rw [NestedKey.data, h1], by rw [NestedKey.depth, PyData.depth, h2]⟩
  | .none, k, e => by cases e
  | .bool b, k, e => by cases e
  | .list xs, k, e => by cases e
  | .dict kvs, k, e => by cases e
theorem nks_data : ∀ (xs : List D) (ks : List NK), nkDs xs = some ks → NestedKey.datas ks = xs ∧ NestedKey.depthAll ks = PyData.depthAll xs
  | [], ks, e => by cases e; exact ⟨rfl, rfl⟩
  | x :: xs, ks, e => by
    rw [nkDs] at e
    cases e1 : nkD x with
    | none => rw [e1] at e; cases e
    | some k =>
      cases e2 : nkDs xs with
      | none => rw [e1, e2] at e; cases e
      | some ks' =>
        rw [e1, e2] at e
        cases e
        obtain ⟨h1, h2⟩ := nk_data x k e1
        obtain ⟨h3, h4⟩ := nks_data xs ks' e2
        exact ⟨by rw [NestedKey.datas, h1, h3], by rw [NestedKey.depthAll, PyData.depthAll, h2, h4]⟩
end
section
variable {X : Cx} {pins : List (Addr × Obj)} {σ : St} {H : Hp} {s : Shared}
mutual
theorem nis_fz (I : Inv X pins σ H s) : ∀ (d : D) (k : NK) (v : V) (u : Value), nkD d = some k → Fz X.KF H v d → RelV v u → NestedIs s.heap k u
  | .int i, k, v, u, e, f, r => by
    cases e
    cases f
    obtain ⟨t, rfl⟩ := r
    exact .int _ _
  | .str x, k, v, u, e, f, r => by
    cases e
    cases f
    obtain ⟨t, rfl⟩ := r
    exact .text _ _
  | .tuple xs, k, v, u, e, f, r => by
    rw [nkD, Option.map_eq_some_iff] at e
    obtain ⟨ks, e, rfl⟩ := e
    cases f with
    | tup h1 h2 =>
      cases r
      obtain ⟨its, rv, ⟨o, go, gc, n, gd⟩, _⟩ := I.tuple h1.sq
      exact .tup go gc gd (by simpa using nis_fzs I xs ks _ _ e h2 rv)
  | .none, k, v, u, e, f, r => by cases e
  | .bool b, k, v, u, e, f, r => by cases e
  | .list xs, k, v, u, e, f, r => by cases e
  | .dict kvs, k, v, u, e, f, r => by cases e
theorem nis_fzs (I : Inv X pins σ H s) : ∀ (xs : List D) (ks : List NK) (vs : List V) (us : List Value), nkDs xs = some ks → FzAll X.KF H vs xs → Vals vs us → NestedAll s.heap ks us
  | [], ks, vs, us, e, f, r => by
    cases e
    cases f
    cases r
    exact .nil
  | x :: xs, ks, vs, us, e, f, r => by
    rw [nkDs] at e
    cases e1 : nkD x with
    | none => rw [e1] at e; cases e
    | some k =>
      cases e2 : nkDs xs with
      | none => rw [e1, e2] at e; cases e
      | some ks' =>
        rw [e1, e2] at e
        cases e
        cases f with
        | cons f fs =>
          cases r with
          | cons r rs => exact .cons (nis_fz I x k _ _ e1 f r) (nis_fzs I xs ks' _ _ e2 fs rs)
end
end
/-- all texts, all ints, all tuples -/
def isS : D → Bool
  | .str _ => true
  | _ => false
def isI : D → Bool
  | .int _ => true
  | _ => false
def isT : D → Bool
  | .tuple _ => true
  | _ => false
def setOk (xs : List D) : Bool := decide (xs.length < 64) && (decide (PyData.depthAll xs ≤ 8) && ((nkDs xs).isSome && (xs.all isS || (xs.all isI || xs.all isT))))
/-- the first of each -/
def ddup : List D → List D
  | [] => []
  | x :: xs => x :: (ddup xs).filter fun y => !PyData.eqv x y
mutual
theorem eqv_nk : ∀ (d e : D) (k k' : NK), nkD d = some k → nkD e = some k' → PyData.eqv d e = true → d = e
  | .int i, e, k, k', h1, h2, h => by
    cases e with
    | int j => rw [PyData.eqv, beq_iff_eq] at h; rw [h]
    | bool b => cases h2
    | _ => simp [PyData.eqv] at h
  | .str x, e, k, k', h1, h2, h => by
    cases e with
    | str y => rw [PyData.eqv, beq_iff_eq] at h; rw [h]
    | _ => simp [PyData.eqv] at h
  | .tuple xs, e, k, k', h1, h2, h => by
    cases e with
    | tuple ys =>
      rw [nkD, Option.map_eq_some_iff] at h1 h2
      obtain ⟨k1, h1, _⟩ := h1
      obtain ⟨k2, h2, _⟩ := h2
      rw [PyData.eqv] at h
      rw [eqv_nks xs ys k1 k2 h1 h2 h]
    | _ => simp [PyData.eqv] at h
  | .none, e, k, k', h1, h2, h => by cases h1
  | .bool b, e, k, k', h1, h2, h => by cases h1
  | .list xs, e, k, k', h1, h2, h => by cases h1
  | .dict kvs, e, k, k', h1, h2, h => by cases h1
theorem eqv_nks : ∀ (xs ys : List D) (ks ks' : List NK), nkDs xs = some ks → nkDs ys = some ks' → PyData.eqvAll xs ys = true → xs = ys
  | [], [], _, _, _, _, _ => rfl
  | [], _ :: _, _, _, _, _, h => by simp [PyData.eqvAll] at h
  | _ :: _, [], _, _, _, _, h => by simp [PyData.eqvAll] at h
  | x :: xs, y :: ys, ks, ks', h1, h2, h => by
    rw [PyData.eqvAll, Bool.and_eq_true] at h
    rw [nkDs] at h1 h2
    cases a1 : nkD x with
    | none => rw [a1] at h1; cases h1
    | some p =>
      cases a2 : nkDs xs with
      | none => rw [a1, a2] at h1; cases h1
      | some ps =>
        cases b1 : nkD y with
        | none => rw [b1] at h2; cases h2
        | some q =>
          cases b2 : nkDs ys with
          | none => rw [b1, b2] at h2; cases h2
          | some qs => rw [eqv_nk x y p q a1 b1 h.1, eqv_nks xs ys ps qs a2 b2 h.2]
end
mutual
theorem nk_plain : ∀ (d : D) (k : NK), nkD d = some k → d.plain = true
  | .int i, k, _ => rfl
  | .str x, k, _ => rfl
  | .tuple xs, k, e => by
    rw [nkD, Option.map_eq_some_iff] at e
    obtain ⟨ks, e, _⟩ := e
    rw [PyData.plain]
    exact nks_plain xs ks e
  | .none, k, e => by cases e
  | .bool b, k, e => by cases e
  | .list xs, k, e => by cases e
  | .dict kvs, k, e => by cases e
theorem nks_plain : ∀ (xs : List D) (ks : List NK), nkDs xs = some ks → PyData.plainAll xs = true
  | [], ks, _ => rfl
  | x :: xs, ks, e => by
    rw [nkDs] at e
    cases e1 : nkD x with
    | none => rw [e1] at e; cases e
    | some k =>
      cases e2 : nkDs xs with
      | none => rw [e1, e2] at e; cases e
      | some ks' => rw [PyData.plainAll, nk_plain x k e1, nks_plain xs ks' e2]; rfl
end
theorem nk_refl {d : D} {k : NK} (h : nkD d = some k) : PyData.eqv d d = true := PySem.SeqAt.eqv_refl_plain d (nk_plain d k h)
def AllN (xs : List D) : Prop := ∀ x ∈ xs, ∃ k, nkD x = some k
theorem allN_of : ∀ {xs : List D} {ks : List NK}, nkDs xs = some ks → AllN xs
  | [], _, _, x, hx => by cases hx
  | y :: xs, ks, e, x, hx => by
    rw [nkDs] at e
    cases e1 : nkD y with
    | none => rw [e1] at e; cases e
    | some k =>
      cases e2 : nkDs xs with
      | none => rw [e1, e2] at e; cases e
      | some ks' =>
        rcases List.mem_cons.mp hx with rfl | hx
        · exact ⟨k, e1⟩
        · exact allN_of e2 x hx
theorem ddup_mem : ∀ {xs : List D}, AllN xs → ∀ y, y ∈ ddup xs ↔ y ∈ xs
  | [], _, y => Iff.rfl
  | x :: xs, h, y => by
    have ih := ddup_mem (xs := xs) (fun z hz => h z (List.mem_cons_of_mem _ hz)) y
    rw [ddup, List.mem_cons, List.mem_filter, ih, List.mem_cons]
    constructor
    · rintro (z | z)
      · exact .inl z
      · exact .inr z.1
    · rintro (z | z)
      · exact .inl z
      · by_cases e : y = x
        · exact .inl e
        · refine .inr ⟨z, ?_⟩
          cases q : PyData.eqv x y with
          | false => rfl
          | true =>
            obtain ⟨k, hk⟩ := h x List.mem_cons_self
            obtain ⟨k', hk'⟩ := h y (List.mem_cons_of_mem _ z)
            exact absurd (eqv_nk x y k k' hk hk' q).symm e
theorem ddup_nodup : ∀ {xs : List D}, AllN xs → (ddup xs).Nodup
  | [], _ => List.nodup_nil
  | x :: xs, h => by
    have ih := ddup_nodup (xs := xs) fun z hz => h z (List.mem_cons_of_mem _ hz)
    rw [ddup]
    refine List.nodup_cons.mpr ⟨fun hm => ?_, ih.filter _⟩
    obtain ⟨k, hk⟩ := h x List.mem_cons_self
    have := (List.mem_filter.mp hm).2
    rw [nk_refl hk] at this
    cases this
theorem perm_ex {α β : Type} (f : α → β) {X : List β} {L : List α} (pm : X.Perm (L.map f)) : ∃ L2 : List α, X = L2.map f ∧ L2.Perm L := by
  have key : ∀ (X Y : List β), X.Perm Y → ∀ L : List α, Y = L.map f → ∃ L2 : List α, X = L2.map f ∧ L2.Perm L := by
    intro X Y pm
    induction pm with
    | nil => intro L e; exact ⟨L, e, .refl _⟩
    | cons x _ ih =>
      intro L e
      cases L with
      | nil => cases e
      | cons p L =>
        rw [List.map_cons] at e
        injection e with e1 e2
        obtain ⟨L2, f1, f2⟩ := ih L e2
        exact ⟨p :: L2, by rw [List.map_cons, ← f1, e1], f2.cons p⟩
    | swap x y l =>
      intro L e
      cases L with
      | nil => cases e
      | cons p L =>
        cases L with
        | nil => cases e
        | cons q L =>
          rw [List.map_cons, List.map_cons] at e
          injection e with e1 e2
          injection e2 with e2 e3
          exact ⟨q :: p :: L, by rw [List.map_cons, List.map_cons, ← e3, e1, e2], List.Perm.swap p q L⟩
    | trans _ _ i1 i2 =>
      intro L e
      obtain ⟨L1, f1, f2⟩ := i2 L e
      obtain ⟨L2, g1, g2⟩ := i1 L1 f1
      exact ⟨L2, g1, g2.trans f2⟩
  exact key _ _ pm L rfl
/-- a member, in all its forms -/
structure Qd where
  u : Value
  k : NK
  v : V
  d : D
def Qd.Ok (K : KF) (H : Hp) (h : Heap) (q : Qd) : Prop := nkD q.d = some q.k ∧ RelV q.v q.u ∧ Fz K H q.v q.d ∧ NestedIs h q.k q.u
section
variable {X : Cx} {pins : List (Addr × Obj)} {σ : St} {H : Hp} {s : Shared}
theorem quads (I : Inv X pins σ H s) : ∀ {xs : List D} {ks : List NK} {vs : List V} {us : List Value}, nkDs xs = some ks → FzAll X.KF H vs xs → Vals vs us → ∃ Z : List Qd, Z.map (·.u) = us ∧ Z.map (·.d) = xs ∧ ∀ q ∈ Z, q.Ok X.KF H s.heap
  | [], ks, vs, us, e, f, r => by
    cases f
    cases r
    exact ⟨[], rfl, rfl, fun q hq => by cases hq⟩
  | x :: xs, ks, vs, us, e, f, r => by
    rw [nkDs] at e
    cases e1 : nkD x with
    | none => rw [e1] at e; cases e
    | some k =>
      cases e2 : nkDs xs with
      | none => rw [e1, e2] at e; cases e
      | some ks' =>
        cases f with
        | @cons v vs _ _ f fs =>
          cases r with
          | @cons _ u _ us r rs =>
            obtain ⟨Z, z1, z2, z3⟩ := quads I e2 fs rs
            refine ⟨⟨u, k, v, x⟩ :: Z, by rw [List.map_cons, z1], by rw [List.map_cons, z2], fun q hq => ?_⟩
            rcases List.mem_cons.mp hq with rfl | hq
            · exact ⟨e1, r, f, nis_fz I x k v u e1 f r⟩
            · exact z3 q hq
end
theorem pick_quads {Z : List Qd} : ∀ {L : List (Value × NK)}, (∀ p ∈ L, p ∈ Z.map fun q => (q.u, q.k)) → ∃ Y : List Qd, Y.map (fun q => (q.u, q.k)) = L ∧ ∀ q ∈ Y, q ∈ Z
  | [], _ => ⟨[], rfl, fun q hq => by cases hq⟩
  | p :: L, h => by
    obtain ⟨q, hq, e⟩ := List.mem_map.mp (h p List.mem_cons_self)
    obtain ⟨Y, y1, y2⟩ := pick_quads (Z := Z) (L := L) fun p hp => h p (List.mem_cons_of_mem _ hp)
    refine ⟨q :: Y, by rw [List.map_cons, e, y1], fun r hr => ?_⟩
    rcases List.mem_cons.mp hr with rfl | hr
    · exact hq
    · exact y2 r hr
/-! ### len(set(e)), sorted(set(e)) -/
def srtSetD (x : D) : Option D := match seqD x with
  | some xs => if (setOk xs && srtOk (ddup xs)) = true then some (.list (sortD (ddup xs))) else none
  | none => none
section
variable {X : Cx} {W : WX} {e : Expr} {m : M D} {pos : Pos} {pins : List (Addr × Obj)} {σ : St} {H : Hp} {s : Shared}
/-- set(x): its members -/
theorem call_setD (I : Inv X pins σ H s) (hc : X.calm = true) (hu : X.A.units + 64 < cLine) {A : Around} (hA : A.units = X.A.units) (nh : A.handled = none) {lst : Bool} {a : Addr} {vs : List V} {xs : List D} (hf : FzS lst X.KF H a vs) (fa : FzAll X.KF H vs xs) (ok : setOk xs = true) {E : Value → Shared → Prop} {Q : Value → Shared → Prop}
    (hQ : ∀ (h' : Heap) (tk : Nat) (Y : List Qd) L es ep t, SetK X.w h' s.heap.objs.size L es ep t → Y.map (fun q => (q.u, q.k)) = L → (Y.map (·.d)).Perm (ddup xs) → (∀ q ∈ Y, q.Ok X.KF H s.heap) → (∀ b o, s.heap.get? b = some o → h'.get? b = some o) → Q (.ref s.heap.objs.size) { s with heap := h', toks := tk }) :
    wpAny (model X.prog X.w) A (call (.type "set") [.ref a]) Q E s := by
  simp only [setOk, Bool.and_eq_true, decide_eq_true_eq, Bool.or_eq_true, Option.isSome_iff_exists] at ok
  obtain ⟨few, dep, ⟨ks, ek⟩, kinds⟩ := ok
  have hs : ∃ its : List Value, Vals vs its ∧ (if lst = true then s.heap.IsList a its.toArray else s.heap.IsTuple a its.toArray) := by
    cases lst with
    | true =>
      obtain ⟨its, rv, pl, _⟩ := I.list (FzL.sq hf)
      exact ⟨its, rv, by rw [if_pos rfl]; exact pl.isList⟩
    | false =>
      obtain ⟨its, rv, pl, _⟩ := I.tuple (FT.sq hf)
      exact ⟨its, rv, by rw [if_neg (by decide)]; exact pl⟩
  obtain ⟨its, rv, hl⟩ := hs
  obtain ⟨Z, z1, z2, z3⟩ := quads I ek fa rv
  have zl : Z.length = xs.length := by rw [← z2, List.length_map]
  have an := allN_of ek
  have hit : its.toArray.toList = (Z.map fun q => (q.u, q.k)).map (·.1) := by
    rw [List.map_map, List.toList_toArray, ← z1]
    rfl
  have fin : ∀ (h' : Heap) (tk : Nat) L es ep t, SetK X.w h' s.heap.objs.size L es ep t → In1 (Z.map fun q => (q.u, q.k)) (Z.map fun q => (q.u, q.k)).length L → (∀ b o, s.heap.get? b = some o → h'.get? b = some o) → Q (.ref s.heap.objs.size) { s with heap := h', toks := tk } := by
    intro h' tk L es ep t R g kp
    obtain ⟨Y, y1, y2⟩ := pick_quads (Z := Z) (L := L) fun p hp => List.mem_of_mem_take (g.sub p hp)
    refine hQ h' tk Y L es ep t R y1 ?_ (fun q hq => z3 q (y2 q hq)) kp
    have kd : ∀ q ∈ Z, q.k.data = q.d := fun q hq => (nk_data q.d q.k (z3 q hq).1).1
    have nY : (Y.map (·.d)).Nodup := by
      have n1 : (Y.map (·.k)).Nodup := by
        have := R.nd
        rw [← y1, List.map_map] at this
        exact this
      rw [List.Nodup, List.pairwise_map] at n1 ⊢
      refine List.Pairwise.imp_of_mem (fun {p q} hp hq ne z => ?_) n1
      have a1 := (z3 p (y2 p hp)).1
      have a2 := (z3 q (y2 q hq)).1
      rw [z, a2] at a1
      exact ne (Option.some.inj a1).symm
    refine (List.perm_ext_iff_of_nodup nY (ddup_nodup an)).mpr fun d => ?_
    rw [ddup_mem an, ← z2]
    constructor
    · intro hd
      obtain ⟨q, hq, rfl⟩ := List.mem_map.mp hd
      exact List.mem_map.mpr ⟨q, y2 q hq, rfl⟩
    · intro hd
      obtain ⟨q, hq, rfl⟩ := List.mem_map.mp hd
      have hk := g.all (q.u, q.k) (by rw [List.take_length]; exact List.mem_map.mpr ⟨q, hq, rfl⟩)
      rw [← y1, List.map_map] at hk
      obtain ⟨r, hr, er⟩ := List.mem_map.mp hk
      have er : r.k = q.k := er
      refine List.mem_map.mpr ⟨r, hr, ?_⟩
      rw [← kd r (y2 r hr), er, kd q hq]
  have isz : ∀ p ∈ Z.map (fun q => (q.u, q.k)), NestedIs s.heap p.2 p.1 := fun p hp => by
    obtain ⟨q, hq, rfl⟩ := List.mem_map.mp hp
    exact (z3 q hq).2.2.2
  have dz : ∀ q ∈ Z, q.k.depth ≤ 8 := fun q hq => by
    rw [(nk_data q.d q.k (z3 q hq).1).2]
    have : q.d ∈ xs := by rw [← z2]; exact List.mem_map_of_mem hq
    exact Nat.le_trans (depth_mem this) dep
  have run : ∀ kd : Kd X.prog X.w, (∀ q ∈ Z, kd.Al (q.u, q.k)) → wpAny (model X.prog X.w) A (call (.type "set") [.ref a]) Q E s := fun kd hal =>
    call_setK kd lst (Z.map fun q => (q.u, q.k)) nh hl hit (fun p hp => by
      obtain ⟨q, hq, rfl⟩ := List.mem_map.mp hp
      exact hal q hq) isz (by rw [List.length_map, zl]; exact few) (by omega) fin
  have memd : ∀ q ∈ Z, q.d ∈ xs := fun q hq => by rw [← z2]; exact List.mem_map_of_mem hq
  rcases kinds with kn | kn | kn
  · refine run (kdS (scStr X.prog X.w) fun k => Nat.zero_le _) fun q hq => ?_
    have h1 := List.all_eq_true.mp kn q.d (memd q hq)
    obtain ⟨b1, b2, b3, _⟩ := z3 q hq
    cases hd : q.d with
    | str x =>
      rw [hd] at b1 b3
      cases b1' : q.k with
      | text y =>
        rw [b1'] at b1
        cases b1
        generalize q.v = v at b2 b3
        cases b3
        obtain ⟨t, e⟩ := b2
        refine ⟨x, rfl, ?_⟩
        dsimp only
        rw [e]
        exact strKind_is _ _ _ _
      | _ => rw [b1'] at b1; cases b1
    | _ => rw [hd] at h1; cases h1
  · refine run (kdS (scInt X.prog X.w) fun k => Nat.zero_le _) fun q hq => ?_
    have h1 := List.all_eq_true.mp kn q.d (memd q hq)
    obtain ⟨b1, b2, b3, _⟩ := z3 q hq
    cases hd : q.d with
    | int x =>
      rw [hd] at b1 b3
      cases b1' : q.k with
      | num y =>
        rw [b1'] at b1
        cases b1
        generalize q.v = v at b2 b3
        cases b3
        obtain ⟨t, e⟩ := b2
        refine ⟨x, rfl, ?_⟩
        dsimp only
        rw [e]
        exact intKind_is _ _ _ _
      | _ => rw [b1'] at b1; cases b1
    | _ => rw [hd] at h1; cases h1
  · refine run (kdT X.prog X.w) fun q hq => ⟨dz q hq, ?_⟩
    have h1 := List.all_eq_true.mp kn q.d (memd q hq)
    obtain ⟨b1, b2, b3, _⟩ := z3 q hq
    cases hd : q.d with
    | tuple ys =>
      rw [hd] at b3
      dsimp only
      generalize q.v = v at b2 b3
      cases b3 with
      | tup f1 f2 => exact ⟨_, b2⟩
    | _ => rw [hd] at h1; cases h1
/-! sorted -/
theorem antisym_nk {x y : D} {k k' : NK} (hx : nkD x = some k) (hy : nkD y = some k') (al : PySem.W.alike x y = true) (h1 : PySem.W.dataLt x y = false) (h2 : PySem.W.dataLt y x = false) : x = y := by
  have e : PySem.W.keyToks x = PySem.W.keyToks y := PyProof.Rows.lex_total _ _ h1 h2
  cases q : PyData.eqv x y with
  | true => exact eqv_nk x y k k' hx hy q
  | false =>
    have c := (PySem.W.toks_eqv x y al).2 q [] [Sum.inl 0]
    rw [e, PySem.W.lex_pre] at c
    have c2 : PyProof.Rows.lexLt PyProof.Rows.itemOrd (PySem.W.keyToks y) (PySem.W.keyToks y) = false := PyProof.Rows.lex_irrefl _
    rw [c2] at c
    cases c
theorem le_tot (γ : Type) (f : γ → D) : PySem.W.TotalLe (fun a b : γ => !PySem.W.dataLt (f b) (f a)) := PySem.W.sortLe_total (PyProof.Rows.listOrd PyProof.Rows.itemOrd) false fun b => PySem.W.keyToks (f b)
theorem perm_asc : ∀ {xs ys : List D}, xs.Perm ys → xs.Pairwise (fun a b => (!PySem.W.dataLt b a) = true) → ys.Pairwise (fun a b => (!PySem.W.dataLt b a) = true) → (∀ a ∈ xs, ∀ b ∈ xs, PySem.W.dataLt a b = false → PySem.W.dataLt b a = false → a = b) → xs = ys
  | [], ys, pm, _, _, _ => (List.nil_perm.mp pm).symm
  | x :: xs, [], pm, _, _, _ => absurd (List.perm_nil.mp pm) (by simp)
  | x :: xs, y :: ys, pm, h1, h2, an => by
    rw [List.pairwise_cons] at h1 h2
    have hy : y ∈ x :: xs := pm.mem_iff.mpr List.mem_cons_self
    have hx : x ∈ y :: ys := pm.mem_iff.mp List.mem_cons_self
    have e : x = y := by
      rcases List.mem_cons.mp hy with z | z
      · exact z.symm
      · rcases List.mem_cons.mp hx with w | w
        · exact w
        · have q1 := h1.1 y z
          have q2 := h2.1 x w
          rw [Bool.not_eq_true'] at q1 q2
          exact an x List.mem_cons_self y hy q2 q1
    subst e
    have pm2 : xs.Perm ys := List.Perm.cons_inv pm
    rw [perm_asc pm2 h1.2 h2.2 fun a ha b hb => an a (List.mem_cons_of_mem _ ha) b (List.mem_cons_of_mem _ hb)]
theorem sortD_asc (xs : List D) : (sortD xs).Pairwise fun a b => (!PySem.W.dataLt b a) = true := by
  have t := le_tot D id
  exact List.pairwise_mergeSort (fun a b c => t.trans a b c) (fun a b => by
    have := t.total a b
    simpa using this) xs
theorem sortD_perm {xs ys : List D} (pm : xs.Perm ys) (an : AllN xs) (al : alkB xs = true) : sortD xs = sortD ys := by
  have p1 : (sortD xs).Perm xs := List.mergeSort_perm xs _
  have p2 : (sortD ys).Perm ys := List.mergeSort_perm ys _
  refine perm_asc (p1.trans (pm.trans p2.symm)) (sortD_asc xs) (sortD_asc ys) fun a ha b hb h1 h2 => ?_
  have ha := p1.mem_iff.mp ha
  have hb := p1.mem_iff.mp hb
  obtain ⟨k, hk⟩ := an a ha
  obtain ⟨k', hk'⟩ := an b hb
  exact antisym_nk hk hk' (List.all_eq_true.mp (List.all_eq_true.mp al a ha) b hb) h1 h2
mutual
theorem reads_nk {h : Heap} : ∀ (d : D) (k : NK) (u : Value) (as : List Addr), nkD d = some k → Reads h u d as → as = []
  | .int i, k, u, as, e, r => by cases r; rfl
  | .str x, k, u, as, e, r => by cases r; rfl
  | .tuple xs, k, u, as, e, r => by
    rw [nkD, Option.map_eq_some_iff] at e
    obtain ⟨ks, e, _⟩ := e
    cases r with
    | tuple g1 g2 g3 g4 => exact reads_nks xs ks _ _ e g4
  | .none, k, u, as, e, r => by cases e
  | .bool b, k, u, as, e, r => by cases e
  | .list xs, k, u, as, e, r => by cases e
  | .dict kvs, k, u, as, e, r => by cases e
theorem reads_nks {h : Heap} : ∀ (xs : List D) (ks : List NK) (us : List Value) (as : List Addr), nkDs xs = some ks → ReadsAll h us xs as → as = []
  | [], ks, us, as, e, r => by cases r; rfl
  | x :: xs, ks, us, as, e, r => by
    rw [nkDs] at e
    cases e1 : nkD x with
    | none => rw [e1] at e; cases e
    | some k =>
      cases e2 : nkDs xs with
      | none => rw [e1, e2] at e; cases e
      | some ks' =>
        cases r with
        | cons r rs => rw [reads_nk x k _ _ e1 r, reads_nks xs ks' _ _ e2 rs]; rfl
end
theorem each_quads {K : KF} {H : Hp} {h : Heap} : ∀ {Y : List Qd}, (∀ q ∈ Y, q.Ok K H h) → PySem.W.EachIs (fun u (b : V × D) => RelV b.1 u ∧ Fz K H b.1 b.2) (Y.map (·.u)) (Y.map fun q => (q.v, q.d))
  | [], _ => .nil
  | q :: Y, hq => .cons ⟨(hq q List.mem_cons_self).2.1, (hq q List.mem_cons_self).2.2.1⟩ (each_quads fun r hr => hq r (List.mem_cons_of_mem _ hr))
theorem r_srtSet {p p2 q : Pos} (hc : X.calm = true) (hu : X.A.units + 64 < cLine) (hm : X.mg "sorted" = none) (hm2 : X.mg "set" = none) (he : RE X W e m) (hg : Gl X "sorted" := by rfl) (hg2 : Gl X "set" := by rfl)
    (na : starEach [e] X.env = (false, eval e X.env) :: starEach [] X.env := by rfl) : RE X W (.Call (.Name "sorted" p) [.Call (.Name "set" p2) [e] [] q] [] pos) (ap1 srtSetD m) := by
  refine ⟨fun pins s σ H Q I h => ?_⟩
  refine Call_ (ld_blt I hg hm PyProof.Rows.boot_sorted ?_)
  refine PyProof.Rows.callWith_builtin1 (PyProof.Rows.args_cons ?_ rfl) rfl rfl
  refine Call_ (ld_blt I hg2 hm2 PyProof.Rows.boot_set ?_)
  refine PyProof.Rows.callWith_type1 (PyProof.Rows.args_cons (thn (he.run pins s σ H _ I (tD1 h)) fun v s1 ⟨x, H1, I1, r1, dx, fx, c, ec, q1⟩ => PyProof.Rows.args_nil ?_) na) na rfl
  unfold srtSetD at ec
  split at ec
  · rename_i xs es
    split at ec
    · rename_i ok
      cases ec
      rw [Bool.and_eq_true] at ok
      obtain ⟨ok, so⟩ := ok
      obtain ⟨k1, a1, vs, rfl, f1, fa⟩ := seqD_src fx es
      cases r1
      have an : AllN (ddup xs) := by
        have ok2 := ok
        simp only [setOk, Bool.and_eq_true, Option.isSome_iff_exists] at ok2
        obtain ⟨_, _, ⟨ks, ek⟩, _⟩ := ok2
        exact fun y hy => allN_of ek y ((ddup_mem (allN_of ek) y).mp hy)
      refine call_setD I1 hc hu rfl (I1.ok.hd hc) f1 fa ok fun h' tk Y L es ep t R y1 pm yq kp => ?_
      refine PyProof.Rows.args_nil ?_
      obtain ⟨o, go, gx, gd⟩ := R.ob
      have z := R.size
      have few := R.few
      have yl : Y.length = L.length := by rw [← y1, List.length_map]
      have I2 : Inv X pins σ H1 { s1 with heap := h', toks := tk } := I1.kept fun b o e => kp b o e
      refine Calls.call_function_entry kind_sorted plain_sorted entry_sorted (args_sorted1 _) ?_
      unfold Builtin.«sorted»
      refine wpAny_bind (m := checkCount "sorted" 1 1 _) (wpAny_pure ?_)
      refine wpAny_bind (collect_set (A := X.A.in1) (I1.ok.hd hc) ⟨o, go, gx.1, gd⟩ R.fit (by unfold scanBound; omega) R.ris R.led fun s2 out kp2 hz g2 o2 pm2 => ?_)
      have ev : es.toList.map (·.2) = Y.map (·.u) := by
        rw [R.rows, ← y1, List.map_map, List.map_map]
        rfl
      rw [ev] at pm2
      obtain ⟨Y2, e2, p2⟩ := perm_ex (fun q : Qd => q.u) pm2
      have yq2 : ∀ q ∈ Y2, q.Ok X.KF H1 s1.heap := fun q hq => yq q (p2.mem_iff.mp hq)
      have ol : out.length = L.length := by rw [e2, List.length_map, p2.length_eq, yl]
      refine wpAny_bind (wpAny_newList ?_ (by rw [sizeLine_eq]; omega))
      have gl : (s2.heap.push (seqObj "list" out.toArray 0)).get? s2.heap.objs.size = some (seqObj "list" out.toArray 0) := Heap.get?_push_size _ rfl
      have pd : (Y2.map (·.d)).Perm (ddup xs) := (p2.map (·.d)).trans pm
      simp only [srtOk, Bool.and_eq_true, decide_eq_true_eq, Bool.or_eq_true, List.all_eq_true] at so
      obtain ⟨m1, m2, m3, m4⟩ := so
      have hbs : (Y2.map fun q => (q.v, q.d)).map (·.2) = Y2.map (·.d) := by rw [List.map_map]; rfl
      have ea := each_quads yq2
      rw [← e2] at ea
      have er : PySem.W.EachIs (fun v (b : V × D) => ∃ as, Reads (s2.heap.push (seqObj "list" out.toArray 0)) v b.2 as ∧ s2.heap.objs.size ∉ as) out (Y2.map fun q => (q.v, q.d)) := by
        generalize seqObj "list" out.toArray 0 = oL
        rw [e2]
        clear ea hbs pd gl ol p2 e2
        induction Y2 with
        | nil => exact .nil
        | cons y Y2 ih =>
          obtain ⟨n1, n2, n3, _⟩ := yq2 y List.mem_cons_self
          obtain ⟨as, ra⟩ := reads_of I1 n2 n3 (nk_plain _ _ n1)
          have := reads_nk _ _ _ _ n1 ra
          subst this
          refine .cons ⟨[], PyProof.Rows.Reads.keeps (fun b u e => Heap.get?_push_of_some _ (kp2 b u (kp b u e))) ra, by simp⟩ (ih fun q hq => yq2 q (List.mem_cons_of_mem _ hq))
      refine wpAny_bind (wpAny_holding (list_sort_dataM (s := { s2 with heap := s2.heap.push (seqObj "list" out.toArray 0) }) (R := fun u (b : V × D) => RelV b.1 u ∧ Fz X.KF H1 b.1 b.2) (enc := fun b : V × D => b.2) gl ea er ?_ ?_ ?_ ?_ fun out2 lo eo => ?_))
      · rw [hbs]
        intro d hd d' hd'
        exact List.all_eq_true.mp (List.all_eq_true.mp m2 d (pd.mem_iff.mp hd)) d' (pd.mem_iff.mp hd')
      · rw [hbs]
        rcases m4 with m4 | m4
        · refine .inl fun d hd => ?_
          have := m4 d (pd.mem_iff.mp hd)
          unfold tup1 at this
          split at this
          · exact ⟨_, rfl⟩
          · cases this
        · refine .inr fun d hd => ?_
          have := m4 d (pd.mem_iff.mp hd)
          unfold noTN at this
          split at this
          · cases this
          · cases this
          · rename_i n1 n2
            exact ⟨n1, n2⟩
      · rw [List.length_map, p2.length_eq, yl, sizeLine_eq]; omega
      · intro b hb
        have hb2 : b.2 ∈ ddup xs := by
          refine pd.mem_iff.mp ?_
          rw [← hbs]
          exact List.mem_map_of_mem hb
        have := depth_mem hb2
        show X.A.in1.units + 1 + b.2.depth < cLine
        have e1 : X.A.in1.units = X.A.units + 1 := Around.in1_units _
        omega
      · obtain ⟨o1, o3⟩ := of_each eo
        have es2 : ((Y2.map fun q => (q.v, q.d)).mergeSort (PySem.W.dataLe false fun b : V × D => b.2)).map (·.2) = sortD (ddup xs) := by
          refine (PySem.W.sort_maps (s := fun a b : D => !PySem.W.dataLt b a) (fun b : V × D => b.2) (fun _ _ _ _ => rfl)).trans ?_
          rw [hbs]
          exact (sortD_perm pd.symm an (by simpa [alkB] using m2)).symm
        rw [es2] at o3
        obtain ⟨cc, hcc⟩ := sortedHeap_at (vs := out) (out := out2.toArray) gl
        have hlen := o3.length
        have hl2 : (sortD (ddup xs)).length = (ddup xs).length := List.length_mergeSort _
        have dl : (ddup xs).length = L.length := by rw [← pm.length_eq, List.length_map, yl]
        have le1 : s1.heap.objs.size ≤ s2.heap.objs.size := Nat.le_trans (Nat.le_of_lt (Heap.lt_size go)) hz
        have np : H1 s2.heap.objs.size = none := I1.hok.fresh le1
        have kf : ∀ b u, s1.heap.get? b = some u → (sortedHeap (s2.heap.push (seqObj "list" out.toArray 0)) s2.heap.objs.size out out2.toArray).get? b = some u := fun b u e => by
          have k3 := kp2 b u (kp b u e)
          have lt := Heap.lt_size k3
          rw [sortedHeap_old (Nat.ne_of_lt lt) (by rw [size_push']; exact Nat.lt_succ_of_lt lt)]
          exact Heap.get?_push_of_some _ k3
        have J : Inv X pins σ (L2.upd H1 s2.heap.objs.size (.lst (((Y2.map fun q => (q.v, q.d)).mergeSort (PySem.W.dataLe false fun b : V × D => b.2)).map (·.1)))) { s1 with heap := sortedHeap (s2.heap.push (seqObj "list" out.toArray 0)) s2.heap.objs.size out out2.toArray, gens := s2.gens, drawn := s2.drawn, toks := s2.toks } :=
          I1.call (ch := []) (Un.laid kf le1 np) (I1.hok.laid kf le1 ⟨by rw [hlen, hl2, dl, sizeLine_eq]; omega, out2, cc, o1, hcc⟩) (by rw [g2]; exact I1.bare) (fun _ z => nomatch z)
        have eS : ({ s2 with heap := sortedHeap (s2.heap.push (seqObj "list" out.toArray 0)) s2.heap.objs.size out out2.toArray } : Shared) = { s1 with heap := sortedHeap (s2.heap.push (seqObj "list" out.toArray 0)) s2.heap.objs.size out out2.toArray, gens := s2.gens, drawn := s2.drawn, toks := s2.toks } := by
          cases s2
          cases s1
          cases o2
          rfl
        refine wpAny_pure ⟨_, rfl, ?_⟩
        show L2.EP X pins σ Q _ ({ s2 with heap := sortedHeap (s2.heap.push (seqObj "list" out.toArray 0)) s2.heap.objs.size out out2.toArray } : Shared)
        rw [eS]
        refine ep_lock ⟨.ref _, _, J, rfl, _, _, rfl, upd_same, trivial, fun ob => ?_⟩
        obtain ⟨w1, w2⟩ := fz_new (o := ob) np o3
        exact q1 _ _ w1 w2
    · cases ec
  · cases ec
end
end PP
namespace PP
open PySem PySem.Spec L2
open PyProof.Rows hiding St
/-! ### objects of one's own -/
def putO (f : Str) (t : Tf) : List (Str × Tf) → List (Str × Tf)
  | [] => [(f, t)]
  | (g, x) :: r => if g = f then (g, t) :: r else (g, x) :: putO f t r
section
variable {K : KF} {H : Hp}
def FVal (K : KF) (H : Hp) (rs : List Addr) (v : V) : Tf → Prop
  | .d x => Fz K H v x
  | .ml xs => ∃ a vs, v = .ref a ∧ H a = some (.lst vs) ∧ FzAll K H vs xs ∧ a ∈ rs
  | .hid a => v = .ref a
theorem lookup_cons_eq {α : Type} {k : Str} {x : α} {r : List (Str × α)} : ((k, x) :: r).lookup k = some x := by simp [List.lookup]
theorem lookup_cons_ne {α : Type} {k f : Str} {x : α} {r : List (Str × α)} (h : ¬ k = f) : ((k, x) :: r).lookup f = r.lookup f := by
  have hb : (f == k) = false := beq_eq_false_iff_ne.mpr fun e => h e.symm
  simp only [List.lookup, hb]
theorem FVal.mono {rs rs' : List Addr} {v : V} {t : Tf} (h : FVal K H rs v t) (m : ∀ a ∈ rs, a ∈ rs') : FVal K H rs' v t := by
  cases t with
  | d x => exact h
  | ml xs => obtain ⟨a, vs, h1, h2, h3, h4⟩ := h; exact ⟨a, vs, h1, h2, h3, m a h4⟩
  | hid a => exact h
theorem FRep.get {f : Str} {t : Tf} : ∀ {fv : List (Str × V)} {fs : List (Str × Tf)} {rs : List Addr}, FRep K H fv fs rs → fs.lookup f = some t → ∃ v, fv.lookup f = some v ∧ FVal K H rs v t
  | _, _, _, .nil, e => by cases e
  | _, _, _, .d (k := k) (v := v) (x := x) (fv := fv) (fs := fs) h r, e => by
    by_cases hk : k = f
    · subst hk; rw [lookup_cons_eq] at e; cases e; exact ⟨v, lookup_cons_eq, h⟩
    · rw [lookup_cons_ne hk] at e ⊢; exact FRep.get r e
  | _, _, _, .ml (k := k) (a := a) (xs := xs) e1 h r, e => by
    by_cases hk : k = f
    · subst hk; rw [lookup_cons_eq] at e; cases e; exact ⟨_, lookup_cons_eq, a, _, rfl, e1, h, List.mem_cons_self⟩
    · rw [lookup_cons_ne hk] at e ⊢
      obtain ⟨v, z1, z2⟩ := FRep.get r e
      exact ⟨v, z1, z2.mono fun a ha => List.mem_cons_of_mem _ ha⟩
  | _, _, _, .hid (k := k) (a := a) r, e => by
    by_cases hk : k = f
    · subst hk; rw [lookup_cons_eq] at e; cases e; exact ⟨_, lookup_cons_eq, rfl⟩
    · rw [lookup_cons_ne hk] at e ⊢; exact FRep.get r e
theorem FRep.none {f : Str} : ∀ {fv : List (Str × V)} {fs : List (Str × Tf)} {rs : List Addr}, FRep K H fv fs rs → fs.lookup f = none → fv.lookup f = none
  | _, _, _, .nil, e => rfl
  | _, _, _, .d (k := k) h r, e => by
    by_cases hk : k = f
    · subst hk; rw [lookup_cons_eq] at e; cases e
    · rw [lookup_cons_ne hk] at e ⊢; exact FRep.none r e
  | _, _, _, .ml (k := k) e1 h r, e => by
    by_cases hk : k = f
    · subst hk; rw [lookup_cons_eq] at e; cases e
    · rw [lookup_cons_ne hk] at e ⊢; exact FRep.none r e
  | _, _, _, .hid (k := k) r, e => by
    by_cases hk : k = f
    · subst hk; rw [lookup_cons_eq] at e; cases e
    · rw [lookup_cons_ne hk] at e ⊢; exact FRep.none r e
theorem FRep.len : ∀ {fv : List (Str × V)} {fs : List (Str × Tf)} {rs : List Addr}, FRep K H fv fs rs → fv.length = fs.length
  | _, _, _, .nil => rfl
  | _, _, _, .d _ r => by simp [FRep.len r]
  | _, _, _, .ml _ _ r => by simp [FRep.len r]
  | _, _, _, .hid r => by simp [FRep.len r]
theorem putO_cons_eq {k : Str} {x v : Tf} {r : List (Str × Tf)} : putO k v ((k, x) :: r) = (k, v) :: r := if_pos rfl
theorem putO_cons_ne {k f : Str} {x v : Tf} {r : List (Str × Tf)} (h : ¬ k = f) : putO f v ((k, x) :: r) = (k, x) :: putO f v r := if_neg h
/-- the list of an attribute, rewritten or hidden -/
theorem FRep.sub {f : Str} {xs : List D} : ∀ {fv : List (Str × V)} {fs : List (Str × Tf)} {rs : List Addr}, FRep K H fv fs rs → rs.Nodup → fs.lookup f = some (.ml xs) →
    ∃ a vs, fv.lookup f = some (.ref a) ∧ H a = some (.lst vs) ∧ FzAll K H vs xs ∧ a ∈ rs ∧
      (∀ (H' : Hp) (us : List V) (ys : List D), Pers H H' → (∀ c ∈ rs, c ≠ a → H' c = H c) → H' a = some (.lst us) → FzAll K H' us ys → FRep K H' fv (putO f (.ml ys) fs) rs) ∧
      ∃ rs', FRep K H fv (putO f (.hid a) fs) rs' ∧ rs'.Sublist rs ∧ a ∉ rs'
  | _, _, _, .nil, _, e => by cases e
  | _, _, _, .d (k := k) h r, n, e => by
    by_cases hk : k = f
    · subst hk; rw [lookup_cons_eq] at e; cases e
    · rw [lookup_cons_ne hk] at e ⊢
      obtain ⟨a, vs, z1, z2, z3, z4, z5, rs', z6, z7, z8⟩ := FRep.sub r n e
      refine ⟨a, vs, z1, z2, z3, z4, fun H' us ys p k' h1 h2 => ?_, rs', ?_, z7, z8⟩
      · rw [putO_cons_ne hk]; exact .d (h.pers p) (z5 H' us ys p k' h1 h2)
      · rw [putO_cons_ne hk]; exact .d h z6
  | _, _, _, .hid (k := k) r, n, e => by
    by_cases hk : k = f
    · subst hk; rw [lookup_cons_eq] at e; cases e
    · rw [lookup_cons_ne hk] at e ⊢
      obtain ⟨a, vs, z1, z2, z3, z4, z5, rs', z6, z7, z8⟩ := FRep.sub r n e
      refine ⟨a, vs, z1, z2, z3, z4, fun H' us ys p k' h1 h2 => ?_, rs', ?_, z7, z8⟩
      · rw [putO_cons_ne hk]; exact .hid (z5 H' us ys p k' h1 h2)
      · rw [putO_cons_ne hk]; exact .hid z6
  | _, _, _, .ml (k := k) (a := a') (rs := rs) e1 e2 r, n, e => by
    obtain ⟨n1, n2⟩ := List.nodup_cons.mp n
    by_cases hk : k = f
    · subst hk
      rw [lookup_cons_eq] at e
      cases e
      refine ⟨a', _, lookup_cons_eq, e1, e2, List.mem_cons_self, fun H' us ys p k' h1 h2 => ?_, rs, ?_, List.sublist_cons_self _ _, n1⟩
      · rw [putO_cons_eq]; exact .ml h1 h2 (r.keep p fun c hc => k' c (List.mem_cons_of_mem _ hc) fun z => n1 (z ▸ hc))
      · rw [putO_cons_eq]; exact .hid r
    · rw [lookup_cons_ne hk] at e ⊢
      obtain ⟨a, vs, z1, z2, z3, z4, z5, rs', z6, z7, z8⟩ := FRep.sub r n2 e
      have ne : a' ≠ a := fun z => n1 (z ▸ z4)
      refine ⟨a, vs, z1, z2, z3, List.mem_cons_of_mem _ z4, fun H' us ys p k' h1 h2 => ?_, _, ?_, z7.cons_cons _, fun z => ?_⟩
      · rw [putO_cons_ne hk]
        exact .ml ((k' a' List.mem_cons_self ne).trans e1) (e2.pers p) (z5 H' us ys p (fun c hc => k' c (List.mem_cons_of_mem _ hc)) h1 h2)
      · rw [putO_cons_ne hk]; exact .ml e1 e2 z6
      · rcases List.mem_cons.mp z with y | y
        · exact ne y.symm
        · exact z8 y
end
/-- a slot's thing in the place of another -/
theorem SRep.swap {K : KF} {H : Hp} : ∀ {σ : St} {g : Ga} {R : List Addr} {i : Nat} {t0 : Tv}, SRep K H σ g R → R.Nodup → g[i]? = some (some t0) →
    ∃ v rt0, σ[i]? = some (some v) ∧ TRep K H v t0 rt0 ∧ rt0.Nodup ∧ (∀ a ∈ rt0, a ∈ R) ∧
      ∀ (H' : Hp) (t : Tv) (rt : List Addr), Pers H H' → (∀ c ∈ R, c ∉ rt0 → H' c = H c) → TRep K H' v t rt → rt.Nodup → (∀ a ∈ rt, a ∈ rt0 ∨ a ∉ R) → ∃ R', SRep K H' σ (g.set i (some t)) R' ∧ R'.Nodup ∧ ∀ a ∈ R', (a ∈ R ∧ a ∉ rt0) ∨ a ∈ rt
  | _, _, _, _, _, .nil, _, e => by simp at e
  | _, _, _, 0, _, .skip h, _, e => by simp at e
  | _, _, _, i + 1, t0, .skip h, n, e => by
    obtain ⟨v, rt0, h1, h2, h3, h4, h5⟩ := SRep.swap (i := i) (t0 := t0) h n (by simpa using e)
    refine ⟨v, rt0, by simpa using h1, h2, h3, h4, fun H' t rt p k q nr sb => ?_⟩
    obtain ⟨R', z1, z2, z3⟩ := h5 H' t rt p k q nr sb
    exact ⟨R', .skip z1, z2, z3⟩
  | _, _, _, 0, _, .cons (rt := r1) (R := R1) t h, n, e => by
    simp at e
    subst e
    obtain ⟨n1, n2, n3⟩ := List.nodup_append.mp n
    refine ⟨_, r1, rfl, t, n1, fun a ha => List.mem_append_left _ ha, fun H' t' rt p k q nr sb => ?_⟩
    refine ⟨rt ++ R1, .cons q (h.keep p fun c hc => k c (List.mem_append_right _ hc) fun z => n3 c z c hc rfl), ?_, fun a ha => ?_⟩
    · refine List.nodup_append.mpr ⟨nr, n2, fun a ha b hb e => ?_⟩
      subst e
      rcases sb a ha with z | z
      · exact n3 a z a hb rfl
      · exact z (List.mem_append_right _ hb)
    · rcases List.mem_append.mp ha with z | z
      · exact .inr z
      · exact .inl ⟨List.mem_append_right _ z, fun y => n3 a y a z rfl⟩
  | _, _, _, i + 1, t0, .cons (rt := r1) (R := R1) t h, n, e => by
    obtain ⟨n1, n2, n3⟩ := List.nodup_append.mp n
    obtain ⟨v, rt0, h1, h2, h3, h4, h5⟩ := SRep.swap (i := i) (t0 := t0) h n2 (by simpa using e)
    refine ⟨v, rt0, by simpa using h1, h2, h3, fun a ha => List.mem_append_right _ (h4 a ha), fun H' t' rt p k q nr sb => ?_⟩
    obtain ⟨R', z1, z2, z3⟩ := h5 H' t' rt p (fun c hc => k c (List.mem_append_right _ hc)) q nr (fun a ha => (sb a ha).imp id fun z y => z (List.mem_append_right _ y))
    refine ⟨r1 ++ R', .cons (t.keep p fun c hc => k c (List.mem_append_left _ hc) fun z => n3 c hc c (h4 c z) rfl) z1, ?_, fun a ha => ?_⟩
    · refine List.nodup_append.mpr ⟨n1, z2, fun a ha b hb e => ?_⟩
      subst e
      rcases z3 a hb with ⟨y, _⟩ | y
      · exact n3 a ha a y rfl
      · rcases sb a y with x | x
        · exact n3 a ha a (h4 a x) rfl
        · exact x (List.mem_append_left _ ha)
    · rcases List.mem_append.mp ha with z | z
      · exact .inl ⟨List.mem_append_left _ z, fun y => n3 a z a (h4 a y) rfl⟩
      · exact (z3 a z).imp (fun y => ⟨List.mem_append_right _ y.1, y.2⟩) id
/-! ### expressions that hand over a thing -/
def GoN (K : KF) (σ : St) (R : List Addr) (H : Hp) (g g' : Ga) (v : V) (t : Tv) (H' : Hp) : Prop :=
  BorK g g' ∧ ∃ rt R', TRep K H' v t rt ∧ SRep K H' σ g' R' ∧ (rt ++ R').Nodup ∧ Ext R H H' ∧ New R H (rt ++ R')
def tN (K : KF) (W : WX) (m : M Tv) : TE := fun σ H Q => ∃ g R, SRep K H σ g R ∧ R.Nodup ∧ match m g with
  | .ok t g' => ∀ v H', GoN K σ R H g g' v t H' → Q v H'
  | .exc c g' => ∀ H', Go K σ R H g g' H' → W (.ref (He.ga K c)) none σ H'
  | .stuck => False
def RN (X : Cx) (W : WX) (e : Expr) (m : M Tv) : Prop := PE X e (tN X.KF W m)
section
variable {X : Cx} {W : WX} {e : Expr} {es : List Expr} {pos pos' np apos : Pos} {i : Nat} {x c : Str}
theorem setN_of {m : M Tv} {D : Ends} {σ : St} {H : Hp} (h : tS X.KF W (sSetO i m) D σ H) : tN X.KF W m σ H (fun x H1 => gName i x σ H1 D.nx) := by
  obtain ⟨g, R, s, n, h⟩ := h
  refine ⟨g, R, s, n, ?_⟩
  unfold sSetO bnd at h
  cases e : m g with
  | stuck => rw [e] at h; exact h
  | exc c g' => rw [e] at h; exact fun H' go => h σ H' go.s
  | ok t g1 =>
    rw [e] at h
    dsimp only at h
    intro v H' go
    obtain ⟨bk, rt, R', tr, s', n', e', w'⟩ := go
    by_cases hf : freeAt g1 i = true
    · rw [if_pos hf] at h
      obtain ⟨R2, s2, n2, m2⟩ := SRep.set tr i s' n'
      exact h _ _ ⟨bk.trans (borK_set hf), (Kp.refl g σ).trans bk (kp_set hf), R2, s2, n2, e', fun c hc => w' c (m2 c hc)⟩
    · rw [if_neg hf] at h
      exact h.elim
theorem r_setN {m : M Tv} (hN : X.N.Nodup) (he : RN X W e m) (hi : X.N[i]? = some x := by rfl) (hx : Loc X.env.scope x := by first | exact Or.inl rfl | exact Or.inr rfl) (hs : swapsWith e (some (.Name x pos')) pos.line X.env = pure false := by rfl)
    (hf : X.fn x = true ∨ X.env.scope.names.lookup x = some .local := by first | exact .inl rfl | exact .inr rfl) : RS X W (.Assign [.Name x pos'] e pos) (sSetO i m) :=
  PS.imp (ps_set hN hi hx he hs hf) fun D σ H h => setN_of h
def nL (m : M (List D)) : M Tv := bnd m fun xs g => .ok (.ml false xs) g
theorem r_nL {m : M (List D)} (h : RL X W e m) : RN X W e (nL m) := PE.imp h fun σ H Q h => by
  obtain ⟨g, R, s, n, h⟩ := h
  refine ⟨g, R, s, n, ?_⟩
  unfold nL bnd at h
  cases e : m g with
  | stuck => rw [e] at h; exact h
  | exc c g' => rw [e] at h; exact h
  | ok ys g' =>
    rw [e] at h
    intro p vs H' go
    obtain ⟨bk, hp, fa, R', s', n', e', w'⟩ := go
    exact h _ _ ⟨bk, [p], R', .ml hp fa, s', n', e', w'⟩
def nD (m : M D) : M Tv := bnd m fun x g => .ok (.d x) g
end
/-! ### defs that hand over a thing -/
inductive Rn where
  | ok (t : Tv)
  | exc (c : Str)
  | stuck
abbrev NF := List D → Rn
def spN (K : KF) (n : Nat) (f : NF) : Sp := fun vs H Q E => vs.length = n ∧ ∃ ds, FzAll K H vs ds ∧ match f ds with
  | .ok t => ∀ v H' rt, Same H H' → TRep K H' v t rt → rt.Nodup → (∀ a ∈ rt, H a = none) → Q v H'
  | .exc c => ∀ H', Same H H' → E (.ref (He.ga K c)) none H'
  | .stuck => False
def HasN (P : Program) (w : World) (K : PySem.W.Frag) (mg : Str → Option Value) (base : Heap) (k : Nat) (x : Str) (n : Nat) (f : NF) : Prop :=
  ∃ fa fd ps, FnOk P w K mg base (L2.CX P w) k fa fd ps (spN ⟨K, P, w⟩ n f) ∧ mg x = some (.ref fa) ∧ PySem.W.keepIn K (.ref fa) = true ∧ Binds K fd ps []
theorem HasN.mono {P : Program} {w : World} {K : PySem.W.Frag} {mg : Str → Option Value} {base : Heap} {j k : Nat} {x : Str} {n : Nat} {f : NF} (h : HasN P w K mg base j x n f) (hk : j ≤ k) : HasN P w K mg base k x n f := by
  obtain ⟨fa, fd, ps, F, r⟩ := h
  exact ⟨fa, fd, ps, F.mono hk, r⟩
section
variable {X : Cx} {W : WX} {e : Expr} {es : List Expr} {pos : Pos}
theorem new_go {K : KF} {σ : St} {H H' : Hp} {g : Ga} {R rt : List Addr} {v : V} {t : Tv} (s : SRep K H σ g R) (n : R.Nodup) (sm : Same H H') (tr : TRep K H' v t rt) (nr : rt.Nodup) (fr : ∀ a ∈ rt, H a = none) : GoN K σ R H g g v t H' := by
  refine ⟨BorK.refl g, rt, R, tr, s.same sm, List.nodup_append.mpr ⟨nr, n, fun a ha b hb e => ?_⟩, Ext.of_same sm, fun a ha => ?_⟩
  · subst e
    exact s.root_some a hb (fr a ha)
  · rcases List.mem_append.mp ha with z | z
    · exact .inr (fr a z)
    · exact .inl z
def eCallN0 (f : NF) : M Tv := fun g => match f [] with
  | .ok t => .ok t g
  | _ => .stuck
theorem r_callN0 {k : Nat} {x : Str} {f : NF} {p : Pos} (F : HasN X.prog X.w X.K X.mg X.base k x 0 f) (hr : Room k X.A) (hg : Gl X x := by rfl) (hdb : (x == ("__debug__" : Str)) = false := by decide) : RN X W (.Call (.Name x p) [] [] pos) (eCallN0 f) := by
  obtain ⟨fa, fd, ps, F, hm, hk, hb⟩ := F
  refine PE.imp (pe_call0 (dvs := []) F hr hg hm hk hb .nil passL hdb) fun σ H Q h => ⟨rfl, [], .nil, ?_⟩
  obtain ⟨g, R, s, n, h⟩ := h
  unfold eCallN0 at h
  cases ef : f [] with
  | stuck => rw [ef] at h; exact h
  | exc c => rw [ef] at h; exact h.elim
  | ok t => rw [ef] at h; exact fun v H' rt sm tr nr fr => h v H' (new_go s n sm tr nr fr)
/-! bodies that end by handing over a thing -/
def tSo (K : KF) (W : WX) (m : M Tv) : TS := fun D σ H => ∃ g R, SRep K H σ g R ∧ R.Nodup ∧ match m g with
  | .ok t _ => ∀ v H' rt, TRep K H' v t rt → rt.Nodup → Ext R H H' → New R H rt → D.rt v H'
  | .exc c g' => ∀ σ' H', GoS K g σ R H g' σ' H' → W (.ref (He.ga K c)) none σ' H'
  | .stuck => False
def RSo (X : Cx) (W : WX) (st : List Stmt) (m : M Tv) : Prop := PSs X st (tSo X.KF W m)
theorem r_retN' {m : M Tv} (h : RN X W e m) : RSo X W [.Return (some e) pos] m := PSs.imp (pss_one (ps_ret h)) fun D σ H h => by
  obtain ⟨g, R, s, n, h⟩ := h
  refine ⟨g, R, s, n, ?_⟩
  cases e : m g with
  | stuck => rw [e] at h; exact h
  | exc c g' => rw [e] at h; exact fun H' go => h σ H' go.s
  | ok t g' =>
    rw [e] at h
    intro v H' go
    obtain ⟨bk, rt, R', tr, s', n', e', w'⟩ := go
    exact h v H' rt tr (List.nodup_append.mp n').1 e' fun a ha => w' a (List.mem_append_left _ ha)
def sSeqN (m : M Fl) (k : M Tv) : M Tv := fun g => match m g with
  | .ok .nx g' => k g'
  | .ok _ _ => .stuck
  | .exc c g' => .exc c g'
  | .stuck => .stuck
theorem go_so {K : KF} {g g1 : Ga} {σ σ1 : St} {R R1 : List Addr} {H H1 : Hp} {m : M Tv} {D : Ends} (b1 : BorK g g1) (k1 : Kp g σ σ1) (e1 : Ext R H H1) (w1 : New R H R1) (s1 : SRep K H1 σ1 g1 R1) (n1 : R1.Nodup)
    (h : match m g1 with
      | .ok t _ => ∀ v H' rt, TRep K H' v t rt → rt.Nodup → Ext R H H' → New R H rt → D.rt v H'
      | .exc c g' => ∀ σ' H', GoS K g σ R H g' σ' H' → W (.ref (He.ga K c)) none σ' H'
      | .stuck => False) : tSo K W m D σ1 H1 := by
  refine ⟨g1, R1, s1, n1, ?_⟩
  cases e2 : m g1 with
  | stuck => rw [e2] at h; exact h
  | exc c g' => rw [e2] at h; exact fun σ' H' go => h σ' H' (go.then b1 k1 e1 w1)
  | ok a g' => rw [e2] at h; exact fun v H' rt tr nr ex nw => h v H' rt tr nr (e1.trans w1 ex) (New.trans e1 w1 nw)
theorem r_seqN {st : Stmt} {rest : List Stmt} {m : M Fl} {k : M Tv} (h1 : RS X W st m) (h2 : RSo X W rest k) : RSo X W (st :: rest) (sSeqN m k) := PSs.imp (pss_cons h1 h2) fun D σ H h => by
  obtain ⟨g, R, s, n, h⟩ := h
  refine ⟨g, R, s, n, ?_⟩
  unfold sSeqN at h
  cases e : m g with
  | stuck => rw [e] at h; exact h
  | exc c g' => rw [e] at h; exact h
  | ok f g1 =>
    rw [e] at h
    cases f with
    | brk => exact h.elim
    | cnt => exact h.elim
    | ret x => exact h.elim
    | nx =>
      intro σ1 H1 go
      obtain ⟨b1, k1, R1, s1, n1, e1, w1⟩ := go
      exact go_so b1 k1 e1 w1 s1 n1 h
end
def runN (k : Nat) (m : M Tv) : NF := fun ds => match m (dsG ds k) with
  | .ok t _ => .ok t
  | .exc c _ => .exc c
  | .stuck => .stuck
section
variable {P : Program} {w : World} {K : PySem.W.Frag} {mg : Str → Option Value} {base : Heap}
theorem fn_new {x qual : Str} {params : Arguments} {body : List Stmt} {scope : Scope} {f : Addr} {fd : FuncData} {N ps : List Str} {k : Nat} {m : M Tv} (F : FunD K x qual params body scope [] [] f fd) (S : FnScope N ps scope)
    (hb : ∀ (X : Cx) (E : XK), X.prog = P → X.w = w → X.K = K → X.mg = mg → X.base = base → X.N = N → X.env.scope = scope → X.calm = true → X.fn = (fun _ => true) → X.stack = X.env :: X.outer → X.env.frame = some X.env.locals → Room k X.A → Takes X (WD E) → PassesOwn (model X.prog X.w) X.A X.env X.xe → RSo X (WD E) body m) :
    FnOk P w K mg base (L2.CX P w) (k + 1) f fd ps (spN ⟨K, P, w⟩ ps.length (runN N.length m)) := by
  refine F.ok S (fun vs H Q E h => h.1) fun cdv A outer s H vs Q E hr h => ?_
  obtain ⟨hl, ds, fa, h⟩ := h
  refine ⟨_, hb _ E rfl rfl rfl rfl rfl rfl rfl rfl rfl rfl rfl hr (takes_of rfl rfl rfl rfl) (passes_of rfl), dsG ds N.length, [], start_ds fa, List.nodup_nil, ?_⟩
  unfold runN at h
  have sm : ∀ {H' : Hp}, Ext [] H H' → Same H H' := fun {H'} e b o h => e b o h (by simp)
  show match m (dsG ds N.length) with
    | .ok t _ => ∀ v H' rt, TRep ⟨K, P, w⟩ H' v t rt → rt.Nodup → Ext [] H H' → New [] H rt → Q v H'
    | .exc c g' => ∀ σ' H', GoS ⟨K, P, w⟩ (dsG ds N.length) (start N vs) [] H g' σ' H' → E (.ref (He.ga K c)) none H'
    | .stuck => False
  cases e : m (dsG ds N.length) with
  | stuck => rw [e] at h; exact h
  | exc c g' => rw [e] at h; exact fun σ' H' go => h H' (sm (go.2.2.elim fun R' z => z.2.2.1))
  | ok t g' =>
    rw [e] at h
    exact fun v H' rt tr nr ex nw => h v H' rt (sm ex) tr nr fun a ha => (nw a ha).resolve_left (by simp)
end
/-! ### defs and methods that get an object of the caller's -/
inductive Ro where
  | ok (x : D) (fs : List (Str × Tf))
  | exc (c : Str) (fs : List (Str × Tf))
  | stuck
abbrev OF := List D → List (Str × Tf) → List D → Ro
theorem TRep.ref {K : KF} {H : Hp} {v : V} {b : Bool} {c : Str} {fs : List (Str × Tf)} {rt : List Addr} (h : TRep K H v (.ob b c fs) rt) : ∃ p dx fv rs, v = .ref p ∧ rt = p :: dx :: rs ∧ H p = some (.ins (He.ga K c) dx fv) ∧ FRep K H fv fs rs := by
  cases h with
  | ob e1 e2 e3 => exact ⟨_, _, _, _, rfl, rfl, e1, e3⟩
def spO (K : KF) (c : Str) (np nq : Nat) (f : OF) : Sp := fun vs H Q E => ∃ us o ws rt xs fs ys, vs = us ++ o :: ws ∧ us.length = np ∧ ws.length = nq ∧ FzAll K H us xs ∧ TRep K H o (.ob true c fs) rt ∧ rt.Nodup ∧ FzAll K H ws ys ∧ match f xs fs ys with
  | .ok x fs' => ∀ v H' rt', Ext rt H H' → TRep K H' o (.ob true c fs') rt' → rt'.Nodup → New rt H rt' → Fz K H' v x → Q v H'
  | .exc c' fs' => ∀ H' rt', Ext rt H H' → TRep K H' o (.ob true c fs') rt' → rt'.Nodup → New rt H rt' → E (.ref (He.ga K c')) none H'
  | .stuck => False
def HasO (P : Program) (w : World) (K : PySem.W.Frag) (mg : Str → Option Value) (base : Heap) (k : Nat) (x c : Str) (np nq : Nat) (f : OF) : Prop :=
  ∃ fa fd ps, FnOk P w K mg base (L2.CX P w) k fa fd ps (spO ⟨K, P, w⟩ c np nq f) ∧ mg x = some (.ref fa) ∧ PySem.W.keepIn K (.ref fa) = true ∧ Binds K fd ps []
/-- the method m of the class c -/
def HasM (P : Program) (w : World) (K : PySem.W.Frag) (mg : Str → Option Value) (base : Heap) (k : Nat) (c m : Str) (nq : Nat) (f : OF) : Prop :=
  ∃ fa fd ps, FnOk P w K mg base (L2.CX P w) k fa fd ps (spO ⟨K, P, w⟩ c 0 nq f) ∧ Meth K (He.ga K c) m fa ∧ Binds K fd ps []
theorem HasO.mono {P : Program} {w : World} {K : PySem.W.Frag} {mg : Str → Option Value} {base : Heap} {j k : Nat} {x c : Str} {np nq : Nat} {f : OF} (h : HasO P w K mg base j x c np nq f) (hk : j ≤ k) : HasO P w K mg base k x c np nq f := by
  obtain ⟨fa, fd, ps, F, r⟩ := h
  exact ⟨fa, fd, ps, F.mono hk, r⟩
theorem HasM.mono {P : Program} {w : World} {K : PySem.W.Frag} {mg : Str → Option Value} {base : Heap} {j k : Nat} {c m : Str} {nq : Nat} {f : OF} (h : HasM P w K mg base j c m nq f) (hk : j ≤ k) : HasM P w K mg base k c m nq f := by
  obtain ⟨fa, fd, ps, F, r⟩ := h
  exact ⟨fa, fd, ps, F.mono hk, r⟩
/-! ### for .. in enumerate(o.f): the list is hidden meanwhile -/
def putG (g : Ga) (i : Nat) (f : Str) (t : Tf) : Ga := match g[i]? with
  | some (some (.ob b c fs)) => g.set i (some (.ob b c (putO f t fs)))
  | _ => g
/-! ### dicts of one's own, keys tuples of ints: x[k], k not in x, x[k] = e -/
section
variable {X : Cx} {W : WX} {ek e : Expr} {mk me : M D} {pos : Pos}
theorem DKT.none {K : KF} {H : Hp} {ks : List Key} {vs : List (List Key × V)} {ds : List (D × D)} (h : DKT K H vs ds) : tGet ds ks = .none → valV vs ks = .none := by
  induction h with
  | nil => intro _; rfl
  | @cons k1 v1 d1 vs ds _ f1 _ ih =>
    intro e
    unfold tGet at e
    rw [List.find?_cons, tk_dec] at e
    by_cases hk : k1 = ks
    · subst hk
      simp at e
    · rw [decide_eq_false hk] at e
      rw [valV_neg hk]
      exact ih e
end
/-! ### defs that change one dict of the caller's -/
inductive Rt where
  | ok (x : D) (zs : List (D × D))
  | exc (c : Str) (zs : List (D × D))
  | stuck
abbrev TF := List D → List (D × D) → List D → Rt
def spT (K : KF) (np nq : Nat) (f : TF) : Sp := fun vs H Q E => ∃ us p ws lv xs zs ys, vs = us ++ .ref p :: ws ∧ us.length = np ∧ ws.length = nq ∧ FzAll K H us xs ∧ H p = some (.dT lv) ∧ DKT K H lv zs ∧ FzAll K H ws ys ∧ match f xs zs ys with
  | .ok x zs' => ∀ v H' lv', Ext [p] H H' → H' p = some (.dT lv') → DKT K H' lv' zs' → Fz K H' v x → Q v H'
  | .exc c zs' => ∀ H' lv', Ext [p] H H' → H' p = some (.dT lv') → DKT K H' lv' zs' → E (.ref (He.ga K c)) none H'
  | .stuck => False
def HasT (P : Program) (w : World) (K : PySem.W.Frag) (mg : Str → Option Value) (base : Heap) (k : Nat) (x : Str) (np nq : Nat) (f : TF) : Prop :=
  ∃ fa fd ps, FnOk P w K mg base (L2.CX P w) k fa fd ps (spT ⟨K, P, w⟩ np nq f) ∧ mg x = some (.ref fa) ∧ PySem.W.keepIn K (.ref fa) = true ∧ Binds K fd ps []
theorem HasT.mono {P : Program} {w : World} {K : PySem.W.Frag} {mg : Str → Option Value} {base : Heap} {j k : Nat} {x : Str} {np nq : Nat} {f : TF} (h : HasT P w K mg base j x np nq f) (hk : j ≤ k) : HasT P w K mg base k x np nq f := by
  obtain ⟨fa, fd, ps, F, r⟩ := h
  exact ⟨fa, fd, ps, F.mono hk, r⟩
end PP
namespace PP
open PySem PySem.Calls PySem.W PySem.Spec L2
open PyProof.Rows hiding St
/-! ### dicts, keys any tuples of ints and texts -/
inductive DKF (K : KF) (H : Hp) : List Rw3 → List (D × D) → Prop
  | nil : DKF K H [] []
  | cons {k : List Key} {b : Addr} {u : Value} {v : V} {d : D} {xs : List Rw3} {L : List (D × D)} : FT H b (k.map kV) → RelV v u → Fz K H v d → DKF K H xs L → DKF K H ((k, b, u) :: xs) ((.tuple (k.map kD), d) :: L)
section
variable {K : KF} {H H' : Hp}
theorem DKF.pers {xs : List Rw3} {L : List (D × D)} (h : DKF K H xs L) (p : Pers H H') : DKF K H' xs L := by
  induction h with
  | nil => exact .nil
  | cons k r f _ ih => exact .cons (k.pers p) r (f.pers p) ih
theorem DKF.app {xs ys : List Rw3} {L M : List (D × D)} (h : DKF K H xs L) (h2 : DKF K H ys M) : DKF K H (xs ++ ys) (L ++ M) := by
  induction h with
  | nil => exact h2
  | cons k r f _ ih => exact .cons k r f ih
theorem DKF.len {xs : List Rw3} {L : List (D × D)} (h : DKF K H xs L) : xs.length = L.length := by
  induction h with
  | nil => rfl
  | cons k r f _ ih => rw [List.length_cons, List.length_cons, ih]
theorem atKey_pos {x : Rw3} {xs : List Rw3} {ks : List Key} (h : x.1 = ks) : atKey (x :: xs) ks = some x.2 := by
  unfold atKey
  rw [List.find?_cons, decide_eq_true h]
  rfl
theorem atKey_neg {x : Rw3} {xs : List Rw3} {ks : List Key} (h : x.1 ≠ ks) : atKey (x :: xs) ks = atKey xs ks := by
  unfold atKey
  rw [List.find?_cons, decide_eq_false h]
theorem DKF.any {ks : List Key} {xs : List Rw3} {L : List (D × D)} (h : DKF K H xs L) : (atKey xs ks).isSome = L.any fun p => decide (tkD p.1 = some ks) := by
  induction h with
  | nil => rfl
  | @cons k1 b1 u1 v1 d1 xs L k r f _ ih =>
    rw [List.any_cons, tk_dec]
    by_cases hk : k1 = ks
    · rw [atKey_pos hk, decide_eq_true hk]
      rfl
    · rw [atKey_neg hk, decide_eq_false hk, Bool.false_or, ih]
theorem DKF.put {ks : List Key} {b : Addr} {v : V} {u : Value} {d : D} {xs : List Rw3} {L : List (D × D)} (h : DKF K H xs L) (hb : FT H b (ks.map kV)) (r : RelV v u) (f : Fz K H v d) : DKF K H (storedH xs ks b u) (putT L ks d) := by
  unfold storedH putT
  rw [h.any]
  split
  · rename_i hh
    clear hh
    induction h with
    | nil => exact .nil
    | @cons k1 b1 u1 v1 d1 xs L hk1 r1 f1 _ ih =>
      rw [List.map_cons, List.map_cons]
      unfold putAt
      by_cases hk : k1 = ks
      · rw [if_pos hk, if_pos (by rw [tk_tup, hk])]
        exact .cons hk1 r f ih
      · rw [if_neg hk, if_neg (by rw [tk_tup]; exact fun z => hk (Option.some.inj z))]
        exact .cons hk1 r1 f1 ih
  · exact h.app (.cons hb r f .nil)
theorem DKF.to {xs : List Rw3} {L : List (D × D)} (h : DKF K H xs L) : ∃ vs ds, (∀ x ∈ xs, FT H x.2.1 (x.1.map kV)) ∧ Vals vs (xs.map (·.2.2)) ∧ FzAll K H vs ds ∧ L = (xs.map fun x => PyData.tuple (x.1.map kD)).zip ds := by
  induction h with
  | nil => exact ⟨[], [], (by intro x hx; cases hx), .nil, .nil, rfl⟩
  | cons k r f _ ih =>
    obtain ⟨vs, ds, h1, h2, h3, h4⟩ := ih
    refine ⟨_ :: vs, _ :: ds, fun x hx => ?_, .cons r h2, .cons f h3, by rw [List.map_cons, List.zip_cons_cons, h4]⟩
    rcases List.mem_cons.mp hx with rfl | hx
    · exact k
    · exact h1 x hx
theorem DKF.of : ∀ {xs : List Rw3} {vs : List V} {ds : List D}, (∀ x ∈ xs, FT H x.2.1 (x.1.map kV)) → Vals vs (xs.map (·.2.2)) → FzAll K H vs ds → DKF K H xs ((xs.map fun x => PyData.tuple (x.1.map kD)).zip ds)
  | [], _, _, _, _, _ => .nil
  | (k, b, u) :: xs, _, _, h, .cons r rs, .cons f fs => .cons (h _ List.mem_cons_self) r f (DKF.of (fun x hx => h x (List.mem_cons_of_mem _ hx)) rs fs)
theorem DKF.get {ks : List Key} {y : D} {xs : List Rw3} {L : List (D × D)} (h : DKF K H xs L) : tGet L ks = some y → ∃ p v, atKey xs ks = some p ∧ RelV v p.2 ∧ Fz K H v y := by
  intro e
  obtain ⟨vs, ds, h1, h2, h3, rfl⟩ := h.to
  exact dF_get h2 h3 e
end
/-! ### what the object of such a dict is -/
section
variable {X : Cx} {pins : List (Addr × Obj)} {σ : L2.St} {H : Hp} {s : Shared} {Q : V → Hp → Prop}
/-! ### dict(x), x a list of pairs, the first of each a tuple -/
inductive DRw (K : KF) (H : Hp) (h : Heap) : List Addr → List Rw3 → List (List Key × D) → Prop
  | nil : DRw K H h [] [] []
  | cons {t b : Addr} {k : List Key} {u : Value} {v : V} {d : D} {ts : List Addr} {xs : List Rw3} {ps : List (List Key × D)} : PairAt h t (.ref b) u → FT H b (k.map kV) → RelV v u → Fz K H v d → DRw K H h ts xs ps → DRw K H h (t :: ts) ((k, b, u) :: xs) ((k, d) :: ps)
theorem DRw.len {K : KF} {h : Heap} {ts : List Addr} {xs : List Rw3} {ps : List (List Key × D)} (r : DRw K H h ts xs ps) : xs.length = ts.length := by
  induction r with
  | nil => rfl
  | cons _ _ _ _ _ ih => rw [List.length_cons, List.length_cons, ih]
theorem DRw.at {K : KF} {h : Heap} {ts : List Addr} {xs : List Rw3} {ps : List (List Key × D)} (r : DRw K H h ts xs ps) : ∀ (j : Nat) (x : Rw3), xs[j]? = some x → ∃ t, ts[j]? = some t ∧ PairAt h t (.ref x.2.1) x.2.2 := by
  induction r with
  | nil => intro j x e; simp at e
  | @cons t b k u v d ts xs ps p _ _ _ _ ih =>
    intro j x e
    cases j with
    | zero => cases e; exact ⟨t, rfl, p⟩
    | succ j =>
      obtain ⟨t', h1, h2⟩ := ih j x (by simpa using e)
      exact ⟨t', by simpa using h1, h2⟩
def putAllP (L : List (D × D)) (ps : List (List Key × D)) : List (D × D) := ps.foldl (fun L p => putT L p.1 p.2) L
theorem DRw.put {K : KF} {h : Heap} {ts : List Addr} {xs : List Rw3} {ps : List (List Key × D)} (r : DRw K H h ts xs ps) : ∀ {ys : List Rw3} {L : List (D × D)}, DKF K H ys L → DKF K H (storedAllH ys xs) (putAllP L ps) := by
  induction r with
  | nil => intro ys L h; exact h
  | cons _ k rv f _ ih => intro ys L h; exact ih (h.put k rv f)
end
/-! ### dicts of one's own, keys ints and texts: {}, x[k], x[k] = e -/
inductive DKK (K : KF) (H : Hp) : List (Key × V) → List (D × D) → Prop
  | nil : DKK K H [] []
  | cons {k : Key} {v : V} {d : D} {vs : List (Key × V)} {ds : List (D × D)} : Fz K H v d → DKK K H vs ds → DKK K H ((k, v) :: vs) ((kD k, d) :: ds)
def putKD (kvs : List (D × D)) (k : Key) (y : D) : List (D × D) :=
  if (kvs.any fun p => decide (keyD p.1 = some k)) = true then kvs.map (fun p => if keyD p.1 = some k then (p.1, y) else p) else kvs ++ [(kD k, y)]
def kGet (kvs : List (D × D)) (k : Key) : Option D := (kvs.find? fun p => decide (keyD p.1 = some k)).map (·.2)
section
variable {K : KF} {H H' : Hp}
theorem DKK.pers {vs : List (Key × V)} {ds : List (D × D)} (h : DKK K H vs ds) (p : Pers H H') : DKK K H' vs ds := by
  induction h with
  | nil => exact .nil
  | cons f _ ih => exact .cons (f.pers p) ih
theorem DKK.append {vs ws : List (Key × V)} {ds es : List (D × D)} (h : DKK K H vs ds) (h2 : DKK K H ws es) : DKK K H (vs ++ ws) (ds ++ es) := by
  induction h with
  | nil => exact h2
  | cons f _ ih => exact .cons f ih
theorem DKK.length {vs : List (Key × V)} {ds : List (D × D)} (h : DKK K H vs ds) : vs.length = ds.length := by
  induction h with
  | nil => rfl
  | cons f _ ih => rw [List.length_cons, List.length_cons, ih]
theorem kd_dec (k ks : Key) : decide (keyD (kD k) = some ks) = decide (k = ks) := by
  rw [keyD_kD]
  by_cases h : k = ks
  · rw [decide_eq_true h, decide_eq_true (by rw [h])]
  · rw [decide_eq_false h, decide_eq_false (fun z => h (Option.some.inj z))]
theorem DKK.any {ks : Key} {vs : List (Key × V)} {ds : List (D × D)} (h : DKK K H vs ds) : (vs.any fun kv => decide (kv.1 = ks)) = ds.any fun p => decide (keyD p.1 = some ks) := by
  induction h with
  | nil => rfl
  | cons f _ ih => rw [List.any_cons, List.any_cons, ih, kd_dec]
theorem DKK.put {ks : Key} {v : V} {d : D} {vs : List (Key × V)} {ds : List (D × D)} (h : DKK K H vs ds) (f : Fz K H v d) : DKK K H (putK vs ks v) (putKD ds ks d) := by
  unfold putK putKD
  rw [h.any]
  split
  · rename_i hh
    clear hh
    induction h with
    | nil => exact .nil
    | @cons k1 v1 d1 vs ds f1 _ ih =>
      rw [List.map_cons, List.map_cons]
      by_cases hk : k1 = ks
      · rw [if_pos hk, if_pos (by rw [keyD_kD, hk])]
        exact .cons f ih
      · rw [if_neg hk, if_neg (by rw [keyD_kD]; exact fun z => hk (Option.some.inj z))]
        exact .cons f1 ih
  · exact h.append (.cons f .nil)
theorem DKK.get {ks : Key} {y : D} {vs : List (Key × V)} {ds : List (D × D)} (h : DKK K H vs ds) : kGet ds ks = some y → ∃ v, valV vs ks = some v ∧ Fz K H v y := by
  induction h with
  | nil => intro e; simp [kGet] at e
  | @cons k1 v1 d1 vs ds f1 _ ih =>
    intro e
    unfold kGet at e
    rw [List.find?_cons, kd_dec] at e
    by_cases hk : k1 = ks
    · subst hk
      simp only [decide_true] at e
      cases e
      exact ⟨v1, valV_pos rfl, f1⟩
    · rw [decide_eq_false hk] at e
      obtain ⟨v, e1, e2⟩ := ih e
      exact ⟨v, by rw [valV_neg hk]; exact e1, e2⟩
theorem DKK.of {kvs : List (Key × V)} : ∀ {ds : List D}, FzAll K H (kvs.map (·.2)) ds → DKK K H kvs ((kvs.map fun p => kD p.1).zip ds) := by
  induction kvs with
  | nil => intro ds h; exact .nil
  | cons p r ih =>
    intro ds h
    cases h with
    | cons f fa => exact .cons f (ih fa)
theorem DKK.to {kvs : List (Key × V)} {L : List (D × D)} (h : DKK K H kvs L) : ∃ ds, FzAll K H (kvs.map (·.2)) ds ∧ L = (kvs.map fun p => kD p.1).zip ds := by
  induction h with
  | nil => exact ⟨[], .nil, rfl⟩
  | cons f _ ih =>
    obtain ⟨ds, h1, h2⟩ := ih
    exact ⟨_ :: ds, .cons f h1, by rw [List.map_cons, List.zip_cons_cons, h2]⟩
end
end PP
namespace PP
open PySem PySem.Spec L2
open PyProof.Rows hiding St
/-! ### {k: v for ..} as a frozen dict: as dict([(k, v) for ..]), keys ints and texts -/
theorem GoO.frz {K : KF} {σ : St} {R : List Addr} {H : Hp} {g g' : Ga} {p : Addr} {t : Tv} {H' : Hp} {x : D} (h : GoO K σ R H g g' p t H') (ef : frzT t = some x) :
    ∃ u, H' p = some u ∧ Mut (some u) ∧ ∀ o, Go K σ R H g g' (L2.upd H' p (.frz o u)) ∧ Fz K (L2.upd H' p (.frz o u)) (.ref p) x := by
  obtain ⟨bk, tr, R', s, n, e, w⟩ := h
  obtain ⟨u, hu, mu, fu, hz⟩ := tr.frz ef
  refine ⟨u, hu, mu, fun o => ?_⟩
  have pe : Pers H' (L2.upd H' p (.frz o u)) := fun c u' hu' hf => by
    rw [upd_ne]
    · exact hu'
    · rintro rfl
      rw [hu] at hu'
      cases hu'
      rw [fu] at hf
      cases hf
  obtain ⟨n1, n2⟩ := List.nodup_cons.mp n
  refine ⟨⟨bk, R', s.keep pe fun a ha => upd_ne (fun z => n1 (z ▸ ha)), n2, fun a u hu ha => ?_, fun a ha => w a (List.mem_cons_of_mem _ ha)⟩, hz _ _ pe upd_same⟩
  rw [upd_ne]
  · exact e a u hu ha
  · rintro rfl
    rcases w _ List.mem_cons_self with z | z
    · exact ha z
    · rename_i hu0 _
      first | (rw [z] at hu0; cases hu0) | (rename_i h1; rw [z] at h1; cases h1)
/-! ### +, - and str of a bool -/
def boolI (a : Bool) : Int := if a = true then 1 else 0
def addBD : D → D → Option D
  | .bool a, .int j => some (.int (boolI a + j))
  | x, y => addD x y
def subBD : D → D → Option D
  | .bool a, .int j => some (.int (boolI a - j))
  | x, y => subD x y
def strBD : List D → Option D
  | [.bool a] => some (.str (if a = true then "True" else "False"))
  | xs => strD xs
section
variable {X : Cx}
theorem o_addB : OpR X (binaryOp .Add) (rO2 X.KF addBD) := by
  intro pins s σ H x y v u Q I rx ry h
  obtain ⟨dx, dy, fx, fy, c, e, q⟩ := id h
  unfold addBD at e
  split at e
  · cases fx
    cases fy
    cases e
    cases rx
    obtain ⟨t, rfl⟩ := ry
    exact PySem.IntBool.add_bool_int ⟨.int _, H, I.tok _, ⟨_, rfl⟩, q _ _ (Same.refl _) (.int _)⟩
  · exact o_add pins s σ H x y v u Q I rx ry ⟨dx, dy, fx, fy, c, e, q⟩
theorem o_subB : OpR X (binaryOp .Sub) (rO2 X.KF subBD) := by
  intro pins s σ H x y v u Q I rx ry h
  obtain ⟨dx, dy, fx, fy, c, e, q⟩ := id h
  unfold subBD at e
  split at e
  · cases fx
    cases fy
    cases e
    cases rx
    obtain ⟨t, rfl⟩ := ry
    exact PySem.IntBool.sub_bool_int ⟨.int _, H, I.tok _, ⟨_, rfl⟩, q _ _ (Same.refl _) (.int _)⟩
  · exact o_sub pins s σ H x y v u Q I rx ry ⟨dx, dy, fx, fy, c, e, q⟩
theorem c_strB : CallR X (.type "str") (rOA X.KF strBD) := by
  intro pins s σ H xs us Q I r h
  obtain ⟨ds, fa, c, e, q⟩ := id h
  unfold strBD at e
  split at e
  · cases fa with | cons f fa => 
      cases fa
      cases f with | bl i =>
        cases e
        cases r with | cons r1 r2 =>
          cases r2
          cases r1
          exact PySem.P.str_of_bool ⟨.str _, H, I.tok _, ⟨_, rfl⟩, q _ _ (Same.refl _) (.str _)⟩
  · exact c_str pins s σ H xs us Q I r ⟨ds, fa, c, e, q⟩
end
end PP
namespace PP
open PySem PySem.Spec
/-! ### direct code -/
inductive T (α : Type) where
  | ok (a : α)
  | exc (c : Str)
  | stuck
namespace T
def bind {α β : Type} (t : T α) (f : α → T β) : T β := match t with
  | .ok a => f a
  | .exc c => .exc c
  | .stuck => .stuck
def ofO {α : Type} (o : Option α) : T α := match o with
  | some a => .ok a
  | none => .stuck
def ofRx (r : Rx) : T D := match r with
  | .ok x => .ok x
  | .exc c => .exc c
  | .stuck => .stuck
def ofRb (r : Rb) : T (D × List D) := match r with
  | .ok x zs => .ok (x, zs)
  | .exc c _ => .exc c
  | .stuck => .stuck
@[simp] theorem ok_bind {α β : Type} (a : α) (f : α → T β) : (T.ok a).bind f = f a := rfl
@[simp] theorem exc_bind {α β : Type} (c : Str) (f : α → T β) : (T.exc c : T α).bind f = .exc c := rfl
@[simp] theorem ofO_some {α : Type} (a : α) : ofO (some a) = .ok a := rfl
@[simp] theorem ofRx_ok (x : D) : ofRx (.ok x) = .ok x := rfl
@[simp] theorem ofRx_exc (c : Str) : ofRx (.exc c) = .exc c := rfl
@[simp] theorem ofRb_ok (x : D) (zs : List D) : ofRb (.ok x zs) = .ok (x, zs) := rfl
end T
/-- flows -/
inductive Fw (σ β ρ : Type) where
  | nx (s : σ)
  | brk (s : β)
  | ret (r : ρ)
def T.bindF {σ σ' β ρ : Type} (t : T (Fw σ β ρ)) (f : σ → T (Fw σ' β ρ)) : T (Fw σ' β ρ) := match t with
  | .ok (.nx s) => f s
  | .ok (.brk s) => .ok (.brk s)
  | .ok (.ret r) => .ok (.ret r)
  | .exc c => .exc c
  | .stuck => .stuck
def T.bindR {σ β ρ : Type} (t : T (Fw σ β ρ)) (f : σ → T ρ) : T ρ := match t with
  | .ok (.nx s) => f s
  | .ok (.brk _) => .stuck
  | .ok (.ret r) => .ok r
  | .exc c => .exc c
  | .stuck => .stuck
@[simp] theorem T.bindF_nx {σ σ' β ρ : Type} (s : σ) (f : σ → T (Fw σ' β ρ)) : T.bindF (.ok (.nx s)) f = f s := rfl
@[simp] theorem T.bindF_ret {σ σ' β ρ : Type} (r : ρ) (f : σ → T (Fw σ' β ρ)) : T.bindF (.ok (.ret r)) f = .ok (.ret r) := rfl
@[simp] theorem T.bindF_brk {σ σ' β ρ : Type} (s : β) (f : σ → T (Fw σ' β ρ)) : T.bindF (.ok (.brk s)) f = .ok (.brk s) := rfl
@[simp] theorem T.bindR_nx {σ β ρ : Type} (s : σ) (f : σ → T ρ) : T.bindR (β := β) (.ok (.nx s)) f = f s := rfl
@[simp] theorem T.bindR_ret {σ β ρ : Type} (r : ρ) (f : σ → T ρ) : T.bindR (β := β) (.ok (.ret r)) f = .ok r := rfl
def T.tup2 {α : Type} (x : D) (f : D → D → T α) : T α := match x with
  | .tuple [a, b] => f a b
  | _ => .stuck
def T.tup3 {α : Type} (x : D) (f : D → D → D → T α) : T α := match x with
  | .tuple [a, b, c] => f a b c
  | _ => .stuck
def T.tup4 {α : Type} (x : D) (f : D → D → D → D → T α) : T α := match x with
  | .tuple [a, b, c, d] => f a b c d
  | _ => .stuck
@[simp] theorem T.tup2_mk {α : Type} (a b : D) (f : D → D → T α) : T.tup2 (.tuple [a, b]) f = f a b := rfl
@[simp] theorem T.tup3_mk {α : Type} (a b c : D) (f : D → D → D → T α) : T.tup3 (.tuple [a, b, c]) f = f a b c := rfl
@[simp] theorem T.tup4_mk {α : Type} (a b c d : D) (f : D → D → D → D → T α) : T.tup4 (.tuple [a, b, c, d]) f = f a b c d := rfl
/-- loops -/
def forN {σ : Type} : List D → σ → (σ → D → T σ) → T σ
  | [], s, _ => .ok s
  | x :: r, s, f => (f s x).bind fun s' => forN r s' f
def forF {σ β ρ : Type} : List D → σ → (σ → D → T (Fw σ σ ρ)) → T (Fw σ β ρ)
  | [], s, _ => .ok (.nx s)
  | x :: r, s, f => match f s x with
    | .ok (.nx s') => forF r s' f
    | .ok (.brk s') => .ok (.nx s')
    | .ok (.ret v) => .ok (.ret v)
    | .exc c => .exc c
    | .stuck => .stuck
/-- comprehensions -/
def mapT (f : D → T D) : List D → T (List D)
  | [] => .ok []
  | x :: r => match f x with
    | .ok y => (match mapT f r with
      | .ok ys => .ok (y :: ys)
      | _ => .stuck)
    | _ => .stuck
def filT (f : D → T (Option D)) : List D → T (List D)
  | [] => .ok []
  | x :: r => match f x with
    | .ok (some y) => (match filT f r with
      | .ok ys => .ok (y :: ys)
      | _ => .stuck)
    | .ok none => (match filT f r with
      | .ok ys => .ok ys
      | _ => .stuck)
    | _ => .stuck
def lenT {α : Type} (xs : List D) (t : T α) : T α := if xs.length ≤ sizeLine then t else .stuck
theorem lenT_ok {α : Type} {xs : List D} {t : T α} (h : xs.length ≤ sizeLine) : lenT xs t = t := if_pos h
def hT (c : Str) : List Hd → T D
  | [] => .exc c
  | (_, tb, z) :: r => match tb.lookup c with
    | some true => .ok (.str z)
    | some false => hT c r
    | none => .stuck
def tryT (hs : List Hd) (t : T D) : T D := match t with
  | .exc c => hT c hs
  | r => r
@[simp] theorem tryT_ok (hs : List Hd) (x : D) : tryT hs (.ok x) = .ok x := rfl
@[simp] theorem tryT_exc (hs : List Hd) (c : Str) : tryT hs (.exc c) = hT c hs := rfl
/-! ### slots by pattern -/
inductive Pt where
  | v (t : Tv)
  | h
  | f
abbrev Pa := List Pt
def frS : Option Tv → Bool
  | none => true
  | some t => !t.bor
def PtOk : Pt → Option Tv → Prop
  | .v t, s => s = some t
  | .h, s => s = none
  | .f, s => frS s = true
def Ag : Pa → Ga → Prop
  | [], [] => True
  | p :: P, s :: g => PtOk p s ∧ Ag P g
  | _, _ => False
def FgtP : Pt → Pt → Prop
  | p, .v t => p = .v t
  | p, .h => p = .h
  | .v t, .f => t.bor = false
  | .h, .f => True
  | .f, .f => True
def Fgt : Pa → Pa → Prop
  | [], [] => True
  | p :: P, q :: P' => FgtP p q ∧ Fgt P P'
  | _, _ => False
theorem FgtP.ok {p q : Pt} {s : Option Tv} (h : FgtP p q) (a : PtOk p s) : PtOk q s := by
  cases q with
  | v t => cases (show p = .v t from h); exact a
  | h => cases (show p = .h from h); exact a
  | f =>
    cases p with
    | v t =>
      have a : s = some t := a
      subst a
      show (!t.bor) = true
      rw [show t.bor = false from h]; rfl
    | h =>
      have a : s = none := a
      subst a; rfl
    | f => exact a
theorem Ag.fgt : ∀ {P P' : Pa} {g : Ga}, Fgt P P' → Ag P g → Ag P' g
  | [], [], [], _, _ => trivial
  | p :: P, q :: P', s :: g, h, a => ⟨h.1.ok a.1, Ag.fgt h.2 a.2⟩
  | [], _ :: _, _, h, _ => h.elim
  | _ :: _, [], _, h, _ => h.elim
  | [], [], _ :: _, _, a => a.elim
  | _ :: _, _ :: _, [], _, a => a.elim
theorem Fgt.refl : ∀ P : Pa, Fgt P P
  | [] => trivial
  | .v t :: P => ⟨rfl, Fgt.refl P⟩
  | .h :: P => ⟨rfl, Fgt.refl P⟩
  | .f :: P => ⟨trivial, Fgt.refl P⟩
theorem Ag.get : ∀ {P : Pa} {g : Ga} {i : Nat} {p : Pt}, Ag P g → P[i]? = some p → ∃ s, g[i]? = some s ∧ PtOk p s
  | [], _, _, _, _, e => by simp at e
  | q :: P, s :: g, 0, p, a, e => by
    simp at e
    subst e
    exact ⟨s, rfl, a.1⟩
  | q :: P, s :: g, i + 1, p, a, e => by
    obtain ⟨s', h1, h2⟩ := Ag.get (i := i) (p := p) a.2 (by simpa using e)
    exact ⟨s', by simpa using h1, h2⟩
  | _ :: _, [], _, _, a, _ => a.elim
theorem Ag.getv {P : Pa} {g : Ga} {i : Nat} {t : Tv} (a : Ag P g) (e : P[i]? = some (.v t)) : g[i]? = some (some t) := by
  obtain ⟨s, h1, h2⟩ := a.get e
  rw [h1]; exact congrArg some h2
def PtFr : Pt → Prop
  | .v t => t.bor = false
  | .h => True
  | .f => True
theorem Ag.free {P : Pa} {g : Ga} {i : Nat} {p : Pt} (a : Ag P g) (e : P[i]? = some p) (h : PtFr p) : freeAt g i = true := by
  obtain ⟨s, h1, h2⟩ := a.get e
  unfold freeAt
  rw [h1]
  cases p with
  | v t =>
    have h2 : s = some t := h2
    subst h2
    show (!t.bor) = true
    rw [show t.bor = false from h]; rfl
  | h =>
    have h2 : s = none := h2
    subst h2; rfl
  | f =>
    have h2 : frS s = true := h2
    cases s with
    | none => rfl
    | some t => exact h2
theorem Ag.set : ∀ {P : Pa} {g : Ga} (i : Nat) {p : Pt} {s : Option Tv}, Ag P g → PtOk p s → Ag (P.set i p) (g.set i s)
  | [], [], _, _, _, _, _ => trivial
  | q :: P, s' :: g, 0, p, s, a, h => ⟨h, a.2⟩
  | q :: P, s' :: g, i + 1, p, s, a, h => ⟨a.1, Ag.set i a.2 h⟩
  | [], _ :: _, _, _, _, a, _ => a.elim
  | _ :: _, [], _, _, _, a, _ => a.elim
def hidP (P : Pa) : List Nat → Pa
  | [] => P
  | v :: vs => (hidP P vs).set v .h
theorem Ag.wipe {P : Pa} {g : Ga} (a : Ag P g) : ∀ vs, Ag (hidP P vs) (wipeG g vs)
  | [] => a
  | v :: vs => (Ag.wipe a vs).set v rfl
def FrAll (P : Pa) : List Nat → Prop
  | [] => True
  | v :: vs => (∃ p, P[v]? = some p ∧ PtFr p) ∧ FrAll P vs
theorem FrAll.ok {P : Pa} {g : Ga} (a : Ag P g) : ∀ {vs : List Nat}, FrAll P vs → vs.all (fun i => freeAt g i) = true
  | [], _ => rfl
  | v :: vs, ⟨⟨p, e, h⟩, r⟩ => by
    rw [List.all_cons, a.free e h, FrAll.ok a r]
    rfl
/-! ### the judgement -/
def EvR {α β : Type} (r : Rs α) (t : T β) (Q : β → α → Ga → Prop) : Prop := match t with
  | .ok b => ∃ a g', r = .ok a g' ∧ Q b a g'
  | .exc c => ∃ g', r = .exc c g'
  | .stuck => True
def Ev {α β : Type} (m : M α) (P : Pa) (t : T β) (Q : β → α → Ga → Prop) : Prop := ∀ g, Ag P g → EvR (m g) t Q
theorem ev_stuck {α β : Type} {m : M α} {P : Pa} {Q : β → α → Ga → Prop} : Ev m P .stuck Q := fun _ _ => trivial
theorem Ev.bnd {α β γ δ : Type} {m : M α} {f : α → M γ} {P : Pa} {t : T β} {u : β → T δ} {Q : β → α → Ga → Prop} {Q2 : δ → γ → Ga → Prop} (h : Ev m P t Q)
    (k : ∀ b a g', Q b a g' → EvR (f a g') (u b) Q2) : Ev (bnd m f) P (t.bind u) Q2 := by
  intro g a
  have h := h g a
  cases t with
  | stuck => trivial
  | exc c =>
    obtain ⟨g', e⟩ := h
    refine ⟨g', ?_⟩
    unfold PP.bnd; rw [e]
  | ok b =>
    obtain ⟨x, g', e, q⟩ := h
    have k := k b x g' q
    rw [T.ok_bind]
    unfold PP.bnd
    rw [e]
    exact k
/-- expressions that change nothing -/
abbrev EP {α : Type} (m : M α) (P : Pa) (t : T α) : Prop := Ev m P t fun b a g' => a = b ∧ Ag P g'
/-- expressions that change a list of one's own -/
abbrev EE {α σ : Type} (m : M α) (P : Pa) (t : T (α × σ)) (P' : σ → Pa) : Prop := Ev m P t fun b a g' => a = b.1 ∧ Ag (P' b.2) g'
theorem EP.bnd {α β : Type} {m : M α} {f : α → M β} {P : Pa} {t : T α} {u : α → T β} (h : EP m P t) (k : ∀ a, EP (f a) P (u a)) : EP (bnd m f) P (t.bind u) :=
  Ev.bnd h fun b a g' ⟨e, ag⟩ => by subst e; exact k a g' ag
theorem EE.bnd {α β σ τ : Type} {m : M α} {f : α → M β} {P : Pa} {P1 : σ → Pa} {P2 : τ → Pa} {t : T (α × σ)} {u : α → σ → T (β × τ)} (h : EE m P t P1) (k : ∀ a s, EE (f a) (P1 s) (u a s) P2) : EE (bnd m f) P (t.bind fun b => u b.1 b.2) P2 :=
  Ev.bnd h fun b a g' ⟨e, ag⟩ => by subst e; exact k b.1 b.2 g' ag
theorem EP.ee {α σ : Type} {m : M α} {P : Pa} {t : T α} {P' : σ → Pa} {s : σ} (h : EP m P t) (e : P' s = P := by rfl) : EE m P (t.bind fun x => .ok (x, s)) P' := by
  intro g a
  have h := h g a
  cases t with
  | stuck => trivial
  | exc c => exact h
  | ok b =>
    obtain ⟨x, g', e1, e2, ag⟩ := h
    refine ⟨x, g', e1, e2, ?_⟩
    show Ag (P' s) g'
    rw [e]; exact ag
theorem ep_pure {α : Type} {a : α} {P : Pa} : EP (fun g => .ok a g) P (.ok a) := fun g h => ⟨a, g, rfl, rfl, h⟩
theorem ep_c {x : D} {P : Pa} : EP (eC x) P (.ok x) := ep_pure
theorem ep_lift {α : Type} {o : Option α} {P : Pa} : EP (lift o) P (.ofO o) := fun g h => by
  cases o with
  | none => trivial
  | some a => exact ⟨a, g, rfl, rfl, h⟩
theorem ep_var {i : Nat} {x : D} {P : Pa} (h : P[i]? = some (.v (.d x)) := by rfl) : EP (eVar i) P (.ok x) := fun g a => ⟨x, g, by unfold eVar; rw [a.getv h], rfl, a⟩
theorem ep_ap1 {α : Type} {f : D → Option α} {a : M D} {P : Pa} {t : T D} (h : EP a P t) : EP (ap1 f a) P (t.bind fun x => .ofO (f x)) := h.bnd fun _ => ep_lift
theorem ep_ap2 {α : Type} {f : D → D → Option α} {a b : M D} {P : Pa} {t u : T D} (h : EP a P t) (k : EP b P u) : EP (ap2 f a b) P (t.bind fun x => u.bind fun y => .ofO (f x y)) := h.bnd fun _ => k.bnd fun _ => ep_lift
theorem ep_apA {α : Type} {f : List D → Option α} {a : M (List D)} {P : Pa} {t : T (List D)} (h : EP a P t) : EP (apA f a) P (t.bind fun x => .ofO (f x)) := h.bnd fun _ => ep_lift
theorem ep_nil {P : Pa} : EP nilA P (.ok []) := ep_pure
theorem ep_cons {a : M D} {b : M (List D)} {P : Pa} {t : T D} {u : T (List D)} (h : EP a P t) (k : EP b P u) : EP (aCons a b) P (t.bind fun x => u.bind fun xs => .ok (x :: xs)) := h.bnd fun _ => k.bnd fun _ => ep_pure
theorem ep_tru {a : M D} {P : Pa} {t : T D} (h : EP a P t) : EP (tru a) P (t.bind fun x => .ofO (truD x)) := ep_ap1 h
theorem ep_tst {a : M D} {P : Pa} {t : T D} (h : EP a P t) : EP (tst a) P (t.bind fun x => .ofO (asB x)) := ep_ap1 h
theorem ep_not {a : M Bool} {P : Pa} {t : T Bool} (h : EP a P t) : EP (mNot a) P (t.bind fun k => .ok (!k)) := h.bnd fun _ => ep_pure
theorem ep_and {a b : M Bool} {P : Pa} {t u : T Bool} (h : EP a P t) (k : EP b P u) : EP (mAnd a b) P (t.bind fun c => if c = true then u else .ok false) := h.bnd fun c => by
  cases c with
  | true => exact k
  | false => exact ep_pure
theorem ep_or {a b : M Bool} {P : Pa} {t u : T Bool} (h : EP a P t) (k : EP b P u) : EP (mOr a b) P (t.bind fun c => if c = true then .ok true else u) := h.bnd fun c => by
  cases c with
  | true => exact ep_pure
  | false => exact k
theorem ep_eNot {a : M D} {P : Pa} {t : T D} (h : EP a P t) : EP (eNot a) P (t.bind fun x => .ofO ((truD x).map fun k => .bool (!k))) := h.bnd fun _ => ep_lift
def T.andD (x : D) (u : T D) : T D := match truD x with
  | some true => u
  | some false => .ok x
  | none => .stuck
def T.orD (x : D) (u : T D) : T D := match truD x with
  | some true => .ok x
  | some false => u
  | none => .stuck
@[simp] theorem T.andD_b (b : Bool) (u : T D) : T.andD (.bool b) u = if b = true then u else .ok (.bool false) := by cases b <;> rfl
@[simp] theorem T.orD_b (b : Bool) (u : T D) : T.orD (.bool b) u = if b = true then .ok (.bool true) else u := by cases b <;> rfl
theorem ep_eAnd {a b : M D} {P : Pa} {t u : T D} (h : EP a P t) (k : EP b P u) : EP (eAnd a b) P (t.bind fun x => T.andD x u) := h.bnd fun x => by
  unfold T.andD
  cases truD x with
  | none => exact ev_stuck
  | some c =>
    cases c with
    | true => exact k
    | false => exact ep_pure
def T.chn (r : Option D) (u : T D) : T D := match r with
  | some (.bool true) => u
  | some (.bool false) => .ok (.bool false)
  | _ => .stuck
@[simp] theorem T.chn_b (b : Bool) (u : T D) : T.chn (some (.bool b)) u = if b = true then u else .ok (.bool false) := by cases b <;> rfl
theorem ep_chain {f f' : D → D → Option D} {a b c : M D} {P : Pa} {t u w : T D} (h : EP a P t) (k : EP b P u) (l : EP c P w) : EP (eChain f f' a b c) P (t.bind fun x => u.bind fun y => T.chn (f x y) (w.bind fun z => .ofO (f' y z))) := h.bnd fun x => k.bnd fun y => by
  unfold T.chn
  cases e : f x y with
  | none => exact ev_stuck
  | some r =>
    cases r with
    | bool q =>
      cases q with
      | true => dsimp only; exact l.bnd fun z => ep_lift
      | false => exact ep_pure
    | _ => exact ev_stuck
theorem ep_tupT {a : M (List D)} {P : Pa} {t : T (List D)} (h : EP a P t) : EP (eTup a) P (t.bind fun xs => lenT xs (.ok (.tuple xs))) := h.bnd fun xs => by
  unfold lenT
  by_cases c : xs.length ≤ sizeLine
  · rw [if_pos c, if_pos c]; exact ep_pure
  · rw [if_neg c, if_neg c]; exact ev_stuck
theorem ep_lst {a : M (List D)} {P : Pa} {t : T (List D)} (h : EP a P t) : EP (eLst a) P (t.bind fun xs => lenT xs (.ok (.list xs))) := h.bnd fun xs => by
  unfold lenT
  by_cases c : xs.length ≤ sizeLine
  · rw [if_pos c, if_pos c]; exact ep_pure
  · rw [if_neg c, if_neg c]; exact ev_stuck
theorem ep_lLst {a : M (List D)} {P : Pa} {t : T (List D)} (h : EP a P t) : EP (lLst a) P (t.bind fun xs => lenT xs (.ok xs)) := h.bnd fun xs => by
  unfold lenT
  by_cases c : xs.length ≤ sizeLine
  · simp only [if_pos c]; exact ep_pure
  · simp only [if_neg c]; exact ev_stuck
theorem ep_frzL {a : M (List D)} {P : Pa} {t : T (List D)} (h : EP a P t) : EP (frzL a) P (t.bind fun xs => .ok (.list xs)) := h.bnd fun xs => ep_pure
theorem ep_eList {a : M (List D)} {P : Pa} {t : T (List D)} (h : EP a P t) : EP (eList a) P (t.bind fun xs => .ofO (seqA xs)) := h.bnd fun xs => ep_lift
theorem ep_pN {P : Pa} : EP pN P (.ok none) := ep_pure
theorem ep_pS {a : M D} {P : Pa} {t : T D} (h : EP a P t) : EP (pS a) P (t.bind fun x => .ofO (partD x)) := ep_ap1 h
theorem ep_sl {m : M D} {l h : M (Option Int)} {P : Pa} {t : T D} {tl th : T (Option Int)} (a : EP m P t) (b : EP l P tl) (c : EP h P th) : EP (eSl m l h) P (t.bind fun x => tl.bind fun lo => th.bind fun hi => .ofO (slD x lo hi)) := a.bnd fun _ => b.bnd fun _ => c.bnd fun _ => ep_lift
theorem ep_rx {r : Rx} {P : Pa} : EP (rxM r) P (.ofRx r) := fun g a => by
  cases r with
  | ok x => exact ⟨x, g, rfl, rfl, a⟩
  | exc c => exact ⟨g, rfl⟩
  | stuck => trivial
def callT (n : Nat) (f : PF) (xs : List D) : T D := if xs.length = n then .ofRx (f xs) else .stuck
theorem ep_call {n : Nat} {f : PF} {m : M (List D)} {P : Pa} {t : T (List D)} (h : EP m P t) : EP (eCall n f m) P (t.bind fun xs => callT n f xs) := h.bnd fun xs => by
  unfold callT
  by_cases c : xs.length = n
  · rw [if_pos c, if_pos c]; exact ep_rx
  · rw [if_neg c, if_neg c]; exact ev_stuck
theorem isMl_v {P : Pa} {g : Ga} {i : Nat} {b : Bool} {xs : List D} (a : Ag P g) (h : P[i]? = some (.v (.ml b xs))) : isMl g i = true := by
  unfold isMl
  rw [a.getv h]
/-- deeds at a list of one's own -/
theorem ee_onL {α β : Type} {i : Nat} {m : M β} {f : List D → β → Option (α × List D)} {P : Pa} {t : T β} {b : Bool} {xs : List D} (h : EP m P t) (hi : P[i]? = some (.v (.ml b xs)) := by rfl) :
    EE (onL i m f) P (t.bind fun y => .ofO (f xs y)) fun zs => P.set i (.v (.ml b zs)) := by
  intro g a
  have h := h g a
  have ml := isMl_v a hi
  cases t with
  | stuck => trivial
  | exc c =>
    obtain ⟨g', e⟩ := h
    exact ⟨g', by unfold onL; rw [if_pos ml, e]⟩
  | ok y =>
    obtain ⟨y', g', e, e2, ag⟩ := h
    subst e2
    rw [T.ok_bind]
    cases ef : f xs y' with
    | none => trivial
    | some p =>
      refine ⟨p.1, g'.set i (some (.ml b p.2)), ?_, rfl, ag.set i rfl⟩
      unfold onL
      rw [if_pos ml, e]
      dsimp only
      rw [ag.getv hi]
      dsimp only
      rw [ef]
end PP
namespace PP
open PySem PySem.Spec
theorem T.bind_assoc {α β γ : Type} (t : T α) (f : α → T β) (g : β → T γ) : (t.bind f).bind g = t.bind fun x => (f x).bind g := by cases t <;> rfl
/-! ### statements -/
abbrev SN {σ : Type} (m : M Fl) (P : Pa) (t : T σ) (P' : σ → Pa) : Prop := Ev m P t fun s a g' => a = .nx ∧ Ag (P' s) g'
def QF {σ β ρ : Type} (P' : σ → Pa) (Pb : β → Pa) (R : ρ → Fl → Ga → Prop) : Fw σ β ρ → Fl → Ga → Prop
  | .nx s, a, g => a = .nx ∧ Ag (P' s) g
  | .brk s, a, g => a = .brk ∧ Ag (Pb s) g
  | .ret r, a, g => (∃ v, a = .ret v) ∧ R r a g
abbrev SF {σ β ρ : Type} (m : M Fl) (P : Pa) (t : T (Fw σ β ρ)) (P' : σ → Pa) (Pb : β → Pa) (R : ρ → Fl → Ga → Prop) : Prop := Ev m P t (QF P' Pb R)
/-- blocks that are left -/
abbrev Lvx {β : Type} (m : M Fl) (P : Pa) (t : T β) (Q : β → Fl → Ga → Prop) : Prop := Ev m P t fun b a g => Q b a g ∧ a ≠ .nx
abbrev Rp : D → Fl → Ga → Prop := fun v a _ => a = .ret v
abbrev Rq (np : Nat) : D × List D → Fl → Ga → Prop := fun r a g => a = .ret r.1 ∧ outB np g = some r.2
abbrev RQ {ρ : Type} (R : ρ → Fl → Ga → Prop) : ρ → Fl → Ga → Prop := fun r a g => (∃ v, a = .ret v) ∧ R r a g
theorem Ev.mono {α β : Type} {m : M α} {P : Pa} {t : T β} {Q Q' : β → α → Ga → Prop} (h : Ev m P t Q) (k : ∀ b a g, Q b a g → Q' b a g) : Ev m P t Q' := fun g a => by
  have h := h g a
  cases t with
  | stuck => trivial
  | exc c => exact h
  | ok b =>
    obtain ⟨x, g', e, q⟩ := h
    exact ⟨x, g', e, k _ _ _ q⟩
theorem Lvx.ev {β : Type} {m : M Fl} {P : Pa} {t : T β} {Q : β → Fl → Ga → Prop} (h : Lvx m P t Q) : Ev m P t Q := Ev.mono h fun _ _ _ q => q.1
theorem ev_seq {σ β : Type} {m k : M Fl} {P : Pa} {t : T σ} {u : σ → T β} {P1 : σ → Pa} {Q : β → Fl → Ga → Prop} (h : SN m P t P1) (hk : ∀ s, Ev k (P1 s) (u s) Q) : Ev (sSeq m k) P (t.bind u) Q := fun g a => by
  have h := h g a
  cases t with
  | stuck => trivial
  | exc c =>
    obtain ⟨g', e⟩ := h
    exact ⟨g', by unfold sSeq; rw [e]⟩
  | ok s =>
    obtain ⟨x, g', e, e2, ag⟩ := h
    subst e2
    have k := hk s g' ag
    rw [T.ok_bind]
    unfold sSeq
    rw [e]
    exact k
theorem ev_seqR {σ β ρ : Type} {m k : M Fl} {P : Pa} {t : T (Fw σ β ρ)} {u : σ → T ρ} {P1 : σ → Pa} {Pb : β → Pa} {R : ρ → Fl → Ga → Prop} (h : SF m P t P1 Pb R) (hk : ∀ s, Ev k (P1 s) (u s) (RQ R)) : Ev (sSeq m k) P (t.bindR u) (RQ R) := fun g a => by
  have h := h g a
  cases t with
  | stuck => trivial
  | exc c =>
    obtain ⟨g', e⟩ := h
    exact ⟨g', by unfold sSeq; rw [e]⟩
  | ok s =>
    obtain ⟨x, g', e, q⟩ := h
    cases s with
    | nx s =>
      obtain ⟨rfl, ag⟩ := q
      have k := hk s g' ag
      unfold sSeq
      rw [e]
      exact k
    | brk s => trivial
    | ret r =>
      obtain ⟨⟨v, rfl⟩, q⟩ := q
      exact ⟨.ret v, g', by unfold sSeq; rw [e], ⟨v, rfl⟩, q⟩
theorem ev_if {β : Type} {t : M Bool} {a b : M Fl} {P : Pa} {tc : T Bool} {ta tb : T β} {Q : β → Fl → Ga → Prop} (h : EP t P tc) (ha : Ev a P ta Q) (hb : Ev b P tb Q) : Ev (sIf t a b) P (tc.bind fun k => if k = true then ta else tb) Q :=
  Ev.bnd h fun k k' g' ⟨e, ag⟩ => by
    subst e
    cases k' with
    | true => exact ha g' ag
    | false => exact hb g' ag
abbrev skipM : M Fl := fun g => .ok .nx g
/-- if t: .. (left), then the rest -/
theorem ev_ifl {β : Type} {t : M Bool} {a k : M Fl} {P : Pa} {tc : T Bool} {ta u : T β} {Q : β → Fl → Ga → Prop} (h : EP t P tc) (ha : Lvx a P ta Q) (hk : Ev k P u Q) : Ev (sSeq (sIf t a skipM) k) P (tc.bind fun c => if c = true then ta else u) Q := fun g ag => by
  have h := h g ag
  cases tc with
  | stuck => trivial
  | exc c =>
    obtain ⟨g', e⟩ := h
    exact ⟨g', by unfold sSeq sIf bnd; rw [e]⟩
  | ok c =>
    obtain ⟨c', g', e, e2, ag'⟩ := h
    subst e2
    rw [T.ok_bind]
    cases c' with
    | false =>
      have k := hk g' ag'
      unfold sSeq sIf bnd
      rw [e]
      exact k
    | true =>
      have l := ha g' ag'
      rw [if_pos rfl]
      cases ta with
      | stuck => trivial
      | exc c =>
        obtain ⟨g2, e2⟩ := l
        exact ⟨g2, by
          unfold sSeq sIf bnd
          rw [e]
          dsimp only
          rw [if_pos rfl, e2]⟩
      | ok b =>
        obtain ⟨x, g2, e2, q, ne⟩ := l
        refine ⟨x, g2, ?_, q⟩
        unfold sSeq sIf bnd
        rw [e]
        dsimp only
        rw [if_pos rfl, e2]
        cases x with
        | nx => exact absurd rfl ne
        | _ => rfl
theorem ev_iflE {β σ : Type} {t : M Bool} {a k : M Fl} {P : Pa} {P1 : σ → Pa} {tc : T (Bool × σ)} {ta u : σ → T β} {Q : β → Fl → Ga → Prop} (h : EE t P tc P1) (ha : ∀ s, Lvx a (P1 s) (ta s) Q) (hk : ∀ s, Ev k (P1 s) (u s) Q) : Ev (sSeq (sIf t a skipM) k) P (tc.bind fun c => if c.1 = true then ta c.2 else u c.2) Q := fun g ag => by
  have h := h g ag
  cases tc with
  | stuck => trivial
  | exc c =>
    obtain ⟨g', e⟩ := h
    exact ⟨g', by unfold sSeq sIf bnd; rw [e]⟩
  | ok c =>
    obtain ⟨c', g', e, e2, ag'⟩ := h
    subst e2
    obtain ⟨c, s⟩ := c
    rw [T.ok_bind]
    cases c with
    | false =>
      have k := hk s g' ag'
      unfold sSeq sIf bnd
      rw [e]
      exact k
    | true =>
      have l := ha s g' ag'
      dsimp only
      rw [if_pos rfl]
      generalize ta s = ta' at l
      cases ta' with
      | stuck => trivial
      | exc c =>
        obtain ⟨g2, e2⟩ := l
        exact ⟨g2, by
          unfold sSeq sIf bnd
          rw [e]
          dsimp only
          rw [if_pos rfl, e2]⟩
      | ok b =>
        obtain ⟨x, g2, e2, q, ne⟩ := l
        refine ⟨x, g2, ?_, q⟩
        unfold sSeq sIf bnd
        rw [e]
        dsimp only
        rw [if_pos rfl, e2]
        cases x with
        | nx => exact absurd rfl ne
        | _ => rfl
/-! ends of blocks -/
theorem sn_end {σ τ : Type} {m : M Fl} {P : Pa} {t : T σ} {P1 : σ → Pa} {P2 : τ → Pa} (f : σ → τ) (h : SN m P t P1) (k : ∀ s, Fgt (P1 s) (P2 (f s))) : SN m P (t.bind fun s => .ok (f s)) P2 := fun g a => by
  have h := h g a
  cases t with
  | stuck => trivial
  | exc c => exact h
  | ok s =>
    obtain ⟨x, g', e, e2, ag⟩ := h
    exact ⟨x, g', e, e2, ag.fgt (k s)⟩
theorem sn_skip {τ : Type} {P : Pa} {P2 : τ → Pa} (s : τ) (k : Fgt P (P2 s)) : SN skipM P (.ok s) P2 := fun g a => ⟨.nx, g, rfl, rfl, a.fgt k⟩
theorem sf_skip {τ β ρ : Type} {P : Pa} {P2 : τ → Pa} {Pb : β → Pa} {R : ρ → Fl → Ga → Prop} (s : τ) (k : Fgt P (P2 s)) : SF skipM P (.ok (.nx s)) P2 Pb R := fun g a => ⟨.nx, g, rfl, rfl, a.fgt k⟩
/-! leaving -/
theorem lv_ret {e : M D} {P : Pa} {t : T D} (h : EP e P t) : Lvx (sRet e) P t (RQ Rp) := fun g a => by
  have h := h g a
  cases t with
  | stuck => trivial
  | exc c =>
    obtain ⟨g', e1⟩ := h
    exact ⟨g', by unfold sRet bnd; rw [e1]⟩
  | ok x =>
    obtain ⟨y, g', e1, e2, ag⟩ := h
    subst e2
    exact ⟨.ret y, g', by unfold sRet bnd; rw [e1], ⟨⟨y, rfl⟩, rfl⟩, fun z => by cases z⟩
theorem outB_v {P : Pa} {g : Ga} {np : Nat} {zs : List D} (a : Ag P g) (h : P[np]? = some (.v (.ml true zs))) : outB np g = some zs := by
  unfold outB
  rw [a.getv h]
theorem lv_retBE {np : Nat} {σ : Type} {e : M D} {P : Pa} {P1 : σ → Pa} {t : T (D × σ)} (w : σ → List D) (h : EE e P t P1) (hp : ∀ s, (P1 s)[np]? = some (.v (.ml true (w s)))) : Lvx (sRet e) P (t.bind fun v => .ok (v.1, w v.2)) (RQ (Rq np)) := fun g a => by
  have h := h g a
  cases t with
  | stuck => trivial
  | exc c =>
    obtain ⟨g', e1⟩ := h
    exact ⟨g', by unfold sRet bnd; rw [e1]⟩
  | ok x =>
    obtain ⟨y, g', e1, e2, ag⟩ := h
    subst e2
    exact ⟨.ret x.1, g', by unfold sRet bnd; rw [e1], ⟨⟨_, rfl⟩, rfl, outB_v ag (hp _)⟩, fun z => by cases z⟩
/-- a return, inside of a loop -/
theorem lv_F {σ β ρ : Type} {m : M Fl} {P : Pa} {t : T ρ} {P' : σ → Pa} {Pb : β → Pa} {R : ρ → Fl → Ga → Prop} (h : Lvx m P t (RQ R)) : Lvx m P (t.bind fun r => .ok (.ret r)) (QF P' Pb R) := fun g a => by
  have h := h g a
  cases t with
  | stuck => trivial
  | exc c => exact h
  | ok x =>
    obtain ⟨y, g', e1, q, ne⟩ := h
    exact ⟨y, g', e1, q, ne⟩
/-! ghost steps -/
theorem ev_wipe {β : Type} {vs : List Nat} {k : M Fl} {P : Pa} {u : T β} {Q : β → Fl → Ga → Prop} (f : FrAll P vs) (h : Ev k (hidP P vs) u Q) : Ev (sSeq (sWipe vs) k) P u Q := fun g a => by
  have e : sSeq (sWipe vs) k g = k (wipeG g vs) := by
    unfold sSeq sWipe
    rw [if_pos (f.ok a)]
  rw [e]
  exact h _ (a.wipe vs)
/-! ### binding -/
def bd {α : Type} (b : Bd) (x : D) (body : M α) : M α := fun g => match b x g with
  | some g1 => body g1
  | none => .stuck
theorem bd_name {α β : Type} {i : Nat} {x : D} {body : M α} {P : Pa} {t : T β} {Q : β → α → Ga → Prop} (h : Ev body (P.set i (.v (.d x))) t Q) {p : Pt} (hi : P[i]? = some p := by rfl) (hf : PtFr p := by first | exact trivial | rfl) : Ev (bd (bName i) x body) P t Q := fun g a => by
  have e : bd (bName i) x body g = body (g.set i (some (.d x))) := by
    unfold bd bName
    rw [if_pos (a.free hi hf)]
  rw [e]
  exact h _ (a.set i rfl)
theorem bAll_cons_bd {α : Type} {b : Bd} {bs : List Bd} {x : D} {xs : List D} {body : M α} {g : Ga} : (match bAll (b :: bs) (x :: xs) g with
  | some g1 => body g1
  | none => .stuck) = bd b x (fun g' => match bAll bs xs g' with
    | some g1 => body g1
    | none => .stuck) g := by
  unfold bd
  show (match (b x g).bind (fun g' => bAll bs xs g') with
    | some g1 => body g1
    | none => .stuck) = _
  cases b x g with
  | none => rfl
  | some g' => rfl
theorem bd_tup2 {α β : Type} {b1 b2 : Bd} {x : D} {body : M α} {P : Pa} {f : D → D → T β} {Q : β → α → Ga → Prop} (h : ∀ y z, Ev (bd b1 y (bd b2 z body)) P (f y z) Q) : Ev (bd (bTup [b1, b2]) x body) P (T.tup2 x f) Q := fun g a => by
  unfold T.tup2
  split
  · rename_i y z
    have e : bd (bTup [b1, b2]) (.tuple [y, z]) body g = bd b1 y (bd b2 z body) g := by
      show (match bAll [b1, b2] [y, z] g with
        | some g1 => body g1
        | none => .stuck) = _
      rw [bAll_cons_bd]
      congr 1
      funext g'
      rw [bAll_cons_bd]
      congr 1
    rw [e]
    exact h y z g a
  · trivial
/-! assignments -/
theorem sAsg_bd {b : Bd} {m : M D} : sAsg b m = bnd m fun x => bd b x skipM := by
  funext g
  unfold sAsg bnd bd
  cases m g with
  | ok x g1 => (try dsimp only) <;> (cases b x g1 <;> rfl)
  | exc c g1 => rfl
  | stuck => rfl
theorem sn_set {i : Nat} {e : M D} {P : Pa} {t : T D} (h : EP e P t) {p : Pt} (hi : P[i]? = some p := by rfl) (hf : PtFr p := by first | exact trivial | rfl) : SN (sAsg (bName i) e) P t fun x => P.set i (.v (.d x)) := fun g a => by
  have h := h g a
  cases t with
  | stuck => trivial
  | exc c =>
    obtain ⟨g', e1⟩ := h
    exact ⟨g', by unfold sAsg bnd; rw [e1]⟩
  | ok x =>
    obtain ⟨y, g', e1, e2, ag⟩ := h
    subst e2
    refine ⟨.nx, g'.set i (some (.d y)), ?_, rfl, ag.set i rfl⟩
    unfold sAsg bnd bName
    rw [e1]
    dsimp only
    rw [if_pos (ag.free hi hf)]
theorem sn_setE {i : Nat} {σ : Type} {e : M D} {P : Pa} {P1 : σ → Pa} {t : T (D × σ)} (h : EE e P t P1) (hf : ∀ s, ∃ p, (P1 s)[i]? = some p ∧ PtFr p) : SN (sAsg (bName i) e) P t fun p => (P1 p.2).set i (.v (.d p.1)) := fun g a => by
  have h := h g a
  cases t with
  | stuck => trivial
  | exc c =>
    obtain ⟨g', e1⟩ := h
    exact ⟨g', by unfold sAsg bnd; rw [e1]⟩
  | ok x =>
    obtain ⟨y, g', e1, e2, ag⟩ := h
    subst e2
    obtain ⟨p, hi, hf⟩ := hf x.2
    refine ⟨.nx, g'.set i (some (.d x.1)), ?_, rfl, ag.set i rfl⟩
    unfold sAsg bnd bName
    rw [e1]
    dsimp only
    rw [if_pos (ag.free hi hf)]
theorem sn_asg {σ : Type} {b : Bd} {e : M D} {P : Pa} {t : T D} {w : D → T σ} {P' : σ → Pa} (h : EP e P t) (k : ∀ x, SN (bd b x skipM) P (w x) P') : SN (sAsg b e) P (t.bind w) P' := by
  rw [sAsg_bd]
  exact Ev.bnd h fun x a g' ⟨e, ag⟩ => by subst e; exact k a g' ag
theorem sn_setL {i : Nat} {e : M (List D)} {P : Pa} {t : T (List D)} (h : EP e P t) {p : Pt} (hi : P[i]? = some p := by rfl) (hf : PtFr p := by first | exact trivial | rfl) : SN (sSetL i e) P t fun x => P.set i (.v (.ml false x)) := fun g a => by
  have h := h g a
  cases t with
  | stuck => trivial
  | exc c =>
    obtain ⟨g', e1⟩ := h
    exact ⟨g', by unfold sSetL bnd; rw [e1]⟩
  | ok x =>
    obtain ⟨y, g', e1, e2, ag⟩ := h
    subst e2
    refine ⟨.nx, g'.set i (some (.ml false y)), ?_, rfl, ag.set i rfl⟩
    unfold sSetL bnd
    rw [e1]
    dsimp only
    rw [if_pos (ag.free hi hf)]
theorem sn_drop {α : Type} {e : M D} {P : Pa} {t : T (D × α)} {P1 : α → Pa} (h : EE e P t P1) : SN (sDrop e) P (t.bind fun p => .ok p.2) P1 := fun g a => by
  have h := h g a
  cases t with
  | stuck => trivial
  | exc c =>
    obtain ⟨g', e1⟩ := h
    exact ⟨g', by unfold sDrop bnd; rw [e1]⟩
  | ok x =>
    obtain ⟨y, g', e1, e2, ag⟩ := h
    exact ⟨.nx, g', by unfold sDrop bnd; rw [e1], rfl, ag⟩
/-! own lists -/
def appT (xs : List D) (y : D) : T (List D) := if xs.length < sizeLine then .ok (xs ++ [y]) else .stuck
theorem appT_ok {xs : List D} {y : D} (h : xs.length < sizeLine) : appT xs y = .ok (xs ++ [y]) := if_pos h
theorem onL_of_ee {α β σ : Type} {i : Nat} {m : M β} {f : List D → β → Option (α × List D)} {P : Pa} {P1 : σ → Pa} {t : T (β × σ)} {b : Bool} {xs0 : List D} {xs : σ → List D} (h : EE m P t P1) (hi : P[i]? = some (.v (.ml b xs0))) (h1 : ∀ s, (P1 s)[i]? = some (.v (.ml b (xs s)))) :
    EE (onL i m f) P (t.bind fun y => (T.ofO (f (xs y.2) y.1)).bind fun q => .ok (q.1, (q.2, y.2))) fun zs => (P1 zs.2).set i (.v (.ml b zs.1)) := by
  intro g a
  have h := h g a
  have ml := isMl_v a hi
  cases t with
  | stuck => trivial
  | exc c =>
    obtain ⟨g', e⟩ := h
    exact ⟨g', by unfold onL; rw [if_pos ml, e]⟩
  | ok y =>
    obtain ⟨y', g', e, e2, ag⟩ := h
    subst e2
    rw [T.ok_bind]
    cases ef : f (xs y.2) y.1 with
    | none => trivial
    | some p =>
      refine ⟨p.1, g'.set i (some (.ml b p.2)), ?_, rfl, ag.set i rfl⟩
      unfold onL
      rw [if_pos ml, e]
      dsimp only
      rw [ag.getv (h1 _)]
      dsimp only
      rw [ef]
theorem sn_app {i : Nat} {e : M D} {P : Pa} {t : T D} {b : Bool} {xs : List D} (h : EP e P t) (hi : P[i]? = some (.v (.ml b xs)) := by rfl) : SN (sDrop (eApp i e)) P (t.bind fun y => appT xs y) fun zs => P.set i (.v (.ml b zs)) := by
  have k := sn_drop (ee_onL (f := fApp) h hi)
  have e : ((t.bind fun y => T.ofO (fApp xs y)).bind fun p => T.ok p.2) = t.bind fun y => appT xs y := by
    cases t with
    | ok y =>
      simp only [T.ok_bind]
      unfold fApp appT
      by_cases c : xs.length < sizeLine
      · rw [if_pos c, if_pos c]; rfl
      · rw [if_neg c, if_neg c]; rfl
    | _ => rfl
  rw [e] at k
  exact k
theorem sn_appE {i : Nat} {σ : Type} {e : M D} {P : Pa} {P1 : σ → Pa} {t : T (D × σ)} {b : Bool} {xs : List D} (h : EE e P t P1) (h1 : ∀ s, (P1 s)[i]? = some (.v (.ml b xs))) (hi : P[i]? = some (.v (.ml b xs)) := by rfl) : SN (sDrop (eApp i e)) P (t.bind fun y => (appT xs y.1).bind fun zs => .ok (zs, y.2)) fun zs => (P1 zs.2).set i (.v (.ml b zs.1)) := by
  have k := sn_drop (onL_of_ee (f := fApp) (xs := fun _ => xs) h hi h1)
  have e : ((t.bind fun y => (T.ofO (fApp xs y.1)).bind fun q => T.ok (q.1, (q.2, y.2))).bind fun p => T.ok p.2) = t.bind fun y => (appT xs y.1).bind fun zs => .ok (zs, y.2) := by
    cases t with
    | ok y =>
      simp only [T.ok_bind]
      unfold fApp appT
      by_cases c : xs.length < sizeLine
      · rw [if_pos c, if_pos c]; rfl
      · rw [if_neg c, if_neg c]; rfl
    | _ => rfl
  rw [e] at k
  exact k
theorem setP_self {P : Pa} {i : Nat} {p : Pt} (hi : P[i]? = some p) : P.set i p = P := by
  apply List.ext_getElem?
  intro j
  by_cases c : i = j
  · subst c
    rw [List.getElem?_set_self (by exact (List.getElem?_eq_some_iff.mp hi).1), hi]
  · rw [List.getElem?_set_ne c]
/-! parallel assignments -/
abbrev EV {σ : Type} (m : M (List Tv)) (P : Pa) (t : T σ) (F : σ → List Tv) : Prop := Ev m P t fun s a g' => a = F s ∧ Ag P g'
theorem pv_nil {P : Pa} : EV (fun g => .ok [] g) P (.ok ()) fun _ => [] := fun g a => ⟨[], g, rfl, rfl, a⟩
theorem pv_D {σ : Type} {a : M D} {b : M (List Tv)} {P : Pa} {t : T D} {u : T σ} {F : σ → List Tv} (h : EP a P t) (k : EV b P u F) : EV (mConsD a b) P (t.bind fun x => u.bind fun s => .ok (x, s)) fun p => .d p.1 :: F p.2 :=
  Ev.bnd h fun x a g' ⟨e, ag⟩ => by
    subst e
    exact Ev.bnd k (fun s l g2 ⟨e, ag⟩ => by subst e; exact ⟨_, g2, rfl, rfl, ag⟩) g' ag
def ParOk : Pa → List Nat → List Tv → Pa → Prop
  | P, [], [], P' => P' = P
  | P, i :: is, t :: ts, P' => (∃ p, P[i]? = some p ∧ PtFr p) ∧ ParOk (P.set i (.v t)) is ts P'
  | _, _, _, _ => False
theorem ParOk.ok : ∀ {is : List Nat} {ts : List Tv} {P P' : Pa} {g : Ga}, ParOk P is ts P' → Ag P g → ∃ g', setAll is ts g = some g' ∧ Ag P' g'
  | [], [], P, P', g, h, a => ⟨g, rfl, by rw [show P' = P from h]; exact a⟩
  | i :: is, t :: ts, P, P', g, ⟨⟨p, h1, h2⟩, h⟩, a => by
    obtain ⟨g', e, ag⟩ := ParOk.ok h (a.set i (p := .v t) (s := some t) rfl)
    exact ⟨g', by unfold setAll; rw [if_pos (a.free h1 h2)]; exact e, ag⟩
  | [], _ :: _, _, _, _, h, _ => h.elim
  | _ :: _, [], _, _, _, h, _ => h.elim
theorem sn_par {σ : Type} {is : List Nat} {m : M (List Tv)} {P : Pa} {t : T σ} {F : σ → List Tv} {P' : σ → Pa} (h : EV m P t F) (k : ∀ s, ParOk P is (F s) (P' s)) : SN (sPar is m) P t P' := fun g a => by
  have h := h g a
  cases t with
  | stuck => trivial
  | exc c =>
    obtain ⟨g', e1⟩ := h
    exact ⟨g', by unfold sPar bnd; rw [e1]⟩
  | ok x =>
    obtain ⟨y, g', e1, e2, ag⟩ := h
    subst e2
    obtain ⟨g2, e3, ag2⟩ := (k x).ok ag
    exact ⟨.nx, g2, by unfold sPar bnd; rw [e1]; dsimp only; rw [e3], rfl, ag2⟩
/-! ### for, while -/
theorem loop_bd {b : Bd} {body : M Fl} {x : D} {r : List D} {g : Ga} : loop b body (x :: r) g = match bd b x body g with
    | .ok .nx g2 => loop b body r g2
    | .ok .cnt g2 => loop b body r g2
    | .ok .brk g2 => .ok .nx g2
    | .ok (.ret v) g2 => .ok (.ret v) g2
    | .exc c g2 => .exc c g2
    | .stuck => .stuck := by
  unfold bd
  conv => lhs; unfold loop
  cases b x g with
  | none => rfl
  | some g1 => rfl
theorem loop_N {σ : Type} {b : Bd} {body : M Fl} {E : σ → Pa} {f : σ → D → T σ} (h : ∀ s x, SN (bd b x body) (E s) (f s x) E) : ∀ (items : List D) (s : σ), SN (loop b body items) (E s) (forN items s f) E
  | [], s => fun g a => ⟨.nx, g, rfl, rfl, a⟩
  | x :: r, s => fun g a => by
    have h1 := h s x g a
    rw [loop_bd, forN]
    cases ef : f s x with
    | stuck => trivial
    | exc c =>
      rw [ef] at h1
      obtain ⟨g', e⟩ := h1
      rw [e]
      exact ⟨g', rfl⟩
    | ok s' =>
      rw [ef] at h1
      obtain ⟨fl, g', e, e2, ag⟩ := h1
      subst e2
      rw [e, T.ok_bind]
      exact loop_N h r s' g' ag
theorem sn_for {σ : Type} {b : Bd} {mi : M (List D)} {body : M Fl} {P : Pa} {ti : T (List D)} {E : σ → Pa} {f : σ → D → T σ} (s : σ) (hi : EP mi P ti) (h0 : Fgt P (E s)) (h : ∀ s x, SN (bd b x body) (E s) (f s x) E) : SN (sFor b mi body) P (ti.bind fun items => forN items s f) E :=
  Ev.bnd hi fun items a g' ⟨e, ag⟩ => by subst e; exact loop_N h a s g' (ag.fgt h0)
theorem loop_F {σ β ρ : Type} {b : Bd} {body : M Fl} {E : σ → Pa} {Pb : β → Pa} {R : ρ → Fl → Ga → Prop} {f : σ → D → T (Fw σ σ ρ)} (h : ∀ s x, SF (bd b x body) (E s) (f s x) E E R) : ∀ (items : List D) (s : σ), SF (loop b body items) (E s) (forF (β := β) items s f) E Pb R
  | [], s => fun g a => ⟨.nx, g, rfl, rfl, a⟩
  | x :: r, s => fun g a => by
    have h1 := h s x g a
    rw [loop_bd, forF]
    cases ef : f s x with
    | stuck => trivial
    | exc c =>
      rw [ef] at h1
      obtain ⟨g', e⟩ := h1
      rw [e]
      exact ⟨g', rfl⟩
    | ok s' =>
      rw [ef] at h1
      obtain ⟨fl, g', e, q⟩ := h1
      rw [e]
      cases s' with
      | nx s' =>
        obtain ⟨rfl, ag⟩ := q
        exact loop_F h r s' g' ag
      | brk s' =>
        obtain ⟨rfl, ag⟩ := q
        exact ⟨.nx, g', rfl, rfl, ag⟩
      | ret v =>
        obtain ⟨⟨w, rfl⟩, q⟩ := q
        exact ⟨.ret w, g', rfl, ⟨w, rfl⟩, q⟩
theorem sf_for {σ β ρ : Type} {b : Bd} {mi : M (List D)} {body : M Fl} {P : Pa} {ti : T (List D)} {E : σ → Pa} {Pb : β → Pa} {R : ρ → Fl → Ga → Prop} {f : σ → D → T (Fw σ σ ρ)} (s : σ) (hi : EP mi P ti) (h0 : Fgt P (E s)) (h : ∀ s x, SF (bd b x body) (E s) (f s x) E E R) : SF (sFor b mi body) P (ti.bind fun items => forF (β := β) items s f) E Pb R :=
  Ev.bnd hi fun items a g' ⟨e, ag⟩ => by subst e; exact loop_F h a s g' (ag.fgt h0)
/-! ### comprehensions -/
def CQ {β : Type} (Pv : Pa) (vs : List Nat) : β → β → Ga → Prop := fun o a g' => a = o ∧ vs.all (fun i => freeAt g' i) = true ∧ Ag Pv (wipeG g' vs)
def clS (t : M Bool) (e : M D) : M (Option D) := bnd t fun k => if k = true then bnd e fun y g => .ok (some y) g else fun g => .ok none g
theorem cq_of {β : Type} {m : M β} {P1 Pv : Pa} {vs : List Nat} {t : T β} (h : EP m P1 t) (f : FrAll P1 vs) (k : Fgt (hidP P1 vs) Pv) : Ev m P1 t (CQ Pv vs) := Ev.mono h fun b a g ⟨e, ag⟩ => ⟨e, f.ok ag, (ag.wipe vs).fgt k⟩
theorem ep_clS {t : M Bool} {e : M D} {P : Pa} {tc : T Bool} {te : T D} (h : EP t P tc) (k : EP e P te) : EP (clS t e) P (tc.bind fun c => if c = true then te.bind fun y => .ok (some y) else .ok none) := h.bnd fun c => by
  cases c with
  | true => exact k.bnd fun y => ep_pure
  | false => exact ep_pure
theorem cl_bd {vs : List Nat} {b : Bd} {t : M Bool} {e : M D} {x : D} {r acc : List D} {g : Ga} : cl vs b t e (x :: r) acc g = match bd b x (clS t e) g with
    | .ok (some y) g3 => if vs.all (fun i => freeAt g3 i) = true then cl vs b t e r (acc ++ [y]) (wipeG g3 vs) else .stuck
    | .ok none g3 => if vs.all (fun i => freeAt g3 i) = true then cl vs b t e r acc (wipeG g3 vs) else .stuck
    | _ => .stuck := by
  unfold bd clS bnd
  conv => lhs; unfold cl
  cases b x g with
  | none => rfl
  | some g1 =>
    dsimp only
    cases t g1 with
    | stuck => rfl
    | exc c g2 => rfl
    | ok k g2 =>
      cases k with
      | true =>
        dsimp only
        rw [if_pos rfl]
        cases e g2 <;> rfl
      | false => rfl
theorem cl_fil {vs : List Nat} {b : Bd} {t : M Bool} {e : M D} {Pv : Pa} {f : D → T (Option D)} (h : ∀ x, Ev (bd b x (clS t e)) Pv (f x) (CQ Pv vs)) : ∀ (items acc ys : List D) (g : Ga), Ag Pv g → filT f items = .ok ys → ∃ g', cl vs b t e items acc g = .ok (acc ++ ys) g' ∧ Ag Pv g'
  | [], acc, ys, g, a, e0 => by
    cases e0
    exact ⟨g, by rw [List.append_nil]; rfl, a⟩
  | x :: r, acc, ys, g, a, e0 => by
    have h1 := h x g a
    rw [filT] at e0
    cases ef : f x with
    | stuck => rw [ef] at e0; cases e0
    | exc c => rw [ef] at e0; cases e0
    | ok o =>
      rw [ef] at e0 h1
      obtain ⟨o', g', e1, rfl, fr, ag⟩ := h1
      cases er : filT f r with
      | stuck => rw [er] at e0; cases o' <;> cases e0
      | exc c => rw [er] at e0; cases o' <;> cases e0
      | ok zs =>
        rw [er] at e0
        cases o' with
        | none =>
          cases e0
          obtain ⟨g2, e2, ag2⟩ := cl_fil h r acc _ (wipeG g' vs) ag er
          exact ⟨g2, by rw [cl_bd, e1]; dsimp only; rw [if_pos fr, e2], ag2⟩
        | some y =>
          cases e0
          obtain ⟨g2, e2, ag2⟩ := cl_fil h r (acc ++ [y]) zs (wipeG g' vs) ag er
          exact ⟨g2, by rw [cl_bd, e1]; dsimp only; rw [if_pos fr, e2, List.append_assoc]; rfl, ag2⟩
theorem filT_map (f : D → T D) : ∀ items : List D, filT (fun x => (f x).bind fun y => .ok (some y)) items = mapT f items
  | [] => rfl
  | x :: r => by
    rw [filT, mapT, filT_map f r]
    cases f x <;> rfl
theorem filT_exc {f : D → T (Option D)} {items : List D} {c : Str} : filT f items ≠ .exc c := by
  cases items with
  | nil => intro h; cases h
  | cons x r =>
    rw [filT]
    cases f x with
    | ok o => cases o <;> (cases filT f r <;> intro h <;> cases h)
    | _ => intro h; cases h
theorem ep_lcF {vs : List Nat} {b : Bd} {t : M Bool} {e : M D} {mi : M (List D)} {P : Pa} {ti : T (List D)} {f : D → T (Option D)} (hi : EP mi P ti) (fr : FrAll P vs) (fg : Fgt (hidP P vs) P) (h : ∀ x, Ev (bd b x (clS t e)) (hidP P vs) (f x) (CQ (hidP P vs) vs)) : EP (eLc vs b t e mi) P (ti.bind fun items => lenT items (filT f items)) :=
  Ev.bnd hi fun items a g' ⟨e1, ag⟩ => by
    subst e1
    unfold lenT
    by_cases c : a.length ≤ sizeLine
    · rw [if_pos c, if_pos ⟨fr.ok ag, c⟩]
      cases ef : filT f a with
      | stuck => trivial
      | exc x => exact absurd ef filT_exc
      | ok ys =>
        obtain ⟨g2, e2, ag2⟩ := cl_fil h a [] ys (wipeG g' vs) (ag.wipe vs) ef
        exact ⟨ys, g2, by rw [e2]; rfl, rfl, ag2.fgt fg⟩
    · rw [if_neg c]
      trivial
theorem ep_lc {vs : List Nat} {b : Bd} {e : M D} {mi : M (List D)} {P : Pa} {ti : T (List D)} {f : D → T D} (hi : EP mi P ti) (fr : FrAll P vs) (fg : Fgt (hidP P vs) P) (h : ∀ x, Ev (bd b x e) (hidP P vs) (f x) (CQ (hidP P vs) vs)) : EP (eLc vs b tAll e mi) P (ti.bind fun items => lenT items (mapT f items)) := by
  have k := ep_lcF (t := tAll) (e := e) (f := fun x => (f x).bind fun y => .ok (some y)) hi fr fg fun x g a => by
    have h := h x g a
    have eq : bd b x (clS tAll e) g = (match bd b x e g with
      | .ok y g' => .ok (some y) g'
      | .exc c g' => .exc c g'
      | .stuck => .stuck) := by
      unfold bd clS tAll bnd
      cases b x g with
      | none => rfl
      | some g1 =>
        dsimp only
        rw [if_pos rfl]
        cases e g1 <;> rfl
    rw [eq]
    cases ef : f x with
    | stuck => trivial
    | exc c =>
      rw [ef] at h
      obtain ⟨g', e1⟩ := h
      exact ⟨g', by rw [e1]⟩
    | ok y =>
      rw [ef] at h
      obtain ⟨y', g', e1, rfl, q⟩ := h
      exact ⟨some y', g', by rw [e1], rfl, q⟩
  simp only [filT_map] at k
  exact k
/-- over a list of one's own -/
theorem ep_lcV {vs : List Nat} {b : Bd} {t : M Bool} {e : M D} {j : Nat} {P : Pa} {bb : Bool} {xs : List D} {f : D → T (Option D)} (fr : FrAll (P.set j .h) vs) (fg : Fgt ((hidP (P.set j .h) vs).set j (.v (.ml bb xs))) P) (hj : j ∉ vs) (hh : (hidP (P.set j .h) vs)[j]? = some .h) (h : ∀ x, Ev (bd b x (clS t e)) (hidP (P.set j .h) vs) (f x) (CQ (hidP (P.set j .h) vs) vs)) (hi : P[j]? = some (.v (.ml bb xs)) := by rfl) :
    EP (eLcV vs b t e j) P (lenT xs (filT f xs)) := fun g a => by
  have ag : Ag (P.set j .h) (g.set j none) := a.set j rfl
  unfold lenT
  by_cases c : xs.length ≤ sizeLine
  · rw [if_pos c]
    cases ef : filT f xs with
    | stuck => trivial
    | exc x => exact absurd ef filT_exc
    | ok ys =>
      obtain ⟨g2, e2, ag2⟩ := cl_fil h xs [] ys (wipeG (g.set j none) vs) (ag.wipe vs) ef
      obtain ⟨s, e3, e4⟩ := ag2.get hh
      have e4 : s = none := e4
      subst e4
      refine ⟨ys, g2.set j (some (.ml bb xs)), ?_, rfl, (ag2.set j (p := .v (.ml bb xs)) (s := some (.ml bb xs)) rfl).fgt fg⟩
      unfold eLcV
      rw [a.getv hi]
      dsimp only
      rw [if_pos ⟨fr.ok ag, c, hj⟩, e2]
      dsimp only
      rw [e3]
      rfl
  · rw [if_neg c]
    trivial
/-! two clauses -/
/-! ### try -/
/-! ### whole defs -/
def SmP (r : Rx) (t : T D) : Prop := match t with
  | .ok v => r = .ok v
  | .exc c => r = .exc c
  | .stuck => True
def SmB (r : Rb) (t : T (D × List D)) : Prop := match t with
  | .ok v => r = .ok v.1 v.2
  | _ => True
theorem SmP.ok {r : Rx} {t : T D} {v : D} (h : SmP r t) (e : t = .ok v) : r = .ok v := by subst e; exact h
theorem SmP.exc {r : Rx} {t : T D} {c : Str} (h : SmP r t) (e : t = .exc c) : r = .exc c := by subst e; exact h
theorem SmB.ok {r : Rb} {t : T (D × List D)} {v : D} {zs : List D} (h : SmB r t) (e : t = .ok (v, zs)) : r = .ok v zs := by subst e; exact h
theorem sm_R {k : Nat} {m : M Fl} {ds : List D} {P : Pa} {t : T D} (h : Ev m P t (RQ Rp)) (a : Ag P (dsG ds k)) : SmP (runP k m ds) t := by
  have h := h _ a
  unfold runP
  cases t with
  | stuck => trivial
  | exc c =>
    obtain ⟨g', e⟩ := h
    rw [e]
    rfl
  | ok v =>
    obtain ⟨fl, g', e, _, e2⟩ := h
    have e2 : fl = .ret v := e2
    subst e2
    rw [e]
    rfl
theorem sm_RB {np k : Nat} {m : M Fl} {xs zs ys : List D} {P : Pa} {t : T (D × List D)} (h : Ev m P t (RQ (Rq np))) (a : Ag P (bG xs zs ys k)) : SmB (runB np k m xs zs ys) t := by
  have h := h _ a
  unfold runB
  cases t with
  | stuck => trivial
  | exc c => trivial
  | ok v =>
    obtain ⟨fl, g', e, _, e2, e3⟩ := h
    subst e2
    rw [e]
    show (match outB np g' with
      | some zs' => Rb.ok v.1 zs'
      | none => .stuck) = _
    rw [e3]
/-! ### expressions that draw -/
section
variable {σ τ υ : Type} {P : Pa} {P1 : σ → Pa} {P2 : τ → Pa} {P3 : υ → Pa}
theorem ee_end {α β : Type} {m : M α} {o : α → Option β} {t : T (α × σ)} (h : EE m P t P1) : EE (bnd m fun x => lift (o x)) P (t.bind fun p => (T.ofO (o p.1)).bind fun v => .ok (v, p.2)) P1 :=
  Ev.bnd h fun p a g' ⟨e, ag⟩ => by
    subst e
    unfold lift
    cases o p.1 with
    | none => trivial
    | some v => exact ⟨v, g', rfl, rfl, ag⟩
theorem ee_ap2 {α : Type} {f : D → D → Option α} {a b : M D} {t : T (D × σ)} {u : σ → T (D × τ)} (h : EE a P t P1) (k : ∀ s, EE b (P1 s) (u s) P2) : EE (ap2 f a b) P (t.bind fun p => (u p.2).bind fun q => (T.ofO (f p.1 q.1)).bind fun v => .ok (v, q.2)) P2 :=
  EE.bnd h fun x s => ee_end (k s)
theorem ee_cons {a : M D} {b : M (List D)} {t : T (D × σ)} {u : σ → T (List D × τ)} (h : EE a P t P1) (k : ∀ s, EE b (P1 s) (u s) P2) : EE (aCons a b) P (t.bind fun p => (u p.2).bind fun q => .ok (p.1 :: q.1, q.2)) P2 :=
  EE.bnd (u := fun x s => (u s).bind fun q => .ok (x :: q.1, q.2)) h fun x s => Ev.bnd (k s) fun q a g' ⟨e, ag⟩ => by subst e; exact ⟨_, g', rfl, rfl, ag⟩
theorem ee_tst {a : M D} {t : T (D × σ)} (h : EE a P t P1) : EE (tst a) P (t.bind fun p => (T.ofO (asB p.1)).bind fun v => .ok (v, p.2)) P1 := ee_end h
theorem ee_len {α : Type} {a : M (List D)} {t : T (List D × σ)} (f : List D → α) (h : EE a P t P1) : EE (bnd a fun xs => lift (if xs.length ≤ sizeLine then some (f xs) else none)) P (t.bind fun p => lenT p.1 (.ok (f p.1, p.2))) P1 := Ev.bnd h fun q a g' ⟨e, ag⟩ => by
  subst e
  unfold lenT
  by_cases c : q.1.length ≤ sizeLine
  · rw [if_pos c, if_pos c]; exact ⟨_, g', rfl, rfl, ag⟩
  · simp only [if_neg c]; trivial
theorem ee_tup {a : M (List D)} {t : T (List D × σ)} (h : EE a P t P1) : EE (eTup a) P (t.bind fun p => lenT p.1 (.ok (.tuple p.1, p.2))) P1 := ee_len _ h
theorem ee_or {t u : M Bool} {tc : T (Bool × σ)} {td : σ → T (Bool × σ)} (h : EE t P tc P1) (hk : ∀ s, EE u (P1 s) (td s) P1) : EE (mOr t u) P (tc.bind fun k => if k.1 = true then .ok (true, k.2) else td k.2) P1 := Ev.bnd h fun k a g' ⟨e, ag⟩ => by
  subst e
  obtain ⟨k, s⟩ := k
  cases k with
  | true => exact ⟨_, g', rfl, rfl, ag⟩
  | false => exact hk s g' ag
/-- f(a, the list, b, ..) -/
def cbT (np nq : Nat) (f : BF) (xs zs ys : List D) : T (D × List D) := if xs.length = np ∧ ys.length = nq then .ofRb (f xs zs ys) else .stuck
theorem ee_cbE {nq i : Nat} {f : BF} {m : M D} {mq : M (List D)} {tm : T D} {t : T (List D × List D)} {Pz : List D → Pa} {b : Bool} {z0 : List D} (hm : EP m P tm) (h : EE mq P t Pz) (hz : ∀ s, (Pz s)[i]? = some (.v (.ml b s))) (hs : ∀ s z, (Pz s).set i (.v (.ml b z)) = Pz z) (hi : P[i]? = some (.v (.ml b z0)) := by rfl) :
    EE (eCB 1 nq f i mq [] [m]) P (tm.bind fun x => t.bind fun p => cbT 1 nq f [x] p.2 p.1) Pz := Ev.bnd hm fun x a g' ⟨e0, ag⟩ => by
  subst e0
  have h := h g' ag
  have ml := isMl_v ag hi
  cases t with
  | stuck => trivial
  | exc c =>
    obtain ⟨g', e⟩ := h
    exact ⟨g', by show eCB 1 nq f i mq [a] [] _ = _; unfold eCB; rw [if_pos ⟨ml, rfl⟩, e]⟩
  | ok p =>
    obtain ⟨y, g', e, e2, ag⟩ := h
    subst e2
    rw [T.ok_bind]
    unfold cbT
    by_cases c : [a].length = 1 ∧ p.1.length = nq
    · rw [if_pos c]
      show EvR (eCB 1 nq f i mq [a] [] _) _ _
      unfold eCB
      rw [if_pos ⟨ml, c.1⟩, e]
      dsimp only
      rw [if_pos c.2, ag.getv (hz _)]
      dsimp only
      cases f [a] p.2 p.1 with
      | ok y zs' => exact ⟨y, g'.set i (some (.ml b zs')), rfl, rfl, by
          have q := ag.set i (p := .v (.ml b zs')) (s := some (.ml b zs')) rfl
          rw [hs] at q
          exact q⟩
      | exc c zs' => exact ⟨_, rfl⟩
      | stuck => trivial
    · rw [if_neg c]
      trivial
theorem ee_cb {nq i : Nat} {f : BF} {m : M D} {mq : M (List D)} {tm : T D} {t : T (List D)} {b : Bool} {z0 : List D} (hm : EP m P tm) (h : EP mq P t) (hi : P[i]? = some (.v (.ml b z0)) := by rfl) :
    EE (eCB 1 nq f i mq [] [m]) P (tm.bind fun x => t.bind fun ys => cbT 1 nq f [x] z0 ys) fun z => P.set i (.v (.ml b z)) := by
  have hl : i < P.length := (List.getElem?_eq_some_iff.mp hi).1
  have k := ee_cbE (f := f) (nq := nq) (i := i) (b := b) (z0 := z0) (Pz := fun z => P.set i (.v (.ml b z))) hm (EP.ee (s := z0) (P' := fun z => P.set i (.v (.ml b z))) h (setP_self hi)) (fun s => List.getElem?_set_self hl) (fun s z => List.set_set _) hi
  have e : (tm.bind fun x => (t.bind fun x => T.ok (x, z0)).bind fun p => cbT 1 nq f [x] p.2 p.1) = tm.bind fun x => t.bind fun ys => cbT 1 nq f [x] z0 ys := by
    congr 1
    funext x
    rw [T.bind_assoc]
    rfl
  rw [e] at k
  exact k
end
theorem atP {α β : Type} {m : M α} {P : Pa} (P' : Pa) {t : T β} {Q : β → α → Ga → Prop} (h : Ev m P' t Q) (e : P = P' := by rfl) : Ev m P t Q := by rw [e]; exact h
theorem fn : Fgt [] [] := trivial
theorem fc {p q : Pt} {P P' : Pa} (h : FgtP p q) (k : Fgt P P') : Fgt (p :: P) (q :: P') := ⟨h, k⟩
theorem fv {t : Tv} : FgtP (.v t) (.v t) := rfl
theorem fh : FgtP .h .h := rfl
theorem fx {p : Pt} (h : PtFr p := by first | exact trivial | rfl) : FgtP p .f := by
  cases p with
  | v t => exact h
  | h => trivial
  | f => trivial
theorem gn : Ag [] [] := trivial
theorem gc {p : Pt} {s : Option Tv} {P : Pa} {g : Ga} (h : PtOk p s) (k : Ag P g) : Ag (p :: P) (s :: g) := ⟨h, k⟩
theorem gv {t : Tv} : PtOk (.v t) (some t) := rfl
theorem gh : PtOk .h none := rfl
theorem an {P : Pa} : FrAll P [] := trivial
theorem ac {P : Pa} {v : Nat} {vs : List Nat} {p : Pt} (k : FrAll P vs) (h : P[v]? = some p := by rfl) (f : PtFr p := by first | exact trivial | rfl) : FrAll P (v :: vs) := ⟨⟨p, h, f⟩, k⟩
theorem pn {P : Pa} : ParOk P [] [] P := rfl
theorem pc {P P' : Pa} {i : Nat} {is : List Nat} {t : Tv} {ts : List Tv} {p : Pt} (k : ParOk (P.set i (.v t)) is ts P') (h : P[i]? = some p := by rfl) (f : PtFr p := by first | exact trivial | rfl) : ParOk P (i :: is) (t :: ts) P' := ⟨⟨p, h, f⟩, k⟩
theorem frE {P : Pa} {i : Nat} {p : Pt} (h : P[i]? = some p := by rfl) (f : PtFr p := by first | exact trivial | rfl) : ∃ p, P[i]? = some p ∧ PtFr p := ⟨p, h, f⟩
theorem rq_lv {ρ : Type} {m : M Fl} {P : Pa} {t : T ρ} {R : ρ → Fl → Ga → Prop} (h : Ev m P t (RQ R)) : Lvx m P t (RQ R) := Ev.mono h fun b a g ⟨⟨v, e⟩, q⟩ => ⟨⟨⟨v, e⟩, q⟩, by rw [e]; intro z; cases z⟩
theorem ep_tAll {P : Pa} : EP tAll P (.ok true) := ep_pure
/-! evaluation -/
@[simp] theorem pair_eta {α β : Type} (p : α × β) : (p.1, p.2) = p := rfl
@[simp] theorem T.bind_ok {α : Type} (t : T α) : (t.bind fun v => T.ok v) = t := by cases t <;> rfl
@[simp] theorem callT_1 (f : PF) (a : D) : callT 1 f [a] = .ofRx (f [a]) := rfl
@[simp] theorem callT_2 (f : PF) (a b : D) : callT 2 f [a, b] = .ofRx (f [a, b]) := rfl
@[simp] theorem callT_3 (f : PF) (a b c : D) : callT 3 f [a, b, c] = .ofRx (f [a, b, c]) := rfl
@[simp] theorem callT_4 (f : PF) (a b c d : D) : callT 4 f [a, b, c, d] = .ofRx (f [a, b, c, d]) := rfl
@[simp] theorem callT_5 (f : PF) (a b c d e : D) : callT 5 f [a, b, c, d, e] = .ofRx (f [a, b, c, d, e]) := rfl
@[simp] theorem callT_6 (f : PF) (a b c d e h : D) : callT 6 f [a, b, c, d, e, h] = .ofRx (f [a, b, c, d, e, h]) := rfl
@[simp] theorem cbT_0 (f : BF) (x : D) (zs : List D) : cbT 1 0 f [x] zs [] = .ofRb (f [x] zs []) := rfl
@[simp] theorem cbT_1 (f : BF) (x : D) (zs : List D) (a : D) : cbT 1 1 f [x] zs [a] = .ofRb (f [x] zs [a]) := rfl
@[simp] theorem cbT_2 (f : BF) (x : D) (zs : List D) (a b : D) : cbT 1 2 f [x] zs [a, b] = .ofRb (f [x] zs [a, b]) := rfl
@[simp] theorem cbT_3 (f : BF) (x : D) (zs : List D) (a b c : D) : cbT 1 3 f [x] zs [a, b, c] = .ofRb (f [x] zs [a, b, c]) := rfl
theorem lenT_n {α : Type} {xs : List D} {t : T α} (h : xs.length ≤ 100) : lenT xs t = t := by
  refine if_pos ?_
  rw [sizeLine_eq]
  omega
@[simp] theorem lenT_0 {α : Type} (t : T α) : lenT [] t = t := lenT_n (by simp)
@[simp] theorem lenT_1 {α : Type} (a : D) (t : T α) : lenT [a] t = t := lenT_n (by simp)
@[simp] theorem lenT_2 {α : Type} (a b : D) (t : T α) : lenT [a, b] t = t := lenT_n (by simp)
@[simp] theorem lenT_3 {α : Type} (a b c : D) (t : T α) : lenT [a, b, c] t = t := lenT_n (by simp)
@[simp] theorem lenT_4 {α : Type} (a b c d : D) (t : T α) : lenT [a, b, c, d] t = t := lenT_n (by simp)
@[simp] theorem lenT_5 {α : Type} (a b c d e : D) (t : T α) : lenT [a, b, c, d, e] t = t := lenT_n (by simp)
@[simp] theorem lenT_6 {α : Type} (a b c d e f : D) (t : T α) : lenT [a, b, c, d, e, f] t = t := lenT_n (by simp)
/-- maps -/
theorem mapT_eq {γ : Type} (src : List γ) (mk : γ → D) (g : γ → D) {f : D → T D} (h : ∀ x ∈ src, f (mk x) = .ok (g x)) : mapT f (src.map mk) = .ok (src.map g) := by
  induction src with
  | nil => rfl
  | cons x r ih =>
    rw [List.map_cons, mapT, h x List.mem_cons_self]
    dsimp only
    rw [ih fun y hy => h y (List.mem_cons_of_mem _ hy)]
    rfl
theorem filT_eq {γ : Type} (src : List γ) (mk : γ → D) (p : γ → Bool) (g : γ → D) {f : D → T (Option D)} (h : ∀ x ∈ src, f (mk x) = .ok (if p x = true then some (g x) else none)) : filT f (src.map mk) = .ok ((src.filter p).map g) := by
  induction src with
  | nil => rfl
  | cons x r ih =>
    rw [List.map_cons, filT, h x List.mem_cons_self]
    have ih := ih fun y hy => h y (List.mem_cons_of_mem _ hy)
    cases hp : p x with
    | true =>
      rw [if_pos rfl]
      dsimp only
      rw [ih, List.filter_cons_of_pos hp]
      rfl
    | false =>
      rw [if_neg (by decide)]
      dsimp only
      rw [ih, List.filter_cons_of_neg (by rw [hp]; decide)]
theorem forF_cons {σ β ρ : Type} {x : D} {r : List D} {s s' : σ} {f : σ → D → T (Fw σ σ ρ)} (h : f s x = .ok (.nx s')) : forF (β := β) (x :: r) s f = forF r s' f := by
  rw [forF, h]
theorem forF_ret {σ β ρ : Type} {x : D} {r : List D} {s : σ} {v : ρ} {f : σ → D → T (Fw σ σ ρ)} (h : f s x = .ok (.ret v)) : forF (β := β) (x :: r) s f = .ok (.ret v) := by
  rw [forF, h]
end PP
namespace PP
theorem snT {σ : Type} {m : M Fl} {P : Pa} {t : T σ} (P' : σ → Pa) (h : SN m P t P') : SN m P t P' := h
theorem sfT {σ β ρ : Type} {m : M Fl} {P : Pa} {t : T (Fw σ β ρ)} (P' : σ → Pa) (Pb : β → Pa) {R : ρ → Fl → Ga → Prop} (h : SF m P t P' Pb R) : SF m P t P' Pb R := h
end PP
namespace PP
open PySem
noncomputable section
def m_is_integer : M Fl := sRet (eAnd (ap1 (isiD "int") (eVar 0)) (eNot (ap1 (isiD "bool") (eVar 0))))
def p_is_integer : PF := runP 1 m_is_integer
def m_is_ascending : M Fl := sRet (apA allD (aCons (frzL (eLc [1, 2] (bTup [bName 1, bName 2]) (tAll) (ap2 ltD (eVar 1) (eVar 2)) (apA zip2 (aCons (eVar 0) (aCons (eSl (eVar 0) (pS (eC (.int 1))) (pN)) (nilA)))))) (nilA)))
def p_is_ascending : PF := runP 3 m_is_ascending
def m_is_name : M Fl := sRet (eAnd (ap1 (isiD "str") (eVar 0)) (eAnd (eChain leD leD (eC (.int 1)) (apA lenD (aCons (eVar 0) (nilA))) (eC (.int 3))) (apA allD (aCons (frzL (eLc [1] (bName 1) (tAll) (eChain leD leD (eC (.str "a")) (eVar 1) (eC (.str "z"))) (ap1 itemsD (eVar 0)))) (nilA)))))
def p_is_name : PF := runP 2 m_is_name
def m_is_question : M Fl := sSeq (sIf (mOr (mNot (tru (ap1 (isiD "tuple") (eVar 0)))) (mOr (tst (ap2 neD (apA lenD (aCons (eVar 0) (nilA))) (eC (.int 2)))) (mNot (tru (eCall 1 p_is_name (aCons (ap2 ixD (eVar 0) (eC (.int 0))) (nilA))))))) (sRet (eC (.bool false))) ((fun g => .ok .nx g))) (sRet (eAnd (eCall 1 p_is_integer (aCons (ap2 ixD (eVar 0) (eC (.int 1))) (nilA))) (eChain leD leD (eC (.int 2)) (ap2 ixD (eVar 0) (eC (.int 1))) (eC (.int 3)))))
def p_is_question : PF := runP 1 m_is_question
def m_product : M Fl := sSeq (sAsg (bName 1) (eC (.int 1))) (sSeq (sFor (bName 2) (ap1 itemsD (eVar 0)) (sAug 1 imulD (eVar 2))) (sRet (eVar 1)))
def p_product : PF := runP 3 m_product
def m_are_questions : M Fl := sSeq (sIf (mOr (mNot (tru (ap1 (isiD "tuple") (eVar 0)))) (mNot (tst (eChain leD leD (eC (.int 1)) (apA lenD (aCons (eVar 0) (nilA))) (eC (.int 5)))))) (sRet (eC (.bool false))) ((fun g => .ok .nx g))) (sSeq (sIf (mNot (tru (apA allD (aCons (frzL (eLc [1] (bName 1) (tAll) (eCall 1 p_is_question (aCons (eVar 1) (nilA))) (ap1 itemsD (eVar 0)))) (nilA))))) (sRet (eC (.bool false))) ((fun g => .ok .nx g))) (sRet (eAnd (eCall 1 p_is_ascending (aCons (frzL (eLc [1] (bName 1) (tAll) (ap2 ixD (eVar 1) (eC (.int 0))) (ap1 itemsD (eVar 0)))) (nilA))) (ap2 leD (eCall 1 p_product (aCons (frzL (eLc [1] (bName 1) (tAll) (ap2 ixD (eVar 1) (eC (.int 1))) (ap1 itemsD (eVar 0)))) (nilA))) (eC (.int 32))))))
def p_are_questions : PF := runP 2 m_are_questions
def m_is_name_tuple : M Fl := sSeq (sIf (mOr (mNot (tru (ap1 (isiD "tuple") (eVar 1)))) (mOr (tst (ap2 eqD (eVar 1) (eTup (nilA)))) (mNot (tru (apA allD (aCons (frzL (eLc [2] (bName 2) (tAll) (ap1 (isiD "str") (eVar 2)) (ap1 itemsD (eVar 1)))) (nilA))))))) (sRet (eC (.bool false))) ((fun g => .ok .nx g))) (sRet (eAnd (eCall 1 p_is_ascending (aCons (eVar 1) (nilA))) (apA allD (aCons (frzL (eLc [2] (bName 2) (tAll) (ap2 inD (eVar 2) (eVar 0)) (ap1 itemsD (eVar 1)))) (nilA)))))
def p_is_name_tuple : PF := runP 3 m_is_name_tuple
def m_contains : M Fl := sRet (apA allD (aCons (frzL (eLc [2] (bName 2) (tAll) (ap2 inD (eVar 2) (eVar 0)) (ap1 itemsD (eVar 1)))) (nilA)))
def p_contains : PF := runP 3 m_contains
def m_cell_count : M Fl := sSeq (sAsg (bName 2) (apA dictD (aCons (eVar 0) (nilA)))) (sRet (apA sumD (aCons (frzL (eLc [3] (bName 3) (tAll) (eCall 1 p_product (aCons (frzL (eLc [4] (bName 4) (tAll) (ap2 ixD (eVar 2) (eVar 4)) (ap1 itemsD (eVar 3)))) (nilA))) (ap1 itemsD (eVar 1)))) (nilA))))
def p_cell_count : PF := runP 5 m_cell_count
def m_is_scenario : M Fl := sSeq (sIf (mOr (mNot (tru (ap1 (isiD "tuple") (eVar 0)))) (mOr (tst (ap2 neD (apA lenD (aCons (eVar 0) (nilA))) (eC (.int 2)))) (mNot (tru (eCall 1 p_are_questions (aCons (ap2 ixD (eVar 0) (eC (.int 0))) (nilA))))))) (sRet (eC (.bool false))) ((fun g => .ok .nx g))) (sSeq (sAsg (bTup [bName 1, bName 2]) (eVar 0)) (sSeq (sSetL 3 (eLc [6] (bName 6) (tAll) (ap2 ixD (eVar 6) (eC (.int 0))) (ap1 itemsD (eVar 1)))) (sSeq (sFrz 3) (sSeq (sIf (mOr (mNot (tru (ap1 (isiD "tuple") (eVar 2)))) (mNot (tst (eChain leD leD (eC (.int 1)) (apA lenD (aCons (eVar 2) (nilA))) (eC (.int 10)))))) (sRet (eC (.bool false))) ((fun g => .ok .nx g))) (sSeq (sIf (mOr (mNot (tru (apA allD (aCons (frzL (eLc [5] (bName 5) (tAll) (eCall 2 p_is_name_tuple (aCons (eVar 3) (aCons (eVar 5) (nilA)))) (ap1 itemsD (eVar 2)))) (nilA))))) (mNot (tru (eCall 1 p_is_ascending (aCons (eVar 2) (nilA)))))) (sRet (eC (.bool false))) ((fun g => .ok .nx g))) (sSeq (sFor (bTup [bName 4, bName 5]) (apA enum1 (aCons (eVar 2) (nilA))) (sIf (tru (apA anyD (aCons (frzL (eLc [7] (bName 7) (tAll) (eCall 2 p_contains (aCons (eVar 7) (aCons (eVar 5) (nilA)))) (ap1 itemsD (ap2 addD (eSl (eVar 2) (pN) (pS (eVar 4))) (eSl (eVar 2) (pS (ap2 addD (eVar 4) (eC (.int 1)))) (pN)))))) (nilA)))) (sRet (eC (.bool false))) ((fun g => .ok .nx g)))) (sSeq (sIf (mNot (tru (apA allD (aCons (frzL (eLc [8] (bName 8) (tAll) (apA anyD (aCons (frzL (eLc [5] (bName 5) (tAll) (ap2 inD (eVar 8) (eVar 5)) (ap1 itemsD (eVar 2)))) (nilA))) (ap1 itemsD (eVar 3)))) (nilA))))) (sRet (eC (.bool false))) ((fun g => .ok .nx g))) (sRet (ap2 leD (eCall 2 p_cell_count (aCons (eVar 1) (aCons (eVar 2) (nilA)))) (eC (.int 40)))))))))))
def p_is_scenario : PF := runP 9 m_is_scenario
def m__law_draw : M Fl := sSeq (sIf (mNot (tTruV 1)) (sDrop (eApp 1 (apA maxD (aCons (ap2 addD (frzL (eLc [4] (bName 4) (tAll) (apA absD (aCons (eVar 4) (nilA))) (ap1 itemsD (eVar 0)))) (eLst (aCons (eC (.int 0)) (nilA)))) (nilA))))) ((fun g => .ok .nx g))) (sSeq (sDrop (eApp 1 (eC (.int 0)))) (sSeq (sAsg (bName 3) (eLenV 1)) (sSeq (sAsg (bName 4) (eIf (tru (eVar 0)) (ap2 ixD (eVar 0) (ap2 modD (eVar 3) (apA lenD (aCons (eVar 0) (nilA))))) (eC (.int 0)))) (sSeq (sAsg (bName 5) (ap2 modD (eIdxV 1 (eC (.int 0))) (eC (.int 65536)))) (sSeq (sSetI 1 (eC (.int 0)) (ap2 fdivD (eIdxV 1 (eC (.int 0))) (eC (.int 65536)))) (sSeq (sAsg (bName 6) (ap2 modD (ap2 addD (ap2 addD (eVar 4) (ap2 mulD (eC (.int 40503)) (eVar 5))) (ap2 mulD (eC (.int 104729)) (eVar 3))) (eC (.int 4294967291)))) (sSeq (sAsg (bName 6) (ap2 modD (ap2 mulD (ap2 modD (ap2 mulD (eVar 6) (eVar 6)) (eC (.int 4294967279))) (eC (.int 48271))) (eC (.int 4294967291)))) (sSeq (sAsg (bName 7) (ap2 modD (ap2 mulD (ap2 modD (ap2 mulD (eVar 6) (eVar 6)) (eC (.int 4294967279))) (eC (.int 69621))) (eC (.int 4294967291)))) (sRet (ap2 modD (ap2 addD (ap2 mulD (ap2 fdivD (eVar 6) (eC (.int 64))) (eC (.int 67108864))) (ap2 fdivD (eVar 7) (eC (.int 64)))) (eVar 2)))))))))))
def b__law_draw : BF := runB 1 8 m__law_draw
def m__law_pick : M Fl := sRet (ap2 ixD (eVar 2) (eCB 1 1 b__law_draw 1 (aCons (apA lenD (aCons (eVar 2) (nilA))) (nilA)) [] [eVar 0]))
def b__law_pick : BF := runB 1 3 m__law_pick
def m__law_shuffled : M Fl := sSeq (sPar [3, 4] (mConsL (eList (aCons (eVar 2) (nilA))) (mConsL (lLst (nilA)) ((fun g => .ok [] g))))) (sSeq (sWhile (fuelL 3) (tTruV 3) (sDrop (eApp 4 (ePop 3 (eCB 1 1 b__law_draw 1 (aCons (eLenV 3) (nilA)) [] [eVar 0]))))) (sSeq (sFrz 4) (sRet (eVar 4))))
def b__law_shuffled : BF := runB 1 5 m__law_shuffled
def m__law_cells : M Fl := sSeq (sPar [2, 3] (mConsD (apA dictD (aCons (frzL (eList (aCons (eVar 0) (nilA)))) (nilA))) (mConsD (eLst (aCons (eTup (nilA)) (nilA))) ((fun g => .ok [] g))))) (sSeq (sFor (bName 4) (ap1 itemsD (eVar 1)) (sSeq (sAsg (bName 5) (eLst (nilA))) (sSeq (sFor (bName 6) (ap1 itemsD (eVar 3)) (sAsg (bName 5) (ap2 addD (eVar 5) (frzL (eLc [7] (bName 7) (tAll) (ap2 addD (eVar 6) (eTup (aCons (eVar 7) (nilA)))) (apA rng1 (aCons (ap2 ixD (eVar 2) (eVar 4)) (nilA)))))))) (sAsg (bName 3) (eVar 5))))) (sRet (eVar 3)))
def p__law_cells : PF := runP 8 m__law_cells
def m__law_groups_from : M Fl := sSeq (sPar [3, 4, 5] (mConsD (frzL (eLc [12] (bName 12) (tAll) (ap2 ixD (eVar 12) (eC (.int 0))) (ap1 itemsD (eVar 0)))) (mConsL (lLst (nilA)) (mConsD (eC (.int 0)) ((fun g => .ok [] g)))))) (sSeq (sFor (bName 6) (ap1 itemsD (ap2 addD (eVar 1) (frzL (eLc [13] (bName 13) (tAll) (eTup (aCons (eVar 13) (nilA))) (ap1 itemsD (eVar 3)))))) (sSeq (sAsg (bName 8) (apA lenD (aCons (eCall 2 p__law_cells (aCons (eVar 0) (aCons (eVar 6) (nilA)))) (nilA)))) (sSeq (sSetL 9 (eLcV [14] (bName 14) (tst (ap2 eqD (frzL (eLc [13] (bName 13) (tst (ap2 ninD (eVar 13) (eVar 14))) (eVar 13) (ap1 itemsD (eVar 6)))) (eLst (nilA)))) (eC (.int 1)) 4)) (sSeq (sFrz 9) (sSeq (sAsg (bName 10) (ap2 eqD (apA lenD (aCons (eVar 6) (nilA))) (eC (.int 1)))) (sIf (mAnd (tst (ap2 eqD (eVar 9) (eLst (nilA)))) (mOr (tru (eVar 10)) (tst (ap2 leD (ap2 addD (ap2 addD (eVar 5) (eVar 8)) (ap2 mulD (eC (.int 3)) (apA lenD (aCons (eVar 3) (nilA))))) (eVar 2))))) (sSeq (sDrop (eApp 4 (eVar 6))) (sAsg (bName 5) (ap2 addD (eVar 5) (eVar 8)))) ((fun g => .ok .nx g)))))))) (sSeq (sAsg (bName 7) (eLst (nilA))) (sSeq (sFrz 4) (sSeq (sFor (bName 6) (ap1 itemsD (eVar 4)) (sSeq (sSetL 11 (eLc [14] (bName 14) (mAnd (tst (ap2 neD (eVar 14) (eVar 6))) (tst (ap2 eqD (frzL (eLc [13] (bName 13) (tst (ap2 ninD (eVar 13) (eVar 14))) (eVar 13) (ap1 itemsD (eVar 6)))) (eLst (nilA))))) (eC (.int 1)) (ap1 itemsD (eVar 4)))) (sSeq (sFrz 11) (sAsg (bName 7) (ap2 addD (eVar 7) (ap2 mulD (eLst (aCons (eVar 6) (nilA))) (apA intD (aCons (ap2 eqD (eVar 11) (eLst (nilA))) (nilA))))))))) (sRet (apA tupD (aCons (apA sortedD (aCons (eVar 7) (nilA))) (nilA))))))))
def p__law_groups_from : PF := runP 15 m__law_groups_from
def m__law_scenario : M Fl := sSeq (sAsg (bName 4) (apA sortedD (aCons (eSl (eCB 1 1 b__law_shuffled 1 (aCons (eLst (aCons (eC (.str "a")) (aCons (eC (.str "b")) (aCons (eC (.str "c")) (aCons (eC (.str "d")) (aCons (eC (.str "x")) (aCons (eC (.str "ab")) (nilA)))))))) (nilA)) [] [eVar 0]) (pN) (pS (ap2 addD (eC (.int 1)) (eCB 1 1 b__law_draw 1 (aCons (eVar 2) (nilA)) [] [eVar 0])))) (nilA)))) (sSeq (sPar [5, 6] (mConsL (lLst (nilA)) (mConsD (eC (.int 1)) ((fun g => .ok [] g))))) (sSeq (sFor (bName 7) (ap1 itemsD (eVar 4)) (sSeq (sAsg (bName 10) (eCB 1 1 b__law_pick 1 (aCons (eLst (aCons (eC (.int 2)) (aCons (eC (.int 2)) (aCons (eC (.int 2)) (aCons (eC (.int 3)) (nilA)))))) (nilA)) [] [eVar 0])) (sSeq (sIf (tst (ap2 gtD (ap2 mulD (eVar 6) (eVar 10)) (eVar 3))) (sAsg (bName 10) (eC (.int 2))) ((fun g => .ok .nx g))) (sIf (tst (ap2 leD (ap2 mulD (eVar 6) (eVar 10)) (eVar 3))) (sSeq (sDrop (eApp 5 (eTup (aCons (eVar 7) (aCons (eVar 10) (nilA)))))) (sAsg (bName 6) (ap2 mulD (eVar 6) (eVar 10)))) ((fun g => .ok .nx g)))))) (sSeq (sPar [4, 8] (mConsD (frzL (eLcV [11] (bName 11) (tAll) (ap2 ixD (eVar 11) (eC (.int 0))) 5)) (mConsL (lLst (nilA)) ((fun g => .ok [] g))))) (sSeq (sFor (bName 9) (apA rng1 (aCons (eCB 1 1 b__law_draw 1 (aCons (eC (.int 6)) (nilA)) [] [eVar 0]) (nilA))) (sDrop (eApp 8 (apA tupD (aCons (apA sortedD (aCons (eSl (eCB 1 1 b__law_shuffled 1 (aCons (eVar 4) (nilA)) [] [eVar 0]) (pN) (pS (eCB 1 1 b__law_pick 1 (aCons (eLst (aCons (eC (.int 1)) (aCons (eC (.int 2)) (aCons (eC (.int 2)) (aCons (eC (.int 2)) (aCons (eC (.int 3)) (aCons (eC (.int 3)) (nilA)))))))) (nilA)) [] [eVar 0]))) (nilA))) (nilA)))))) (sSeq (sFrz 5) (sSeq (sFrz 8) (sRet (eTup (aCons (apA tupD (aCons (eVar 5) (nilA))) (aCons (eCall 3 p__law_groups_from (aCons (eVar 5) (aCons (eVar 8) (aCons (eC (.int 34)) (nilA))))) (nilA)))))))))))
def b__law_scenario : BF := runB 1 12 m__law_scenario
end
noncomputable section
def m__law_benB_s1 (rec : BF) : M Fl := sAsg (bName 4) (ap2 addD (eVar 4) (eLst (aCons (frzL (eList (aCons (eVar 2) (nilA)))) (aCons (eSl (eVar 2) (pN) (pS (ap1 negD (eC (.int 1))))) (aCons (ap2 addD (eVar 2) (eSl (eVar 2) (pS (ap1 negD (eC (.int 1)))) (pN))) (aCons (eSl (eVar 2) (pS (eC (.int 1))) (pN)) (aCons (ap1 revD (eVar 2)) (aCons (ap2 addD (eVar 2) (eTup (aCons (eC .none) (nilA)))) (nilA)))))))))
def m__law_benB_s2 (rec : BF) : M Fl := sAsg (bName 4) (ap2 addD (eVar 4) (ap2 mulD (eLst (aCons (ap2 addBD (eVar 2) (eC (.int 1))) (aCons (ap2 subBD (eVar 2) (eC (.int 1))) (aCons (eNot (eVar 2)) (aCons (eTup (aCons (eVar 2) (nilA))) (aCons (apA strBD (aCons (eVar 2) (nilA))) (nilA))))))) (eC (.int 2))))
def m__law_benB_s3 (rec : BF) : M Fl := sRet (eCB 1 1 b__law_pick 1 (aCons (eVar 4) (nilA)) [] [eVar 0])
def m__law_benB_s4 (rec : BF) : M Fl := sIf (tru (ap1 (isiD "int") (eVar 2))) (m__law_benB_s2 rec) ((fun g => .ok .nx g))
def m__law_benB_s5 (rec : BF) : M Fl := sIf (tru (ap1 (isiD "tuple") (eVar 2))) (m__law_benB_s1 rec) ((fun g => .ok .nx g))
def m__law_benB_s6 (rec : BF) : M Fl := sAsg (bName 4) (ap2 addD (eVar 4) (eLst (aCons (eTup (aCons (eC (.str "a")) (nilA))) (aCons (eTup (aCons (eC (.str "a")) (aCons (eC (.str "b")) (nilA)))) (aCons (eTup (aCons (eC (.str "b")) (aCons (eC (.str "a")) (nilA)))) (aCons (eTup (aCons (eC (.str "a")) (aCons (eC (.int 2)) (nilA)))) (nilA)))))))
def m__law_benB_s7 (rec : BF) : M Fl := sAsg (bName 4) (eLst (aCons (eC .none) (aCons (eC (.bool true)) (aCons (eC (.bool false)) (aCons (eC (.int 0)) (aCons (eC (.int 1)) (aCons (ap1 negD (eC (.int 1))) (aCons (eC (.int 3)) (aCons (eC (.int 10)) (aCons (eC (.str "a")) (aCons (eC (.str "b")) (aCons (eC (.str "")) (aCons (eC (.str "A")) (aCons (eC (.str "abcd")) (aCons (eTup (nilA)) (aCons (eLst (nilA)) (nilA)))))))))))))))))
def m__law_benB_s8 (rec : BF) : M Fl := sRet (ap2 addD (ap2 addD (eSl (eVar 2) (pN) (pS (eVar 3))) (eTup (aCons (eCB 1 1 rec 1 (aCons (ap2 ixD (eVar 2) (eVar 3)) (nilA)) [] [eVar 0]) (nilA)))) (eSl (eVar 2) (pS (ap2 addBD (eVar 3) (eC (.int 1)))) (pN)))
def m__law_benB_s9 (rec : BF) : M Fl := sAsg (bName 3) (eCB 1 1 b__law_draw 1 (aCons (apA lenD (aCons (eVar 2) (nilA))) (nilA)) [] [eVar 0])
def m__law_benB_s10 (rec : BF) : M Fl := sIf (mOr (mNot (tru (ap1 (isiD "tuple") (eVar 2)))) (mOr (mNot (tru (eVar 2))) (tst (ap2 eqD (eCB 1 1 b__law_draw 1 (aCons (eC (.int 4)) (nilA)) [] [eVar 0]) (eC (.int 0)))))) (sSeq (m__law_benB_s7 rec) (sSeq (m__law_benB_s6 rec) (sSeq (m__law_benB_s5 rec) (sSeq (m__law_benB_s4 rec) (m__law_benB_s3 rec))))) ((fun g => .ok .nx g))
def m__law_benB (rec : BF) : M Fl := sSeq (m__law_benB_s10 rec) (sSeq (m__law_benB_s9 rec) (m__law_benB_s8 rec))
def b__law_benB : Nat → BF
  | 0 => runB 1 5 (fun _ => .stuck)
  | n + 1 => runB 1 5 (m__law_benB (b__law_benB n))
def m__law_is_int_s1 : M Fl := sRet (eAnd (ap1 (isiD "int") (eVar 0)) (eNot (ap1 (isiD "bool") (eVar 0))))
def m__law_is_int : M Fl := m__law_is_int_s1
def p__law_is_int : PF := runP 1 m__law_is_int
def m__law_is_name_s1 : M Fl := sRet (ap2 eqD (frzL (eLc [1] (bName 1) (mNot (tst (eChain leD leD (eC (.str "a")) (eVar 1) (eC (.str "z"))))) (eVar 1) (ap1 itemsD (eVar 0)))) (eLst (nilA)))
def m__law_is_name_s2 : M Fl := sIf (mOr (mNot (tru (ap1 (isiD "str") (eVar 0)))) (mNot (tst (eChain leD leD (eC (.int 1)) (apA lenD (aCons (eVar 0) (nilA))) (eC (.int 3)))))) (sRet (eC (.bool false))) ((fun g => .ok .nx g))
def m__law_is_name : M Fl := sSeq (m__law_is_name_s2) (m__law_is_name_s1)
def p__law_is_name : PF := runP 2 m__law_is_name
def m__law_questions_s1 : M Fl := sPar [1, 2] (mConsD (ap2 mulD (eVar 1) (ap2 ixD (eVar 3) (eC (.int 1)))) (mConsD (ap2 ixD (eVar 3) (eC (.int 0))) ((fun g => .ok [] g))))
def m__law_questions_s2 : M Fl := sIf (mOr (tst (ap2 ninD (ap2 ixD (eVar 3) (eC (.int 1))) (eTup (aCons (eC (.int 2)) (aCons (eC (.int 3)) (nilA)))))) (tst (ap2 leD (ap2 ixD (eVar 3) (eC (.int 0))) (eVar 2)))) (sRet (eC (.bool false))) ((fun g => .ok .nx g))
def m__law_questions_s3 : M Fl := sIf (mNot (tru (eCall 1 p__law_is_int (aCons (ap2 ixD (eVar 3) (eC (.int 1))) (nilA))))) (sRet (eC (.bool false))) ((fun g => .ok .nx g))
def m__law_questions_s4 : M Fl := sIf (mOr (mNot (tru (ap1 (isiD "tuple") (eVar 3)))) (mOr (tst (ap2 neD (apA lenD (aCons (eVar 3) (nilA))) (eC (.int 2)))) (mNot (tru (eCall 1 p__law_is_name (aCons (ap2 ixD (eVar 3) (eC (.int 0))) (nilA))))))) (sRet (eC (.bool false))) ((fun g => .ok .nx g))
def m__law_questions_b5 : M Fl := sSeq (m__law_questions_s4) (sSeq (m__law_questions_s3) (sSeq (m__law_questions_s2) (sSeq (m__law_questions_s1) (sSeq (sWipe [3]) (fun g => .ok .nx g)))))
def m__law_questions_s6 : M Fl := sRet (ap2 leD (eVar 1) (eC (.int 32)))
def m__law_questions_s7 : M Fl := sFor (bName 3) (ap1 itemsD (eVar 0)) (m__law_questions_b5)
def m__law_questions_s8 : M Fl := sAsg (bTup [bName 1, bName 2]) (eTup (aCons (eC (.int 1)) (aCons (eC (.str "")) (nilA))))
def m__law_questions_s9 : M Fl := sIf (mOr (mNot (tru (ap1 (isiD "tuple") (eVar 0)))) (mNot (tst (eChain leD leD (eC (.int 1)) (apA lenD (aCons (eVar 0) (nilA))) (eC (.int 5)))))) (sRet (eC (.bool false))) ((fun g => .ok .nx g))
def m__law_questions : M Fl := sSeq (m__law_questions_s9) (sSeq (m__law_questions_s8) (sSeq (m__law_questions_s7) (m__law_questions_s6)))
def p__law_questions : PF := runP 4 m__law_questions
def m__law_group_s1 : M Fl := sRet (ap2 eqD (frzL (eList (aCons (eVar 1) (nilA)))) (ap1 srtSetD (eVar 1)))
def m__law_group_s2 : M Fl := sIf (tru (frzL (eLc [2] (bName 2) (tst (ap2 ninD (eVar 2) (eVar 0))) (eVar 2) (ap1 itemsD (eVar 1))))) (sRet (eC (.bool false))) ((fun g => .ok .nx g))
def m__law_group_s3 : M Fl := sIf (tru (frzL (eLc [2] (bName 2) (mNot (tru (ap1 (isiD "str") (eVar 2)))) (eVar 2) (ap1 itemsD (eVar 1))))) (sRet (eC (.bool false))) ((fun g => .ok .nx g))
def m__law_group_s4 : M Fl := sIf (mOr (mNot (tru (ap1 (isiD "tuple") (eVar 1)))) (tst (ap2 eqD (eVar 1) (eTup (nilA))))) (sRet (eC (.bool false))) ((fun g => .ok .nx g))
def m__law_group : M Fl := sSeq (m__law_group_s4) (sSeq (m__law_group_s3) (sSeq (m__law_group_s2) (m__law_group_s1)))
def p__law_group : PF := runP 3 m__law_group
def m__law_is_scenario_s1 : M Fl := sIf (tru (frzL (eLc [6] (bName 6) (mAnd (tst (ap2 neD (eVar 6) (eVar 3))) (tst (ap2 eqD (frzL (eLc [4] (bName 4) (tst (ap2 ninD (eVar 4) (eVar 6))) (eVar 4) (ap1 itemsD (eVar 3)))) (eLst (nilA))))) (eC (.int 1)) (ap1 itemsD (eVar 2))))) (sRet (eC (.bool false))) ((fun g => .ok .nx g))
def m__law_is_scenario_b2 : M Fl := sSeq (m__law_is_scenario_s1) (sSeq (sWipe [3]) (fun g => .ok .nx g))
def m__law_is_scenario_s3 : M Fl := sIf (tst (ap2 eqD (frzL (eLc [3] (bName 3) (tst (ap2 inD (eVar 4) (eVar 3))) (eC (.int 1)) (ap1 itemsD (eVar 2)))) (eLst (nilA)))) (sRet (eC (.bool false))) ((fun g => .ok .nx g))
def m__law_is_scenario_b4 : M Fl := sSeq (m__law_is_scenario_s3) (sSeq (sWipe [4]) (fun g => .ok .nx g))
def m__law_is_scenario_s5 : M Fl := sRet (ap2 leD (apA sumD (aCons (frzL (eLc [3] (bName 3) (tAll) (apA lenD (aCons (eCall 2 p__law_cells (aCons (ap2 ixD (eVar 0) (eC (.int 0))) (aCons (eVar 3) (nilA)))) (nilA))) (ap1 itemsD (eVar 2)))) (nilA))) (eC (.int 40)))
def m__law_is_scenario_s6 : M Fl := sFor (bName 4) (ap1 itemsD (eVar 1)) (m__law_is_scenario_b4)
def m__law_is_scenario_s7 : M Fl := sFor (bName 3) (ap1 itemsD (eVar 2)) (m__law_is_scenario_b2)
def m__law_is_scenario_s8 : M Fl := sIf (tst (ap2 neD (frzL (eList (aCons (eVar 2) (nilA)))) (ap1 srtSetD (eVar 2)))) (sRet (eC (.bool false))) ((fun g => .ok .nx g))
def m__law_is_scenario_s9 : M Fl := sIf (tru (frzL (eLc [3] (bName 3) (mNot (tru (eCall 2 p__law_group (aCons (eVar 1) (aCons (eVar 3) (nilA)))))) (eVar 3) (ap1 itemsD (eVar 2))))) (sRet (eC (.bool false))) ((fun g => .ok .nx g))
def m__law_is_scenario_s10 : M Fl := sIf (mOr (mNot (tru (ap1 (isiD "tuple") (eVar 2)))) (mNot (tst (eChain leD leD (eC (.int 1)) (apA lenD (aCons (eVar 2) (nilA))) (eC (.int 10)))))) (sRet (eC (.bool false))) ((fun g => .ok .nx g))
def m__law_is_scenario_s11 : M Fl := sAsg (bTup [bName 1, bName 2]) (eTup (aCons (frzL (eLc [5] (bName 5) (tAll) (ap2 ixD (eVar 5) (eC (.int 0))) (ap1 itemsD (ap2 ixD (eVar 0) (eC (.int 0)))))) (aCons (ap2 ixD (eVar 0) (eC (.int 1))) (nilA))))
def m__law_is_scenario_s12 : M Fl := sIf (mOr (mNot (tru (ap1 (isiD "tuple") (eVar 0)))) (mOr (tst (ap2 neD (apA lenD (aCons (eVar 0) (nilA))) (eC (.int 2)))) (mNot (tru (eCall 1 p__law_questions (aCons (ap2 ixD (eVar 0) (eC (.int 0))) (nilA))))))) (sRet (eC (.bool false))) ((fun g => .ok .nx g))
def m__law_is_scenario : M Fl := sSeq (m__law_is_scenario_s12) (sSeq (m__law_is_scenario_s11) (sSeq (m__law_is_scenario_s10) (sSeq (m__law_is_scenario_s9) (sSeq (m__law_is_scenario_s8) (sSeq (m__law_is_scenario_s7) (sSeq (m__law_is_scenario_s6) (m__law_is_scenario_s5)))))))
def p__law_is_scenario : PF := runP 7 m__law_is_scenario
def m__law_near_misses_s1 : M Fl := sAsg (bName 4) (eTup (aCons (eTup (aCons (eC (.str "a")) (aCons (eC (.str "b")) (aCons (eC (.str "c")) (nilA))))) (aCons (eTup (aCons (eC (.str "a")) (aCons (eC (.str "b")) (aCons (eC (.str "d")) (nilA))))) (aCons (eTup (aCons (eC (.str "a")) (aCons (eC (.str "c")) (aCons (eC (.str "e")) (nilA))))) (aCons (eTup (aCons (eC (.str "b")) (aCons (eC (.str "d")) (aCons (eC (.str "e")) (nilA))))) (aCons (eTup (aCons (eC (.str "c")) (aCons (eC (.str "d")) (aCons (eC (.str "e")) (nilA))))) (nilA)))))))
def m__law_near_misses_s2 : M Fl := sAsg (bName 3) (eTup (aCons (eTup (aCons (eC (.str "a")) (aCons (eC (.str "b")) (nilA)))) (aCons (eTup (aCons (eC (.str "a")) (aCons (eC (.str "c")) (nilA)))) (aCons (eTup (aCons (eC (.str "a")) (aCons (eC (.str "d")) (nilA)))) (aCons (eTup (aCons (eC (.str "a")) (aCons (eC (.str "e")) (nilA)))) (aCons (eTup (aCons (eC (.str "b")) (aCons (eC (.str "c")) (nilA)))) (aCons (eTup (aCons (eC (.str "b")) (aCons (eC (.str "d")) (nilA)))) (aCons (eTup (aCons (eC (.str "b")) (aCons (eC (.str "e")) (nilA)))) (aCons (eTup (aCons (eC (.str "c")) (aCons (eC (.str "d")) (nilA)))) (aCons (eTup (aCons (eC (.str "c")) (aCons (eC (.str "e")) (nilA)))) (nilA)))))))))))
def m__law_near_misses_s3 : M Fl := sAsg (bName 2) (eTup (aCons (eTup (aCons (eC (.str "a")) (aCons (eC (.int 2)) (nilA)))) (aCons (eTup (aCons (eC (.str "b")) (aCons (eC (.int 2)) (nilA)))) (aCons (eTup (aCons (eC (.str "c")) (aCons (eC (.int 2)) (nilA)))) (aCons (eTup (aCons (eC (.str "d")) (aCons (eC (.int 2)) (nilA)))) (aCons (eTup (aCons (eC (.str "e")) (aCons (eC (.int 2)) (nilA)))) (nilA)))))))
def m__law_near_misses_s4 : M Fl := sAsg (bTup [bName 0, bName 1]) (eTup (aCons (eTup (aCons (eTup (aCons (eC (.str "a")) (aCons (eC (.int 2)) (nilA)))) (aCons (eTup (aCons (eC (.str "b")) (aCons (eC (.int 2)) (nilA)))) (nilA)))) (aCons (eTup (aCons (eTup (aCons (eC (.str "a")) (aCons (eC (.int 3)) (nilA)))) (aCons (eTup (aCons (eC (.str "b")) (aCons (eC (.int 3)) (nilA)))) (aCons (eTup (aCons (eC (.str "c")) (aCons (eC (.int 3)) (nilA)))) (nilA))))) (nilA))))
def m__law_near_misses : M Tv := sSeqN (m__law_near_misses_s4) (sSeqN (m__law_near_misses_s3) (sSeqN (m__law_near_misses_s2) (sSeqN (m__law_near_misses_s1) (nL (lLst (aCons (eTup (aCons (eVar 0) (aCons (eTup (aCons (eTup (aCons (eC (.str "a")) (nilA))) (nilA))) (nilA)))) (aCons (eTup (aCons (eVar 0) (aCons (eTup (aCons (eTup (aCons (eC (.str "a")) (nilA))) (aCons (eTup (aCons (eC (.str "a")) (aCons (eC (.str "b")) (nilA)))) (nilA)))) (nilA)))) (aCons (eTup (aCons (eVar 0) (aCons (eTup (aCons (eTup (aCons (eC (.str "b")) (nilA))) (aCons (eTup (aCons (eC (.str "a")) (nilA))) (nilA)))) (nilA)))) (aCons (eTup (aCons (eVar 0) (aCons (eTup (aCons (eTup (aCons (eC (.str "a")) (aCons (eC (.str "a")) (nilA)))) (aCons (eTup (aCons (eC (.str "b")) (nilA))) (nilA)))) (nilA)))) (aCons (eTup (aCons (eTup (aCons (eTup (aCons (eC (.str "abcd")) (aCons (eC (.int 2)) (nilA)))) (nilA))) (aCons (eTup (aCons (eTup (aCons (eC (.str "abcd")) (nilA))) (nilA))) (nilA)))) (aCons (eTup (aCons (eTup (aCons (eTup (aCons (eC (.str "a")) (aCons (eC (.int 4)) (nilA)))) (nilA))) (aCons (eTup (aCons (eTup (aCons (eC (.str "a")) (nilA))) (nilA))) (nilA)))) (aCons (eTup (aCons (eTup (aCons (eTup (aCons (eC (.str "a")) (aCons (eC (.bool true)) (nilA)))) (nilA))) (aCons (eTup (aCons (eTup (aCons (eC (.str "a")) (nilA))) (nilA))) (nilA)))) (aCons (eTup (aCons (ap2 addD (eVar 1) (eTup (aCons (eTup (aCons (eC (.str "d")) (aCons (eC (.int 2)) (nilA)))) (nilA)))) (aCons (eTup (aCons (eTup (aCons (eC (.str "a")) (aCons (eC (.str "b")) (aCons (eC (.str "c")) (nilA))))) (aCons (eTup (aCons (eC (.str "d")) (nilA))) (nilA)))) (nilA)))) (aCons (eTup (aCons (eVar 1) (aCons (eTup (aCons (eTup (aCons (eC (.str "a")) (aCons (eC (.str "b")) (aCons (eC (.str "c")) (nilA))))) (nilA))) (nilA)))) (aCons (eTup (aCons (eTup (aCons (eTup (aCons (eC (.str "a")) (aCons (eC (.int 1)) (nilA)))) (nilA))) (aCons (eTup (aCons (eTup (aCons (eC (.str "a")) (nilA))) (nilA))) (nilA)))) (aCons (eTup (aCons (ap2 addD (eVar 1) (eTup (aCons (eTup (aCons (eC (.str "d")) (aCons (eC (.int 2)) (nilA)))) (aCons (eTup (aCons (eC (.str "e")) (aCons (eC (.int 2)) (nilA)))) (nilA))))) (aCons (eTup (aCons (eTup (aCons (eC (.str "a")) (aCons (eC (.str "b")) (nilA)))) (aCons (eTup (aCons (eC (.str "c")) (nilA))) (aCons (eTup (aCons (eC (.str "d")) (nilA))) (aCons (eTup (aCons (eC (.str "e")) (nilA))) (nilA)))))) (nilA)))) (aCons (eTup (aCons (eVar 2) (aCons (eVar 3) (nilA)))) (aCons (eTup (aCons (ap2 addD (eVar 2) (eTup (aCons (eTup (aCons (eC (.str "f")) (aCons (eC (.int 2)) (nilA)))) (nilA)))) (aCons (eTup (aCons (eTup (aCons (eC (.str "a")) (nilA))) (aCons (eTup (aCons (eC (.str "b")) (nilA))) (aCons (eTup (aCons (eC (.str "c")) (nilA))) (aCons (eTup (aCons (eC (.str "d")) (nilA))) (aCons (eTup (aCons (eC (.str "e")) (nilA))) (aCons (eTup (aCons (eC (.str "f")) (nilA))) (nilA)))))))) (nilA)))) (aCons (eTup (aCons (eVar 2) (aCons (eVar 4) (nilA)))) (aCons (eTup (aCons (eVar 2) (aCons (ap2 addD (ap2 addD (eSl (eVar 4) (pN) (pS (eC (.int 3)))) (eTup (aCons (eTup (aCons (eC (.str "a")) (aCons (eC (.str "d")) (aCons (eC (.str "e")) (nilA))))) (nilA)))) (eSl (eVar 4) (pS (eC (.int 3))) (pN))) (nilA)))) (aCons (eTup (aCons (eVar 0) (aCons (eTup (nilA)) (nilA)))) (aCons (eTup (aCons (eVar 0) (aCons (eTup (aCons (eTup (aCons (eC (.str "a")) (aCons (eC (.str "b")) (nilA)))) (aCons (eTup (aCons (eC (.str "a")) (aCons (eC (.str "b")) (nilA)))) (nilA)))) (nilA)))) (aCons (eTup (aCons (eVar 0) (aCons (eLst (aCons (eTup (aCons (eC (.str "a")) (aCons (eC (.str "b")) (nilA)))) (nilA))) (nilA)))) (aCons (eTup (aCons (eTup (aCons (eTup (aCons (eC (.str "b")) (aCons (eC (.int 2)) (nilA)))) (aCons (eTup (aCons (eC (.str "a")) (aCons (eC (.int 2)) (nilA)))) (nilA)))) (aCons (eTup (aCons (eTup (aCons (eC (.str "a")) (aCons (eC (.str "b")) (nilA)))) (nilA))) (nilA)))) (aCons (eTup (aCons (eTup (aCons (eTup (aCons (eC (.str "a")) (aCons (eC (.int 2)) (nilA)))) (aCons (eTup (aCons (eC (.str "a")) (aCons (eC (.int 2)) (nilA)))) (nilA)))) (aCons (eTup (aCons (eTup (aCons (eC (.str "a")) (nilA))) (nilA))) (nilA)))) (aCons (eTup (aCons (eVar 0) (aCons (eTup (aCons (eTup (aCons (eC (.str "a")) (aCons (eC (.str "b")) (aCons (eC (.str "c")) (nilA))))) (nilA))) (nilA)))) (aCons (eTup (aCons (eVar 1) (aCons (eTup (aCons (eTup (aCons (eC (.str "a")) (aCons (eC (.str "b")) (nilA)))) (aCons (eTup (aCons (eC (.str "a")) (aCons (eC (.str "c")) (nilA)))) (aCons (eTup (aCons (eC (.str "b")) (aCons (eC (.str "c")) (nilA)))) (nilA))))) (nilA)))) (aCons (eTup (aCons (eVar 2) (aCons (eTup (aCons (eTup (aCons (eC (.str "a")) (aCons (eC (.str "b")) (aCons (eC (.str "c")) (aCons (eC (.str "d")) (nilA)))))) (aCons (eTup (aCons (eC (.str "b")) (aCons (eC (.str "c")) (aCons (eC (.str "d")) (aCons (eC (.str "e")) (nilA)))))) (aCons (eTup (aCons (eC (.str "a")) (aCons (eC (.str "e")) (nilA)))) (nilA))))) (nilA)))) (nilA)))))))))))))))))))))))))))))
def n__law_near_misses : NF := runN 5 m__law_near_misses
def m_law_s1 : M Fl := sDrop (eApp 2 (eCB 1 1 (b__law_benB 12) 1 (aCons (eCB 1 1 (b__law_benB 12) 1 (aCons (eVar 4) (nilA)) [] [eVar 0]) (nilA)) [] [eVar 0]))
def m_law_s2 : M Fl := sDrop (eApp 2 (eCB 1 1 (b__law_benB 12) 1 (aCons (eVar 4) (nilA)) [] [eVar 0]))
def m_law_s3 : M Fl := sAsg (bName 4) (eCB 1 2 b__law_scenario 1 (aCons (eC (.int 5)) (aCons (eC (.int 32)) (nilA))) [] [eVar 0])
def m_law_b4 : M Fl := sSeq (m_law_s3) (sSeq (sDrop (eApp 2 (eVar 4))) (sSeq (m_law_s2) (sSeq (m_law_s1) (sSeq (sWipe [3, 4]) (fun g => .ok .nx g)))))
def m_law_s5 : M Fl := sRet (apA allD (aCons (frzL (eLcV [4] (bName 4) (tAll) (ap2 eqD (eCall 1 p_is_scenario (aCons (eVar 4) (nilA))) (eCall 1 p__law_is_scenario (aCons (eVar 4) (nilA)))) 2)) (nilA)))
def m_law_s6 : M Fl := sFor (bName 3) (apA rng1 (aCons (eC (.int 12)) (nilA))) (m_law_b4)
def m_law_s7 : M Fl := sSetO 2 (eCallN0 n__law_near_misses)
def m_law : M Fl := sSeq (sSetL 1 (lLst (nilA))) (sSeq (m_law_s7) (sSeq (m_law_s6) (m_law_s5)))
end
end PP
namespace PP
open PySem PySem.Spec
/-! ### a new list that a function without arguments hands over -/
theorem sn_setO0 {i : Nat} {f : NF} {P : Pa} {xs : List D} (e : f [] = .ok (.ml false xs)) {p : Pt} (hi : P[i]? = some p := by rfl) (hf : PtFr p := by first | exact trivial | rfl) : SN (sSetO i (eCallN0 f)) P (T.ok xs) fun x => P.set i (.v (.ml false x)) := fun g a => by
  refine ⟨.nx, g.set i (some (.ml false xs)), ?_, rfl, a.set i rfl⟩
  unfold sSetO bnd eCallN0
  rw [e]
  dsimp only
  rw [if_pos (a.free hi hf)]
abbrev L__law_near_misses : List D := [.tuple [.tuple [.tuple [.str "a", .int 2], .tuple [.str "b", .int 2]], .tuple [.tuple [.str "a"]]],
  .tuple [.tuple [.tuple [.str "a", .int 2], .tuple [.str "b", .int 2]], .tuple [.tuple [.str "a"], .tuple [.str "a", .str "b"]]],
  .tuple [.tuple [.tuple [.str "a", .int 2], .tuple [.str "b", .int 2]], .tuple [.tuple [.str "b"], .tuple [.str "a"]]],
  .tuple [.tuple [.tuple [.str "a", .int 2], .tuple [.str "b", .int 2]], .tuple [.tuple [.str "a", .str "a"], .tuple [.str "b"]]],
  .tuple [.tuple [.tuple [.str "abcd", .int 2]], .tuple [.tuple [.str "abcd"]]],
  .tuple [.tuple [.tuple [.str "a", .int 4]], .tuple [.tuple [.str "a"]]],
  .tuple [.tuple [.tuple [.str "a", .bool true]], .tuple [.tuple [.str "a"]]],
  .tuple [.tuple [.tuple [.str "a", .int 3], .tuple [.str "b", .int 3], .tuple [.str "c", .int 3], .tuple [.str "d", .int 2]], .tuple [.tuple [.str "a", .str "b", .str "c"], .tuple [.str "d"]]],
  .tuple [.tuple [.tuple [.str "a", .int 3], .tuple [.str "b", .int 3], .tuple [.str "c", .int 3]], .tuple [.tuple [.str "a", .str "b", .str "c"]]],
  .tuple [.tuple [.tuple [.str "a", .int 1]], .tuple [.tuple [.str "a"]]],
  .tuple [.tuple [.tuple [.str "a", .int 3], .tuple [.str "b", .int 3], .tuple [.str "c", .int 3], .tuple [.str "d", .int 2], .tuple [.str "e", .int 2]], .tuple [.tuple [.str "a", .str "b"], .tuple [.str "c"], .tuple [.str "d"], .tuple [.str "e"]]],
  .tuple [.tuple [.tuple [.str "a", .int 2], .tuple [.str "b", .int 2], .tuple [.str "c", .int 2], .tuple [.str "d", .int 2], .tuple [.str "e", .int 2]], .tuple [.tuple [.str "a", .str "b"], .tuple [.str "a", .str "c"], .tuple [.str "a", .str "d"], .tuple [.str "a", .str "e"], .tuple [.str "b", .str "c"], .tuple [.str "b", .str "d"], .tuple [.str "b", .str "e"], .tuple [.str "c", .str "d"], .tuple [.str "c", .str "e"]]],
  .tuple [.tuple [.tuple [.str "a", .int 2], .tuple [.str "b", .int 2], .tuple [.str "c", .int 2], .tuple [.str "d", .int 2], .tuple [.str "e", .int 2], .tuple [.str "f", .int 2]], .tuple [.tuple [.str "a"], .tuple [.str "b"], .tuple [.str "c"], .tuple [.str "d"], .tuple [.str "e"], .tuple [.str "f"]]],
  .tuple [.tuple [.tuple [.str "a", .int 2], .tuple [.str "b", .int 2], .tuple [.str "c", .int 2], .tuple [.str "d", .int 2], .tuple [.str "e", .int 2]], .tuple [.tuple [.str "a", .str "b", .str "c"], .tuple [.str "a", .str "b", .str "d"], .tuple [.str "a", .str "c", .str "e"], .tuple [.str "b", .str "d", .str "e"], .tuple [.str "c", .str "d", .str "e"]]],
  .tuple [.tuple [.tuple [.str "a", .int 2], .tuple [.str "b", .int 2], .tuple [.str "c", .int 2], .tuple [.str "d", .int 2], .tuple [.str "e", .int 2]], .tuple [.tuple [.str "a", .str "b", .str "c"], .tuple [.str "a", .str "b", .str "d"], .tuple [.str "a", .str "c", .str "e"], .tuple [.str "a", .str "d", .str "e"], .tuple [.str "b", .str "d", .str "e"], .tuple [.str "c", .str "d", .str "e"]]],
  .tuple [.tuple [.tuple [.str "a", .int 2], .tuple [.str "b", .int 2]], .tuple []],
  .tuple [.tuple [.tuple [.str "a", .int 2], .tuple [.str "b", .int 2]], .tuple [.tuple [.str "a", .str "b"], .tuple [.str "a", .str "b"]]],
  .tuple [.tuple [.tuple [.str "a", .int 2], .tuple [.str "b", .int 2]], .list [.tuple [.str "a", .str "b"]]],
  .tuple [.tuple [.tuple [.str "b", .int 2], .tuple [.str "a", .int 2]], .tuple [.tuple [.str "a", .str "b"]]],
  .tuple [.tuple [.tuple [.str "a", .int 2], .tuple [.str "a", .int 2]], .tuple [.tuple [.str "a"]]],
  .tuple [.tuple [.tuple [.str "a", .int 2], .tuple [.str "b", .int 2]], .tuple [.tuple [.str "a", .str "b", .str "c"]]],
  .tuple [.tuple [.tuple [.str "a", .int 3], .tuple [.str "b", .int 3], .tuple [.str "c", .int 3]], .tuple [.tuple [.str "a", .str "b"], .tuple [.str "a", .str "c"], .tuple [.str "b", .str "c"]]],
  .tuple [.tuple [.tuple [.str "a", .int 2], .tuple [.str "b", .int 2], .tuple [.str "c", .int 2], .tuple [.str "d", .int 2], .tuple [.str "e", .int 2]], .tuple [.tuple [.str "a", .str "b", .str "c", .str "d"], .tuple [.str "b", .str "c", .str "d", .str "e"], .tuple [.str "a", .str "e"]]]]
theorem nv__law_near_misses : n__law_near_misses [] = .ok (.ml false L__law_near_misses) := by rfl
noncomputable section
def d__law_benB (rec : BF) (script_ : D) (state_ : List D) (thing_ : D) : T (D × List D) := (((((T.ofO ((isiD "tuple") thing_)).bind fun v1 => T.ofO (truD v1)).bind fun v2 => T.ok (!v2)).bind fun v3 => T.ok (v3, state_)).bind fun v14 => if v14.1 = true then .ok (true, v14.2) else (((T.ofO (truD thing_)).bind fun v5 => T.ok (!v5)).bind fun v6 => T.ok (v6, v14.2)).bind fun v13 => if v13.1 = true then .ok (true, v13.2) else ((cbT 1 1 b__law_draw [script_] v13.2 [(PyData.int 4)]).bind fun v9 => (T.ofO (eqD v9.1 (PyData.int 0))).bind fun v10 => T.ok (v10, v9.2)).bind fun v11 => (T.ofO (asB v11.1)).bind fun v12 => T.ok (v12, v11.2)).bind fun v146 => if v146.1 = true then ((((((((T.ofO (negD (PyData.int 1))).bind fun v26 => (((((((((lenT [] (.ok (.tuple []))).bind fun v17 => ((lenT [] (.ok (.list []))).bind fun v16 => T.ok [v16]).bind fun v18 => T.ok (v17 :: v18)).bind fun v19 => T.ok ((PyData.str "abcd") :: v19)).bind fun v20 => T.ok ((PyData.str "A") :: v20)).bind fun v21 => T.ok ((PyData.str "") :: v21)).bind fun v22 => T.ok ((PyData.str "b") :: v22)).bind fun v23 => T.ok ((PyData.str "a") :: v23)).bind fun v24 => T.ok ((PyData.int 10) :: v24)).bind fun v25 => T.ok ((PyData.int 3) :: v25)).bind fun v27 => T.ok (v26 :: v27)).bind fun v28 => T.ok ((PyData.int 1) :: v28)).bind fun v29 => T.ok ((PyData.int 0) :: v29)).bind fun v30 => T.ok ((PyData.bool false) :: v30)).bind fun v31 => T.ok ((PyData.bool true) :: v31)).bind fun v32 => T.ok (PyData.none :: v32)).bind fun v33 => lenT v33 (.ok (.list v33))).bind fun s34 => ((((lenT [(PyData.str "a")] (.ok (.tuple [(PyData.str "a")]))).bind fun v40 => ((lenT [(PyData.str "a"), (PyData.str "b")] (.ok (.tuple [(PyData.str "a"), (PyData.str "b")]))).bind fun v38 => ((lenT [(PyData.str "b"), (PyData.str "a")] (.ok (.tuple [(PyData.str "b"), (PyData.str "a")]))).bind fun v36 => ((lenT [(PyData.str "a"), (PyData.int 2)] (.ok (.tuple [(PyData.str "a"), (PyData.int 2)]))).bind fun v35 => T.ok [v35]).bind fun v37 => T.ok (v36 :: v37)).bind fun v39 => T.ok (v38 :: v39)).bind fun v41 => T.ok (v40 :: v41)).bind fun v42 => lenT v42 (.ok (.list v42))).bind fun v43 => T.ofO (addD s34 v43)).bind fun s44 => (((T.ofO ((isiD "tuple") thing_)).bind fun v45 => T.ofO (truD v45)).bind fun v91 => if v91 = true then (((((T.ofO (seqA [thing_])).bind fun v68 => T.ok (PyData.list v68)).bind fun v85 => ((((T.ofO (negD (PyData.int 1))).bind fun v69 => T.ofO (partD v69)).bind fun v70 => T.ofO (slD thing_ none v70)).bind fun v83 => (((((T.ofO (negD (PyData.int 1))).bind fun v71 => T.ofO (partD v71)).bind fun v72 => T.ofO (slD thing_ v72 none)).bind fun v73 => T.ofO (addD thing_ v73)).bind fun v81 => (((T.ofO (partD (PyData.int 1))).bind fun v74 => T.ofO (slD thing_ v74 none)).bind fun v79 => ((T.ofO (revD thing_)).bind fun v77 => (((lenT [PyData.none] (.ok (.tuple [PyData.none]))).bind fun v75 => T.ofO (addD thing_ v75)).bind fun v76 => T.ok [v76]).bind fun v78 => T.ok (v77 :: v78)).bind fun v80 => T.ok (v79 :: v80)).bind fun v82 => T.ok (v81 :: v82)).bind fun v84 => T.ok (v83 :: v84)).bind fun v86 => T.ok (v85 :: v86)).bind fun v87 => lenT v87 (.ok (.list v87))).bind fun v88 => T.ofO (addD s44 v88)).bind fun v90 => T.ok v90 else T.ok s44).bind fun s92 => (((T.ofO ((isiD "int") thing_)).bind fun v93 => T.ofO (truD v93)).bind fun v121 => if v121 = true then (((((T.ofO (addBD thing_ (PyData.int 1))).bind fun v114 => ((T.ofO (subBD thing_ (PyData.int 1))).bind fun v112 => ((T.ofO ((truD thing_).map fun k => .bool (!k))).bind fun v110 => ((lenT [thing_] (.ok (.tuple [thing_]))).bind fun v108 => ((T.ofO (strBD [thing_])).bind fun v107 => T.ok [v107]).bind fun v109 => T.ok (v108 :: v109)).bind fun v111 => T.ok (v110 :: v111)).bind fun v113 => T.ok (v112 :: v113)).bind fun v115 => T.ok (v114 :: v115)).bind fun v116 => lenT v116 (.ok (.list v116))).bind fun v117 => T.ofO (mulD v117 (PyData.int 2))).bind fun v118 => T.ofO (addD s92 v118)).bind fun v120 => T.ok v120 else T.ok s92).bind fun s122 => (cbT 1 1 b__law_pick [script_] v146.2 [s122]).bind fun v123 => T.ok (v123.1, v123.2) else (((T.ofO (lenD [thing_])).bind fun v124 => T.ok [v124]).bind fun v125 => cbT 1 1 b__law_draw [script_] v146.2 v125).bind fun s126 => (((((T.ofO (partD s126.1)).bind fun v127 => T.ofO (slD thing_ none v127)).bind fun v128 => T.ok (v128, s126.2)).bind fun v135 => (((((T.ofO (ixD thing_ s126.1)).bind fun v130 => T.ok [v130]).bind fun v131 => cbT 1 1 rec [script_] v135.2 v131).bind fun v133 => T.ok ([v133.1], v133.2)).bind fun v134 => lenT v134.1 (.ok (.tuple v134.1, v134.2))).bind fun v136 => (T.ofO (addD v135.1 v136.1)).bind fun v137 => T.ok (v137, v136.2)).bind fun v142 => ((((T.ofO (addBD s126.1 (PyData.int 1))).bind fun v139 => T.ofO (partD v139)).bind fun v140 => T.ofO (slD thing_ v140 none)).bind fun v141 => T.ok (v141, v142.2)).bind fun v143 => (T.ofO (addD v142.1 v143.1)).bind fun v144 => T.ok (v144, v143.2)).bind fun v145 => T.ok (v145.1, v145.2)
theorem sm__law_benB (rec : BF) (script_ : D) (state_ : List D) (thing_ : D) : SmB (runB 1 5 (m__law_benB rec) [script_] state_ [thing_]) (d__law_benB rec script_ state_ thing_) := by
  have h : Ev (m__law_benB rec) [.v (.d script_), .v (.ml true state_), .v (.d thing_), .h, .h] _ (RQ (Rq 1)) := ev_iflE (P1 := (fun z => [.v (.d script_), .v (.ml true z), .v (.d thing_), .h, .h])) (ee_or (P1 := (fun z => [.v (.d script_), .v (.ml true z), .v (.d thing_), .h, .h])) (EP.ee (P' := (fun z => [.v (.d script_), .v (.ml true z), .v (.d thing_), .h, .h])) (s := state_) (ep_not (ep_tru (ep_ap1 (ep_var (x := thing_)))))) (fun s4 => atP [.v (.d script_), .v (.ml true s4), .v (.d thing_), .h, .h] (ee_or (P1 := (fun z => [.v (.d script_), .v (.ml true z), .v (.d thing_), .h, .h])) (EP.ee (P' := (fun z => [.v (.d script_), .v (.ml true z), .v (.d thing_), .h, .h])) (s := s4) (ep_not (ep_tru (ep_var (x := thing_))))) (fun s7 => atP [.v (.d script_), .v (.ml true s7), .v (.d thing_), .h, .h] (ee_tst (P1 := (fun z => [.v (.d script_), .v (.ml true z), .v (.d thing_), .h, .h])) (ee_ap2 (P1 := (fun z => [.v (.d script_), .v (.ml true z), .v (.d thing_), .h, .h])) (P2 := (fun z => [.v (.d script_), .v (.ml true z), .v (.d thing_), .h, .h])) (ee_cb (b := true) (z0 := s7) (ep_var (x := script_)) (ep_cons (ep_c) (ep_nil))) (fun s8 => atP [.v (.d script_), .v (.ml true s8), .v (.d thing_), .h, .h] (EP.ee (P' := (fun z => [.v (.d script_), .v (.ml true z), .v (.d thing_), .h, .h])) (s := s8) (ep_c))))))))) (fun s15 => atP [.v (.d script_), .v (.ml true s15), .v (.d thing_), .h, .h] (rq_lv (ev_seq (sn_set (ep_lst (ep_cons (ep_c) (ep_cons (ep_c) (ep_cons (ep_c) (ep_cons (ep_c) (ep_cons (ep_c) (ep_cons (ep_ap1 (ep_c)) (ep_cons (ep_c) (ep_cons (ep_c) (ep_cons (ep_c) (ep_cons (ep_c) (ep_cons (ep_c) (ep_cons (ep_c) (ep_cons (ep_c) (ep_cons (ep_tupT (ep_nil)) (ep_cons (ep_lst (ep_nil)) (ep_nil)))))))))))))))))) (fun s34 => atP [.v (.d script_), .v (.ml true s15), .v (.d thing_), .h, .v (.d s34)] (ev_seq (sn_set (ep_ap2 (ep_var (x := s34)) (ep_lst (ep_cons (ep_tupT (ep_cons (ep_c) (ep_nil))) (ep_cons (ep_tupT (ep_cons (ep_c) (ep_cons (ep_c) (ep_nil)))) (ep_cons (ep_tupT (ep_cons (ep_c) (ep_cons (ep_c) (ep_nil)))) (ep_cons (ep_tupT (ep_cons (ep_c) (ep_cons (ep_c) (ep_nil)))) (ep_nil)))))))) (fun s44 => atP [.v (.d script_), .v (.ml true s15), .v (.d thing_), .h, .v (.d s44)] (ev_seq (snT (σ := D) (fun s => [.v (.d script_), .v (.ml true s15), .v (.d thing_), .h, .v (.d s)]) (ev_if (ep_tru (ep_ap1 (ep_var (x := thing_)))) (sn_end (fun s89 => s89) (sn_set (ep_ap2 (ep_var (x := s44)) (ep_lst (ep_cons (ep_frzL (ep_eList (ep_cons (ep_var (x := thing_)) (ep_nil)))) (ep_cons (ep_sl (ep_var (x := thing_)) (ep_pN) (ep_pS (ep_ap1 (ep_c)))) (ep_cons (ep_ap2 (ep_var (x := thing_)) (ep_sl (ep_var (x := thing_)) (ep_pS (ep_ap1 (ep_c))) (ep_pN))) (ep_cons (ep_sl (ep_var (x := thing_)) (ep_pS (ep_c)) (ep_pN)) (ep_cons (ep_ap1 (ep_var (x := thing_))) (ep_cons (ep_ap2 (ep_var (x := thing_)) (ep_tupT (ep_cons (ep_c) (ep_nil)))) (ep_nil)))))))))) (fun s89 => (fc fv (fc fv (fc fv (fc fh (fc fv fn))))))) (sn_skip s44 (fc fv (fc fv (fc fv (fc fh (fc fv fn)))))))) (fun s92 => atP [.v (.d script_), .v (.ml true s15), .v (.d thing_), .h, .v (.d s92)] (ev_seq (snT (σ := D) (fun s => [.v (.d script_), .v (.ml true s15), .v (.d thing_), .h, .v (.d s)]) (ev_if (ep_tru (ep_ap1 (ep_var (x := thing_)))) (sn_end (fun s119 => s119) (sn_set (ep_ap2 (ep_var (x := s92)) (ep_ap2 (ep_lst (ep_cons (ep_ap2 (ep_var (x := thing_)) (ep_c)) (ep_cons (ep_ap2 (ep_var (x := thing_)) (ep_c)) (ep_cons (ep_eNot (ep_var (x := thing_))) (ep_cons (ep_tupT (ep_cons (ep_var (x := thing_)) (ep_nil))) (ep_cons (ep_apA (ep_cons (ep_var (x := thing_)) (ep_nil))) (ep_nil))))))) (ep_c)))) (fun s119 => (fc fv (fc fv (fc fv (fc fh (fc fv fn))))))) (sn_skip s92 (fc fv (fc fv (fc fv (fc fh (fc fv fn)))))))) (fun s122 => atP [.v (.d script_), .v (.ml true s15), .v (.d thing_), .h, .v (.d s122)] (Lvx.ev (lv_retBE (P1 := (fun z => [.v (.d script_), .v (.ml true z), .v (.d thing_), .h, .v (.d s122)])) (np := 1) (fun z => z) (ee_cb (b := true) (z0 := s15) (ep_var (x := script_)) (ep_cons (ep_var (x := s122)) (ep_nil))) (fun _ => rfl))))))))))))) (fun s15 => atP [.v (.d script_), .v (.ml true s15), .v (.d thing_), .h, .h] (ev_seq (sn_setE (P1 := (fun z => [.v (.d script_), .v (.ml true z), .v (.d thing_), .h, .h])) (ee_cb (b := true) (z0 := s15) (ep_var (x := script_)) (ep_cons (ep_apA (ep_cons (ep_var (x := thing_)) (ep_nil))) (ep_nil))) (fun _ => frE)) (fun s126 => atP [.v (.d script_), .v (.ml true s126.2), .v (.d thing_), .v (.d s126.1), .h] (Lvx.ev (lv_retBE (P1 := (fun z => [.v (.d script_), .v (.ml true z), .v (.d thing_), .v (.d s126.1), .h])) (np := 1) (fun z => z) (ee_ap2 (P1 := (fun z => [.v (.d script_), .v (.ml true z), .v (.d thing_), .v (.d s126.1), .h])) (P2 := (fun z => [.v (.d script_), .v (.ml true z), .v (.d thing_), .v (.d s126.1), .h])) (ee_ap2 (P1 := (fun z => [.v (.d script_), .v (.ml true z), .v (.d thing_), .v (.d s126.1), .h])) (P2 := (fun z => [.v (.d script_), .v (.ml true z), .v (.d thing_), .v (.d s126.1), .h])) (EP.ee (P' := (fun z => [.v (.d script_), .v (.ml true z), .v (.d thing_), .v (.d s126.1), .h])) (s := s126.2) (ep_sl (ep_var (x := thing_)) (ep_pN) (ep_pS (ep_var (x := s126.1))))) (fun s129 => atP [.v (.d script_), .v (.ml true s129), .v (.d thing_), .v (.d s126.1), .h] (ee_tup (P1 := (fun z => [.v (.d script_), .v (.ml true z), .v (.d thing_), .v (.d s126.1), .h])) (ee_cons (P1 := (fun z => [.v (.d script_), .v (.ml true z), .v (.d thing_), .v (.d s126.1), .h])) (P2 := (fun z => [.v (.d script_), .v (.ml true z), .v (.d thing_), .v (.d s126.1), .h])) (atP [.v (.d script_), .v (.ml true s129), .v (.d thing_), .v (.d s126.1), .h] (ee_cb (b := true) (z0 := s129) (ep_var (x := script_)) (ep_cons (ep_ap2 (ep_var (x := thing_)) (ep_var (x := s126.1))) (ep_nil)))) (fun s132 => atP [.v (.d script_), .v (.ml true s132), .v (.d thing_), .v (.d s126.1), .h] (EP.ee (P' := (fun z => [.v (.d script_), .v (.ml true z), .v (.d thing_), .v (.d s126.1), .h])) (s := s132) (ep_nil))))))) (fun s138 => atP [.v (.d script_), .v (.ml true s138), .v (.d thing_), .v (.d s126.1), .h] (EP.ee (P' := (fun z => [.v (.d script_), .v (.ml true z), .v (.d thing_), .v (.d s126.1), .h])) (s := s138) (ep_sl (ep_var (x := thing_)) (ep_pS (ep_ap2 (ep_var (x := s126.1)) (ep_c))) (ep_pN))))) (fun _ => rfl))))))
  exact sm_RB h (gc gv (gc gv (gc gv (gc gh (gc gh gn)))))
def d__law_is_int (thing_ : D) : T D := (T.ofO ((isiD "int") thing_)).bind fun v2 => T.andD v2 ((T.ofO ((isiD "bool") thing_)).bind fun v1 => T.ofO ((truD v1).map fun k => .bool (!k)))
theorem sm__law_is_int (thing_ : D) : SmP (runP 1 (m__law_is_int) [thing_]) (d__law_is_int thing_) := by
  have h : Ev (m__law_is_int) [.v (.d thing_)] _ (RQ Rp) := Lvx.ev (lv_ret (ep_eAnd (ep_ap1 (ep_var (x := thing_))) (ep_eNot (ep_ap1 (ep_var (x := thing_))))))
  exact sm_R h (gc gv gn)
def d__law_is_name (thing_ : D) : T D := ((((T.ofO ((isiD "str") thing_)).bind fun v1 => T.ofO (truD v1)).bind fun v2 => T.ok (!v2)).bind fun v6 => if v6 = true then .ok true else (((T.ofO (lenD [thing_])).bind fun v3 => T.chn (leD (PyData.int 1) v3) (T.ofO (leD v3 (PyData.int 3)))).bind fun v4 => T.ofO (asB v4)).bind fun v5 => T.ok (!v5)).bind fun v15 => if v15 = true then T.ok (PyData.bool false) else (((T.ofO (itemsD thing_)).bind fun v11 => lenT v11 (filT (fun x7 => (((T.chn (leD (PyData.str "a") x7) (T.ofO (leD x7 (PyData.str "z")))).bind fun v8 => T.ofO (asB v8)).bind fun v9 => T.ok (!v9)).bind fun v10 => if v10 = true then T.ok (some x7) else .ok none) v11)).bind fun v12 => T.ok (PyData.list v12)).bind fun v13 => (lenT [] (.ok (.list []))).bind fun v14 => T.ofO (eqD v13 v14)
theorem sm__law_is_name (thing_ : D) : SmP (runP 2 (m__law_is_name) [thing_]) (d__law_is_name thing_) := by
  have h : Ev (m__law_is_name) [.v (.d thing_), .h] _ (RQ Rp) := ev_ifl (ep_or (ep_not (ep_tru (ep_ap1 (ep_var (x := thing_))))) (ep_not (ep_tst (ep_chain (ep_c) (ep_apA (ep_cons (ep_var (x := thing_)) (ep_nil))) (ep_c))))) (rq_lv (Lvx.ev (lv_ret (ep_c)))) (Lvx.ev (lv_ret (ep_ap2 (ep_frzL (ep_lcF (ep_ap1 (ep_var (x := thing_))) (ac an) (fc fv (fc fh fn)) (fun x7 => atP [.v (.d thing_), .h] (bd_name (atP [.v (.d thing_), .v (.d x7)] (cq_of (ep_clS (ep_not (ep_tst (ep_chain (ep_c) (ep_var (x := x7)) (ep_c)))) (ep_var (x := x7))) (ac an) (fc fv (fc fh fn)))))))) (ep_lst (ep_nil)))))
  exact sm_R h (gc gv (gc gh gn))
def d__law_questions (thing_ : D) : T D := ((((T.ofO ((isiD "tuple") thing_)).bind fun v1 => T.ofO (truD v1)).bind fun v2 => T.ok (!v2)).bind fun v6 => if v6 = true then .ok true else (((T.ofO (lenD [thing_])).bind fun v3 => T.chn (leD (PyData.int 1) v3) (T.ofO (leD v3 (PyData.int 5)))).bind fun v4 => T.ofO (asB v4)).bind fun v5 => T.ok (!v5)).bind fun v100 => if v100 = true then T.ok (PyData.bool false) else ((lenT [(PyData.int 1), (PyData.str "")] (.ok (.tuple [(PyData.int 1), (PyData.str "")]))).bind fun v10 => T.tup2 v10 fun y7 y8 => .ok (y7, y8)).bind fun s11 => T.bindR (β := Unit) ((T.ofO (itemsD thing_)).bind fun v70 => forF v70 (s11.1, s11.2) fun s40 x41 => ((((T.ofO ((isiD "tuple") x41)).bind fun v42 => T.ofO (truD v42)).bind fun v43 => T.ok (!v43)).bind fun v51 => if v51 = true then .ok true else (((T.ofO (lenD [x41])).bind fun v44 => T.ofO (neD v44 (PyData.int 2))).bind fun v45 => T.ofO (asB v45)).bind fun v50 => if v50 = true then .ok true else ((((T.ofO (ixD x41 (PyData.int 0))).bind fun v46 => T.ok [v46]).bind fun v47 => callT 1 p__law_is_name v47).bind fun v48 => T.ofO (truD v48)).bind fun v49 => T.ok (!v49)).bind fun v69 => if v69 = true then T.ok (.ret (PyData.bool false)) else (((((T.ofO (ixD x41 (PyData.int 1))).bind fun v52 => T.ok [v52]).bind fun v53 => callT 1 p__law_is_int v53).bind fun v54 => T.ofO (truD v54)).bind fun v55 => T.ok (!v55)).bind fun v68 => if v68 = true then T.ok (.ret (PyData.bool false)) else ((((T.ofO (ixD x41 (PyData.int 1))).bind fun v56 => (lenT [(PyData.int 2), (PyData.int 3)] (.ok (.tuple [(PyData.int 2), (PyData.int 3)]))).bind fun v57 => T.ofO (ninD v56 v57)).bind fun v58 => T.ofO (asB v58)).bind fun v61 => if v61 = true then .ok true else ((T.ofO (ixD x41 (PyData.int 0))).bind fun v59 => T.ofO (leD v59 s40.2)).bind fun v60 => T.ofO (asB v60)).bind fun v67 => if v67 = true then T.ok (.ret (PyData.bool false)) else (((T.ofO (ixD x41 (PyData.int 1))).bind fun v62 => T.ofO (mulD s40.1 v62)).bind fun v64 => ((T.ofO (ixD x41 (PyData.int 0))).bind fun v63 => T.ok (v63, ())).bind fun v65 => T.ok (v64, v65)).bind fun s66 => T.ok (.nx (s66.1, s66.2.1))) fun s99 => T.ofO (leD s99.1 (PyData.int 32))
theorem sm__law_questions (thing_ : D) : SmP (runP 4 (m__law_questions) [thing_]) (d__law_questions thing_) := by
  have h : Ev (m__law_questions) [.v (.d thing_), .h, .h, .h] _ (RQ Rp) := ev_ifl (ep_or (ep_not (ep_tru (ep_ap1 (ep_var (x := thing_))))) (ep_not (ep_tst (ep_chain (ep_c) (ep_apA (ep_cons (ep_var (x := thing_)) (ep_nil))) (ep_c))))) (rq_lv (Lvx.ev (lv_ret (ep_c)))) (ev_seq (sn_asg (σ := D × D) (P' := fun s => [.v (.d thing_), .v (.d s.1), .v (.d s.2), .h]) (ep_tupT (ep_cons (ep_c) (ep_cons (ep_c) (ep_nil)))) (fun x9 => bd_tup2 (fun y7 y8 => bd_name (atP [.v (.d thing_), .v (.d y7), .h, .h] (bd_name (atP [.v (.d thing_), .v (.d y7), .v (.d y8), .h] (sn_skip (y7, y8) (fc fv (fc fv (fc fv (fc fh fn))))))))))) (fun s11 => atP [.v (.d thing_), .v (.d s11.1), .v (.d s11.2), .h] (ev_seqR (sfT (σ := D × D) (β := Unit) (fun s => [.v (.d thing_), .v (.d s.1), .v (.d s.2), .f]) (fun _ => []) (sf_for (σ := D × D) (E := (fun s => [.v (.d thing_), .v (.d s.1), .v (.d s.2), .f])) (s11.1, s11.2) (ep_ap1 (ep_var (x := thing_))) (fc fv (fc fv (fc fv (fc fx fn)))) (fun s40 x41 => bd_name (atP [.v (.d thing_), .v (.d s40.1), .v (.d s40.2), .v (.d x41)] (ev_ifl (ep_or (ep_not (ep_tru (ep_ap1 (ep_var (x := x41))))) (ep_or (ep_tst (ep_ap2 (ep_apA (ep_cons (ep_var (x := x41)) (ep_nil))) (ep_c))) (ep_not (ep_tru (ep_call (ep_cons (ep_ap2 (ep_var (x := x41)) (ep_c)) (ep_nil))))))) (lv_F (rq_lv (Lvx.ev (lv_ret (ep_c))))) (ev_ifl (ep_not (ep_tru (ep_call (ep_cons (ep_ap2 (ep_var (x := x41)) (ep_c)) (ep_nil))))) (lv_F (rq_lv (Lvx.ev (lv_ret (ep_c))))) (ev_ifl (ep_or (ep_tst (ep_ap2 (ep_ap2 (ep_var (x := x41)) (ep_c)) (ep_tupT (ep_cons (ep_c) (ep_cons (ep_c) (ep_nil)))))) (ep_tst (ep_ap2 (ep_ap2 (ep_var (x := x41)) (ep_c)) (ep_var (x := s40.2))))) (lv_F (rq_lv (Lvx.ev (lv_ret (ep_c))))) (ev_seq (sn_par (σ := D × D × Unit) (P' := fun s => [.v (.d thing_), .v (.d s.1), .v (.d s.2.1), .v (.d x41)]) (pv_D (ep_ap2 (ep_var (x := s40.1)) (ep_ap2 (ep_var (x := x41)) (ep_c))) (pv_D (ep_ap2 (ep_var (x := x41)) (ep_c)) (pv_nil))) (fun s => (pc (pc pn)))) (fun s66 => atP [.v (.d thing_), .v (.d s66.1), .v (.d s66.2.1), .v (.d x41)] (ev_wipe (ac an) (atP [.v (.d thing_), .v (.d s66.1), .v (.d s66.2.1), .h] (sf_skip (s66.1, s66.2.1) (fc fv (fc fv (fc fv (fc fx fn)))))))))))))))) (fun s99 => atP [.v (.d thing_), .v (.d s99.1), .v (.d s99.2), .f] (Lvx.ev (lv_ret (ep_ap2 (ep_var (x := s99.1)) (ep_c))))))))
  exact sm_R h (gc gv (gc gh (gc gh (gc gh gn))))
def d__law_group (names_ : D) (thing_ : D) : T D := ((((T.ofO ((isiD "tuple") thing_)).bind fun v1 => T.ofO (truD v1)).bind fun v2 => T.ok (!v2)).bind fun v5 => if v5 = true then .ok true else ((lenT [] (.ok (.tuple []))).bind fun v3 => T.ofO (eqD thing_ v3)).bind fun v4 => T.ofO (asB v4)).bind fun v24 => if v24 = true then T.ok (PyData.bool false) else ((((T.ofO (itemsD thing_)).bind fun v10 => lenT v10 (filT (fun x6 => (((T.ofO ((isiD "str") x6)).bind fun v7 => T.ofO (truD v7)).bind fun v8 => T.ok (!v8)).bind fun v9 => if v9 = true then T.ok (some x6) else .ok none) v10)).bind fun v11 => T.ok (PyData.list v11)).bind fun v12 => T.ofO (truD v12)).bind fun v23 => if v23 = true then T.ok (PyData.bool false) else ((((T.ofO (itemsD thing_)).bind fun v16 => lenT v16 (filT (fun x13 => ((T.ofO (ninD x13 names_)).bind fun v14 => T.ofO (asB v14)).bind fun v15 => if v15 = true then T.ok (some x13) else .ok none) v16)).bind fun v17 => T.ok (PyData.list v17)).bind fun v18 => T.ofO (truD v18)).bind fun v22 => if v22 = true then T.ok (PyData.bool false) else ((T.ofO (seqA [thing_])).bind fun v19 => T.ok (PyData.list v19)).bind fun v20 => (T.ofO (srtSetD thing_)).bind fun v21 => T.ofO (eqD v20 v21)
theorem sm__law_group (names_ : D) (thing_ : D) : SmP (runP 3 (m__law_group) [names_, thing_]) (d__law_group names_ thing_) := by
  have h : Ev (m__law_group) [.v (.d names_), .v (.d thing_), .h] _ (RQ Rp) := ev_ifl (ep_or (ep_not (ep_tru (ep_ap1 (ep_var (x := thing_))))) (ep_tst (ep_ap2 (ep_var (x := thing_)) (ep_tupT (ep_nil))))) (rq_lv (Lvx.ev (lv_ret (ep_c)))) (ev_ifl (ep_tru (ep_frzL (ep_lcF (ep_ap1 (ep_var (x := thing_))) (ac an) (fc fv (fc fv (fc fh fn))) (fun x6 => atP [.v (.d names_), .v (.d thing_), .h] (bd_name (atP [.v (.d names_), .v (.d thing_), .v (.d x6)] (cq_of (ep_clS (ep_not (ep_tru (ep_ap1 (ep_var (x := x6))))) (ep_var (x := x6))) (ac an) (fc fv (fc fv (fc fh fn)))))))))) (rq_lv (Lvx.ev (lv_ret (ep_c)))) (ev_ifl (ep_tru (ep_frzL (ep_lcF (ep_ap1 (ep_var (x := thing_))) (ac an) (fc fv (fc fv (fc fh fn))) (fun x13 => atP [.v (.d names_), .v (.d thing_), .h] (bd_name (atP [.v (.d names_), .v (.d thing_), .v (.d x13)] (cq_of (ep_clS (ep_tst (ep_ap2 (ep_var (x := x13)) (ep_var (x := names_)))) (ep_var (x := x13))) (ac an) (fc fv (fc fv (fc fh fn)))))))))) (rq_lv (Lvx.ev (lv_ret (ep_c)))) (Lvx.ev (lv_ret (ep_ap2 (ep_frzL (ep_eList (ep_cons (ep_var (x := thing_)) (ep_nil)))) (ep_ap1 (ep_var (x := thing_))))))))
  exact sm_R h (gc gv (gc gv (gc gh gn)))
def d__law_is_scenario (thing_ : D) : T D := ((((T.ofO ((isiD "tuple") thing_)).bind fun v1 => T.ofO (truD v1)).bind fun v2 => T.ok (!v2)).bind fun v10 => if v10 = true then .ok true else (((T.ofO (lenD [thing_])).bind fun v3 => T.ofO (neD v3 (PyData.int 2))).bind fun v4 => T.ofO (asB v4)).bind fun v9 => if v9 = true then .ok true else ((((T.ofO (ixD thing_ (PyData.int 0))).bind fun v5 => T.ok [v5]).bind fun v6 => callT 1 p__law_questions v6).bind fun v7 => T.ofO (truD v7)).bind fun v8 => T.ok (!v8)).bind fun v137 => if v137 = true then T.ok (PyData.bool false) else (((((((T.ofO (ixD thing_ (PyData.int 0))).bind fun v13 => T.ofO (itemsD v13)).bind fun v15 => lenT v15 (mapT (fun x14 => T.ofO (ixD x14 (PyData.int 0))) v15)).bind fun v16 => T.ok (PyData.list v16)).bind fun v18 => ((T.ofO (ixD thing_ (PyData.int 1))).bind fun v17 => T.ok [v17]).bind fun v19 => T.ok (v18 :: v19)).bind fun v20 => lenT v20 (.ok (.tuple v20))).bind fun v22 => T.tup2 v22 fun y11 y12 => .ok (y11, y12)).bind fun s23 => ((((T.ofO ((isiD "tuple") s23.2)).bind fun v24 => T.ofO (truD v24)).bind fun v25 => T.ok (!v25)).bind fun v29 => if v29 = true then .ok true else (((T.ofO (lenD [s23.2])).bind fun v26 => T.chn (leD (PyData.int 1) v26) (T.ofO (leD v26 (PyData.int 10)))).bind fun v27 => T.ofO (asB v27)).bind fun v28 => T.ok (!v28)).bind fun v136 => if v136 = true then T.ok (PyData.bool false) else ((((T.ofO (itemsD s23.2)).bind fun v34 => lenT v34 (filT (fun x30 => (((callT 2 p__law_group [s23.1, x30]).bind fun v31 => T.ofO (truD v31)).bind fun v32 => T.ok (!v32)).bind fun v33 => if v33 = true then T.ok (some x30) else .ok none) v34)).bind fun v35 => T.ok (PyData.list v35)).bind fun v36 => T.ofO (truD v36)).bind fun v135 => if v135 = true then T.ok (PyData.bool false) else ((((T.ofO (seqA [s23.2])).bind fun v37 => T.ok (PyData.list v37)).bind fun v38 => (T.ofO (srtSetD s23.2)).bind fun v39 => T.ofO (neD v38 v39)).bind fun v40 => T.ofO (asB v40)).bind fun v134 => if v134 = true then T.ok (PyData.bool false) else T.bindR (β := Unit) ((T.ofO (itemsD s23.2)).bind fun v75 => forF v75 () fun s57 x58 => ((((T.ofO (itemsD s23.2)).bind fun v71 => lenT v71 (filT (fun x59 => (((T.ofO (neD x59 x58)).bind fun v60 => T.ofO (asB v60)).bind fun v69 => if v69 = true then ((((T.ofO (itemsD x58)).bind fun v64 => lenT v64 (filT (fun x61 => ((T.ofO (ninD x61 x59)).bind fun v62 => T.ofO (asB v62)).bind fun v63 => if v63 = true then T.ok (some x61) else .ok none) v64)).bind fun v65 => T.ok (PyData.list v65)).bind fun v66 => (lenT [] (.ok (.list []))).bind fun v67 => T.ofO (eqD v66 v67)).bind fun v68 => T.ofO (asB v68) else .ok false).bind fun v70 => if v70 = true then T.ok (some (PyData.int 1)) else .ok none) v71)).bind fun v72 => T.ok (PyData.list v72)).bind fun v73 => T.ofO (truD v73)).bind fun v74 => if v74 = true then T.ok (.ret (PyData.bool false)) else T.ok (.nx ())) fun s92 => T.bindR (β := Unit) ((T.ofO (itemsD s23.1)).bind fun v113 => forF v113 () fun s102 x103 => (((((T.ofO (itemsD s23.2)).bind fun v107 => lenT v107 (filT (fun x104 => ((T.ofO (inD x103 x104)).bind fun v105 => T.ofO (asB v105)).bind fun v106 => if v106 = true then T.ok (some (PyData.int 1)) else .ok none) v107)).bind fun v108 => T.ok (PyData.list v108)).bind fun v109 => (lenT [] (.ok (.list []))).bind fun v110 => T.ofO (eqD v109 v110)).bind fun v111 => T.ofO (asB v111)).bind fun v112 => if v112 = true then T.ok (.ret (PyData.bool false)) else T.ok (.nx ())) fun s123 => (((((T.ofO (itemsD s23.2)).bind fun v129 => lenT v129 (mapT (fun x124 => ((((T.ofO (ixD thing_ (PyData.int 0))).bind fun v125 => T.ok [v125, x124]).bind fun v126 => callT 2 p__law_cells v126).bind fun v127 => T.ok [v127]).bind fun v128 => T.ofO (lenD v128)) v129)).bind fun v130 => T.ok (PyData.list v130)).bind fun v131 => T.ok [v131]).bind fun v132 => T.ofO (sumD v132)).bind fun v133 => T.ofO (leD v133 (PyData.int 40))
theorem sm__law_is_scenario (thing_ : D) : SmP (runP 7 (m__law_is_scenario) [thing_]) (d__law_is_scenario thing_) := by
  have h : Ev (m__law_is_scenario) [.v (.d thing_), .h, .h, .h, .h, .h, .h] _ (RQ Rp) := ev_ifl (ep_or (ep_not (ep_tru (ep_ap1 (ep_var (x := thing_))))) (ep_or (ep_tst (ep_ap2 (ep_apA (ep_cons (ep_var (x := thing_)) (ep_nil))) (ep_c))) (ep_not (ep_tru (ep_call (ep_cons (ep_ap2 (ep_var (x := thing_)) (ep_c)) (ep_nil))))))) (rq_lv (Lvx.ev (lv_ret (ep_c)))) (ev_seq (sn_asg (σ := D × D) (P' := fun s => [.v (.d thing_), .v (.d s.1), .v (.d s.2), .h, .h, .h, .h]) (ep_tupT (ep_cons (ep_frzL (ep_lc (ep_ap1 (ep_ap2 (ep_var (x := thing_)) (ep_c))) (ac an) (fc fv (fc fh (fc fh (fc fh (fc fh (fc fh (fc fh fn))))))) (fun x14 => atP [.v (.d thing_), .h, .h, .h, .h, .h, .h] (bd_name (atP [.v (.d thing_), .h, .h, .h, .h, .v (.d x14), .h] (cq_of (ep_ap2 (ep_var (x := x14)) (ep_c)) (ac an) (fc fv (fc fh (fc fh (fc fh (fc fh (fc fh (fc fh fn))))))))))))) (ep_cons (ep_ap2 (ep_var (x := thing_)) (ep_c)) (ep_nil)))) (fun x21 => bd_tup2 (fun y11 y12 => bd_name (atP [.v (.d thing_), .v (.d y11), .h, .h, .h, .h, .h] (bd_name (atP [.v (.d thing_), .v (.d y11), .v (.d y12), .h, .h, .h, .h] (sn_skip (y11, y12) (fc fv (fc fv (fc fv (fc fh (fc fh (fc fh (fc fh fn)))))))))))))) (fun s23 => atP [.v (.d thing_), .v (.d s23.1), .v (.d s23.2), .h, .h, .h, .h] (ev_ifl (ep_or (ep_not (ep_tru (ep_ap1 (ep_var (x := s23.2))))) (ep_not (ep_tst (ep_chain (ep_c) (ep_apA (ep_cons (ep_var (x := s23.2)) (ep_nil))) (ep_c))))) (rq_lv (Lvx.ev (lv_ret (ep_c)))) (ev_ifl (ep_tru (ep_frzL (ep_lcF (ep_ap1 (ep_var (x := s23.2))) (ac an) (fc fv (fc fv (fc fv (fc fh (fc fh (fc fh (fc fh fn))))))) (fun x30 => atP [.v (.d thing_), .v (.d s23.1), .v (.d s23.2), .h, .h, .h, .h] (bd_name (atP [.v (.d thing_), .v (.d s23.1), .v (.d s23.2), .v (.d x30), .h, .h, .h] (cq_of (ep_clS (ep_not (ep_tru (ep_call (ep_cons (ep_var (x := s23.1)) (ep_cons (ep_var (x := x30)) (ep_nil)))))) (ep_var (x := x30))) (ac an) (fc fv (fc fv (fc fv (fc fh (fc fh (fc fh (fc fh fn)))))))))))))) (rq_lv (Lvx.ev (lv_ret (ep_c)))) (ev_ifl (ep_tst (ep_ap2 (ep_frzL (ep_eList (ep_cons (ep_var (x := s23.2)) (ep_nil)))) (ep_ap1 (ep_var (x := s23.2))))) (rq_lv (Lvx.ev (lv_ret (ep_c)))) (ev_seqR (sfT (σ := Unit) (β := Unit) (fun s => [.v (.d thing_), .v (.d s23.1), .v (.d s23.2), .f, .f, .h, .f]) (fun _ => []) (sf_for (σ := Unit) (E := (fun s => [.v (.d thing_), .v (.d s23.1), .v (.d s23.2), .f, .f, .h, .f])) () (ep_ap1 (ep_var (x := s23.2))) (fc fv (fc fv (fc fv (fc fx (fc fx (fc fh (fc fx fn))))))) (fun s57 x58 => bd_name (atP [.v (.d thing_), .v (.d s23.1), .v (.d s23.2), .v (.d x58), .f, .h, .f] (ev_ifl (ep_tru (ep_frzL (ep_lcF (ep_ap1 (ep_var (x := s23.2))) (ac an) (fc fv (fc fv (fc fv (fc fv (fc fx (fc fh (fc fx fn))))))) (fun x59 => atP [.v (.d thing_), .v (.d s23.1), .v (.d s23.2), .v (.d x58), .f, .h, .h] (bd_name (atP [.v (.d thing_), .v (.d s23.1), .v (.d s23.2), .v (.d x58), .f, .h, .v (.d x59)] (cq_of (ep_clS (ep_and (ep_tst (ep_ap2 (ep_var (x := x59)) (ep_var (x := x58)))) (ep_tst (ep_ap2 (ep_frzL (ep_lcF (ep_ap1 (ep_var (x := x58))) (ac an) (fc fv (fc fv (fc fv (fc fv (fc fx (fc fh (fc fv fn))))))) (fun x61 => atP [.v (.d thing_), .v (.d s23.1), .v (.d s23.2), .v (.d x58), .h, .h, .v (.d x59)] (bd_name (atP [.v (.d thing_), .v (.d s23.1), .v (.d s23.2), .v (.d x58), .v (.d x61), .h, .v (.d x59)] (cq_of (ep_clS (ep_tst (ep_ap2 (ep_var (x := x61)) (ep_var (x := x59)))) (ep_var (x := x61))) (ac an) (fc fv (fc fv (fc fv (fc fv (fc fh (fc fh (fc fv fn))))))))))))) (ep_lst (ep_nil))))) (ep_c)) (ac an) (fc fv (fc fv (fc fv (fc fv (fc fx (fc fh (fc fh fn)))))))))))))) (lv_F (rq_lv (Lvx.ev (lv_ret (ep_c))))) (ev_wipe (ac an) (atP [.v (.d thing_), .v (.d s23.1), .v (.d s23.2), .h, .f, .h, .f] (sf_skip () (fc fv (fc fv (fc fv (fc fx (fc fx (fc fh (fc fx fn))))))))))))))) (fun s92 => atP [.v (.d thing_), .v (.d s23.1), .v (.d s23.2), .f, .f, .h, .f] (ev_seqR (sfT (σ := Unit) (β := Unit) (fun s => [.v (.d thing_), .v (.d s23.1), .v (.d s23.2), .f, .f, .h, .f]) (fun _ => []) (sf_for (σ := Unit) (E := (fun s => [.v (.d thing_), .v (.d s23.1), .v (.d s23.2), .f, .f, .h, .f])) () (ep_ap1 (ep_var (x := s23.1))) (fc fv (fc fv (fc fv (fc fx (fc fx (fc fh (fc fx fn))))))) (fun s102 x103 => bd_name (atP [.v (.d thing_), .v (.d s23.1), .v (.d s23.2), .f, .v (.d x103), .h, .f] (ev_ifl (ep_tst (ep_ap2 (ep_frzL (ep_lcF (ep_ap1 (ep_var (x := s23.2))) (ac an) (fc fv (fc fv (fc fv (fc fx (fc fv (fc fh (fc fx fn))))))) (fun x104 => atP [.v (.d thing_), .v (.d s23.1), .v (.d s23.2), .h, .v (.d x103), .h, .f] (bd_name (atP [.v (.d thing_), .v (.d s23.1), .v (.d s23.2), .v (.d x104), .v (.d x103), .h, .f] (cq_of (ep_clS (ep_tst (ep_ap2 (ep_var (x := x103)) (ep_var (x := x104)))) (ep_c)) (ac an) (fc fv (fc fv (fc fv (fc fh (fc fv (fc fh (fc fx fn))))))))))))) (ep_lst (ep_nil)))) (lv_F (rq_lv (Lvx.ev (lv_ret (ep_c))))) (ev_wipe (ac an) (atP [.v (.d thing_), .v (.d s23.1), .v (.d s23.2), .f, .h, .h, .f] (sf_skip () (fc fv (fc fv (fc fv (fc fx (fc fx (fc fh (fc fx fn))))))))))))))) (fun s123 => atP [.v (.d thing_), .v (.d s23.1), .v (.d s23.2), .f, .f, .h, .f] (Lvx.ev (lv_ret (ep_ap2 (ep_apA (ep_cons (ep_frzL (ep_lc (ep_ap1 (ep_var (x := s23.2))) (ac an) (fc fv (fc fv (fc fv (fc fx (fc fx (fc fh (fc fx fn))))))) (fun x124 => atP [.v (.d thing_), .v (.d s23.1), .v (.d s23.2), .h, .f, .h, .f] (bd_name (atP [.v (.d thing_), .v (.d s23.1), .v (.d s23.2), .v (.d x124), .f, .h, .f] (cq_of (ep_apA (ep_cons (ep_call (ep_cons (ep_ap2 (ep_var (x := thing_)) (ep_c)) (ep_cons (ep_var (x := x124)) (ep_nil)))) (ep_nil))) (ac an) (fc fv (fc fv (fc fv (fc fh (fc fx (fc fh (fc fx fn))))))))))))) (ep_nil))) (ep_c)))))))))))))
  exact sm_R h (gc gv (gc gh (gc gh (gc gh (gc gh (gc gh (gc gh gn)))))))
def d_law (script_ : D) : T D := (lenT [] (.ok [])).bind fun s1 => ((T.ok L__law_near_misses : T (List D))).bind fun s2 => ((T.ofO (rng1 [(PyData.int 12)])).bind fun v27 => forN v27 (s1, s2) fun s14 x15 => (cbT 1 2 b__law_scenario [script_] s14.1 [(PyData.int 5), (PyData.int 32)]).bind fun s16 => (appT s14.2 s16.1).bind fun s17 => ((cbT 1 1 (b__law_benB 12) [script_] s16.2 [s16.1]).bind fun v18 => (appT s17 v18.1).bind fun v19 => T.ok (v19, v18.2)).bind fun s20 => ((((cbT 1 1 (b__law_benB 12) [script_] s20.2 [s16.1]).bind fun v22 => T.ok ([v22.1], v22.2)).bind fun v23 => cbT 1 1 (b__law_benB 12) [script_] v23.2 v23.1).bind fun v24 => (appT s20.1 v24.1).bind fun v25 => T.ok (v25, v24.2)).bind fun s26 => T.ok (s26.2, s26.1)).bind fun s28 => (((lenT s28.2 (filT (fun x29 => if true = true then ((callT 1 p_is_scenario [x29]).bind fun v30 => (callT 1 p__law_is_scenario [x29]).bind fun v31 => T.ofO (eqD v30 v31)).bind fun v32 => T.ok (some v32) else .ok none) s28.2)).bind fun v33 => T.ok (PyData.list v33)).bind fun v34 => T.ok [v34]).bind fun v35 => T.ofO (allD v35)
theorem sm_law (script_ : D) : SmP (runP 5 (m_law) [script_]) (d_law script_) := by
  have h : Ev (m_law) [.v (.d script_), .h, .h, .h, .h] _ (RQ Rp) := ev_seq (sn_setL (ep_lLst (ep_nil))) (fun s1 => atP [.v (.d script_), .v (.ml false s1), .h, .h, .h] (ev_seq (sn_setO0 nv__law_near_misses) (fun s2 => atP [.v (.d script_), .v (.ml false s1), .v (.ml false s2), .h, .h] (ev_seq (sn_for (σ := List D × List D) (E := (fun s => [.v (.d script_), .v (.ml false s.1), .v (.ml false s.2), .f, .f])) (s1, s2) (ep_apA (ep_cons (ep_c) (ep_nil))) (fc fv (fc fv (fc fv (fc fx (fc fx fn))))) (fun s14 x15 => bd_name (atP [.v (.d script_), .v (.ml false s14.1), .v (.ml false s14.2), .v (.d x15), .f] (ev_seq (sn_setE (P1 := (fun z => [.v (.d script_), .v (.ml false z), .v (.ml false s14.2), .v (.d x15), .f])) (ee_cb (b := false) (z0 := s14.1) (ep_var (x := script_)) (ep_cons (ep_c) (ep_cons (ep_c) (ep_nil)))) (fun _ => frE)) (fun s16 => atP [.v (.d script_), .v (.ml false s16.2), .v (.ml false s14.2), .v (.d x15), .v (.d s16.1)] (ev_seq (sn_app (b := false) (xs := s14.2) (ep_var (x := s16.1))) (fun s17 => atP [.v (.d script_), .v (.ml false s16.2), .v (.ml false s17), .v (.d x15), .v (.d s16.1)] (ev_seq (sn_appE (P1 := (fun z => [.v (.d script_), .v (.ml false z), .v (.ml false s17), .v (.d x15), .v (.d s16.1)])) (b := false) (xs := s17) (ee_cb (b := false) (z0 := s16.2) (ep_var (x := script_)) (ep_cons (ep_var (x := s16.1)) (ep_nil))) (fun _ => rfl)) (fun s20 => atP [.v (.d script_), .v (.ml false s20.2), .v (.ml false s20.1), .v (.d x15), .v (.d s16.1)] (ev_seq (sn_appE (P1 := (fun z => [.v (.d script_), .v (.ml false z), .v (.ml false s20.1), .v (.d x15), .v (.d s16.1)])) (b := false) (xs := s20.1) (ee_cbE (b := false) (z0 := s20.2) (Pz := (fun z => [.v (.d script_), .v (.ml false z), .v (.ml false s20.1), .v (.d x15), .v (.d s16.1)])) (ep_var (x := script_)) (ee_cons (P1 := (fun z => [.v (.d script_), .v (.ml false z), .v (.ml false s20.1), .v (.d x15), .v (.d s16.1)])) (P2 := (fun z => [.v (.d script_), .v (.ml false z), .v (.ml false s20.1), .v (.d x15), .v (.d s16.1)])) (atP [.v (.d script_), .v (.ml false s20.2), .v (.ml false s20.1), .v (.d x15), .v (.d s16.1)] (ee_cb (b := false) (z0 := s20.2) (ep_var (x := script_)) (ep_cons (ep_var (x := s16.1)) (ep_nil)))) (fun s21 => atP [.v (.d script_), .v (.ml false s21), .v (.ml false s20.1), .v (.d x15), .v (.d s16.1)] (EP.ee (P' := (fun z => [.v (.d script_), .v (.ml false z), .v (.ml false s20.1), .v (.d x15), .v (.d s16.1)])) (s := s21) (ep_nil)))) (fun _ => rfl) (fun _ _ => rfl)) (fun _ => rfl)) (fun s26 => atP [.v (.d script_), .v (.ml false s26.2), .v (.ml false s26.1), .v (.d x15), .v (.d s16.1)] (ev_wipe (ac (ac an)) (atP [.v (.d script_), .v (.ml false s26.2), .v (.ml false s26.1), .h, .h] (sn_skip (s26.2, s26.1) (fc fv (fc fv (fc fv (fc fx (fc fx fn))))))))))))))))))) (fun s28 => atP [.v (.d script_), .v (.ml false s28.1), .v (.ml false s28.2), .f, .f] (Lvx.ev (lv_ret (ep_apA (ep_cons (ep_frzL (ep_lcV (bb := false) (xs := s28.2) (ac an) (fc fv (fc fv (fc fv (fc fx (fc fx fn))))) (by decide) rfl (fun x29 => atP [.v (.d script_), .v (.ml false s28.1), .h, .f, .h] (bd_name (atP [.v (.d script_), .v (.ml false s28.1), .h, .f, .v (.d x29)] (cq_of (ep_clS (ep_tAll) (ep_ap2 (ep_call (ep_cons (ep_var (x := x29)) (ep_nil))) (ep_call (ep_cons (ep_var (x := x29)) (ep_nil))))) (ac an) (fc fv (fc fv (fc fh (fc fx (fc fh fn))))))))))) (ep_nil))))))))))
  exact sm_R h (gc gv (gc gh (gc gh (gc gh (gc gh gn)))))
end
end PP
namespace PP
open PySem
noncomputable section
def m__law_same_s1 (rec : PF) : M Fl := sRet (ap2 isE (eVar 0) (eC .none))
def m__law_same_s2 (rec : PF) : M Fl := sRet (eAnd (ap1 (isiD "bool") (eVar 0)) (ap2 eqD (eVar 0) (eVar 1)))
def m__law_same_s3 (rec : PF) : M Fl := sRet (apA allD (aCons (frzL (eLc [2, 3] (bTup [bName 2, bName 3]) (tAll) (eCall 2 rec (aCons (eVar 2) (aCons (eVar 3) (nilA)))) (apA zip2 (aCons (eVar 0) (aCons (eVar 1) (nilA)))))) (nilA)))
def m__law_same_s4 (rec : PF) : M Fl := sIf (mOr (mNot (tru (ap1 (isiD "tuple") (eVar 0)))) (tst (ap2 neD (apA lenD (aCons (eVar 0) (nilA))) (apA lenD (aCons (eVar 1) (nilA)))))) (sRet (eC (.bool false))) ((fun g => .ok .nx g))
def m__law_same_s5 (rec : PF) : M Fl := sRet (eAnd (ap1 (isiD "str") (eVar 0)) (ap2 eqD (eVar 0) (eVar 1)))
def m__law_same_s6 (rec : PF) : M Fl := sRet (eAnd (ap1 (isiD "int") (eVar 0)) (eAnd (eNot (ap1 (isiD "bool") (eVar 0))) (ap2 eqD (eVar 0) (eVar 1))))
def m__law_same_s7 (rec : PF) : M Fl := sIf (tru (ap1 (isiD "str") (eVar 1))) (m__law_same_s5 rec) ((fun g => .ok .nx g))
def m__law_same_s8 (rec : PF) : M Fl := sIf (tru (ap1 (isiD "tuple") (eVar 1))) (sSeq (m__law_same_s4 rec) (m__law_same_s3 rec)) ((fun g => .ok .nx g))
def m__law_same_s9 (rec : PF) : M Fl := sIf (tru (ap1 (isiD "bool") (eVar 1))) (m__law_same_s2 rec) ((fun g => .ok .nx g))
def m__law_same_s10 (rec : PF) : M Fl := sIf (tst (ap2 isE (eVar 1) (eC .none))) (m__law_same_s1 rec) ((fun g => .ok .nx g))
def m__law_same (rec : PF) : M Fl := sSeq (m__law_same_s10 rec) (sSeq (m__law_same_s9 rec) (sSeq (m__law_same_s8 rec) (sSeq (m__law_same_s7 rec) (m__law_same_s6 rec))))
def p__law_same : Nat → PF
  | 0 => runP 4 (fun _ => .stuck)
  | n + 1 => runP 4 (m__law_same (p__law_same n))
end
end PP
namespace PP
open PySem PySem.Spec
/-! ### good data -/
def Gd : Nat → D → Prop
  | _, .none => True
  | _, .bool _ => True
  | _, .int _ => True
  | _, .str x => x.length ≤ sizeLine
  | n + 1, .list xs => xs.length ≤ sizeLine ∧ ∀ y ∈ xs, Gd n y
  | n + 1, .tuple xs => xs.length ≤ sizeLine ∧ ∀ y ∈ xs, Gd n y
  | _, _ => False
theorem Gd.mono : ∀ {n m : Nat} {x : D}, Gd n x → n ≤ m → Gd m x
  | _, _, .none, _, _ => by simp [Gd]
  | _, _, .bool _, _, _ => by simp [Gd]
  | _, _, .int _, _, _ => by simp [Gd]
  | _, _, .str _, h, _ => by simpa [Gd] using h
  | 0, _, .list _, h, _ => by simp [Gd] at h
  | n + 1, 0, .list xs, h, l => by omega
  | n + 1, m + 1, .list xs, h, l => by
    simp only [Gd] at h ⊢
    exact ⟨h.1, fun y hy => Gd.mono (h.2 y hy) (by omega)⟩
  | 0, _, .tuple _, h, _ => by simp [Gd] at h
  | n + 1, 0, .tuple xs, h, l => by omega
  | n + 1, m + 1, .tuple xs, h, l => by
    simp only [Gd] at h ⊢
    exact ⟨h.1, fun y hy => Gd.mono (h.2 y hy) (by omega)⟩
  | 0, _, .dict _, h, _ => by simp [Gd] at h
  | n + 1, _, .dict _, h, _ => by simp [Gd] at h
theorem plainAll_iff : ∀ xs : List D, PyData.plainAll xs = true ↔ ∀ y ∈ xs, y.plain = true
  | [] => by simp [PyData.plainAll]
  | x :: xs => by simp [PyData.plainAll, plainAll_iff xs]
theorem depthAll_le {n : Nat} : ∀ xs : List D, (∀ y ∈ xs, y.depth ≤ n) → PyData.depthAll xs ≤ n
  | [], _ => by simp [PyData.depthAll]
  | x :: xs, h => by
    rw [PyData.depthAll]
    have h1 := h x List.mem_cons_self
    have h2 := depthAll_le xs fun y hy => h y (List.mem_cons_of_mem _ hy)
    omega
theorem Gd.plain : ∀ {n : Nat} {x : D}, Gd n x → x.plain = true
  | _, .none, _ => rfl
  | _, .bool _, _ => rfl
  | _, .int _, _ => rfl
  | _, .str _, _ => rfl
  | 0, .list _, h => by simp [Gd] at h
  | n + 1, .list xs, h => by
    simp only [Gd] at h
    simp only [PyData.plain]
    exact (plainAll_iff xs).mpr fun y hy => Gd.plain (h.2 y hy)
  | 0, .tuple _, h => by simp [Gd] at h
  | n + 1, .tuple xs, h => by
    simp only [Gd] at h
    simp only [PyData.plain]
    exact (plainAll_iff xs).mpr fun y hy => Gd.plain (h.2 y hy)
  | 0, .dict _, h => by simp [Gd] at h
  | n + 1, .dict _, h => by simp [Gd] at h
theorem Gd.depth : ∀ {n : Nat} {x : D}, Gd n x → x.depth ≤ n + 1
  | _, .none, _ => by simp [PyData.depth]
  | _, .bool _, _ => by simp [PyData.depth]
  | _, .int _, _ => by simp [PyData.depth]
  | _, .str _, _ => by simp [PyData.depth]
  | 0, .list _, h => by simp [Gd] at h
  | n + 1, .list xs, h => by
    simp only [Gd] at h
    simp only [PyData.depth]
    have := depthAll_le (n := n + 1) xs fun y hy => Gd.depth (h.2 y hy)
    omega
  | 0, .tuple _, h => by simp [Gd] at h
  | n + 1, .tuple xs, h => by
    simp only [Gd] at h
    simp only [PyData.depth]
    have := depthAll_le (n := n + 1) xs fun y hy => Gd.depth (h.2 y hy)
    omega
  | 0, .dict _, h => by simp [Gd] at h
  | n + 1, .dict _, h => by simp [Gd] at h
theorem Gd.nd {n : Nat} {x : D} (h : Gd n x) : isDict x = false := by
  cases x with
  | dict _ => cases n <;> simp [Gd] at h
  | _ => rfl
/-! ### isinstance -/
def isIB : D → Bool
  | .int _ => true
  | .bool _ => true
  | _ => false
def isIntD : D → Bool
  | .int _ => true
  | _ => false
def isBoolD : D → Bool
  | .bool _ => true
  | _ => false
def isStrD : D → Bool
  | .str _ => true
  | _ => false
def isTupD : D → Bool
  | .tuple _ => true
  | _ => false
theorem isi_int {x : D} (h : isDict x = false) : isiD "int" x = some (.bool (isIB x)) := by
  cases x with
  | dict _ => cases h
  | _ => kernel_rfl
theorem isi_bool {x : D} (h : isDict x = false) : isiD "bool" x = some (.bool (isBoolD x)) := by
  cases x with
  | dict _ => cases h
  | _ => kernel_rfl
theorem isi_str {x : D} (h : isDict x = false) : isiD "str" x = some (.bool (isStrD x)) := by
  cases x with
  | dict _ => cases h
  | _ => kernel_rfl
theorem isi_tuple {x : D} (h : isDict x = false) : isiD "tuple" x = some (.bool (isTupD x)) := by
  cases x with
  | dict _ => cases h
  | _ => kernel_rfl
/-! ### comparisons of ints, texts -/
theorem gt_int (i j : Int) : gtD (.int i) (.int j) = some (.bool (decide (j < i))) := by
  have e : ordOk (.int i) (.int j) = true := rfl
  rw [gtD, if_pos e, PySem.W.dataLt_int]
theorem le_int (i j : Int) : leD (.int i) (.int j) = some (.bool (decide (i ≤ j))) := by
  have e : ordOk (.int i) (.int j) = true := rfl
  rw [leD, if_pos e, PySem.W.dataLt_int, ← decide_not]
  congr 2
  exact decide_eq_decide.mpr (by omega)
def sLt (a b : Str) : Bool := PySem.W.dataLt (.str a) (.str b)
theorem le_str (a b : Str) : leD (.str a) (.str b) = some (.bool (!sLt b a)) := by
  have e : ordOk (.str a) (.str b) = true := rfl
  rw [leD, if_pos e]
  rfl
theorem cmpOk_of {n m : Nat} {x y : D} (h : Gd n x) (h2 : Gd m y) (hn : n ≤ 59) : cmpOk x y = true := by
  simp only [cmpOk, h.plain, h2.plain, Bool.true_and, decide_eq_true_eq]
  have := h.depth
  omega
theorem eq_gd {n m : Nat} {x y : D} (h : Gd n x) (h2 : Gd m y) (hn : n ≤ 59 := by omega) : eqD x y = some (.bool (PyData.eqv x y)) := by rw [eqD, if_pos (cmpOk_of h h2 hn)]
theorem ne_gd {n m : Nat} {x y : D} (h : Gd n x) (h2 : Gd m y) (hn : n ≤ 59 := by omega) : neD x y = some (.bool (!PyData.eqv x y)) := by rw [neD, if_pos (cmpOk_of h h2 hn)]
theorem eq_int (i j : Int) : eqD (.int i) (.int j) = some (.bool (i == j)) := eq_gd (n := 0) (m := 0) (x := .int i) (y := .int j) trivial trivial
theorem ne_int (i j : Int) : neD (.int i) (.int j) = some (.bool (!(i == j))) := ne_gd (n := 0) (m := 0) (x := .int i) (y := .int j) trivial trivial
theorem len_str {z : Str} (h : z.length ≤ sizeLine) : lenD [.str z] = some (.int z.length) := by rw [lenD, if_pos h]
@[simp] theorem len_tup (xs : List D) : lenD [.tuple xs] = some (.int xs.length) := rfl
@[simp] theorem len_lst (xs : List D) : lenD [.list xs] = some (.int xs.length) := rfl
/-! ### all, any of truth values -/
theorem anyOk_bools (bs : List Bool) : anyOk (bs.map PyData.bool) = true := by
  simp only [anyOk, Bool.and_eq_true, List.all_eq_true]
  refine ⟨(plainAll_iff _).mpr fun y hy => ?_, fun y hy => ?_⟩ <;> (obtain ⟨b, _, rfl⟩ := List.mem_map.mp hy; rfl)
theorem all_bools {α : Type} (xs : List α) (f : α → Bool) : allD [.list (xs.map fun x => PyData.bool (f x))] = some (.bool (xs.all f)) := by
  have e := anyOk_bools (xs.map f)
  rw [List.map_map] at e
  rw [allD]
  show (if anyOk (xs.map (PyData.bool ∘ f)) = true then some (PyData.bool ((xs.map (PyData.bool ∘ f)).all PyData.truthy)) else none) = _
  rw [if_pos e, List.all_map]
  rfl
theorem any_bools {α : Type} (xs : List α) (f : α → Bool) : anyD [.list (xs.map fun x => PyData.bool (f x))] = some (.bool (xs.any f)) := by
  have e := anyOk_bools (xs.map f)
  rw [List.map_map] at e
  rw [anyD]
  show (if anyOk (xs.map (PyData.bool ∘ f)) = true then some (PyData.bool ((xs.map (PyData.bool ∘ f)).any PyData.truthy)) else none) = _
  rw [if_pos e, List.any_map]
  rfl
/-! ### is_integer, is_index -/
theorem s_is_integer {n : Nat} (x : D) (h : Gd n x) : p_is_integer [x] = .ok (.bool (isIntD x)) := by
  have h := h.nd
  rw [p_is_integer, runP_out]
  simp [m_is_integer, dsG, isi_int h, isi_bool h]
  cases x <;> first | rfl | cases h
/-! ### is_name -/
def chOk (c : Nat) : Bool := decide (97 ≤ c) && decide (c ≤ 122)
def nmOk (z : Str) : Bool := decide (1 ≤ z.length) && (decide (z.length ≤ 3) && z.cps.toList.all chOk)
def isNm : D → Bool
  | .str z => nmOk z
  | _ => false
theorem le_a (c : Nat) : leD (.str "a") (.str ⟨#[c]⟩) = some (.bool (decide (97 ≤ c))) := by
  rw [le_str, sLt, PySem.W.dataLt_str, ← decide_not]
  congr 2
  apply decide_eq_decide.mpr
  show ¬ ([c] < [97]) ↔ _
  simp [List.cons_lt_cons_iff]
theorem le_z (c : Nat) : leD (.str ⟨#[c]⟩) (.str "z") = some (.bool (decide (c ≤ 122))) := by
  rw [le_str, sLt, PySem.W.dataLt_str, ← decide_not]
  congr 2
  apply decide_eq_decide.mpr
  show ¬ ([122] < [c]) ↔ _
  simp [List.cons_lt_cons_iff]
theorem s_is_name {n : Nat} (x : D) (h : Gd n x) : p_is_name [x] = .ok (.bool (isNm x)) := by
  rw [p_is_name, runP_out]
  cases x with
  | str z =>
    have hz : z.length ≤ sizeLine := by cases n <;> exact h
    have hc : eLc [1] (bName 1) tAll (eChain leD leD (eC (.str "a")) (eVar 1) (eC (.str "z"))) (ap1 itemsD (eVar 0)) [some (.d (.str z)), none] = .ok (z.cps.toList.map fun c => PyData.bool (chOk c)) [some (.d (.str z)), none] := by
      refine lcM z.cps.toList (fun c => PyData.str ⟨#[c]⟩) _ rfl hz fun c hx => ⟨_, rfl, ?_, rfl, rfl⟩
      simp [le_a, le_z, chOk]
      by_cases h0 : 97 ≤ c <;> simp [h0]
    simp [m_is_name, dsG, isi_str (x := .str z) rfl, isStrD, len_str hz, le_int, hc, all_bools, isNm, nmOk, app_ite, bind_ite]
    by_cases h1 : 1 ≤ z.length <;> by_cases h2 : z.length ≤ 3 <;> simp [h1, h2, hc, all_bools, show ((1 : Int) ≤ z.length) ↔ 1 ≤ z.length by omega, show ((z.length : Int) ≤ 3) ↔ z.length ≤ 3 by omega]
  | _ => 
    have h := h.nd
    simp [m_is_name, dsG, isi_str h, isStrD, isNm]
/-! ### is_question -/
def isQ : D → Bool
  | .tuple [a, b] => isNm a && (match b with
    | .int i => decide (2 ≤ i) && decide (i ≤ 3)
    | _ => false)
  | _ => false
theorem ix_t0 (x : D) (xs : List D) : ixD (.tuple (x :: xs)) (.int 0) = some x := by
  simp [ixD, L2.atI, L2.ixN]
theorem ix_t1 (x y : D) (xs : List D) : ixD (.tuple (x :: y :: xs)) (.int 1) = some y := by
  simp [ixD, L2.atI, L2.ixN]
  rw [if_pos (by omega)]
  simp
theorem s_is_question {n : Nat} (x : D) (h : Gd n x) : p_is_question [x] = .ok (.bool (isQ x)) := by
  rw [p_is_question, runP_out]
  cases x with
  | tuple xs =>
    cases n with
    | zero => simp [Gd] at h
    | succ n =>
      simp only [Gd] at h
      match xs, h with
      | [], h => simp [m_is_question, dsG, isi_tuple (x := .tuple []) rfl, isTupD, ne_int, isQ]
      | [a], h => simp [m_is_question, dsG, isi_tuple (x := .tuple [a]) rfl, isTupD, ne_int, isQ]
      | [a, b], h =>
        have ga := h.2 a (by simp)
        have gb := h.2 b (by simp)
        simp [m_is_question, dsG, isi_tuple (x := .tuple [a, b]) rfl, isTupD, ne_int, isQ, ix_t0, ix_t1, s_is_name a ga, s_is_integer b gb, app_ite, seq_ite, bind_ite, outP_ite]
        cases hn : isNm a
        · simp
        · cases b with
          | int i =>
            simp [isIntD, le_int]
            by_cases h2 : 2 ≤ i <;> simp [h2]
          | _ => simp [isIntD]
      | a :: b :: c :: r, h =>
        have e : ((r.length + 1 + 1 + 1 : Int) == 2) = false := by
          rw [beq_eq_false_iff_ne]
          omega
        simp [m_is_question, dsG, isi_tuple (x := .tuple (a :: b :: c :: r)) rfl, isTupD, ne_int, isQ, e]
  | _ =>
    have h := h.nd
    simp [m_is_question, dsG, isi_tuple h, isTupD, isQ]
/-! ### product -/
def small (i : Int) : Prop := -(2 ^ 64) < i ∧ i < 2 ^ 64
theorem imul_ok {i j : Int} (h : small j) : imulD (.int i) (.int j) = some (.int (i * j)) := by
  show (if mulOk i j = true then some (PyData.int (i * j)) else none) = _
  rw [if_pos]
  simp only [mulOk, Bool.or_eq_true, Bool.and_eq_true, decide_eq_true_eq]
  exact .inr h
theorem product_loop {L : Option Tv} : ∀ (ns : List Int) (acc : Int) (o : Option Tv), freeAt [L, some (.d (.int acc)), o] 2 = true → (∀ n ∈ ns, small n) → ∃ o', loop (bName 2) (sAug 1 imulD (eVar 2)) (ns.map PyData.int) [L, some (.d (.int acc)), o] = .ok .nx [L, some (.d (.int (acc * ns.prod))), o']
  | [], acc, o, _, _ => ⟨o, by simp [loop_nil]⟩
  | n :: ns, acc, o, hf, h => by
    obtain ⟨o', ih⟩ := product_loop ns (acc * n) (some (.d (.int n))) rfl (fun m hm => h m (List.mem_cons_of_mem _ hm))
    refine ⟨o', ?_⟩
    rw [List.map_cons, loop_cons]
    have e : bName 2 (.int n) [L, some (.d (.int acc)), o] = some [L, some (.d (.int acc)), some (.d (.int n))] := by
      unfold bName
      rw [if_pos hf]
      rfl
    have e2 : sAug 1 imulD (eVar 2) [L, some (.d (.int acc)), some (.d (.int n))] = .ok .nx [L, some (.d (.int (acc * n))), some (.d (.int n))] := by
      simp [sAug, imul_ok (h n List.mem_cons_self), freeAt, Tv.bor]
    rw [e]
    dsimp only
    rw [e2]
    dsimp only
    rw [ih, List.prod_cons, Int.mul_assoc]
theorem s_product {x : D} {ns : List Int} (hx : itemsD x = some (ns.map PyData.int)) (h : ∀ n ∈ ns, small n) : p_product [x] = .ok (.int ns.prod) := by
  obtain ⟨o', e⟩ := product_loop (L := some (.d x)) ns 1 none rfl h
  rw [p_product, runP_out]
  simp [m_product, dsG, freeAt, Tv.bor, sFor_app, hx, e]
/-! ### slices -/
theorem cut_from {α : Type} (xs : List α) (k : Nat) : cutD xs (some (k : Int)) none = xs.drop k := by
  unfold cutD
  rw [HT.sIx_nat, HT.sIx_none]
  by_cases h : k ≤ xs.length
  · rw [Nat.min_eq_left h, List.take_of_length_le (by rw [List.length_drop]; omega)]
  · rw [Nat.min_eq_right (by omega), List.drop_of_length_le (by omega), List.drop_of_length_le (i := k) (by omega)]
    simp
theorem cut_upto {α : Type} (xs : List α) (k : Nat) : cutD xs none (some (k : Int)) = xs.take k := by
  unfold cutD
  rw [HT.sIx_nat, HT.sIx_none]
  by_cases h : k ≤ xs.length
  · rw [Nat.min_eq_left h]
    rfl
  · rw [Nat.min_eq_right (by omega), List.take_of_length_le (i := k) (by omega)]
    simp
theorem sl_from1 {x : D} {xs : List D} (h : seqD x = some xs) : ∃ y, slD x (some 1) none = some y ∧ seqD y = some xs.tail := by
  have e := cut_from xs 1
  rw [List.drop_one] at e
  cases x with
  | list ys => cases h; exact ⟨_, rfl, by rw [seqD]; exact congrArg some e⟩
  | tuple ys => cases h; exact ⟨_, rfl, by rw [seqD]; exact congrArg some e⟩
  | _ => cases h
/-! ### is_ascending -/
def ascB (xs : List D) : Bool := (xs.zip xs.tail).all fun p => PySem.W.dataLt p.1 p.2
theorem s_is_ascending {x : D} {xs : List D} (hx : seqD x = some xs) (hl : xs.length ≤ sizeLine) (h : ∀ a ∈ xs, ∀ b ∈ xs, ordOk a b = true) : p_is_ascending [x] = .ok (.bool (ascB xs)) := by
  obtain ⟨y, e1, e2⟩ := sl_from1 hx
  rw [p_is_ascending, runP_out]
  simp [m_is_ascending, dsG]
  rw [lcM (xs.zip xs.tail) (fun p => PyData.tuple [p.1, p.2]) (fun p => PyData.bool (PySem.W.dataLt p.1 p.2))]
  · simp [all_bools, ascB]
  · simp [e1, zip2, hx, e2, zipD]
  · rw [List.length_zip]
    omega
  · rintro ⟨a, b⟩ hp
    obtain ⟨ha, hb⟩ := List.of_mem_zip hp
    refine ⟨_, rfl, ?_, rfl, rfl⟩
    simp [ltD, h a ha b (List.mem_of_mem_tail hb)]
/-! ### are_questions -/
def q0 : D → Str
  | .tuple [.str z, _] => z
  | _ => ""
def q1 : D → Int
  | .tuple [_, .int i] => i
  | _ => 0
theorem isQ_inv {x : D} (h : isQ x = true) : ∃ (z : Str) (i : Int), x = .tuple [.str z, .int i] ∧ nmOk z = true ∧ 2 ≤ i ∧ i ≤ 3 := by
  unfold isQ at h
  split at h
  · rename_i a b
    rw [Bool.and_eq_true] at h
    obtain ⟨h1, h2⟩ := h
    unfold isNm at h1
    split at h1
    · split at h2
      · rename_i z i
        simp only [Bool.and_eq_true, decide_eq_true_eq] at h2
        exact ⟨_, _, rfl, h1, h2⟩
      · cases h2
    · cases h1
  · cases h
def areQ : D → Bool
  | .tuple xs => (decide (1 ≤ xs.length) && decide (xs.length ≤ 5)) && (xs.all isQ && (ascB (xs.map fun x => .str (q0 x)) && decide ((xs.map q1).prod ≤ 32)))
  | _ => false
theorem asc_strs {γ : Type} (xs : List γ) (f : γ → Str) (hl : xs.length ≤ sizeLine) {x : D} (hx : seqD x = some (xs.map fun y => PyData.str (f y))) : p_is_ascending [x] = .ok (.bool (ascB (xs.map fun y => PyData.str (f y)))) := by
  refine s_is_ascending hx (by rw [List.length_map]; exact hl) fun a ha b hb => ?_
  obtain ⟨a, _, rfl⟩ := List.mem_map.mp ha
  obtain ⟨b, _, rfl⟩ := List.mem_map.mp hb
  rfl
theorem le1 {n : Nat} : (1 : Int) ≤ (n : Int) ↔ 1 ≤ n := by omega
theorem s_are_questions {n : Nat} (x : D) (h : Gd n x) : p_are_questions [x] = .ok (.bool (areQ x)) := by
  rw [p_are_questions, runP_out]
  cases x with
  | tuple xs =>
    cases n with
    | zero => simp [Gd] at h
    | succ n =>
      simp only [Gd] at h
      simp [m_are_questions, dsG, isi_tuple (x := .tuple xs) rfl, isTupD, le_int, app_ite, bind_ite, seq_ite, outP_ite, areQ, le1]
      by_cases h1 : 1 ≤ xs.length
      · by_cases h5 : xs.length ≤ 5
        · have h5' : (xs.length : Int) ≤ 5 := by omega
          simp [h1, h5, h5']
          rw [lc_map (fun x => PyData.bool (isQ x))]
          · simp [all_bools, app_ite, bind_ite, seq_ite, outP_ite]
            cases hq : xs.all isQ
            · simp
            · rw [List.all_eq_true] at hq
              simp
              rw [lc_map (items := xs) (fun x => PyData.str (q0 x))]
              · simp [asc_strs xs q0 h.1 (x := .list (xs.map fun y => PyData.str (q0 y))) rfl]
                cases ha : ascB (xs.map fun x => PyData.str (q0 x))
                · simp
                · simp
                  rw [lc_map (items := xs) (fun x => PyData.int (q1 x))]
                  · have hp : p_product [.list (xs.map fun x => PyData.int (q1 x))] = .ok (.int (xs.map q1).prod) := by
                      refine s_product (by simp [itemsD]) fun n hn => ?_
                      obtain ⟨y, hy, rfl⟩ := List.mem_map.mp hn
                      obtain ⟨z, i, rfl, _, h2, h3⟩ := isQ_inv (hq y hy)
                      exact ⟨by show -(2 ^ 64) < i; omega, by show i < 2 ^ 64; omega⟩
                    simp [hp, le_int]
                    try (intro hh; omega)
                  · rfl
                  · rfl
                  · rfl
                  · exact h.1
                  · intro y hy
                    refine ⟨_, rfl, ?_, rfl, rfl⟩
                    obtain ⟨z, i, rfl, _⟩ := isQ_inv (hq y hy)
                    simp [ix_t1, q1]
              · rfl
              · rfl
              · rfl
              · exact h.1
              · intro y hy
                refine ⟨_, rfl, ?_, rfl, rfl⟩
                obtain ⟨z, i, rfl, _⟩ := isQ_inv (hq y hy)
                simp [ix_t0, q0]
          · rfl
          · rfl
          · rfl
          · exact h.1
          · intro y hy
            refine ⟨_, rfl, ?_, rfl, rfl⟩
            simp [s_is_question y (h.2 y hy)]
        · have h5' : ¬ (xs.length : Int) ≤ 5 := by omega
          simp [h1, h5, h5']
      · simp [h1]
  | _ =>
    have h := h.nd
    simp [m_are_questions, dsG, isi_tuple h, isTupD, areQ]
/-! ### is_name_tuple, contains -/
theorem eqvAll_nil (xs : List D) : PyData.eqvAll xs [] = xs.isEmpty := by cases xs <;> rfl
theorem eqv_tnil (xs : List D) : PyData.eqv (.tuple xs) (.tuple []) = xs.isEmpty := by rw [PyData.eqv, eqvAll_nil]
theorem eqv_lnil (xs : List D) : PyData.eqv (.list xs) (.list []) = xs.isEmpty := by rw [PyData.eqv, eqvAll_nil]
theorem eqv_str (a b : Str) : PyData.eqv (.str a) (.str b) = (a == b) := by rw [PyData.eqv]
theorem plain_strs {γ : Type} (f : γ → Str) (zs : List γ) : PyData.plainAll (zs.map fun z => PyData.str (f z)) = true := (plainAll_iff _).mpr fun y hy => by
  obtain ⟨z, _, rfl⟩ := List.mem_map.mp hy
  rfl
theorem any_strs (z : Str) : ∀ known : List Str, known.any ((fun y => PyData.eqv y (PyData.str z)) ∘ PyData.str) = known.contains z
  | [] => rfl
  | y :: ys => by rw [List.any_cons, List.contains_cons, Function.comp_apply, eqv_str, any_strs z ys, Bool.beq_comm]
theorem in_strs {kx : D} {known : List Str} (hk : seqD kx = some (known.map PyData.str)) (z : Str) : inD (.str z) kx = some (.bool (known.contains z)) := by
  have e : inOk (.str z) (known.map PyData.str) = true := by
    simp only [inOk, Bool.and_eq_true]
    exact ⟨rfl, plain_strs id known, by simp [PyData.depth]⟩
  rw [inD, hk]
  dsimp only
  rw [if_pos e, inB, List.any_map, any_strs]
theorem nin_strs {kx : D} {known : List Str} (hk : seqD kx = some (known.map PyData.str)) (z : Str) : ninD (.str z) kx = some (.bool (!known.contains z)) := by
  have h := in_strs hk z
  unfold inD at h
  unfold ninD
  rw [hk] at h ⊢
  dsimp only at h ⊢
  split at h
  · rename_i e
    rw [if_pos e]
    injection h with h
    injection h with h
    rw [h]
  · cases h
def strOf : D → Str
  | .str z => z
  | _ => ""
theorem strs_of {xs : List D} (h : xs.all isStrD = true) : xs = (xs.map strOf).map PyData.str := by
  rw [List.all_eq_true] at h
  rw [List.map_map]
  refine (List.map_id' xs).symm.trans (List.map_congr_left fun x hx => ?_)
  have := h x hx
  cases x with
  | str z => rfl
  | _ => cases this
def isNT (known : List Str) : D → Bool
  | .tuple xs => !xs.isEmpty && (xs.all isStrD && (ascB xs && xs.all fun y => known.contains (strOf y)))
  | _ => false
theorem s_is_name_tuple {n : Nat} {kx : D} {known : List Str} (hk : seqD kx = some (known.map PyData.str)) (x : D) (h : Gd n x) (hn : n ≤ 59 := by omega) : p_is_name_tuple [kx, x] = .ok (.bool (isNT known x)) := by
  rw [p_is_name_tuple, runP_out]
  cases x with
  | tuple xs =>
    have hg := h
    cases n with
    | zero => simp [Gd] at h
    | succ n =>
      simp only [Gd] at h
      have g0 : Gd 1 (.tuple []) := ⟨Nat.zero_le _, fun y hy => nomatch hy⟩
      simp [m_is_name_tuple, dsG, isi_tuple (x := .tuple xs) rfl, isTupD, eq_gd hg g0 hn, eqv_tnil, app_ite, bind_ite, seq_ite, outP_ite, isNT]
      by_cases he : xs = []
      · subst he
        simp
      · simp [he]
        rw [lc_map (items := xs) (fun x => PyData.bool (isStrD x))]
        · simp only [all_bools, bind_ok, lift_some, frzL_app, aCons_app, bnd_app, truD_bool]
          cases hs : xs.all isStrD
          · simp
          · have es := strs_of hs
            have ea : p_is_ascending [.tuple xs] = .ok (.bool (ascB xs)) := by
              have := asc_strs (xs.map strOf) id (by rw [List.length_map]; exact h.1) (x := .tuple xs) (by rw [seqD]; exact congrArg some es)
              rw [this]
              simp only [id]
              rw [← es]
            simp [ea]
            cases ha : ascB xs
            · simp
            · simp
              rw [lc_map (items := xs) (fun x => PyData.bool (known.contains (strOf x)))]
              · simp [all_bools]
                exact fun _ => he
              · rfl
              · rfl
              · rfl
              · exact h.1
              · intro y hy
                refine ⟨_, rfl, ?_, rfl, rfl⟩
                rw [es] at hy
                obtain ⟨z, _, rfl⟩ := List.mem_map.mp hy
                simp [in_strs hk, strOf]
        · rfl
        · rfl
        · rfl
        · exact h.1
        · intro y hy
          refine ⟨_, rfl, ?_, rfl, rfl⟩
          simp [isi_str (h.2 y hy).nd]
  | _ =>
    have h := h.nd
    simp [m_is_name_tuple, dsG, isi_tuple h, isTupD, isNT]
theorem s_contains {lx sx : D} {lg sm : List Str} (h1 : seqD lx = some (lg.map PyData.str)) (h2 : itemsD sx = some (sm.map PyData.str)) (hl : sm.length ≤ sizeLine) : p_contains [lx, sx] = .ok (.bool (sm.all fun z => lg.contains z)) := by
  rw [p_contains, runP_out]
  simp [m_contains, dsG]
  rw [lcM sm PyData.str (fun z => PyData.bool (lg.contains z))]
  · simp [all_bools]
  · simp [h2]
  · exact hl
  · intro z hz
    refine ⟨_, rfl, ?_, rfl, rfl⟩
    simp [in_strs h1]
/-! ### cell_count -/
def mkQ (q : Str × Int) : D := .tuple [.str q.1, .int q.2]
def mkG (g : List Str) : D := .tuple (g.map PyData.str)
def cnt (qs : List (Str × Int)) (z : Str) : Int := ((qs.find? fun q => q.1 == z).map (·.2)).getD 0
theorem intsD_ints : ∀ ns : List Int, intsD (ns.map PyData.int) = some ns
  | [] => rfl
  | n :: ns => by rw [List.map_cons, intsD, intsD_ints ns]; rfl
theorem sum_ints {γ : Type} (xs : List γ) (f : γ → Int) : sumD [.list (xs.map fun x => PyData.int (f x))] = some (.int (xs.map f).sum) := by
  have := intsD_ints (xs.map f)
  rw [List.map_map] at this
  rw [sumD]
  show (intsD (xs.map (PyData.int ∘ f))).map _ = _
  rw [this]
  rfl
theorem pairs_mkQ : ∀ qs : List (Str × Int), pairsD (qs.map mkQ) = some (qs.map fun q => (.inr q.1, .int q.2))
  | [] => rfl
  | q :: qs => by rw [List.map_cons, pairsD, pairs_mkQ qs]; rfl
theorem merge_nodup {α : Type} : ∀ (ks acc : List (L2.Key × α)), ((acc ++ ks).map (·.1)).Nodup → mergeA acc ks = acc ++ ks
  | [], acc, _ => by simp [mergeA]
  | k :: ks, acc, h => by
    have e : putA acc k.1 k.2 = acc ++ [k] := by
      unfold putA
      rw [if_neg]
      intro hc
      rw [List.any_eq_true] at hc
      obtain ⟨p, hp, hk⟩ := hc
      rw [decide_eq_true_eq] at hk
      rw [List.map_append, List.nodup_append] at h
      exact h.2.2 p.1 (List.mem_map_of_mem hp) k.1 (by simp) hk
    have ih := merge_nodup ks (acc ++ [k]) (by rw [List.append_assoc]; exact h)
    rw [mergeA, List.foldl_cons, e]
    rw [mergeA] at ih
    rw [ih, List.append_assoc]
    rfl
theorem dict_mkQ {qs : List (Str × Int)} (hne : qs ≠ []) (hd : (qs.map (·.1)).Nodup) : dictD [.tuple (qs.map mkQ)] = some (.dict (qs.map fun q => (.str q.1, .int q.2))) := by
  have e := pairs_mkQ qs
  have h1 : ∀ z : List D, z ≠ [] → dictD [.tuple z] = (pairsD z).map fun ks => toDict (mergeA [] ks) := fun z hz => by
    cases z with
    | nil => exact absurd rfl hz
    | cons _ _ => rfl
  rw [h1 _ (by simpa using hne), e, Option.map_some, merge_nodup]
  · rw [List.nil_append, toDict, List.map_map]
    rfl
  · rw [List.nil_append, List.map_map]
    have : ((qs.map (·.1)).map fun z : Str => (Sum.inr z : L2.Key)).Nodup := List.Pairwise.map (fun z : Str => (Sum.inr z : L2.Key)) (fun a b h e => h (by injection e)) hd
    rw [List.map_map] at this
    exact this
theorem ix_dict {qs : List (Str × Int)} {z : Str} (h : z ∈ qs.map (·.1)) : ixD (.dict (qs.map fun q => (.str q.1, .int q.2))) (.str z) = some (.int (cnt qs z)) := by
  show dGet (qs.map fun q => (PyData.str q.1, PyData.int q.2)) (.str z) = _
  show ((qs.map fun q => (PyData.str q.1, PyData.int q.2)).find? fun p => decide (keyD p.1 = some (.inr z))).map (·.2) = _
  unfold cnt
  induction qs with
  | nil => cases h
  | cons q qs ih =>
    rw [List.map_cons, List.find?_cons, List.find?_cons]
    by_cases e : q.1 = z
    · have e1 : decide (keyD (PyData.str q.1) = some (.inr z)) = true := by
        rw [e]
        exact decide_eq_true rfl
      have e2 : (q.1 == z) = true := by rw [e]; exact beq_self_eq_true z
      simp only [e1, e2]
      rfl
    · have e1 : decide (keyD (PyData.str q.1) = some (.inr z)) = false := decide_eq_false fun h => by
        injection h with h
        injection h with h
        exact e h
      have e2 : (q.1 == z) = false := beq_eq_false_iff_ne.mpr e
      simp only [e1, e2]
      refine ih ?_
      rw [List.map_cons] at h
      exact (List.mem_cons.mp h).resolve_left fun h => e h.symm
theorem s_cell_count {qs : List (Str × Int)} {gs : List (List Str)} (hne : qs ≠ []) (hd : (qs.map (·.1)).Nodup) (hs : ∀ q ∈ qs, small q.2) (hg : ∀ g ∈ gs, g.length ≤ sizeLine ∧ ∀ z ∈ g, z ∈ qs.map (·.1)) (hl : gs.length ≤ sizeLine) :
    p_cell_count [.tuple (qs.map mkQ), .tuple (gs.map mkG)] = .ok (.int (gs.map fun g => (g.map (cnt qs)).prod).sum) := by
  rw [p_cell_count, runP_out]
  simp [m_cell_count, dsG, dict_mkQ hne hd, freeAt]
  rw [lcM gs mkG (fun g => PyData.int (g.map (cnt qs)).prod)]
  · simp [sum_ints]
  · simp [itemsD]
  · exact hl
  · intro g hgm
    refine ⟨_, rfl, ?_, rfl, rfl⟩
    simp
    rw [lcM g PyData.str (fun z => PyData.int (cnt qs z))]
    · have hp : p_product [.list (g.map fun z => PyData.int (cnt qs z))] = .ok (.int (g.map (cnt qs)).prod) := by
        refine s_product (by simp [itemsD]) fun n hn => ?_
        obtain ⟨z, hz, rfl⟩ := List.mem_map.mp hn
        obtain ⟨q, hq, rfl⟩ := List.mem_map.mp ((hg g hgm).2 z hz)
        unfold cnt
        cases hf : qs.find? fun p => p.1 == q.1 with
        | none => exact ⟨by decide, by decide⟩
        | some p => exact hs p (List.mem_of_find?_eq_some hf)
      simp [hp]
    · simp [itemsD, mkG]
    · exact (hg g hgm).1
    · intro z hz
      refine ⟨_, rfl, ?_, rfl, rfl⟩
      simp [ix_dict ((hg g hgm).2 z hz)]
/-! ### is_scenario -/
def qsOf (xs : List D) : List (Str × Int) := xs.map fun x => (q0 x, q1 x)
theorem qs_eq {xs : List D} (h : xs.all isQ = true) : xs = (qsOf xs).map mkQ := by
  rw [List.all_eq_true] at h
  unfold qsOf
  rw [List.map_map]
  refine (List.map_id' xs).symm.trans (List.map_congr_left fun x hx => ?_)
  obtain ⟨z, i, rfl, _⟩ := isQ_inv (h x hx)
  rfl
def gOf : D → List Str
  | .tuple zs => zs.map strOf
  | _ => []
theorem gs_eq {known : List Str} {gs : List D} (h : gs.all (isNT known) = true) : gs = (gs.map gOf).map mkG := by
  rw [List.all_eq_true] at h
  rw [List.map_map]
  refine (List.map_id' gs).symm.trans (List.map_congr_left fun x hx => ?_)
  have h1 := h x hx
  unfold isNT at h1
  split at h1
  · rename_i zs
    simp only [Bool.and_eq_true] at h1
    show PyData.tuple zs = mkG (zs.map strOf)
    rw [mkG, ← strs_of h1.2.1]
  · cases h1
theorem gs_in {known : List Str} {gs : List D} (h : gs.all (isNT known) = true) : ∀ g ∈ gs.map gOf, ∀ z ∈ g, z ∈ known := by
  rw [List.all_eq_true] at h
  intro g hg z hz
  obtain ⟨x, hx, rfl⟩ := List.mem_map.mp hg
  have h1 := h x hx
  unfold isNT at h1
  split at h1
  · rename_i zs
    simp only [Bool.and_eq_true, List.all_eq_true] at h1
    obtain ⟨y, hy, rfl⟩ := List.mem_map.mp hz
    have := h1.2.2.2 y hy
    simpa using this
  · cases h1
def antiB (gs : List (List Str)) : Bool := gs.zipIdx.all fun p => !(gs.take p.2 ++ gs.drop (p.2 + 1)).any fun o => p.1.all fun z => o.contains z
def coverB (known : List Str) (gs : List (List Str)) : Bool := known.all fun z => gs.any fun g => g.contains z
def cells (qs : List (Str × Int)) (g : List Str) : Int := (g.map (cnt qs)).prod
def isGs (qs : List (Str × Int)) : D → Bool
  | .tuple gs => (decide (1 ≤ gs.length) && decide (gs.length ≤ 10)) && ((gs.all (isNT (qs.map (·.1))) && ascB gs) && (antiB (gs.map gOf) && (coverB (qs.map (·.1)) (gs.map gOf) && decide (((gs.map gOf).map (cells qs)).sum ≤ 40))))
  | _ => false
def isScn : D → Bool
  | .tuple [a, b] => areQ a && (match a with
    | .tuple xs => isGs (qsOf xs) b
    | _ => false)
  | _ => false
theorem asc_nodup {zs : List Str} (h : ascB (zs.map PyData.str) = true) : zs.Nodup := by
  have tr : ∀ (zs : List Str), ascB (zs.map PyData.str) = true → (zs.Pairwise fun a b => sLt a b = true) := by
    intro zs
    induction zs with
    | nil => exact fun _ => .nil
    | cons a zs ih =>
      cases zs with
      | nil => exact fun _ => by simp
      | cons b zs =>
        intro h
        have h1 : sLt a b = true ∧ ascB ((b :: zs).map PyData.str) = true := by
          unfold ascB at h ⊢
          simp only [List.map_cons, List.tail_cons, List.zip_cons_cons, List.all_cons, Bool.and_eq_true] at h
          exact ⟨h.1, by simpa using h.2⟩
        have ih' := ih h1.2
        refine List.pairwise_cons.mpr ⟨fun c hc => ?_, ih'⟩
        rcases List.mem_cons.mp hc with rfl | hc
        · exact h1.1
        · exact PyProof.Rows.lex_trans _ _ _ h1.1 ((List.pairwise_cons.mp ih').1 c hc)
  refine (tr zs h).imp fun {a b} h e => ?_
  subst e
  rw [sLt, PySem.W.dataLt, PyProof.Rows.lex_irrefl] at h
  cases h
theorem alikeAll_strs : ∀ a b : List Str, PySem.W.alikeAll (a.map PyData.str) (b.map PyData.str) = true
  | [], _ => by simp [PySem.W.alikeAll]
  | _ :: _, [] => by simp [PySem.W.alikeAll]
  | x :: a, y :: b => by simp [PySem.W.alikeAll, PySem.W.alike, alikeAll_strs a b]
theorem ordOk_mkG (a b : List Str) : ordOk (mkG a) (mkG b) = true := by
  have p : ∀ a : List Str, (mkG a).plain = true := fun a => by
    rw [mkG, PyData.plain]
    exact plain_strs id a
  have d : (mkG a).depth ≤ 60 := by
    rw [mkG, PyData.depth]
    have := depthAll_le (n := 1) (a.map PyData.str) fun y hy => by
      obtain ⟨z, _, rfl⟩ := List.mem_map.mp hy
      simp [PyData.depth]
    omega
  simp only [ordOk, p, Bool.true_and, Bool.and_eq_true, decide_eq_true_eq]
  refine ⟨d, ?_, rfl⟩
  rw [mkG, mkG, PySem.W.alike]
  exact alikeAll_strs a b
theorem freeAt_dat {g : Ga} {i : Nat} {o : Option Tv} (e : g[i]? = some o) (h : dat o = true) : freeAt g i = true := by
  unfold freeAt
  rw [e]
  cases o with
  | none => rfl
  | some t => cases t with
    | d _ => rfl
    | ml _ _ => cases h
    | md _ _ _ => cases h
    | mf _ _ => cases h
    | ob _ _ _ => cases h
theorem bName_dat {g : Ga} {i : Nat} {o : Option Tv} {x : D} (e : g[i]? = some o) (h : dat o = true) : bName i x g = some (g.set i (some (.d x))) := by rw [bName, if_pos (freeAt_dat e h)]
theorem enum_map {γ : Type} (xs : List γ) (mk : γ → D) : enumD (xs.map mk) = xs.zipIdx.map fun p => PyData.tuple [.int (p.2 : Nat), mk p.1] := by
  rw [enumD, List.zipIdx_map, List.map_map]
  rfl
theorem sl_upto (xs : List D) (k : Nat) : slD (.tuple xs) none (some (k : Int)) = some (.tuple (xs.take k)) := by rw [slD, cut_upto]
theorem sl_from (xs : List D) (k : Nat) : slD (.tuple xs) (some (k : Int)) none = some (.tuple (xs.drop k)) := by rw [slD, cut_from]
theorem add_tups {xs ys : List D} (h : xs.length + ys.length ≤ sizeLine) : addD (.tuple xs) (.tuple ys) = some (.tuple (xs ++ ys)) := by rw [addD, if_pos h]
theorem add_int (i j : Int) : addD (.int i) (.int j) = some (.int (i + j)) := rfl
theorem sizeLine_big : 1000000 ≤ sizeLine := by decide
theorem scn_loop {x a k : D} {gs : List (List Str)} (hl : gs.length ≤ 10) (hg : ∀ g ∈ gs, g.length ≤ sizeLine) (body : M Fl) (hb : body = (sIf (tru (apA anyD (aCons (frzL (eLc [7] (bName 7) (tAll) (eCall 2 p_contains (aCons (eVar 7) (aCons (eVar 5) (nilA)))) (ap1 itemsD (ap2 addD (eSl (eVar 2) (pN) (pS (eVar 4))) (eSl (eVar 2) (pS (ap2 addD (eVar 4) (eC (.int 1)))) (pN)))))) (nilA)))) (sRet (eC (.bool false))) ((fun g => .ok .nx g)))) :
    ∃ o4 o5, dat o4 = true ∧ dat o5 = true ∧ sFor (bTup [bName 4, bName 5]) (apA enum1 (aCons (eVar 2) (nilA))) body [some (.d x), some (.d a), some (.d (.tuple (gs.map mkG))), some (.d k), none, none, none, none, none] =
      if antiB gs = true then .ok .nx [some (.d x), some (.d a), some (.d (.tuple (gs.map mkG))), some (.d k), o4, o5, none, none, none] else .ok (.ret (.bool false)) [some (.d x), some (.d a), some (.d (.tuple (gs.map mkG))), some (.d k), o4, o5, none, none, none] := by
  subst hb
  obtain ⟨g', ⟨o4, o5, h4, h5, rfl⟩, e⟩ := loop_any (b := bTup [bName 4, bName 5]) (body := (sIf (tru (apA anyD (aCons (frzL (eLc [7] (bName 7) (tAll) (eCall 2 p_contains (aCons (eVar 7) (aCons (eVar 5) (nilA)))) (ap1 itemsD (ap2 addD (eSl (eVar 2) (pN) (pS (eVar 4))) (eSl (eVar 2) (pS (ap2 addD (eVar 4) (eC (.int 1)))) (pN)))))) (nilA)))) (sRet (eC (.bool false))) ((fun g => .ok .nx g))))
    (P := fun g => ∃ o4 o5, dat o4 = true ∧ dat o5 = true ∧ g = [some (.d x), some (.d a), some (.d (.tuple (gs.map mkG))), some (.d k), o4, o5, none, none, none])
    (mk := fun p : List Str × Nat => PyData.tuple [.int (p.2 : Nat), mkG p.1]) (c := fun p => (gs.take p.2 ++ gs.drop (p.2 + 1)).any fun o => p.1.all fun z => o.contains z) (v := .bool false) gs.zipIdx (by
      rintro ⟨gr, i⟩ hp g ⟨o4, o5, h4, h5, rfl⟩
      have hgr : gr ∈ gs := List.fst_mem_of_mem_zipIdx hp
      refine ⟨[some (.d x), some (.d a), some (.d (.tuple (gs.map mkG))), some (.d k), some (.d (.int (i : Nat))), some (.d (mkG gr)), none, none, none], [some (.d x), some (.d a), some (.d (.tuple (gs.map mkG))), some (.d k), some (.d (.int (i : Nat))), some (.d (mkG gr)), none, none, none], ?_, ?_, _, _, rfl, rfl, rfl⟩
      · show bAll [bName 4, bName 5] [.int (i : Nat), mkG gr] _ = _
        simp only [bAll]
        rw [bName_dat (o := o4) rfl h4]
        simp only [Option.bind_some]
        rw [bName_dat (o := o5) rfl h5]
        rfl
      · simp only [bind_ok, bind_exc, bnd_app, lift_some, eC_app, eVar_0, eVar_1, eVar_2, eVar_3, eVar_4, eVar_5, eVar_6, eVar_7, eVar_8, eVar_9, eVar_10, ap1_app, ap2_app, apA_app, aCons_app, nilA_app, tru_app, tst_app, asB_bool, truD_bool, truD_list, truD_tuple, mNot_app, mAnd_app, mOr_app, eNot_app, eAnd_app, eOr_app, andK_b, orK_b, eIf_app, eTup_app, eLst_app, lLst_app, frzL_app, eList_app, eSl_app, pN_app, pS_app, partD_int, chn_b, eChain_app, seq_nx, seq_ret, seq_brk, seq_cnt, seq_exc, sSeq_app, sRet_app, sDrop_app, sIf_app, sRaise_app, sAsg_name, sSetL_app, rxM_ok, rxM_exc, eCall_app, outP_ret, outP_nx, outP_exc, Option.map_some, len0, len1, len2, len3, len4, len5, len6, len7, len8, eq_self, sz0, sz1, sz2, sz3, sz4, sz5, sz6, sz7, sz8, sz9, sz10, sz11, freeAt_s, freeAt_n, freeAt_d, freeAt_m, sFrz_app, frzK_ml, List.getElem?_cons_zero, List.getElem?_cons_succ, List.set_cons_zero, List.set_cons_succ, sAsg_tup, asgK_some, bTup_app, bAll_nil, bAll_cons, bName_app, Option.bind_some, isMl_s, isMl_m, resK_some, onK_ml, eApp_app, ePop_app, eIdxV_app, eLenV_app, tTruV_app, sSetI_app, onL_app, fLen_ok, fTru_ok, rbK_ok, cbK_ml, eCB_cons, eCB_nil, List.nil_append, List.cons_append, outK_some, outR_ret, outR_nx, outB_s, outB_m, mConsD_app, mConsL_app, sPar_app, setAll_nil, setAll_cons, true_and, and_true, and_self, Bool.not_true, Bool.not_false, Bool.false_eq_true, reduceIte]
        rw [lcM (gs.take i ++ gs.drop (i + 1)) mkG (fun o => PyData.bool (gr.all fun z => o.contains z))]
        · simp only [bind_ok, bind_exc, bnd_app, lift_some, eC_app, eVar_0, eVar_1, eVar_2, eVar_3, eVar_4, eVar_5, eVar_6, eVar_7, eVar_8, eVar_9, eVar_10, ap1_app, ap2_app, apA_app, aCons_app, nilA_app, tru_app, tst_app, asB_bool, truD_bool, truD_list, truD_tuple, mNot_app, mAnd_app, mOr_app, eNot_app, eAnd_app, eOr_app, andK_b, orK_b, eIf_app, eTup_app, eLst_app, lLst_app, frzL_app, eList_app, eSl_app, pN_app, pS_app, partD_int, chn_b, eChain_app, seq_nx, seq_ret, seq_brk, seq_cnt, seq_exc, sSeq_app, sRet_app, sDrop_app, sIf_app, sRaise_app, sAsg_name, sSetL_app, rxM_ok, rxM_exc, eCall_app, outP_ret, outP_nx, outP_exc, Option.map_some, len0, len1, len2, len3, len4, len5, len6, len7, len8, eq_self, sz0, sz1, sz2, sz3, sz4, sz5, sz6, sz7, sz8, sz9, sz10, sz11, freeAt_s, freeAt_n, freeAt_d, freeAt_m, sFrz_app, frzK_ml, List.getElem?_cons_zero, List.getElem?_cons_succ, List.set_cons_zero, List.set_cons_succ, sAsg_tup, asgK_some, bTup_app, bAll_nil, bAll_cons, bName_app, Option.bind_some, isMl_s, isMl_m, resK_some, onK_ml, eApp_app, ePop_app, eIdxV_app, eLenV_app, tTruV_app, sSetI_app, onL_app, fLen_ok, fTru_ok, rbK_ok, cbK_ml, eCB_cons, eCB_nil, List.nil_append, List.cons_append, outK_some, outR_ret, outR_nx, outB_s, outB_m, mConsD_app, mConsL_app, sPar_app, setAll_nil, setAll_cons, true_and, and_true, and_self, Bool.not_true, Bool.not_false, Bool.false_eq_true, reduceIte, any_bools, app_ite]
        · have hz := sizeLine_big
          have e1 : ((i : Int) + 1) = ((i + 1 : Nat) : Int) := by omega
          simp only [eSl_app, eVar_2, bind_ok, bnd_app, pN_app, pS_app, eVar_4, partD_int, lift_some, sl_upto, ap2_app, eC_app, add_int, e1, sl_from, ap1_app]
          rw [add_tups]
          · simp [itemsD]
          · simp only [List.length_take, List.length_drop, List.length_map]
            omega
        · have hz := sizeLine_big
          simp only [List.length_append, List.length_take, List.length_drop]
          omega
        · intro o ho
          refine ⟨_, rfl, ?_, rfl, rfl⟩
          have := s_contains (lx := mkG o) (sx := mkG gr) (lg := o) (sm := gr) rfl rfl (hg gr hgr)
          simp [this]) [some (.d x), some (.d a), some (.d (.tuple (gs.map mkG))), some (.d k), none, none, none, none, none] ⟨none, none, rfl, rfl, rfl⟩
  refine ⟨o4, o5, h4, h5, ?_⟩
  have e2 : (gs.zipIdx.any fun p => (gs.take p.2 ++ gs.drop (p.2 + 1)).any fun o => p.1.all fun z => o.contains z) = !antiB gs := by
    unfold antiB
    rw [List.any_eq_not_all_not]
  rw [e2] at e
  simp [sFor_app, enum1, seqD, enum_map]
  rw [e]
  cases antiB gs <;> rfl
theorem scn_cover {x a k : D} {ss : List (List Str)} {names : List Str} {o4 o5 : Option Tv} (hk : itemsD k = some (names.map PyData.str)) (hn : names.length ≤ sizeLine) (hl : ss.length ≤ sizeLine) (d5 : dat o5 = true) :
    ∃ o5', dat o5' = true ∧ eLc [8] (bName 8) (tAll) (apA anyD (aCons (frzL (eLc [5] (bName 5) (tAll) (ap2 inD (eVar 8) (eVar 5)) (ap1 itemsD (eVar 2)))) (nilA))) (ap1 itemsD (eVar 3)) [some (.d x), some (.d a), some (.d (.tuple (ss.map mkG))), some (.d k), o4, o5, none, none, none] =
      .ok (names.map fun z => PyData.bool (ss.any fun g => g.contains z)) [some (.d x), some (.d a), some (.d (.tuple (ss.map mkG))), some (.d k), o4, o5', none, none, none] := by
  have key : ∀ (z : Str) (o5 : Option Tv), dat o5 = true → apA anyD (aCons (frzL (eLc [5] (bName 5) (tAll) (ap2 inD (eVar 8) (eVar 5)) (ap1 itemsD (eVar 2)))) (nilA)) [some (.d x), some (.d a), some (.d (.tuple (ss.map mkG))), some (.d k), o4, o5, none, none, some (.d (.str z))] =
      .ok (.bool (ss.any fun g => g.contains z)) [some (.d x), some (.d a), some (.d (.tuple (ss.map mkG))), some (.d k), o4, none, none, none, some (.d (.str z))] := by
    intro z o5 d5
    have hf : ([5].all fun i => freeAt [some (.d x), some (.d a), some (.d (.tuple (ss.map mkG))), some (.d k), o4, o5, none, none, some (.d (.str z))] i) = true := by
      rw [List.all_cons, freeAt_dat (g := [some (.d x), some (.d a), some (.d (.tuple (ss.map mkG))), some (.d k), o4, o5, none, none, some (.d (.str z))]) (i := 5) (o := o5) rfl d5]
      rfl
    have ei := lcW (vs := [5]) (b := bName 5) (e := ap2 inD (eVar 8) (eVar 5)) (mi := ap1 itemsD (eVar 2)) ss mkG (fun g => PyData.bool (g.contains z)) rfl hl hf (fun g hg => ⟨[some (.d x), some (.d a), some (.d (.tuple (ss.map mkG))), some (.d k), o4, some (.d (mkG g)), none, none, some (.d (.str z))], rfl, by
      simp only [bind_ok, bind_exc, bnd_app, lift_some, eC_app, eVar_0, eVar_1, eVar_2, eVar_3, eVar_4, eVar_5, eVar_6, eVar_7, eVar_8, eVar_9, eVar_10, ap1_app, ap2_app, apA_app, aCons_app, nilA_app, tru_app, tst_app, asB_bool, truD_bool, truD_list, truD_tuple, mNot_app, mAnd_app, mOr_app, eNot_app, eAnd_app, eOr_app, andK_b, orK_b, eIf_app, eTup_app, eLst_app, lLst_app, frzL_app, eList_app, eSl_app, pN_app, pS_app, partD_int, chn_b, eChain_app, seq_nx, seq_ret, seq_brk, seq_cnt, seq_exc, sSeq_app, sRet_app, sDrop_app, sIf_app, sRaise_app, sAsg_name, sSetL_app, rxM_ok, rxM_exc, eCall_app, outP_ret, outP_nx, outP_exc, Option.map_some, len0, len1, len2, len3, len4, len5, len6, len7, len8, eq_self, sz0, sz1, sz2, sz3, sz4, sz5, sz6, sz7, sz8, sz9, sz10, sz11, freeAt_s, freeAt_n, freeAt_d, freeAt_m, sFrz_app, frzK_ml, List.getElem?_cons_zero, List.getElem?_cons_succ, List.set_cons_zero, List.set_cons_succ, sAsg_tup, asgK_some, bTup_app, bAll_nil, bAll_cons, bName_app, Option.bind_some, isMl_s, isMl_m, resK_some, onK_ml, eApp_app, ePop_app, eIdxV_app, eLenV_app, tTruV_app, sSetI_app, onL_app, fLen_ok, fTru_ok, rbK_ok, cbK_ml, eCB_cons, eCB_nil, List.nil_append, List.cons_append, outK_some, outR_ret, outR_nx, outB_s, outB_m, mConsD_app, mConsL_app, sPar_app, setAll_nil, setAll_cons, true_and, and_true, and_self, Bool.not_true, Bool.not_false, Bool.false_eq_true, reduceIte, in_strs (kx := mkG g) (known := g) rfl z], rfl, rfl⟩)
    simp only [bind_ok, bind_exc, bnd_app, lift_some, eC_app, eVar_0, eVar_1, eVar_2, eVar_3, eVar_4, eVar_5, eVar_6, eVar_7, eVar_8, eVar_9, eVar_10, ap1_app, ap2_app, apA_app, aCons_app, nilA_app, tru_app, tst_app, asB_bool, truD_bool, truD_list, truD_tuple, mNot_app, mAnd_app, mOr_app, eNot_app, eAnd_app, eOr_app, andK_b, orK_b, eIf_app, eTup_app, eLst_app, lLst_app, frzL_app, eList_app, eSl_app, pN_app, pS_app, partD_int, chn_b, eChain_app, seq_nx, seq_ret, seq_brk, seq_cnt, seq_exc, sSeq_app, sRet_app, sDrop_app, sIf_app, sRaise_app, sAsg_name, sSetL_app, rxM_ok, rxM_exc, eCall_app, outP_ret, outP_nx, outP_exc, Option.map_some, len0, len1, len2, len3, len4, len5, len6, len7, len8, eq_self, sz0, sz1, sz2, sz3, sz4, sz5, sz6, sz7, sz8, sz9, sz10, sz11, freeAt_s, freeAt_n, freeAt_d, freeAt_m, sFrz_app, frzK_ml, List.getElem?_cons_zero, List.getElem?_cons_succ, List.set_cons_zero, List.set_cons_succ, sAsg_tup, asgK_some, bTup_app, bAll_nil, bAll_cons, bName_app, Option.bind_some, isMl_s, isMl_m, resK_some, onK_ml, eApp_app, ePop_app, eIdxV_app, eLenV_app, tTruV_app, sSetI_app, onL_app, fLen_ok, fTru_ok, rbK_ok, cbK_ml, eCB_cons, eCB_nil, List.nil_append, List.cons_append, outK_some, outR_ret, outR_nx, outB_s, outB_m, mConsD_app, mConsL_app, sPar_app, setAll_nil, setAll_cons, true_and, and_true, and_self, Bool.not_true, Bool.not_false, Bool.false_eq_true, reduceIte, ei, any_bools]
    rfl
  obtain ⟨g', ⟨o5', d5', rfl⟩, ec⟩ := lcI (vs := [8]) (b := bName 8) (t := tAll) (e := apA anyD (aCons (frzL (eLc [5] (bName 5) (tAll) (ap2 inD (eVar 8) (eVar 5)) (ap1 itemsD (eVar 2)))) (nilA))) (mi := ap1 itemsD (eVar 3))
    (g := [some (.d x), some (.d a), some (.d (.tuple (ss.map mkG))), some (.d k), o4, o5, none, none, none]) (g1 := [some (.d x), some (.d a), some (.d (.tuple (ss.map mkG))), some (.d k), o4, o5, none, none, none])
    names PyData.str (fun _ => true) (fun z => PyData.bool (ss.any fun g => g.contains z))
    (fun g => ∃ o5, dat o5 = true ∧ g = [some (.d x), some (.d a), some (.d (.tuple (ss.map mkG))), some (.d k), o4, o5, none, none, none])
    (by simp only [bind_ok, bind_exc, bnd_app, lift_some, eC_app, eVar_0, eVar_1, eVar_2, eVar_3, eVar_4, eVar_5, eVar_6, eVar_7, eVar_8, eVar_9, eVar_10, ap1_app, ap2_app, apA_app, aCons_app, nilA_app, tru_app, tst_app, asB_bool, truD_bool, truD_list, truD_tuple, mNot_app, mAnd_app, mOr_app, eNot_app, eAnd_app, eOr_app, andK_b, orK_b, eIf_app, eTup_app, eLst_app, lLst_app, frzL_app, eList_app, eSl_app, pN_app, pS_app, partD_int, chn_b, eChain_app, seq_nx, seq_ret, seq_brk, seq_cnt, seq_exc, sSeq_app, sRet_app, sDrop_app, sIf_app, sRaise_app, sAsg_name, sSetL_app, rxM_ok, rxM_exc, eCall_app, outP_ret, outP_nx, outP_exc, Option.map_some, len0, len1, len2, len3, len4, len5, len6, len7, len8, eq_self, sz0, sz1, sz2, sz3, sz4, sz5, sz6, sz7, sz8, sz9, sz10, sz11, freeAt_s, freeAt_n, freeAt_d, freeAt_m, sFrz_app, frzK_ml, List.getElem?_cons_zero, List.getElem?_cons_succ, List.set_cons_zero, List.set_cons_succ, sAsg_tup, asgK_some, bTup_app, bAll_nil, bAll_cons, bName_app, Option.bind_some, isMl_s, isMl_m, resK_some, onK_ml, eApp_app, ePop_app, eIdxV_app, eLenV_app, tTruV_app, sSetI_app, onL_app, fLen_ok, fTru_ok, rbK_ok, cbK_ml, eCB_cons, eCB_nil, List.nil_append, List.cons_append, outK_some, outR_ret, outR_nx, outB_s, outB_m, mConsD_app, mConsL_app, sPar_app, setAll_nil, setAll_cons, true_and, and_true, and_self, Bool.not_true, Bool.not_false, Bool.false_eq_true, reduceIte, hk]) hn ⟨o5, d5, rfl⟩ (by
      rintro z hz g ⟨o5, d5, rfl⟩
      exact ⟨_, _, [some (.d x), some (.d a), some (.d (.tuple (ss.map mkG))), some (.d k), o4, none, none, none, some (.d (.str z))], rfl, rfl, fun _ => key z o5 d5, fun e => absurd e (by decide), rfl, ⟨none, rfl, rfl⟩⟩)
  refine ⟨o5', d5', ?_⟩
  rw [ec, List.filter_eq_self.mpr (fun _ _ => rfl)]
theorem s_is_scenario {n : Nat} (x : D) (h : Gd n x) (hn : n ≤ 59 := by omega) : p_is_scenario [x] = .ok (.bool (isScn x)) := by
  rw [p_is_scenario, runP_out]
  cases x with
  | tuple ys =>
    cases n with
    | zero => simp [Gd] at h
    | succ n =>
      simp only [Gd] at h
      match ys, h with
      | [], h => simp [m_is_scenario, dsG, isi_tuple (x := .tuple []) rfl, isTupD, ne_int, isScn]
      | [a], h => simp [m_is_scenario, dsG, isi_tuple (x := .tuple [a]) rfl, isTupD, ne_int, isScn]
      | a :: b :: c :: r, h =>
        have e : ((r.length + 1 + 1 + 1 : Int) == 2) = false := by
          rw [beq_eq_false_iff_ne]
          omega
        simp [m_is_scenario, dsG, isi_tuple (x := .tuple (a :: b :: c :: r)) rfl, isTupD, ne_int, isScn, e]
      | [a, b], h =>
        have ga := h.2 a (by simp)
        have gb := h.2 b (by simp)
        have e0 : ((([a, b] : List D).length : Int) == 2) = true := rfl
        simp only [m_is_scenario, dsG, List.map_cons, List.map_nil, List.cons_append, List.nil_append, List.length_cons, List.length_nil, Nat.reduceAdd, Nat.reduceSub, List.replicate, bind_ok, bind_exc, bnd_app, lift_some, eC_app, eVar_0, eVar_1, eVar_2, eVar_3, eVar_4, eVar_5, eVar_6, eVar_7, eVar_8, eVar_9, eVar_10, ap1_app, ap2_app, apA_app, aCons_app, nilA_app, tru_app, tst_app, asB_bool, truD_bool, truD_list, truD_tuple, mNot_app, mAnd_app, mOr_app, eNot_app, eAnd_app, eOr_app, andK_b, orK_b, eIf_app, eTup_app, eLst_app, lLst_app, frzL_app, eList_app, eSl_app, pN_app, pS_app, partD_int, chn_b, eChain_app, seq_nx, seq_ret, seq_brk, seq_cnt, seq_exc, sSeq_app, sRet_app, sDrop_app, sIf_app, sRaise_app, sAsg_name, sSetL_app, rxM_ok, rxM_exc, eCall_app, outP_ret, outP_nx, outP_exc, Option.map_some, len0, len1, len2, len3, len4, len5, len6, len7, len8, eq_self, sz0, sz1, sz2, sz3, sz4, sz5, sz6, sz7, sz8, sz9, sz10, sz11, freeAt_s, freeAt_n, freeAt_d, freeAt_m, sFrz_app, frzK_ml, List.getElem?_cons_zero, List.getElem?_cons_succ, List.set_cons_zero, List.set_cons_succ, sAsg_tup, asgK_some, bTup_app, bAll_nil, bAll_cons, bName_app, Option.bind_some, isMl_s, isMl_m, resK_some, onK_ml, eApp_app, ePop_app, eIdxV_app, eLenV_app, tTruV_app, sSetI_app, onL_app, fLen_ok, fTru_ok, rbK_ok, cbK_ml, eCB_cons, eCB_nil, List.nil_append, List.cons_append, outK_some, outR_ret, outR_nx, outB_s, outB_m, mConsD_app, mConsL_app, sPar_app, setAll_nil, setAll_cons, true_and, and_true, and_self, Bool.not_true, Bool.not_false, Bool.false_eq_true, reduceIte, isi_tuple (x := .tuple [a, b]) rfl, isTupD, len_tup, ne_int, ix_t0, s_are_questions a ga, isScn, app_ite, seq_ite, bind_ite, outP_ite, e0]
        cases hq : areQ a
        · simp
        · cases a with
          | tuple xs =>
            simp only [areQ, Bool.and_eq_true, decide_eq_true_eq] at hq
            obtain ⟨⟨q1', q2'⟩, q3, q4, q5⟩ := hq
            have eq := qs_eq q3
            have hlen : (qsOf xs).length = xs.length := by simp [qsOf]
            generalize hqs : qsOf xs = qs at *
            have hnm : (xs.map fun x => PyData.str (q0 x)) = (qs.map (·.1)).map PyData.str := by
              rw [← hqs, qsOf, List.map_map, List.map_map]
              rfl
            have hnd : (qs.map (·.1)).Nodup := asc_nodup (by rw [← hnm]; exact q4)
            have hz := sizeLine_big
            subst eq
            simp only [bind_ok, bind_exc, bnd_app, lift_some, eC_app, eVar_0, eVar_1, eVar_2, eVar_3, eVar_4, eVar_5, eVar_6, eVar_7, eVar_8, eVar_9, eVar_10, ap1_app, ap2_app, apA_app, aCons_app, nilA_app, tru_app, tst_app, asB_bool, truD_bool, truD_list, truD_tuple, mNot_app, mAnd_app, mOr_app, eNot_app, eAnd_app, eOr_app, andK_b, orK_b, eIf_app, eTup_app, eLst_app, lLst_app, frzL_app, eList_app, eSl_app, pN_app, pS_app, partD_int, chn_b, eChain_app, seq_nx, seq_ret, seq_brk, seq_cnt, seq_exc, sSeq_app, sRet_app, sDrop_app, sIf_app, sRaise_app, sAsg_name, sSetL_app, rxM_ok, rxM_exc, eCall_app, outP_ret, outP_nx, outP_exc, Option.map_some, len0, len1, len2, len3, len4, len5, len6, len7, len8, eq_self, sz0, sz1, sz2, sz3, sz4, sz5, sz6, sz7, sz8, sz9, sz10, sz11, freeAt_s, freeAt_n, freeAt_d, freeAt_m, sFrz_app, frzK_ml, List.getElem?_cons_zero, List.getElem?_cons_succ, List.set_cons_zero, List.set_cons_succ, sAsg_tup, asgK_some, bTup_app, bAll_nil, bAll_cons, bName_app, Option.bind_some, isMl_s, isMl_m, resK_some, onK_ml, eApp_app, ePop_app, eIdxV_app, eLenV_app, tTruV_app, sSetI_app, onL_app, fLen_ok, fTru_ok, rbK_ok, cbK_ml, eCB_cons, eCB_nil, List.nil_append, List.cons_append, outK_some, outR_ret, outR_nx, outB_s, outB_m, mConsD_app, mConsL_app, sPar_app, setAll_nil, setAll_cons, true_and, and_true, and_self, Bool.not_true, Bool.not_false, Bool.false_eq_true, reduceIte, hqs]
            rw [lcM qs mkQ (fun q => PyData.str q.1)]
            rotate_left
            · rfl
            · rw [List.length_map] at q2'
              omega
            · exact fun q hq => ⟨_, rfl, by simp only [bind_ok, bind_exc, bnd_app, lift_some, eC_app, eVar_0, eVar_1, eVar_2, eVar_3, eVar_4, eVar_5, eVar_6, eVar_7, eVar_8, eVar_9, eVar_10, ap1_app, ap2_app, apA_app, aCons_app, nilA_app, tru_app, tst_app, asB_bool, truD_bool, truD_list, truD_tuple, mNot_app, mAnd_app, mOr_app, eNot_app, eAnd_app, eOr_app, andK_b, orK_b, eIf_app, eTup_app, eLst_app, lLst_app, frzL_app, eList_app, eSl_app, pN_app, pS_app, partD_int, chn_b, eChain_app, seq_nx, seq_ret, seq_brk, seq_cnt, seq_exc, sSeq_app, sRet_app, sDrop_app, sIf_app, sRaise_app, sAsg_name, sSetL_app, rxM_ok, rxM_exc, eCall_app, outP_ret, outP_nx, outP_exc, Option.map_some, len0, len1, len2, len3, len4, len5, len6, len7, len8, eq_self, sz0, sz1, sz2, sz3, sz4, sz5, sz6, sz7, sz8, sz9, sz10, sz11, freeAt_s, freeAt_n, freeAt_d, freeAt_m, sFrz_app, frzK_ml, List.getElem?_cons_zero, List.getElem?_cons_succ, List.set_cons_zero, List.set_cons_succ, sAsg_tup, asgK_some, bTup_app, bAll_nil, bAll_cons, bName_app, Option.bind_some, isMl_s, isMl_m, resK_some, onK_ml, eApp_app, ePop_app, eIdxV_app, eLenV_app, tTruV_app, sSetI_app, onL_app, fLen_ok, fTru_ok, rbK_ok, cbK_ml, eCB_cons, eCB_nil, List.nil_append, List.cons_append, outK_some, outR_ret, outR_nx, outB_s, outB_m, mConsD_app, mConsL_app, sPar_app, setAll_nil, setAll_cons, true_and, and_true, and_self, Bool.not_true, Bool.not_false, Bool.false_eq_true, reduceIte, mkQ, ix_t0], rfl, rfl⟩
            simp only [bind_ok, bind_exc, bnd_app, lift_some, eC_app, eVar_0, eVar_1, eVar_2, eVar_3, eVar_4, eVar_5, eVar_6, eVar_7, eVar_8, eVar_9, eVar_10, ap1_app, ap2_app, apA_app, aCons_app, nilA_app, tru_app, tst_app, asB_bool, truD_bool, truD_list, truD_tuple, mNot_app, mAnd_app, mOr_app, eNot_app, eAnd_app, eOr_app, andK_b, orK_b, eIf_app, eTup_app, eLst_app, lLst_app, frzL_app, eList_app, eSl_app, pN_app, pS_app, partD_int, chn_b, eChain_app, seq_nx, seq_ret, seq_brk, seq_cnt, seq_exc, sSeq_app, sRet_app, sDrop_app, sIf_app, sRaise_app, sAsg_name, sSetL_app, rxM_ok, rxM_exc, eCall_app, outP_ret, outP_nx, outP_exc, Option.map_some, len0, len1, len2, len3, len4, len5, len6, len7, len8, eq_self, sz0, sz1, sz2, sz3, sz4, sz5, sz6, sz7, sz8, sz9, sz10, sz11, freeAt_s, freeAt_n, freeAt_d, freeAt_m, sFrz_app, frzK_ml, List.getElem?_cons_zero, List.getElem?_cons_succ, List.set_cons_zero, List.set_cons_succ, sAsg_tup, asgK_some, bTup_app, bAll_nil, bAll_cons, bName_app, Option.bind_some, isMl_s, isMl_m, resK_some, onK_ml, eApp_app, ePop_app, eIdxV_app, eLenV_app, tTruV_app, sSetI_app, onL_app, fLen_ok, fTru_ok, rbK_ok, cbK_ml, eCB_cons, eCB_nil, List.nil_append, List.cons_append, outK_some, outR_ret, outR_nx, outB_s, outB_m, mConsD_app, mConsL_app, sPar_app, setAll_nil, setAll_cons, true_and, and_true, and_self, Bool.not_true, Bool.not_false, Bool.false_eq_true, reduceIte]
            have e2 : (!(((2 : Nat) : Int) == 2)) = false := rfl
            simp only [e2, bind_ok, bind_exc, bnd_app, lift_some, eC_app, eVar_0, eVar_1, eVar_2, eVar_3, eVar_4, eVar_5, eVar_6, eVar_7, eVar_8, eVar_9, eVar_10, ap1_app, ap2_app, apA_app, aCons_app, nilA_app, tru_app, tst_app, asB_bool, truD_bool, truD_list, truD_tuple, mNot_app, mAnd_app, mOr_app, eNot_app, eAnd_app, eOr_app, andK_b, orK_b, eIf_app, eTup_app, eLst_app, lLst_app, frzL_app, eList_app, eSl_app, pN_app, pS_app, partD_int, chn_b, eChain_app, seq_nx, seq_ret, seq_brk, seq_cnt, seq_exc, sSeq_app, sRet_app, sDrop_app, sIf_app, sRaise_app, sAsg_name, sSetL_app, rxM_ok, rxM_exc, eCall_app, outP_ret, outP_nx, outP_exc, Option.map_some, len0, len1, len2, len3, len4, len5, len6, len7, len8, eq_self, sz0, sz1, sz2, sz3, sz4, sz5, sz6, sz7, sz8, sz9, sz10, sz11, freeAt_s, freeAt_n, freeAt_d, freeAt_m, sFrz_app, frzK_ml, List.getElem?_cons_zero, List.getElem?_cons_succ, List.set_cons_zero, List.set_cons_succ, sAsg_tup, asgK_some, bTup_app, bAll_nil, bAll_cons, bName_app, Option.bind_some, isMl_s, isMl_m, resK_some, onK_ml, eApp_app, ePop_app, eIdxV_app, eLenV_app, tTruV_app, sSetI_app, onL_app, fLen_ok, fTru_ok, rbK_ok, cbK_ml, eCB_cons, eCB_nil, List.nil_append, List.cons_append, outK_some, outR_ret, outR_nx, outB_s, outB_m, mConsD_app, mConsL_app, sPar_app, setAll_nil, setAll_cons, true_and, and_true, and_self, Bool.not_true, Bool.not_false, Bool.false_eq_true, reduceIte]
            cases b with
            | tuple gs =>
              cases n with
              | zero => simp [Gd] at gb
              | succ n =>
                simp only [Gd] at gb
                simp only [bind_ok, bind_exc, bnd_app, lift_some, eC_app, eVar_0, eVar_1, eVar_2, eVar_3, eVar_4, eVar_5, eVar_6, eVar_7, eVar_8, eVar_9, eVar_10, ap1_app, ap2_app, apA_app, aCons_app, nilA_app, tru_app, tst_app, asB_bool, truD_bool, truD_list, truD_tuple, mNot_app, mAnd_app, mOr_app, eNot_app, eAnd_app, eOr_app, andK_b, orK_b, eIf_app, eTup_app, eLst_app, lLst_app, frzL_app, eList_app, eSl_app, pN_app, pS_app, partD_int, chn_b, eChain_app, seq_nx, seq_ret, seq_brk, seq_cnt, seq_exc, sSeq_app, sRet_app, sDrop_app, sIf_app, sRaise_app, sAsg_name, sSetL_app, rxM_ok, rxM_exc, eCall_app, outP_ret, outP_nx, outP_exc, Option.map_some, len0, len1, len2, len3, len4, len5, len6, len7, len8, eq_self, sz0, sz1, sz2, sz3, sz4, sz5, sz6, sz7, sz8, sz9, sz10, sz11, freeAt_s, freeAt_n, freeAt_d, freeAt_m, sFrz_app, frzK_ml, List.getElem?_cons_zero, List.getElem?_cons_succ, List.set_cons_zero, List.set_cons_succ, sAsg_tup, asgK_some, bTup_app, bAll_nil, bAll_cons, bName_app, Option.bind_some, isMl_s, isMl_m, resK_some, onK_ml, eApp_app, ePop_app, eIdxV_app, eLenV_app, tTruV_app, sSetI_app, onL_app, fLen_ok, fTru_ok, rbK_ok, cbK_ml, eCB_cons, eCB_nil, List.nil_append, List.cons_append, outK_some, outR_ret, outR_nx, outB_s, outB_m, mConsD_app, mConsL_app, sPar_app, setAll_nil, setAll_cons, true_and, and_true, and_self, Bool.not_true, Bool.not_false, Bool.false_eq_true, reduceIte, isi_tuple (x := .tuple gs) rfl, isTupD, le_int, len_tup, app_ite, bind_ite, seq_ite, outP_ite, isGs, le1]
                by_cases h1 : 1 ≤ gs.length
                · by_cases h10 : gs.length ≤ 10
                  · have h10' : (gs.length : Int) ≤ 10 := by omega
                    simp only [h1, h10, h10', decide_true, bind_ok, bind_exc, bnd_app, lift_some, eC_app, eVar_0, eVar_1, eVar_2, eVar_3, eVar_4, eVar_5, eVar_6, eVar_7, eVar_8, eVar_9, eVar_10, ap1_app, ap2_app, apA_app, aCons_app, nilA_app, tru_app, tst_app, asB_bool, truD_bool, truD_list, truD_tuple, mNot_app, mAnd_app, mOr_app, eNot_app, eAnd_app, eOr_app, andK_b, orK_b, eIf_app, eTup_app, eLst_app, lLst_app, frzL_app, eList_app, eSl_app, pN_app, pS_app, partD_int, chn_b, eChain_app, seq_nx, seq_ret, seq_brk, seq_cnt, seq_exc, sSeq_app, sRet_app, sDrop_app, sIf_app, sRaise_app, sAsg_name, sSetL_app, rxM_ok, rxM_exc, eCall_app, outP_ret, outP_nx, outP_exc, Option.map_some, len0, len1, len2, len3, len4, len5, len6, len7, len8, eq_self, sz0, sz1, sz2, sz3, sz4, sz5, sz6, sz7, sz8, sz9, sz10, sz11, freeAt_s, freeAt_n, freeAt_d, freeAt_m, sFrz_app, frzK_ml, List.getElem?_cons_zero, List.getElem?_cons_succ, List.set_cons_zero, List.set_cons_succ, sAsg_tup, asgK_some, bTup_app, bAll_nil, bAll_cons, bName_app, Option.bind_some, isMl_s, isMl_m, resK_some, onK_ml, eApp_app, ePop_app, eIdxV_app, eLenV_app, tTruV_app, sSetI_app, onL_app, fLen_ok, fTru_ok, rbK_ok, cbK_ml, eCB_cons, eCB_nil, List.nil_append, List.cons_append, outK_some, outR_ret, outR_nx, outB_s, outB_m, mConsD_app, mConsL_app, sPar_app, setAll_nil, setAll_cons, true_and, and_true, and_self, Bool.not_true, Bool.not_false, Bool.false_eq_true, reduceIte]
                    have hk : seqD (.list (qs.map fun q => PyData.str q.1)) = some ((qs.map (·.1)).map PyData.str) := by
                      rw [seqD, List.map_map]
                      rfl
                    rw [lc_map (items := gs) (fun g => PyData.bool (isNT (qs.map (·.1)) g))]
                    rotate_left
                    · rfl
                    · rfl
                    · rfl
                    · omega
                    · exact fun g hg => ⟨_, rfl, by simp only [bind_ok, bind_exc, bnd_app, lift_some, eC_app, eVar_0, eVar_1, eVar_2, eVar_3, eVar_4, eVar_5, eVar_6, eVar_7, eVar_8, eVar_9, eVar_10, ap1_app, ap2_app, apA_app, aCons_app, nilA_app, tru_app, tst_app, asB_bool, truD_bool, truD_list, truD_tuple, mNot_app, mAnd_app, mOr_app, eNot_app, eAnd_app, eOr_app, andK_b, orK_b, eIf_app, eTup_app, eLst_app, lLst_app, frzL_app, eList_app, eSl_app, pN_app, pS_app, partD_int, chn_b, eChain_app, seq_nx, seq_ret, seq_brk, seq_cnt, seq_exc, sSeq_app, sRet_app, sDrop_app, sIf_app, sRaise_app, sAsg_name, sSetL_app, rxM_ok, rxM_exc, eCall_app, outP_ret, outP_nx, outP_exc, Option.map_some, len0, len1, len2, len3, len4, len5, len6, len7, len8, eq_self, sz0, sz1, sz2, sz3, sz4, sz5, sz6, sz7, sz8, sz9, sz10, sz11, freeAt_s, freeAt_n, freeAt_d, freeAt_m, sFrz_app, frzK_ml, List.getElem?_cons_zero, List.getElem?_cons_succ, List.set_cons_zero, List.set_cons_succ, sAsg_tup, asgK_some, bTup_app, bAll_nil, bAll_cons, bName_app, Option.bind_some, isMl_s, isMl_m, resK_some, onK_ml, eApp_app, ePop_app, eIdxV_app, eLenV_app, tTruV_app, sSetI_app, onL_app, fLen_ok, fTru_ok, rbK_ok, cbK_ml, eCB_cons, eCB_nil, List.nil_append, List.cons_append, outK_some, outR_ret, outR_nx, outB_s, outB_m, mConsD_app, mConsL_app, sPar_app, setAll_nil, setAll_cons, true_and, and_true, and_self, Bool.not_true, Bool.not_false, Bool.false_eq_true, reduceIte, s_is_name_tuple hk g (gb.2 g hg) (by omega)], rfl, rfl⟩
                    simp only [bind_ok, bind_exc, bnd_app, lift_some, eC_app, eVar_0, eVar_1, eVar_2, eVar_3, eVar_4, eVar_5, eVar_6, eVar_7, eVar_8, eVar_9, eVar_10, ap1_app, ap2_app, apA_app, aCons_app, nilA_app, tru_app, tst_app, asB_bool, truD_bool, truD_list, truD_tuple, mNot_app, mAnd_app, mOr_app, eNot_app, eAnd_app, eOr_app, andK_b, orK_b, eIf_app, eTup_app, eLst_app, lLst_app, frzL_app, eList_app, eSl_app, pN_app, pS_app, partD_int, chn_b, eChain_app, seq_nx, seq_ret, seq_brk, seq_cnt, seq_exc, sSeq_app, sRet_app, sDrop_app, sIf_app, sRaise_app, sAsg_name, sSetL_app, rxM_ok, rxM_exc, eCall_app, outP_ret, outP_nx, outP_exc, Option.map_some, len0, len1, len2, len3, len4, len5, len6, len7, len8, eq_self, sz0, sz1, sz2, sz3, sz4, sz5, sz6, sz7, sz8, sz9, sz10, sz11, freeAt_s, freeAt_n, freeAt_d, freeAt_m, sFrz_app, frzK_ml, List.getElem?_cons_zero, List.getElem?_cons_succ, List.set_cons_zero, List.set_cons_succ, sAsg_tup, asgK_some, bTup_app, bAll_nil, bAll_cons, bName_app, Option.bind_some, isMl_s, isMl_m, resK_some, onK_ml, eApp_app, ePop_app, eIdxV_app, eLenV_app, tTruV_app, sSetI_app, onL_app, fLen_ok, fTru_ok, rbK_ok, cbK_ml, eCB_cons, eCB_nil, List.nil_append, List.cons_append, outK_some, outR_ret, outR_nx, outB_s, outB_m, mConsD_app, mConsL_app, sPar_app, setAll_nil, setAll_cons, true_and, and_true, and_self, Bool.not_true, Bool.not_false, Bool.false_eq_true, reduceIte, all_bools, app_ite, bind_ite, seq_ite, outP_ite]
                    cases hnt : gs.all (isNT (qs.map (·.1)))
                    · simp
                    · simp only [bind_ok, bind_exc, bnd_app, lift_some, eC_app, eVar_0, eVar_1, eVar_2, eVar_3, eVar_4, eVar_5, eVar_6, eVar_7, eVar_8, eVar_9, eVar_10, ap1_app, ap2_app, apA_app, aCons_app, nilA_app, tru_app, tst_app, asB_bool, truD_bool, truD_list, truD_tuple, mNot_app, mAnd_app, mOr_app, eNot_app, eAnd_app, eOr_app, andK_b, orK_b, eIf_app, eTup_app, eLst_app, lLst_app, frzL_app, eList_app, eSl_app, pN_app, pS_app, partD_int, chn_b, eChain_app, seq_nx, seq_ret, seq_brk, seq_cnt, seq_exc, sSeq_app, sRet_app, sDrop_app, sIf_app, sRaise_app, sAsg_name, sSetL_app, rxM_ok, rxM_exc, eCall_app, outP_ret, outP_nx, outP_exc, Option.map_some, len0, len1, len2, len3, len4, len5, len6, len7, len8, eq_self, sz0, sz1, sz2, sz3, sz4, sz5, sz6, sz7, sz8, sz9, sz10, sz11, freeAt_s, freeAt_n, freeAt_d, freeAt_m, sFrz_app, frzK_ml, List.getElem?_cons_zero, List.getElem?_cons_succ, List.set_cons_zero, List.set_cons_succ, sAsg_tup, asgK_some, bTup_app, bAll_nil, bAll_cons, bName_app, Option.bind_some, isMl_s, isMl_m, resK_some, onK_ml, eApp_app, ePop_app, eIdxV_app, eLenV_app, tTruV_app, sSetI_app, onL_app, fLen_ok, fTru_ok, rbK_ok, cbK_ml, eCB_cons, eCB_nil, List.nil_append, List.cons_append, outK_some, outR_ret, outR_nx, outB_s, outB_m, mConsD_app, mConsL_app, sPar_app, setAll_nil, setAll_cons, true_and, and_true, and_self, Bool.not_true, Bool.not_false, Bool.false_eq_true, reduceIte]
                      have eg := gs_eq hnt
                      have gin := gs_in hnt
                      have gl : (gs.map gOf).length = gs.length := by simp
                      have gll : ∀ g ∈ gs.map gOf, g.length ≤ sizeLine := fun g hg => by
                        obtain ⟨y, hy, rfl⟩ := List.mem_map.mp hg
                        have := gb.2 y hy
                        unfold gOf
                        split
                        · cases n with
                          | zero => simp [Gd] at this
                          | succ n =>
                            simp only [Gd] at this
                            rw [List.length_map]
                            exact this.1
                        · simp
                      generalize hgs : gs.map gOf = ss at *
                      subst eg
                      have ea : p_is_ascending [.tuple (ss.map mkG)] = .ok (.bool (ascB (ss.map mkG))) := by
                        refine s_is_ascending rfl (by rw [← gl] at h10; simp only [List.length_map]; omega) fun a ha b hb => ?_
                        obtain ⟨a, _, rfl⟩ := List.mem_map.mp ha
                        obtain ⟨b, _, rfl⟩ := List.mem_map.mp hb
                        exact ordOk_mkG a b
                      simp only [ea, bind_ok, bind_exc, bnd_app, lift_some, eC_app, eVar_0, eVar_1, eVar_2, eVar_3, eVar_4, eVar_5, eVar_6, eVar_7, eVar_8, eVar_9, eVar_10, ap1_app, ap2_app, apA_app, aCons_app, nilA_app, tru_app, tst_app, asB_bool, truD_bool, truD_list, truD_tuple, mNot_app, mAnd_app, mOr_app, eNot_app, eAnd_app, eOr_app, andK_b, orK_b, eIf_app, eTup_app, eLst_app, lLst_app, frzL_app, eList_app, eSl_app, pN_app, pS_app, partD_int, chn_b, eChain_app, seq_nx, seq_ret, seq_brk, seq_cnt, seq_exc, sSeq_app, sRet_app, sDrop_app, sIf_app, sRaise_app, sAsg_name, sSetL_app, rxM_ok, rxM_exc, eCall_app, outP_ret, outP_nx, outP_exc, Option.map_some, len0, len1, len2, len3, len4, len5, len6, len7, len8, eq_self, sz0, sz1, sz2, sz3, sz4, sz5, sz6, sz7, sz8, sz9, sz10, sz11, freeAt_s, freeAt_n, freeAt_d, freeAt_m, sFrz_app, frzK_ml, List.getElem?_cons_zero, List.getElem?_cons_succ, List.set_cons_zero, List.set_cons_succ, sAsg_tup, asgK_some, bTup_app, bAll_nil, bAll_cons, bName_app, Option.bind_some, isMl_s, isMl_m, resK_some, onK_ml, eApp_app, ePop_app, eIdxV_app, eLenV_app, tTruV_app, sSetI_app, onL_app, fLen_ok, fTru_ok, rbK_ok, cbK_ml, eCB_cons, eCB_nil, List.nil_append, List.cons_append, outK_some, outR_ret, outR_nx, outB_s, outB_m, mConsD_app, mConsL_app, sPar_app, setAll_nil, setAll_cons, true_and, and_true, and_self, Bool.not_true, Bool.not_false, Bool.false_eq_true, reduceIte]
                      cases hasc : ascB (ss.map mkG)
                      · simp
                      · simp only [bind_ok, bind_exc, bnd_app, lift_some, eC_app, eVar_0, eVar_1, eVar_2, eVar_3, eVar_4, eVar_5, eVar_6, eVar_7, eVar_8, eVar_9, eVar_10, ap1_app, ap2_app, apA_app, aCons_app, nilA_app, tru_app, tst_app, asB_bool, truD_bool, truD_list, truD_tuple, mNot_app, mAnd_app, mOr_app, eNot_app, eAnd_app, eOr_app, andK_b, orK_b, eIf_app, eTup_app, eLst_app, lLst_app, frzL_app, eList_app, eSl_app, pN_app, pS_app, partD_int, chn_b, eChain_app, seq_nx, seq_ret, seq_brk, seq_cnt, seq_exc, sSeq_app, sRet_app, sDrop_app, sIf_app, sRaise_app, sAsg_name, sSetL_app, rxM_ok, rxM_exc, eCall_app, outP_ret, outP_nx, outP_exc, Option.map_some, len0, len1, len2, len3, len4, len5, len6, len7, len8, eq_self, sz0, sz1, sz2, sz3, sz4, sz5, sz6, sz7, sz8, sz9, sz10, sz11, freeAt_s, freeAt_n, freeAt_d, freeAt_m, sFrz_app, frzK_ml, List.getElem?_cons_zero, List.getElem?_cons_succ, List.set_cons_zero, List.set_cons_succ, sAsg_tup, asgK_some, bTup_app, bAll_nil, bAll_cons, bName_app, Option.bind_some, isMl_s, isMl_m, resK_some, onK_ml, eApp_app, ePop_app, eIdxV_app, eLenV_app, tTruV_app, sSetI_app, onL_app, fLen_ok, fTru_ok, rbK_ok, cbK_ml, eCB_cons, eCB_nil, List.nil_append, List.cons_append, outK_some, outR_ret, outR_nx, outB_s, outB_m, mConsD_app, mConsL_app, sPar_app, setAll_nil, setAll_cons, true_and, and_true, and_self, Bool.not_true, Bool.not_false, Bool.false_eq_true, reduceIte]
                        have hz' : ss.length ≤ 10 := by rw [← gl] at h10; exact h10
                        obtain ⟨o4, o5, d4, d5, el⟩ := scn_loop (x := .tuple [.tuple (qs.map mkQ), .tuple (ss.map mkG)]) (a := .tuple (qs.map mkQ)) (k := .list (qs.map fun q => PyData.str q.1)) hz' gll _ rfl
                        simp only [el, app_ite, bind_ite, seq_ite, outP_ite, bind_ok, bind_exc, bnd_app, lift_some, eC_app, eVar_0, eVar_1, eVar_2, eVar_3, eVar_4, eVar_5, eVar_6, eVar_7, eVar_8, eVar_9, eVar_10, ap1_app, ap2_app, apA_app, aCons_app, nilA_app, tru_app, tst_app, asB_bool, truD_bool, truD_list, truD_tuple, mNot_app, mAnd_app, mOr_app, eNot_app, eAnd_app, eOr_app, andK_b, orK_b, eIf_app, eTup_app, eLst_app, lLst_app, frzL_app, eList_app, eSl_app, pN_app, pS_app, partD_int, chn_b, eChain_app, seq_nx, seq_ret, seq_brk, seq_cnt, seq_exc, sSeq_app, sRet_app, sDrop_app, sIf_app, sRaise_app, sAsg_name, sSetL_app, rxM_ok, rxM_exc, eCall_app, outP_ret, outP_nx, outP_exc, Option.map_some, len0, len1, len2, len3, len4, len5, len6, len7, len8, eq_self, sz0, sz1, sz2, sz3, sz4, sz5, sz6, sz7, sz8, sz9, sz10, sz11, freeAt_s, freeAt_n, freeAt_d, freeAt_m, sFrz_app, frzK_ml, List.getElem?_cons_zero, List.getElem?_cons_succ, List.set_cons_zero, List.set_cons_succ, sAsg_tup, asgK_some, bTup_app, bAll_nil, bAll_cons, bName_app, Option.bind_some, isMl_s, isMl_m, resK_some, onK_ml, eApp_app, ePop_app, eIdxV_app, eLenV_app, tTruV_app, sSetI_app, onL_app, fLen_ok, fTru_ok, rbK_ok, cbK_ml, eCB_cons, eCB_nil, List.nil_append, List.cons_append, outK_some, outR_ret, outR_nx, outB_s, outB_m, mConsD_app, mConsL_app, sPar_app, setAll_nil, setAll_cons, true_and, and_true, and_self, Bool.not_true, Bool.not_false, Bool.false_eq_true, reduceIte]
                        cases hanti : antiB ss
                        · simp
                        · simp only [bind_ok, bind_exc, bnd_app, lift_some, eC_app, eVar_0, eVar_1, eVar_2, eVar_3, eVar_4, eVar_5, eVar_6, eVar_7, eVar_8, eVar_9, eVar_10, ap1_app, ap2_app, apA_app, aCons_app, nilA_app, tru_app, tst_app, asB_bool, truD_bool, truD_list, truD_tuple, mNot_app, mAnd_app, mOr_app, eNot_app, eAnd_app, eOr_app, andK_b, orK_b, eIf_app, eTup_app, eLst_app, lLst_app, frzL_app, eList_app, eSl_app, pN_app, pS_app, partD_int, chn_b, eChain_app, seq_nx, seq_ret, seq_brk, seq_cnt, seq_exc, sSeq_app, sRet_app, sDrop_app, sIf_app, sRaise_app, sAsg_name, sSetL_app, rxM_ok, rxM_exc, eCall_app, outP_ret, outP_nx, outP_exc, Option.map_some, len0, len1, len2, len3, len4, len5, len6, len7, len8, eq_self, sz0, sz1, sz2, sz3, sz4, sz5, sz6, sz7, sz8, sz9, sz10, sz11, freeAt_s, freeAt_n, freeAt_d, freeAt_m, sFrz_app, frzK_ml, List.getElem?_cons_zero, List.getElem?_cons_succ, List.set_cons_zero, List.set_cons_succ, sAsg_tup, asgK_some, bTup_app, bAll_nil, bAll_cons, bName_app, Option.bind_some, isMl_s, isMl_m, resK_some, onK_ml, eApp_app, ePop_app, eIdxV_app, eLenV_app, tTruV_app, sSetI_app, onL_app, fLen_ok, fTru_ok, rbK_ok, cbK_ml, eCB_cons, eCB_nil, List.nil_append, List.cons_append, outK_some, outR_ret, outR_nx, outB_s, outB_m, mConsD_app, mConsL_app, sPar_app, setAll_nil, setAll_cons, true_and, and_true, and_self, Bool.not_true, Bool.not_false, Bool.false_eq_true, reduceIte]
                          obtain ⟨o5', d5', ec⟩ := scn_cover (x := .tuple [.tuple (qs.map mkQ), .tuple (ss.map mkG)]) (a := .tuple (qs.map mkQ)) (k := .list (qs.map fun q => PyData.str q.1)) (ss := ss) (names := qs.map (·.1)) (o4 := o4) (by rw [itemsD, List.map_map]; rfl) (by rw [List.length_map] at q2' ⊢; omega) (by omega) d5
                          simp only [ec, bind_ok, bind_exc, bnd_app, lift_some, eC_app, eVar_0, eVar_1, eVar_2, eVar_3, eVar_4, eVar_5, eVar_6, eVar_7, eVar_8, eVar_9, eVar_10, ap1_app, ap2_app, apA_app, aCons_app, nilA_app, tru_app, tst_app, asB_bool, truD_bool, truD_list, truD_tuple, mNot_app, mAnd_app, mOr_app, eNot_app, eAnd_app, eOr_app, andK_b, orK_b, eIf_app, eTup_app, eLst_app, lLst_app, frzL_app, eList_app, eSl_app, pN_app, pS_app, partD_int, chn_b, eChain_app, seq_nx, seq_ret, seq_brk, seq_cnt, seq_exc, sSeq_app, sRet_app, sDrop_app, sIf_app, sRaise_app, sAsg_name, sSetL_app, rxM_ok, rxM_exc, eCall_app, outP_ret, outP_nx, outP_exc, Option.map_some, len0, len1, len2, len3, len4, len5, len6, len7, len8, eq_self, sz0, sz1, sz2, sz3, sz4, sz5, sz6, sz7, sz8, sz9, sz10, sz11, freeAt_s, freeAt_n, freeAt_d, freeAt_m, sFrz_app, frzK_ml, List.getElem?_cons_zero, List.getElem?_cons_succ, List.set_cons_zero, List.set_cons_succ, sAsg_tup, asgK_some, bTup_app, bAll_nil, bAll_cons, bName_app, Option.bind_some, isMl_s, isMl_m, resK_some, onK_ml, eApp_app, ePop_app, eIdxV_app, eLenV_app, tTruV_app, sSetI_app, onL_app, fLen_ok, fTru_ok, rbK_ok, cbK_ml, eCB_cons, eCB_nil, List.nil_append, List.cons_append, outK_some, outR_ret, outR_nx, outB_s, outB_m, mConsD_app, mConsL_app, sPar_app, setAll_nil, setAll_cons, true_and, and_true, and_self, Bool.not_true, Bool.not_false, Bool.false_eq_true, reduceIte, all_bools, app_ite, bind_ite, seq_ite, outP_ite]
                          have hne : qs ≠ [] := by
                            rintro rfl
                            simp at q1'
                          have hsm : ∀ q ∈ qs, small q.2 := fun q hq => by
                            have := List.all_eq_true.mp q3 (mkQ q) (List.mem_map_of_mem hq)
                            obtain ⟨z, i, e, _, h2, h3⟩ := isQ_inv this
                            unfold mkQ at e
                            injection e with e
                            injection e with e1 e
                            injection e with e
                            injection e with e
                            rw [e]
                            exact ⟨by show -(2 ^ 64) < i; omega, by show i < 2 ^ 64; omega⟩
                          have hcc := s_cell_count hne hnd hsm (fun g hg => ⟨gll g hg, gin g hg⟩) (by omega)
                          simp only [hcc, bind_ok, bind_exc, bnd_app, lift_some, eC_app, eVar_0, eVar_1, eVar_2, eVar_3, eVar_4, eVar_5, eVar_6, eVar_7, eVar_8, eVar_9, eVar_10, ap1_app, ap2_app, apA_app, aCons_app, nilA_app, tru_app, tst_app, asB_bool, truD_bool, truD_list, truD_tuple, mNot_app, mAnd_app, mOr_app, eNot_app, eAnd_app, eOr_app, andK_b, orK_b, eIf_app, eTup_app, eLst_app, lLst_app, frzL_app, eList_app, eSl_app, pN_app, pS_app, partD_int, chn_b, eChain_app, seq_nx, seq_ret, seq_brk, seq_cnt, seq_exc, sSeq_app, sRet_app, sDrop_app, sIf_app, sRaise_app, sAsg_name, sSetL_app, rxM_ok, rxM_exc, eCall_app, outP_ret, outP_nx, outP_exc, Option.map_some, len0, len1, len2, len3, len4, len5, len6, len7, len8, eq_self, sz0, sz1, sz2, sz3, sz4, sz5, sz6, sz7, sz8, sz9, sz10, sz11, freeAt_s, freeAt_n, freeAt_d, freeAt_m, sFrz_app, frzK_ml, List.getElem?_cons_zero, List.getElem?_cons_succ, List.set_cons_zero, List.set_cons_succ, sAsg_tup, asgK_some, bTup_app, bAll_nil, bAll_cons, bName_app, Option.bind_some, isMl_s, isMl_m, resK_some, onK_ml, eApp_app, ePop_app, eIdxV_app, eLenV_app, tTruV_app, sSetI_app, onL_app, fLen_ok, fTru_ok, rbK_ok, cbK_ml, eCB_cons, eCB_nil, List.nil_append, List.cons_append, outK_some, outR_ret, outR_nx, outB_s, outB_m, mConsD_app, mConsL_app, sPar_app, setAll_nil, setAll_cons, true_and, and_true, and_self, Bool.not_true, Bool.not_false, Bool.false_eq_true, reduceIte, le_int, coverB]
                          cases hcov : (qs.map (·.1)).all fun z => ss.any fun g => g.contains z
                          · simp
                          · simp only [bind_ok, bind_exc, bnd_app, lift_some, eC_app, eVar_0, eVar_1, eVar_2, eVar_3, eVar_4, eVar_5, eVar_6, eVar_7, eVar_8, eVar_9, eVar_10, ap1_app, ap2_app, apA_app, aCons_app, nilA_app, tru_app, tst_app, asB_bool, truD_bool, truD_list, truD_tuple, mNot_app, mAnd_app, mOr_app, eNot_app, eAnd_app, eOr_app, andK_b, orK_b, eIf_app, eTup_app, eLst_app, lLst_app, frzL_app, eList_app, eSl_app, pN_app, pS_app, partD_int, chn_b, eChain_app, seq_nx, seq_ret, seq_brk, seq_cnt, seq_exc, sSeq_app, sRet_app, sDrop_app, sIf_app, sRaise_app, sAsg_name, sSetL_app, rxM_ok, rxM_exc, eCall_app, outP_ret, outP_nx, outP_exc, Option.map_some, len0, len1, len2, len3, len4, len5, len6, len7, len8, eq_self, sz0, sz1, sz2, sz3, sz4, sz5, sz6, sz7, sz8, sz9, sz10, sz11, freeAt_s, freeAt_n, freeAt_d, freeAt_m, sFrz_app, frzK_ml, List.getElem?_cons_zero, List.getElem?_cons_succ, List.set_cons_zero, List.set_cons_succ, sAsg_tup, asgK_some, bTup_app, bAll_nil, bAll_cons, bName_app, Option.bind_some, isMl_s, isMl_m, resK_some, onK_ml, eApp_app, ePop_app, eIdxV_app, eLenV_app, tTruV_app, sSetI_app, onL_app, fLen_ok, fTru_ok, rbK_ok, cbK_ml, eCB_cons, eCB_nil, List.nil_append, List.cons_append, outK_some, outR_ret, outR_nx, outB_s, outB_m, mConsD_app, mConsL_app, sPar_app, setAll_nil, setAll_cons, true_and, and_true, and_self, Bool.not_true, Bool.not_false, Bool.false_eq_true, reduceIte, Bool.true_and]
                            rfl
                  · have h10' : ¬ (gs.length : Int) ≤ 10 := by omega
                    simp [h1, h10, h10']
                · simp [h1]
            | _ =>
              have gb := gb.nd
              simp [isi_tuple gb, isTupD, isGs]
          | _ => simp [areQ] at hq
  | _ =>
    have h := h.nd
    simp [m_is_scenario, dsG, isi_tuple h, isTupD, isScn]
/-! ### draws -/
/-- a state of the draws, at most b long -/
def Sok (b : Nat) (zs : List D) : Prop := zs.length ≤ b ∧ (zs = [] ∨ ∃ (n : Int) (r : List D), zs = .int n :: r)
theorem Sok.mono {b c : Nat} {zs : List D} (h : Sok b zs) (l : b ≤ c) : Sok c zs := ⟨Nat.le_trans h.1 l, h.2⟩
theorem mul_ok {i j : Int} (h : small i) : mulD (.int i) (.int j) = some (.int (i * j)) := by
  show (if mulOk i j = true then some (PyData.int (i * j)) else none) = _
  rw [if_pos]
  simp only [mulOk, Bool.or_eq_true, Bool.and_eq_true, decide_eq_true_eq]
  exact .inl h
theorem mul_ok2 {i j : Int} (h : small j) : mulD (.int i) (.int j) = some (.int (i * j)) := by
  show (if mulOk i j = true then some (PyData.int (i * j)) else none) = _
  rw [if_pos]
  simp only [mulOk, Bool.or_eq_true, Bool.and_eq_true, decide_eq_true_eq]
  exact .inr h
theorem mod_ok {i j : Int} (h : 0 < j) : modD (.int i) (.int j) = some (.int (i % j)) := by
  show (if j ≠ 0 then some (PyData.int (i.fmod j)) else none) = _
  rw [if_pos (by omega), Int.fmod_eq_emod_of_nonneg _ (by omega)]
theorem fdiv_ok {i j : Int} (h : 0 < j) (h2 : j < 1073741824) : fdivD (.int i) (.int j) = some (.int (i / j)) := by
  show (if (decide (j ≠ 0) && decide (j.natAbs < 1073741824)) = true then some (PyData.int (i.fdiv j)) else none) = _
  rw [if_pos, Int.fdiv_eq_ediv_of_nonneg _ (by omega)]
  simp only [Bool.and_eq_true, decide_eq_true_eq]
  omega
theorem small_mod (i : Int) {j : Int} (h : 0 < j) (h2 : j ≤ 4294967296) : small (i % j) := by
  have := Int.emod_nonneg i (by omega : j ≠ 0)
  have := Int.emod_lt_of_pos i h
  exact ⟨by show -(2 ^ 64) < i % j; omega, by show i % j < 2 ^ 64; omega⟩
theorem max_some (ns : List Int) : ∃ m, maxD [.list (ns.map PyData.int ++ [PyData.int 0])] = some (.int m) := by
  have e : intsD (ns.map PyData.int ++ [PyData.int 0]) = some (ns ++ [0]) := by
    have := intsD_ints (ns ++ [0])
    rw [List.map_append] at this
    exact this
  rw [maxD, e]
  cases ns with
  | nil => exact ⟨_, rfl⟩
  | cons n ns => exact ⟨_, rfl⟩
theorem add_lists {xs ys : List D} (h : xs.length + ys.length ≤ sizeLine) : addD (.list xs) (.list ys) = some (.list (xs ++ ys)) := by rw [addD, if_pos h]
theorem ix_list {xs : List D} {k : Nat} {y : D} (h : xs[k]? = some y) : ixD (.list xs) (.int (k : Int)) = some y := by
  have hk := (List.getElem?_eq_some_iff.mp h).1
  show L2.atI xs (k : Int) = _
  rw [L2.atI, L2.ixN, if_pos (by omega), if_pos (by omega)]
  simpa using h
abbrev scr (ns : List Int) : D := .list (ns.map PyData.int)
theorem draw_tail {ns : List Int} {z0 : Int} {r : List D} {many : Int} (hm : 0 < many) (o4 : Option Tv) (d4 : dat o4 = true) (hl : r.length + 1 < sizeLine) :
    ∃ i z1, 0 ≤ i ∧ i < many ∧ outR 1 ((sSeq (sDrop (eApp 1 (eC (.int 0)))) (sSeq (sAsg (bName 3) (eLenV 1)) (sSeq (sAsg (bName 4) (eIf (tru (eVar 0)) (ap2 ixD (eVar 0) (ap2 modD (eVar 3) (apA lenD (aCons (eVar 0) (nilA))))) (eC (.int 0)))) (sSeq (sAsg (bName 5) (ap2 modD (eIdxV 1 (eC (.int 0))) (eC (.int 65536)))) (sSeq (sSetI 1 (eC (.int 0)) (ap2 fdivD (eIdxV 1 (eC (.int 0))) (eC (.int 65536)))) (sSeq (sAsg (bName 6) (ap2 modD (ap2 addD (ap2 addD (eVar 4) (ap2 mulD (eC (.int 40503)) (eVar 5))) (ap2 mulD (eC (.int 104729)) (eVar 3))) (eC (.int 4294967291)))) (sSeq (sAsg (bName 6) (ap2 modD (ap2 mulD (ap2 modD (ap2 mulD (eVar 6) (eVar 6)) (eC (.int 4294967279))) (eC (.int 48271))) (eC (.int 4294967291)))) (sSeq (sAsg (bName 7) (ap2 modD (ap2 mulD (ap2 modD (ap2 mulD (eVar 6) (eVar 6)) (eC (.int 4294967279))) (eC (.int 69621))) (eC (.int 4294967291)))) (sRet (ap2 modD (ap2 addD (ap2 mulD (ap2 fdivD (eVar 6) (eC (.int 64))) (eC (.int 67108864))) (ap2 fdivD (eVar 7) (eC (.int 64)))) (eVar 2)))))))))))
      [some (.d (scr ns)), some (.ml true (.int z0 :: r)), some (.d (.int many)), none, o4, none, none, none]) = .ok (.int i) (.int z1 :: (r ++ [.int 0])) := by
  have f4 : ∀ (a b c d : Option Tv) (rr : Ga), freeAt (a :: b :: c :: d :: o4 :: rr) 4 = true := fun a b c d rr => freeAt_dat (o := o4) rfl d4
  have s1 : small 40503 := ⟨by decide, by decide⟩
  have s2 : small 104729 := ⟨by decide, by decide⟩
  have s3 : small 48271 := ⟨by decide, by decide⟩
  have s4 : small 69621 := ⟨by decide, by decide⟩
  have s5 : small 67108864 := ⟨by decide, by decide⟩
  have key : ∀ L : Nat, ∃ cell : Int, ∀ (z : Option Tv) (y : Option Tv) (g : Ga), eIf (tru (eVar 0)) (ap2 ixD (eVar 0) (ap2 modD (eVar 3) (apA lenD (aCons (eVar 0) (nilA))))) (eC (.int 0)) (some (.d (scr ns)) :: z :: y :: some (.d (.int (L : Int))) :: g) = .ok (.int cell) (some (.d (scr ns)) :: z :: y :: some (.d (.int (L : Int))) :: g) := by
    intro L
    cases hns : ns with
    | nil => exact ⟨0, fun z y g => rfl⟩
    | cons n ms =>
      rw [← hns]
      have hpos : 0 < ns.length := by rw [hns]; simp
      have hlt : L % ns.length < ns.length := Nat.mod_lt _ hpos
      refine ⟨ns[L % ns.length], fun z y g => ?_⟩
      have e0 : (!(ns.map PyData.int).isEmpty) = true := by rw [hns]; rfl
      have e1 : modD (.int (L : Int)) (.int (((ns.map PyData.int).length : Nat) : Int)) = some (.int ((L % ns.length : Nat) : Int)) := by
        rw [mod_ok (by simp only [List.length_map]; omega)]
        simp only [List.length_map]
        rfl
      have e2 : (ns.map PyData.int)[L % ns.length]? = some (.int (ns[L % ns.length])) := by
        rw [List.getElem?_map, List.getElem?_eq_getElem hlt]
        rfl
      simp only [bind_ok, bind_exc, bnd_app, lift_some, eC_app, eVar_0, eVar_1, eVar_2, eVar_3, eVar_4, eVar_5, eVar_6, eVar_7, eVar_8, eVar_9, eVar_10, ap1_app, ap2_app, apA_app, aCons_app, nilA_app, tru_app, tst_app, asB_bool, truD_bool, truD_list, truD_tuple, mNot_app, mAnd_app, mOr_app, eNot_app, eAnd_app, eOr_app, andK_b, orK_b, eIf_app, eTup_app, eLst_app, lLst_app, frzL_app, eList_app, eSl_app, pN_app, pS_app, partD_int, chn_b, eChain_app, seq_nx, seq_ret, seq_brk, seq_cnt, seq_exc, sSeq_app, sRet_app, sDrop_app, sIf_app, sRaise_app, sAsg_name, sSetL_app, rxM_ok, rxM_exc, eCall_app, outP_ret, outP_nx, outP_exc, Option.map_some, len0, len1, len2, len3, len4, len5, len6, len7, len8, eq_self, sz0, sz1, sz2, sz3, sz4, sz5, sz6, sz7, sz8, sz9, sz10, sz11, freeAt_s, freeAt_n, freeAt_d, freeAt_m, sFrz_app, frzK_ml, List.getElem?_cons_zero, List.getElem?_cons_succ, List.set_cons_zero, List.set_cons_succ, sAsg_tup, asgK_some, bTup_app, bAll_nil, bAll_cons, bName_app, Option.bind_some, isMl_s, isMl_m, resK_some, onK_ml, eApp_app, ePop_app, eIdxV_app, eLenV_app, tTruV_app, sSetI_app, onL_app, fLen_ok, fTru_ok, rbK_ok, cbK_ml, eCB_cons, eCB_nil, List.nil_append, List.cons_append, outK_some, outR_ret, outR_nx, outB_s, outB_m, mConsD_app, mConsL_app, sPar_app, setAll_nil, setAll_cons, true_and, and_true, and_self, Bool.not_true, Bool.not_false, Bool.false_eq_true, reduceIte, len_lst, e0, e1, ix_list e2, scr]
  have h0 : L2.atI (PyData.int z0 :: (r ++ [PyData.int 0])) (0 : Int) = some (.int z0) := by
    rw [L2.atI, L2.ixN, if_pos (by omega), if_pos (by simp only [List.length_cons]; omega)]
    rfl
  have h1 : L2.ixN (PyData.int z0 :: (r ++ [PyData.int 0])).length (0 : Int) = some 0 := by
    rw [L2.ixN, if_pos (by omega), if_pos (by simp only [List.length_cons]; omega)]
    rfl
  have fi : fIdx (PyData.int z0 :: (r ++ [PyData.int 0])) (.int 0) = some (.int z0, PyData.int z0 :: (r ++ [PyData.int 0])) := by
    show (L2.atI _ _).map _ = _
    rw [h0]
    rfl
  have fs : ∀ y : D, fSetI y (PyData.int z0 :: (r ++ [PyData.int 0])) (.int 0) = some (.none, y :: (r ++ [PyData.int 0])) := fun y => by
    show (L2.ixN _ _).map _ = _
    rw [h1]
    rfl
  have fa : fApp (PyData.int z0 :: r) (.int 0) = some (.none, PyData.int z0 :: (r ++ [PyData.int 0])) := fApp_ok (xs := PyData.int z0 :: r) (by simpa using hl)
  obtain ⟨cell, key⟩ := key (PyData.int z0 :: (r ++ [PyData.int 0])).length
  have fin : ∃ v z1 : Int, outR 1 ((sSeq (sDrop (eApp 1 (eC (.int 0)))) (sSeq (sAsg (bName 3) (eLenV 1)) (sSeq (sAsg (bName 4) (eIf (tru (eVar 0)) (ap2 ixD (eVar 0) (ap2 modD (eVar 3) (apA lenD (aCons (eVar 0) (nilA))))) (eC (.int 0)))) (sSeq (sAsg (bName 5) (ap2 modD (eIdxV 1 (eC (.int 0))) (eC (.int 65536)))) (sSeq (sSetI 1 (eC (.int 0)) (ap2 fdivD (eIdxV 1 (eC (.int 0))) (eC (.int 65536)))) (sSeq (sAsg (bName 6) (ap2 modD (ap2 addD (ap2 addD (eVar 4) (ap2 mulD (eC (.int 40503)) (eVar 5))) (ap2 mulD (eC (.int 104729)) (eVar 3))) (eC (.int 4294967291)))) (sSeq (sAsg (bName 6) (ap2 modD (ap2 mulD (ap2 modD (ap2 mulD (eVar 6) (eVar 6)) (eC (.int 4294967279))) (eC (.int 48271))) (eC (.int 4294967291)))) (sSeq (sAsg (bName 7) (ap2 modD (ap2 mulD (ap2 modD (ap2 mulD (eVar 6) (eVar 6)) (eC (.int 4294967279))) (eC (.int 69621))) (eC (.int 4294967291)))) (sRet (ap2 modD (ap2 addD (ap2 mulD (ap2 fdivD (eVar 6) (eC (.int 64))) (eC (.int 67108864))) (ap2 fdivD (eVar 7) (eC (.int 64)))) (eVar 2)))))))))))
      [some (.d (scr ns)), some (.ml true (.int z0 :: r)), some (.d (.int many)), none, o4, none, none, none]) = .ok (.int (v % many)) (.int z1 :: (r ++ [.int 0])) := by
    generalize eIf (tru (eVar 0)) (ap2 ixD (eVar 0) (ap2 modD (eVar 3) (apA lenD (aCons (eVar 0) (nilA))))) (eC (.int 0)) = EE at key ⊢
    apply Exists.intro
    apply Exists.intro
    simp only [bind_ok, bind_exc, bnd_app, lift_some, eC_app, eVar_0, eVar_1, eVar_2, eVar_3, eVar_4, eVar_5, eVar_6, eVar_7, eVar_8, eVar_9, eVar_10, ap1_app, ap2_app, apA_app, aCons_app, nilA_app, tru_app, tst_app, asB_bool, truD_bool, truD_list, truD_tuple, mNot_app, mAnd_app, mOr_app, eNot_app, eAnd_app, eOr_app, andK_b, orK_b, eIf_app, eTup_app, eLst_app, lLst_app, frzL_app, eList_app, eSl_app, pN_app, pS_app, partD_int, chn_b, eChain_app, seq_nx, seq_ret, seq_brk, seq_cnt, seq_exc, sSeq_app, sRet_app, sDrop_app, sIf_app, sRaise_app, sAsg_name, sSetL_app, rxM_ok, rxM_exc, eCall_app, outP_ret, outP_nx, outP_exc, Option.map_some, len0, len1, len2, len3, len4, len5, len6, len7, len8, eq_self, sz0, sz1, sz2, sz3, sz4, sz5, sz6, sz7, sz8, sz9, sz10, sz11, freeAt_s, freeAt_n, freeAt_d, freeAt_m, sFrz_app, frzK_ml, List.getElem?_cons_zero, List.getElem?_cons_succ, List.set_cons_zero, List.set_cons_succ, sAsg_tup, asgK_some, bTup_app, bAll_nil, bAll_cons, bName_app, Option.bind_some, isMl_s, isMl_m, resK_some, onK_ml, eApp_app, ePop_app, eIdxV_app, eLenV_app, tTruV_app, sSetI_app, onL_app, fLen_ok, fTru_ok, rbK_ok, cbK_ml, eCB_cons, eCB_nil, List.nil_append, List.cons_append, outK_some, outR_ret, outR_nx, outB_s, outB_m, mConsD_app, mConsL_app, sPar_app, setAll_nil, setAll_cons, true_and, and_true, and_self, Bool.not_true, Bool.not_false, Bool.false_eq_true, reduceIte, fa, key, f4, fi, fs, add_int, mod_ok (show (0 : Int) < 65536 by decide), fdiv_ok (show (0 : Int) < 65536 by decide) (show (65536 : Int) < 1073741824 by decide), mul_ok s1, mul_ok s2, mod_ok (show (0 : Int) < 4294967291 by decide), mul_ok (small_mod _ (show (0 : Int) < 4294967291 by decide) (by decide)), mod_ok (show (0 : Int) < 4294967279 by decide), mul_ok2 s3, mul_ok2 s4, fdiv_ok (show (0 : Int) < 64 by decide) (show (64 : Int) < 1073741824 by decide), mul_ok2 s5, mod_ok hm]
    rfl
  obtain ⟨v, z1, e⟩ := fin
  exact ⟨_, z1, Int.emod_nonneg _ (by omega), Int.emod_lt_of_pos _ hm, e⟩
theorem s_draw {ns : List Int} {zs : List D} {b : Nat} {many : Int} (hs : Sok b zs) (hb : b + 2 ≤ sizeLine) (hn : ns.length ≤ 63) (hm : 0 < many) : ∃ i zs', 0 ≤ i ∧ i < many ∧ Sok (b + 2) zs' ∧ b__law_draw [scr ns] zs [.int many] = .ok (.int i) zs' := by
  obtain ⟨hl, hz⟩ := hs
  have hz0 := sizeLine_big
  rcases hz with rfl | ⟨n, r, rfl⟩
  · obtain ⟨m, em⟩ := max_some (ns.map fun i => if i < 0 then -i else i)
    obtain ⟨i, z1, h1, h2, e⟩ := draw_tail (ns := ns) (z0 := m) (r := []) hm none rfl (by simp only [List.length_nil]; omega)
    refine ⟨i, PyData.int z1 :: ([] ++ [PyData.int 0]), h1, h2, ⟨?_, .inr ⟨z1, _, rfl⟩⟩, ?_⟩
    · simp only [List.length_cons, List.length_append, List.length_nil]
      omega
    · rw [b__law_draw, runB_out, ← e]
      have ec : eLc [4] (bName 4) (tAll) (apA absD (aCons (eVar 4) (nilA))) (ap1 itemsD (eVar 0)) [some (.d (scr ns)), some (.ml true []), some (.d (.int many)), none, none, none, none, none] = .ok (ns.map fun i => PyData.int (if i < 0 then -i else i)) [some (.d (scr ns)), some (.ml true []), some (.d (.int many)), none, none, none, none, none] :=
        lcM ns PyData.int _ rfl (by omega) (fun i hi => ⟨_, rfl, rfl, rfl, rfl⟩)
      have ea : addD (.list (ns.map fun i => PyData.int (if i < 0 then -i else i))) (.list [.int 0]) = some (.list ((ns.map fun i => if i < 0 then -i else i).map PyData.int ++ [PyData.int 0])) := by
        rw [add_lists (by simp only [List.length_map, List.length_cons, List.length_nil]; omega), List.map_map]
        rfl
      have h1 : ([PyData.int 0] : List D).length ≤ sizeLine := by simp only [List.length_cons, List.length_nil]; omega
      have fa : fApp [] (.int m) = some (.none, [PyData.int m]) := fApp_ok (xs := []) (by simp only [List.length_nil]; omega)
      have eb : bG [scr ns] [] [.int many] 8 = [some (.d (scr ns)), some (.ml true []), some (.d (.int many)), none, none, none, none, none] := rfl
      rw [eb, m__law_draw, sSeq_app]
      congr 1
      have e1 : (sIf (mNot (tTruV 1)) (sDrop (eApp 1 (apA maxD (aCons (ap2 addD (frzL (eLc [4] (bName 4) (tAll) (apA absD (aCons (eVar 4) (nilA))) (ap1 itemsD (eVar 0)))) (eLst (aCons (eC (.int 0)) (nilA)))) (nilA))))) ((fun g => .ok .nx g))) [some (.d (scr ns)), some (.ml true []), some (.d (.int many)), none, none, none, none, none] = .ok .nx [some (.d (scr ns)), some (.ml true [.int m]), some (.d (.int many)), none, none, none, none, none] := by
        simp only [bind_ok, bind_exc, bnd_app, lift_some, eC_app, eVar_0, eVar_1, eVar_2, eVar_3, eVar_4, eVar_5, eVar_6, eVar_7, eVar_8, eVar_9, eVar_10, ap1_app, ap2_app, apA_app, aCons_app, nilA_app, tru_app, tst_app, asB_bool, truD_bool, truD_list, truD_tuple, mNot_app, mAnd_app, mOr_app, eNot_app, eAnd_app, eOr_app, andK_b, orK_b, eIf_app, eTup_app, eLst_app, lLst_app, frzL_app, eList_app, eSl_app, pN_app, pS_app, partD_int, chn_b, eChain_app, seq_nx, seq_ret, seq_brk, seq_cnt, seq_exc, sSeq_app, sRet_app, sDrop_app, sIf_app, sRaise_app, sAsg_name, sSetL_app, rxM_ok, rxM_exc, eCall_app, outP_ret, outP_nx, outP_exc, Option.map_some, len0, len1, len2, len3, len4, len5, len6, len7, len8, eq_self, sz0, sz1, sz2, sz3, sz4, sz5, sz6, sz7, sz8, sz9, sz10, sz11, freeAt_s, freeAt_n, freeAt_d, freeAt_m, sFrz_app, frzK_ml, List.getElem?_cons_zero, List.getElem?_cons_succ, List.set_cons_zero, List.set_cons_succ, sAsg_tup, asgK_some, bTup_app, bAll_nil, bAll_cons, bName_app, Option.bind_some, isMl_s, isMl_m, resK_some, onK_ml, eApp_app, ePop_app, eIdxV_app, eLenV_app, tTruV_app, sSetI_app, onL_app, fLen_ok, fTru_ok, rbK_ok, cbK_ml, eCB_cons, eCB_nil, List.nil_append, List.cons_append, outK_some, outR_ret, outR_nx, outB_s, outB_m, mConsD_app, mConsL_app, sPar_app, setAll_nil, setAll_cons, true_and, and_true, and_self, Bool.not_true, Bool.not_false, Bool.false_eq_true, reduceIte, List.isEmpty_nil, ec, ea, em, fa]
      rw [e1, seq_nx]
  · obtain ⟨i, z1, h1, h2, e⟩ := draw_tail (ns := ns) (z0 := n) (r := r) hm none rfl (by simp only [List.length_cons] at hl; omega)
    refine ⟨i, PyData.int z1 :: (r ++ [PyData.int 0]), h1, h2, ⟨?_, .inr ⟨z1, _, rfl⟩⟩, ?_⟩
    · simp only [List.length_cons, List.length_append, List.length_nil] at hl ⊢
      omega
    · rw [b__law_draw, runB_out, ← e]
      have eb : bG [scr ns] (.int n :: r) [.int many] 8 = [some (.d (scr ns)), some (.ml true (.int n :: r)), some (.d (.int many)), none, none, none, none, none] := rfl
      rw [eb, m__law_draw, sSeq_app]
      congr 1
theorem s_pick {ns : List Int} {zs : List D} {b : Nat} {xs : List D} (hs : Sok b zs) (hb : b + 2 ≤ sizeLine) (hn : ns.length ≤ 63) (hx : xs ≠ []) : ∃ y zs', y ∈ xs ∧ Sok (b + 2) zs' ∧ b__law_pick [scr ns] zs [.list xs] = .ok y zs' := by
  have hpos : 0 < xs.length := List.length_pos_iff.mpr hx
  obtain ⟨i, zs', h1, h2, h3, e⟩ := s_draw (ns := ns) (many := (xs.length : Int)) hs hb hn (by omega)
  have hi : i.toNat < xs.length := by omega
  have ei : (i.toNat : Int) = i := by omega
  refine ⟨xs[i.toNat], zs', List.getElem_mem hi, h3, ?_⟩
  have ex := ix_list (xs := xs) (k := i.toNat) (List.getElem?_eq_getElem hi)
  rw [ei] at ex
  rw [b__law_pick, runB_out, m__law_pick, show bG [scr ns] zs [.list xs] 3 = [some (.d (scr ns)), some (.ml true zs), some (.d (.list xs))] from rfl]
  simp only [bind_ok, bind_exc, bnd_app, lift_some, eC_app, eVar_0, eVar_1, eVar_2, eVar_3, eVar_4, eVar_5, eVar_6, eVar_7, eVar_8, eVar_9, eVar_10, ap1_app, ap2_app, apA_app, aCons_app, nilA_app, tru_app, tst_app, asB_bool, truD_bool, truD_list, truD_tuple, mNot_app, mAnd_app, mOr_app, eNot_app, eAnd_app, eOr_app, andK_b, orK_b, eIf_app, eTup_app, eLst_app, lLst_app, frzL_app, eList_app, eSl_app, pN_app, pS_app, partD_int, chn_b, eChain_app, seq_nx, seq_ret, seq_brk, seq_cnt, seq_exc, sSeq_app, sRet_app, sDrop_app, sIf_app, sRaise_app, sAsg_name, sSetL_app, rxM_ok, rxM_exc, eCall_app, outP_ret, outP_nx, outP_exc, Option.map_some, len0, len1, len2, len3, len4, len5, len6, len7, len8, eq_self, sz0, sz1, sz2, sz3, sz4, sz5, sz6, sz7, sz8, sz9, sz10, sz11, freeAt_s, freeAt_n, freeAt_d, freeAt_m, sFrz_app, frzK_ml, List.getElem?_cons_zero, List.getElem?_cons_succ, List.set_cons_zero, List.set_cons_succ, sAsg_tup, asgK_some, bTup_app, bAll_nil, bAll_cons, bName_app, Option.bind_some, isMl_s, isMl_m, resK_some, onK_ml, eApp_app, ePop_app, eIdxV_app, eLenV_app, tTruV_app, sSetI_app, onL_app, fLen_ok, fTru_ok, rbK_ok, cbK_ml, eCB_cons, eCB_nil, List.nil_append, List.cons_append, outK_some, outR_ret, outR_nx, outB_s, outB_m, mConsD_app, mConsL_app, sPar_app, setAll_nil, setAll_cons, true_and, and_true, and_self, Bool.not_true, Bool.not_false, Bool.false_eq_true, reduceIte, len_lst, e, ex]
/-! ### shuffles -/
theorem seqIx {i : Int} {n : Nat} (h : 0 ≤ i) (h2 : i < n) : seqIndex? i n = some i.toNat := by
  have e : L2.ixN n i = some i.toNat := by rw [L2.ixN, if_pos h, if_pos h2]
  exact (L2.ixN_seq e).1
theorem perm_erase : ∀ (xs : List D) (i : Nat) (h : i < xs.length), (xs[i] :: xs.eraseIdx i).Perm xs
  | x :: xs, 0, _ => .refl _
  | x :: xs, i + 1, h => by
    have hi : i < xs.length := by simpa using h
    have ih := perm_erase xs i hi
    exact (List.Perm.swap x (xs[i]'hi) _).trans (ih.cons x)
theorem shuf_loop {ns : List Int} (hn : ns.length ≤ 63) {T : Option Tv} : ∀ (f : Nat) (rest found zs : List D) (b : Nat), rest.length < f → Sok b zs → b + 2 * rest.length ≤ sizeLine → found.length + rest.length ≤ sizeLine →
    ∃ found' zs', found'.Perm (found ++ rest) ∧ Sok (b + 2 * rest.length) zs' ∧ loopW (tTruV 3) (sDrop (eApp 4 (ePop 3 (eCB 1 1 b__law_draw 1 (aCons (eLenV 3) (nilA)) [] [eVar 0])))) f [some (.d (scr ns)), some (.ml true zs), T, some (.ml false rest), some (.ml false found)] =
      .ok .nx [some (.d (scr ns)), some (.ml true zs'), T, some (.ml false []), some (.ml false found')]
  | 0, rest, found, zs, b, hf, _, _, _ => by omega
  | f + 1, [], found, zs, b, hf, hs, _, _ => by
    refine ⟨found, zs, by simp, hs, ?_⟩
    rw [loopW]
    simp only [bind_ok, bind_exc, bnd_app, lift_some, eC_app, eVar_0, eVar_1, eVar_2, eVar_3, eVar_4, eVar_5, eVar_6, eVar_7, eVar_8, eVar_9, eVar_10, ap1_app, ap2_app, apA_app, aCons_app, nilA_app, tru_app, tst_app, asB_bool, truD_bool, truD_list, truD_tuple, mNot_app, mAnd_app, mOr_app, eNot_app, eAnd_app, eOr_app, andK_b, orK_b, eIf_app, eTup_app, eLst_app, lLst_app, frzL_app, eList_app, eSl_app, pN_app, pS_app, partD_int, chn_b, eChain_app, seq_nx, seq_ret, seq_brk, seq_cnt, seq_exc, sSeq_app, sRet_app, sDrop_app, sIf_app, sRaise_app, sAsg_name, sSetL_app, rxM_ok, rxM_exc, eCall_app, outP_ret, outP_nx, outP_exc, Option.map_some, len0, len1, len2, len3, len4, len5, len6, len7, len8, eq_self, sz0, sz1, sz2, sz3, sz4, sz5, sz6, sz7, sz8, sz9, sz10, sz11, freeAt_s, freeAt_n, freeAt_d, freeAt_m, sFrz_app, frzK_ml, List.getElem?_cons_zero, List.getElem?_cons_succ, List.set_cons_zero, List.set_cons_succ, sAsg_tup, asgK_some, bTup_app, bAll_nil, bAll_cons, bName_app, Option.bind_some, isMl_s, isMl_m, resK_some, onK_ml, eApp_app, ePop_app, eIdxV_app, eLenV_app, tTruV_app, sSetI_app, onL_app, fLen_ok, fTru_ok, rbK_ok, cbK_ml, eCB_cons, eCB_nil, List.nil_append, List.cons_append, outK_some, outR_ret, outR_nx, outB_s, outB_m, mConsD_app, mConsL_app, sPar_app, setAll_nil, setAll_cons, true_and, and_true, and_self, Bool.not_true, Bool.not_false, Bool.false_eq_true, reduceIte, List.isEmpty_nil]
  | f + 1, x :: rest, found, zs, b, hf, hs, hb, hl => by
    simp only [List.length_cons] at hf hb hl
    obtain ⟨i, zs1, h1, h2, h3, e⟩ := s_draw (ns := ns) (many := ((x :: rest).length : Int)) hs (by omega) hn (by simp only [List.length_cons]; omega)
    have hi : i.toNat < (x :: rest).length := by omega
    have hz := L2.line63
    have hp : fPop (x :: rest) (.int i) = some ((x :: rest)[i.toNat], (x :: rest).eraseIdx i.toNat) := by
      have hsm : (x :: rest).length ≤ sizeLine := by simp only [List.length_cons]; omega
      show (if -(2 ^ 63) ≤ i ∧ i < 2 ^ 63 then _ else none) = _
      rw [if_pos ⟨by omega, by omega⟩, seqIx h1 (by omega)]
      dsimp only
      rw [List.getElem?_eq_getElem hi]
      rfl
    have hel : ((x :: rest).eraseIdx i.toNat).length = rest.length := by
      rw [List.length_eraseIdx_of_lt hi]
      simp
    have fa : fApp found ((x :: rest)[i.toNat]) = some (.none, found ++ [(x :: rest)[i.toNat]]) := fApp_ok (by omega)
    obtain ⟨found', zs', p1, p2, p3⟩ := shuf_loop hn (T := T) f ((x :: rest).eraseIdx i.toNat) (found ++ [(x :: rest)[i.toNat]]) zs1 (b + 2) (by omega) h3 (by omega) (by simp only [List.length_append, List.length_cons, List.length_nil]; omega)
    refine ⟨found', zs', p1.trans ?_, p2.mono (by simp only [List.length_cons]; omega), ?_⟩
    · rw [List.append_assoc]
      refine List.Perm.append_left found ?_
      exact perm_erase _ _ hi
    · rw [loopW]
      simp only [bind_ok, bind_exc, bnd_app, lift_some, eC_app, eVar_0, eVar_1, eVar_2, eVar_3, eVar_4, eVar_5, eVar_6, eVar_7, eVar_8, eVar_9, eVar_10, ap1_app, ap2_app, apA_app, aCons_app, nilA_app, tru_app, tst_app, asB_bool, truD_bool, truD_list, truD_tuple, mNot_app, mAnd_app, mOr_app, eNot_app, eAnd_app, eOr_app, andK_b, orK_b, eIf_app, eTup_app, eLst_app, lLst_app, frzL_app, eList_app, eSl_app, pN_app, pS_app, partD_int, chn_b, eChain_app, seq_nx, seq_ret, seq_brk, seq_cnt, seq_exc, sSeq_app, sRet_app, sDrop_app, sIf_app, sRaise_app, sAsg_name, sSetL_app, rxM_ok, rxM_exc, eCall_app, outP_ret, outP_nx, outP_exc, Option.map_some, len0, len1, len2, len3, len4, len5, len6, len7, len8, eq_self, sz0, sz1, sz2, sz3, sz4, sz5, sz6, sz7, sz8, sz9, sz10, sz11, freeAt_s, freeAt_n, freeAt_d, freeAt_m, sFrz_app, frzK_ml, List.getElem?_cons_zero, List.getElem?_cons_succ, List.set_cons_zero, List.set_cons_succ, sAsg_tup, asgK_some, bTup_app, bAll_nil, bAll_cons, bName_app, Option.bind_some, isMl_s, isMl_m, resK_some, onK_ml, eApp_app, ePop_app, eIdxV_app, eLenV_app, tTruV_app, sSetI_app, onL_app, fLen_ok, fTru_ok, rbK_ok, cbK_ml, eCB_cons, eCB_nil, List.nil_append, List.cons_append, outK_some, outR_ret, outR_nx, outB_s, outB_m, mConsD_app, mConsL_app, sPar_app, setAll_nil, setAll_cons, true_and, and_true, and_self, Bool.not_true, Bool.not_false, Bool.false_eq_true, reduceIte, List.isEmpty_cons, e, hp, fa, p3]
theorem s_shuffled {ns : List Int} {zs : List D} {b : Nat} {x : D} {xs : List D} (hx : seqD x = some xs) (hs : Sok b zs) (hb : b + 2 * xs.length ≤ sizeLine) (hn : ns.length ≤ 63) : ∃ ys zs', ys.Perm xs ∧ Sok (b + 2 * xs.length) zs' ∧ b__law_shuffled [scr ns] zs [x] = .ok (.list ys) zs' := by
  obtain ⟨ys, zs', h1, h2, e⟩ := shuf_loop hn (T := some (.d x)) (xs.length + 1) xs [] zs b (by omega) hs hb (by simp only [List.length_nil]; omega)
  refine ⟨ys, zs', by simpa using h1, h2, ?_⟩
  rw [b__law_shuffled, runB_out, m__law_shuffled, show bG [scr ns] zs [x] 5 = [some (.d (scr ns)), some (.ml true zs), some (.d x), none, none] from rfl]
  simp only [bind_ok, bind_exc, bnd_app, lift_some, eC_app, eVar_0, eVar_1, eVar_2, eVar_3, eVar_4, eVar_5, eVar_6, eVar_7, eVar_8, eVar_9, eVar_10, ap1_app, ap2_app, apA_app, aCons_app, nilA_app, tru_app, tst_app, asB_bool, truD_bool, truD_list, truD_tuple, mNot_app, mAnd_app, mOr_app, eNot_app, eAnd_app, eOr_app, andK_b, orK_b, eIf_app, eTup_app, eLst_app, lLst_app, frzL_app, eList_app, eSl_app, pN_app, pS_app, partD_int, chn_b, eChain_app, seq_nx, seq_ret, seq_brk, seq_cnt, seq_exc, sSeq_app, sRet_app, sDrop_app, sIf_app, sRaise_app, sAsg_name, sSetL_app, rxM_ok, rxM_exc, eCall_app, outP_ret, outP_nx, outP_exc, Option.map_some, len0, len1, len2, len3, len4, len5, len6, len7, len8, eq_self, sz0, sz1, sz2, sz3, sz4, sz5, sz6, sz7, sz8, sz9, sz10, sz11, freeAt_s, freeAt_n, freeAt_d, freeAt_m, sFrz_app, frzK_ml, List.getElem?_cons_zero, List.getElem?_cons_succ, List.set_cons_zero, List.set_cons_succ, sAsg_tup, asgK_some, bTup_app, bAll_nil, bAll_cons, bName_app, Option.bind_some, isMl_s, isMl_m, resK_some, onK_ml, eApp_app, ePop_app, eIdxV_app, eLenV_app, tTruV_app, sSetI_app, onL_app, fLen_ok, fTru_ok, rbK_ok, cbK_ml, eCB_cons, eCB_nil, List.nil_append, List.cons_append, outK_some, outR_ret, outR_nx, outB_s, outB_m, mConsD_app, mConsL_app, sPar_app, setAll_nil, setAll_cons, true_and, and_true, and_self, Bool.not_true, Bool.not_false, Bool.false_eq_true, reduceIte, seqA, hx, Nat.zero_le]
  simp only [sWhile, fuelL, bind_ok, bind_exc, bnd_app, lift_some, eC_app, eVar_0, eVar_1, eVar_2, eVar_3, eVar_4, eVar_5, eVar_6, eVar_7, eVar_8, eVar_9, eVar_10, ap1_app, ap2_app, apA_app, aCons_app, nilA_app, tru_app, tst_app, asB_bool, truD_bool, truD_list, truD_tuple, mNot_app, mAnd_app, mOr_app, eNot_app, eAnd_app, eOr_app, andK_b, orK_b, eIf_app, eTup_app, eLst_app, lLst_app, frzL_app, eList_app, eSl_app, pN_app, pS_app, partD_int, chn_b, eChain_app, seq_nx, seq_ret, seq_brk, seq_cnt, seq_exc, sSeq_app, sRet_app, sDrop_app, sIf_app, sRaise_app, sAsg_name, sSetL_app, rxM_ok, rxM_exc, eCall_app, outP_ret, outP_nx, outP_exc, Option.map_some, len0, len1, len2, len3, len4, len5, len6, len7, len8, eq_self, sz0, sz1, sz2, sz3, sz4, sz5, sz6, sz7, sz8, sz9, sz10, sz11, freeAt_s, freeAt_n, freeAt_d, freeAt_m, sFrz_app, frzK_ml, List.getElem?_cons_zero, List.getElem?_cons_succ, List.set_cons_zero, List.set_cons_succ, sAsg_tup, asgK_some, bTup_app, bAll_nil, bAll_cons, bName_app, Option.bind_some, isMl_s, isMl_m, resK_some, onK_ml, eApp_app, ePop_app, eIdxV_app, eLenV_app, tTruV_app, sSetI_app, onL_app, fLen_ok, fTru_ok, rbK_ok, cbK_ml, eCB_cons, eCB_nil, List.nil_append, List.cons_append, outK_some, outR_ret, outR_nx, outB_s, outB_m, mConsD_app, mConsL_app, sPar_app, setAll_nil, setAll_cons, true_and, and_true, and_self, Bool.not_true, Bool.not_false, Bool.false_eq_true, reduceIte]
  rw [e]
  simp only [bind_ok, bind_exc, bnd_app, lift_some, eC_app, eVar_0, eVar_1, eVar_2, eVar_3, eVar_4, eVar_5, eVar_6, eVar_7, eVar_8, eVar_9, eVar_10, ap1_app, ap2_app, apA_app, aCons_app, nilA_app, tru_app, tst_app, asB_bool, truD_bool, truD_list, truD_tuple, mNot_app, mAnd_app, mOr_app, eNot_app, eAnd_app, eOr_app, andK_b, orK_b, eIf_app, eTup_app, eLst_app, lLst_app, frzL_app, eList_app, eSl_app, pN_app, pS_app, partD_int, chn_b, eChain_app, seq_nx, seq_ret, seq_brk, seq_cnt, seq_exc, sSeq_app, sRet_app, sDrop_app, sIf_app, sRaise_app, sAsg_name, sSetL_app, rxM_ok, rxM_exc, eCall_app, outP_ret, outP_nx, outP_exc, Option.map_some, len0, len1, len2, len3, len4, len5, len6, len7, len8, eq_self, sz0, sz1, sz2, sz3, sz4, sz5, sz6, sz7, sz8, sz9, sz10, sz11, freeAt_s, freeAt_n, freeAt_d, freeAt_m, sFrz_app, frzK_ml, List.getElem?_cons_zero, List.getElem?_cons_succ, List.set_cons_zero, List.set_cons_succ, sAsg_tup, asgK_some, bTup_app, bAll_nil, bAll_cons, bName_app, Option.bind_some, isMl_s, isMl_m, resK_some, onK_ml, eApp_app, ePop_app, eIdxV_app, eLenV_app, tTruV_app, sSetI_app, onL_app, fLen_ok, fTru_ok, rbK_ok, cbK_ml, eCB_cons, eCB_nil, List.nil_append, List.cons_append, outK_some, outR_ret, outR_nx, outB_s, outB_m, mConsD_app, mConsL_app, sPar_app, setAll_nil, setAll_cons, true_and, and_true, and_self, Bool.not_true, Bool.not_false, Bool.false_eq_true, reduceIte]
/-! ### _law_cells -/
def mkRow (r : List Int) : D := .tuple (r.map PyData.int)
def ext (c : Int) (row : List Int) : List (List Int) := (List.range c.toNat).map fun (a : Nat) => row ++ [(a : Int)]
def rowsOf (cs : List Int) (rows : List (List Int)) : List (List Int) := cs.foldl (fun rows c => rows.flatMap (ext c)) rows
theorem ext_len (c : Int) (rows : List (List Int)) : (rows.flatMap (ext c)).length = rows.length * c.toNat := by
  induction rows with
  | nil => simp
  | cons r rows ih =>
    rw [List.flatMap_cons, List.length_append, ih, List.length_cons, ext, List.length_map, List.length_range, Nat.succ_mul, Nat.add_comm]
theorem rowsOf_len : ∀ (cs : List Int) (rows : List (List Int)), (rowsOf cs rows).length = rows.length * (cs.map Int.toNat).prod
  | [], rows => by simp [rowsOf]
  | c :: cs, rows => by
    have := rowsOf_len cs (rows.flatMap (ext c))
    rw [rowsOf] at this ⊢
    rw [List.foldl_cons, this, ext_len, List.map_cons, List.prod_cons, Nat.mul_assoc]
theorem range_ints (n : Nat) : rngD 0 n = (List.range n).map fun (a : Nat) => PyData.int (a : Int) := by
  unfold rngD
  apply List.map_congr_left
  intro a _
  simp
theorem cells_comp {A B C R : Option Tv} {d : D} {z : Str} {L : Option Tv} {c : Int} {row : List Int} (hix : ixD d (.str z) = some (.int c)) (hc : 0 ≤ c ∧ c ≤ 1000) (hr : row.length ≤ 1000) :
    eLc [7] (bName 7) (tAll) (ap2 addD (eVar 6) (eTup (aCons (eVar 7) (nilA)))) (apA rng1 (aCons (ap2 ixD (eVar 2) (eVar 4)) (nilA))) [A, B, some (.d d), R, some (.d (.str z)), L, some (.d (mkRow row)), none] =
      .ok ((ext c row).map mkRow) [A, B, some (.d d), R, some (.d (.str z)), L, some (.d (mkRow row)), none] := by
  have hz := sizeLine_big
  rw [ext, List.map_map]
  refine lcM (List.range c.toNat) (fun (a : Nat) => PyData.int (a : Int)) _ ?_ (by rw [List.length_range]; omega) fun a ha => ⟨_, rfl, ?_, rfl, rfl⟩
  · simp only [bind_ok, bind_exc, bnd_app, lift_some, eC_app, eVar_0, eVar_1, eVar_2, eVar_3, eVar_4, eVar_5, eVar_6, eVar_7, eVar_8, eVar_9, eVar_10, ap1_app, ap2_app, apA_app, aCons_app, nilA_app, tru_app, tst_app, asB_bool, truD_bool, truD_list, truD_tuple, mNot_app, mAnd_app, mOr_app, eNot_app, eAnd_app, eOr_app, andK_b, orK_b, eIf_app, eTup_app, eLst_app, lLst_app, frzL_app, eList_app, eSl_app, pN_app, pS_app, partD_int, chn_b, eChain_app, seq_nx, seq_ret, seq_brk, seq_cnt, seq_exc, sSeq_app, sRet_app, sDrop_app, sIf_app, sRaise_app, sAsg_name, sSetL_app, rxM_ok, rxM_exc, eCall_app, outP_ret, outP_nx, outP_exc, Option.map_some, len0, len1, len2, len3, len4, len5, len6, len7, len8, eq_self, sz0, sz1, sz2, sz3, sz4, sz5, sz6, sz7, sz8, sz9, sz10, sz11, freeAt_s, freeAt_n, freeAt_d, freeAt_m, sFrz_app, frzK_ml, List.getElem?_cons_zero, List.getElem?_cons_succ, List.set_cons_zero, List.set_cons_succ, sAsg_tup, asgK_some, bTup_app, bAll_nil, bAll_cons, bName_app, Option.bind_some, isMl_s, isMl_m, resK_some, onK_ml, eApp_app, ePop_app, eIdxV_app, eLenV_app, tTruV_app, sSetI_app, onL_app, fLen_ok, fTru_ok, rbK_ok, cbK_ml, eCB_cons, eCB_nil, List.nil_append, List.cons_append, outK_some, outR_ret, outR_nx, outB_s, outB_m, mConsD_app, mConsL_app, sPar_app, setAll_nil, setAll_cons, true_and, and_true, and_self, Bool.not_true, Bool.not_false, Bool.false_eq_true, reduceIte, hix, rng1]
    rw [if_pos ⟨by omega, by omega⟩, range_ints]
    rfl
  · have e : addD (mkRow row) (.tuple [.int (a : Int)]) = some (mkRow (row ++ [(a : Int)])) := by
      rw [mkRow, add_tups (by simp only [List.length_map, List.length_cons, List.length_nil]; omega), mkRow, List.map_append]
      rfl
    show ap2 addD (eVar 6) (eTup (aCons (eVar 7) (nilA))) [A, B, some (.d d), R, some (.d (.str z)), L, some (.d (mkRow row)), some (.d (.int (a : Int)))] = _
    simp only [bind_ok, bind_exc, bnd_app, lift_some, eC_app, eVar_0, eVar_1, eVar_2, eVar_3, eVar_4, eVar_5, eVar_6, eVar_7, eVar_8, eVar_9, eVar_10, ap1_app, ap2_app, apA_app, aCons_app, nilA_app, tru_app, tst_app, asB_bool, truD_bool, truD_list, truD_tuple, mNot_app, mAnd_app, mOr_app, eNot_app, eAnd_app, eOr_app, andK_b, orK_b, eIf_app, eTup_app, eLst_app, lLst_app, frzL_app, eList_app, eSl_app, pN_app, pS_app, partD_int, chn_b, eChain_app, seq_nx, seq_ret, seq_brk, seq_cnt, seq_exc, sSeq_app, sRet_app, sDrop_app, sIf_app, sRaise_app, sAsg_name, sSetL_app, rxM_ok, rxM_exc, eCall_app, outP_ret, outP_nx, outP_exc, Option.map_some, len0, len1, len2, len3, len4, len5, len6, len7, len8, eq_self, sz0, sz1, sz2, sz3, sz4, sz5, sz6, sz7, sz8, sz9, sz10, sz11, freeAt_s, freeAt_n, freeAt_d, freeAt_m, sFrz_app, frzK_ml, List.getElem?_cons_zero, List.getElem?_cons_succ, List.set_cons_zero, List.set_cons_succ, sAsg_tup, asgK_some, bTup_app, bAll_nil, bAll_cons, bName_app, Option.bind_some, isMl_s, isMl_m, resK_some, onK_ml, eApp_app, ePop_app, eIdxV_app, eLenV_app, tTruV_app, sSetI_app, onL_app, fLen_ok, fTru_ok, rbK_ok, cbK_ml, eCB_cons, eCB_nil, List.nil_append, List.cons_append, outK_some, outR_ret, outR_nx, outB_s, outB_m, mConsD_app, mConsL_app, sPar_app, setAll_nil, setAll_cons, true_and, and_true, and_self, Bool.not_true, Bool.not_false, Bool.false_eq_true, reduceIte, e]
    rfl
theorem cells_inner {A B C R : Option Tv} {d : D} {z : Str} {c : Int} (hix : ixD d (.str z) = some (.int c)) (hc : 0 ≤ c ∧ c ≤ 1000) : ∀ (rows : List (List Int)) (acc : List (List Int)) (o : Option Tv), dat o = true → (∀ r ∈ rows, r.length ≤ 1000) → acc.length + rows.length * c.toNat ≤ 1000000 →
    ∃ o', dat o' = true ∧ loop (bName 6) (sAsg (bName 5) (ap2 addD (eVar 5) (frzL (eLc [7] (bName 7) (tAll) (ap2 addD (eVar 6) (eTup (aCons (eVar 7) (nilA)))) (apA rng1 (aCons (ap2 ixD (eVar 2) (eVar 4)) (nilA))))))) (rows.map mkRow) [A, B, some (.d d), R, some (.d (.str z)), some (.d (.list (acc.map mkRow))), o, none] =
      .ok .nx [A, B, some (.d d), R, some (.d (.str z)), some (.d (.list ((acc ++ rows.flatMap (ext c)).map mkRow))), o', none]
  | [], acc, o, ho, _, _ => ⟨o, ho, by rw [List.map_nil, loop_nil, List.flatMap_nil, List.append_nil]⟩
  | r :: rows, acc, o, ho, hr, hl => by
    have hz := sizeLine_big
    have el : (ext c r).length = c.toNat := by rw [ext, List.length_map, List.length_range]
    rw [List.length_cons, Nat.succ_mul] at hl
    obtain ⟨o', ho', e⟩ := cells_inner (A := A) (B := B) (C := C) (R := R) hix hc rows (acc ++ ext c r) (some (.d (mkRow r))) rfl (fun r hr' => hr r (List.mem_cons_of_mem _ hr')) (by rw [List.length_append, el]; omega)
    refine ⟨o', ho', ?_⟩
    rw [List.map_cons, loop_cons, bName_dat (o := o) rfl ho]
    have ea : addD (.list (acc.map mkRow)) (.list ((ext c r).map mkRow)) = some (.list ((acc ++ ext c r).map mkRow)) := by
      rw [add_lists (by simp only [List.length_map, el]; omega), List.map_append]
    have e1 : sAsg (bName 5) (ap2 addD (eVar 5) (frzL (eLc [7] (bName 7) (tAll) (ap2 addD (eVar 6) (eTup (aCons (eVar 7) (nilA)))) (apA rng1 (aCons (ap2 ixD (eVar 2) (eVar 4)) (nilA)))))) [A, B, some (.d d), R, some (.d (.str z)), some (.d (.list (acc.map mkRow))), some (.d (mkRow r)), none] = .ok .nx [A, B, some (.d d), R, some (.d (.str z)), some (.d (.list ((acc ++ ext c r).map mkRow))), some (.d (mkRow r)), none] := by
      simp only [bind_ok, bind_exc, bnd_app, lift_some, eC_app, eVar_0, eVar_1, eVar_2, eVar_3, eVar_4, eVar_5, eVar_6, eVar_7, eVar_8, eVar_9, eVar_10, ap1_app, ap2_app, apA_app, aCons_app, nilA_app, tru_app, tst_app, asB_bool, truD_bool, truD_list, truD_tuple, mNot_app, mAnd_app, mOr_app, eNot_app, eAnd_app, eOr_app, andK_b, orK_b, eIf_app, eTup_app, eLst_app, lLst_app, frzL_app, eList_app, eSl_app, pN_app, pS_app, partD_int, chn_b, eChain_app, seq_nx, seq_ret, seq_brk, seq_cnt, seq_exc, sSeq_app, sRet_app, sDrop_app, sIf_app, sRaise_app, sAsg_name, sSetL_app, rxM_ok, rxM_exc, eCall_app, outP_ret, outP_nx, outP_exc, Option.map_some, len0, len1, len2, len3, len4, len5, len6, len7, len8, eq_self, sz0, sz1, sz2, sz3, sz4, sz5, sz6, sz7, sz8, sz9, sz10, sz11, freeAt_s, freeAt_n, freeAt_d, freeAt_m, sFrz_app, frzK_ml, List.getElem?_cons_zero, List.getElem?_cons_succ, List.set_cons_zero, List.set_cons_succ, sAsg_tup, asgK_some, bTup_app, bAll_nil, bAll_cons, bName_app, Option.bind_some, isMl_s, isMl_m, resK_some, onK_ml, eApp_app, ePop_app, eIdxV_app, eLenV_app, tTruV_app, sSetI_app, onL_app, fLen_ok, fTru_ok, rbK_ok, cbK_ml, eCB_cons, eCB_nil, List.nil_append, List.cons_append, outK_some, outR_ret, outR_nx, outB_s, outB_m, mConsD_app, mConsL_app, sPar_app, setAll_nil, setAll_cons, true_and, and_true, and_self, Bool.not_true, Bool.not_false, Bool.false_eq_true, reduceIte, cells_comp (C := C) hix hc (hr r List.mem_cons_self), ea]
    simp only [List.set_cons_zero, List.set_cons_succ]
    rw [e1]
    dsimp only
    rw [e, List.flatMap_cons, List.append_assoc]
theorem cells_outer {A B : Option Tv} {d : D} {f : Str → Int} : ∀ (names : List Str) (rows : List (List Int)) (o4 o5 o6 : Option Tv) (k : Nat), dat o4 = true → dat o5 = true → dat o6 = true → (∀ z ∈ names, ixD d (.str z) = some (.int (f z)) ∧ 1 ≤ f z ∧ f z ≤ 1000) → (∀ r ∈ rows, r.length ≤ k) → k + names.length ≤ 1000 → rows.length * ((names.map f).map Int.toNat).prod ≤ 1000000 →
    ∃ o4' o5' o6', loop (bName 4) (sSeq (sAsg (bName 5) (eLst (nilA))) (sSeq (sFor (bName 6) (ap1 itemsD (eVar 3)) (sAsg (bName 5) (ap2 addD (eVar 5) (frzL (eLc [7] (bName 7) (tAll) (ap2 addD (eVar 6) (eTup (aCons (eVar 7) (nilA)))) (apA rng1 (aCons (ap2 ixD (eVar 2) (eVar 4)) (nilA)))))))) (sAsg (bName 3) (eVar 5)))) (names.map PyData.str) [A, B, some (.d d), some (.d (.list (rows.map mkRow))), o4, o5, o6, none] =
      .ok .nx [A, B, some (.d d), some (.d (.list ((rowsOf (names.map f) rows).map mkRow))), o4', o5', o6', none]
  | [], rows, o4, o5, o6, k, _, _, _, _, _, _, _ => ⟨o4, o5, o6, rfl⟩
  | z :: names, rows, o4, o5, o6, k, h4, h5, h6, hz, hr, hk, hl => by
    obtain ⟨hix, hf1, hf2⟩ := hz z List.mem_cons_self
    rw [List.map_cons, List.map_cons, List.prod_cons, ← Nat.mul_assoc] at hl
    have hpos : 1 ≤ ((names.map f).map Int.toNat).prod := by
      clear hl
      have : ∀ l : List Str, (∀ y ∈ l, 1 ≤ f y) → 1 ≤ ((l.map f).map Int.toNat).prod := by
        intro l
        induction l with
        | nil => intro _; simp
        | cons y l ih =>
          intro h
          rw [List.map_cons, List.map_cons, List.prod_cons]
          have h1 := ih fun w hw => h w (List.mem_cons_of_mem _ hw)
          have h2 := h y List.mem_cons_self
          exact Nat.mul_pos (by omega) h1
      exact this names fun y hy => (hz y (List.mem_cons_of_mem _ hy)).2.1
    have hl1 : rows.length * (f z).toNat ≤ 1000000 := Nat.le_trans (Nat.le_mul_of_pos_right _ hpos) hl
    obtain ⟨o6', h6', e⟩ := cells_inner (A := A) (B := B) (C := none) (R := some (.d (.list (rows.map mkRow)))) hix ⟨by omega, hf2⟩ rows [] o6 h6 (fun r h => by have := hr r h; omega) (by simpa using hl1)
    have hr' : ∀ r ∈ rows.flatMap (ext (f z)), r.length ≤ k + 1 := fun r h => by
      obtain ⟨r0, h0, h1⟩ := List.mem_flatMap.mp h
      obtain ⟨a, _, rfl⟩ := List.mem_map.mp h1
      have := hr r0 h0
      rw [List.length_append, List.length_cons, List.length_nil]
      omega
    obtain ⟨a4, a5, a6, e2⟩ := cells_outer (A := A) (B := B) names (rows.flatMap (ext (f z))) (some (.d (.str z))) (some (.d (.list ((rows.flatMap (ext (f z))).map mkRow)))) o6' (k + 1) rfl rfl h6' (fun y hy => hz y (List.mem_cons_of_mem _ hy)) hr' (by rw [List.length_cons] at hk; omega) (by rw [ext_len]; exact hl)
    refine ⟨a4, a5, a6, ?_⟩
    have f5 : ∀ (a b c d e : Option Tv) (r : Ga), freeAt (a :: b :: c :: d :: e :: o5 :: r) 5 = true := fun a b c d e r => freeAt_dat (o := o5) rfl h5
    rw [List.map_cons, loop_cons, bName_dat (o := o4) rfl h4]
    simp only [List.set_cons_zero, List.set_cons_succ]
    rw [List.nil_append] at e
    rw [List.map_nil] at e
    simp only [bind_ok, bind_exc, bnd_app, lift_some, eC_app, eVar_0, eVar_1, eVar_2, eVar_3, eVar_4, eVar_5, eVar_6, eVar_7, eVar_8, eVar_9, eVar_10, ap1_app, ap2_app, apA_app, aCons_app, nilA_app, tru_app, tst_app, asB_bool, truD_bool, truD_list, truD_tuple, mNot_app, mAnd_app, mOr_app, eNot_app, eAnd_app, eOr_app, andK_b, orK_b, eIf_app, eTup_app, eLst_app, lLst_app, frzL_app, eList_app, eSl_app, pN_app, pS_app, partD_int, chn_b, eChain_app, seq_nx, seq_ret, seq_brk, seq_cnt, seq_exc, sSeq_app, sRet_app, sDrop_app, sIf_app, sRaise_app, sAsg_name, sSetL_app, rxM_ok, rxM_exc, eCall_app, outP_ret, outP_nx, outP_exc, Option.map_some, len0, len1, len2, len3, len4, len5, len6, len7, len8, eq_self, sz0, sz1, sz2, sz3, sz4, sz5, sz6, sz7, sz8, sz9, sz10, sz11, freeAt_s, freeAt_n, freeAt_d, freeAt_m, sFrz_app, frzK_ml, List.getElem?_cons_zero, List.getElem?_cons_succ, List.set_cons_zero, List.set_cons_succ, sAsg_tup, asgK_some, bTup_app, bAll_nil, bAll_cons, bName_app, Option.bind_some, isMl_s, isMl_m, resK_some, onK_ml, eApp_app, ePop_app, eIdxV_app, eLenV_app, tTruV_app, sSetI_app, onL_app, fLen_ok, fTru_ok, rbK_ok, cbK_ml, eCB_cons, eCB_nil, List.nil_append, List.cons_append, outK_some, outR_ret, outR_nx, outB_s, outB_m, mConsD_app, mConsL_app, sPar_app, setAll_nil, setAll_cons, true_and, and_true, and_self, Bool.not_true, Bool.not_false, Bool.false_eq_true, reduceIte, f5, sFor_app, itemsD, e]
    rw [e2, List.map_cons, rowsOf, rowsOf, List.foldl_cons]
theorem dict_list {qs : List (Str × Int)} (hd : (qs.map (·.1)).Nodup) : dictD [.list (qs.map mkQ)] = some (.dict (qs.map fun q => (.str q.1, .int q.2))) := by
  rw [dictD, pairs_mkQ qs, Option.map_some, merge_nodup]
  · rw [List.nil_append, toDict, List.map_map]
    rfl
  · rw [List.nil_append, List.map_map]
    have : ((qs.map (·.1)).map fun z : Str => (Sum.inr z : L2.Key)).Nodup := List.Pairwise.map (fun z : Str => (Sum.inr z : L2.Key)) (fun a b h e => h (by injection e)) hd
    rw [List.map_map] at this
    exact this
theorem s_cells {q nd : D} {qs : List (Str × Int)} {names : List Str} (hq : seqD q = some (qs.map mkQ)) (hn : itemsD nd = some (names.map PyData.str)) (hd : (qs.map (·.1)).Nodup) (hin : ∀ z ∈ names, z ∈ qs.map (·.1) ∧ 1 ≤ cnt qs z ∧ cnt qs z ≤ 1000) (hk : names.length ≤ 1000) (hl : ((names.map (cnt qs)).map Int.toNat).prod ≤ 1000000) :
    p__law_cells [q, nd] = .ok (.list ((rowsOf (names.map (cnt qs)) [[]]).map mkRow)) := by
  obtain ⟨o4, o5, o6, e⟩ := cells_outer (A := some (.d q)) (B := some (.d nd)) (d := .dict (qs.map fun q => (.str q.1, .int q.2))) (f := cnt qs) names [[]] none none none 0 rfl rfl rfl (fun z hz => ⟨ix_dict (hin z hz).1, (hin z hz).2⟩) (by simp) (by omega) (by simpa using hl)
  rw [p__law_cells, runP_out, m__law_cells, show dsG [q, nd] 8 = [some (.d q), some (.d nd), none, none, none, none, none, none] from rfl]
  simp only [bind_ok, bind_exc, bnd_app, lift_some, eC_app, eVar_0, eVar_1, eVar_2, eVar_3, eVar_4, eVar_5, eVar_6, eVar_7, eVar_8, eVar_9, eVar_10, ap1_app, ap2_app, apA_app, aCons_app, nilA_app, tru_app, tst_app, asB_bool, truD_bool, truD_list, truD_tuple, mNot_app, mAnd_app, mOr_app, eNot_app, eAnd_app, eOr_app, andK_b, orK_b, eIf_app, eTup_app, eLst_app, lLst_app, frzL_app, eList_app, eSl_app, pN_app, pS_app, partD_int, chn_b, eChain_app, seq_nx, seq_ret, seq_brk, seq_cnt, seq_exc, sSeq_app, sRet_app, sDrop_app, sIf_app, sRaise_app, sAsg_name, sSetL_app, rxM_ok, rxM_exc, eCall_app, outP_ret, outP_nx, outP_exc, Option.map_some, len0, len1, len2, len3, len4, len5, len6, len7, len8, eq_self, sz0, sz1, sz2, sz3, sz4, sz5, sz6, sz7, sz8, sz9, sz10, sz11, freeAt_s, freeAt_n, freeAt_d, freeAt_m, sFrz_app, frzK_ml, List.getElem?_cons_zero, List.getElem?_cons_succ, List.set_cons_zero, List.set_cons_succ, sAsg_tup, asgK_some, bTup_app, bAll_nil, bAll_cons, bName_app, Option.bind_some, isMl_s, isMl_m, resK_some, onK_ml, eApp_app, ePop_app, eIdxV_app, eLenV_app, tTruV_app, sSetI_app, onL_app, fLen_ok, fTru_ok, rbK_ok, cbK_ml, eCB_cons, eCB_nil, List.nil_append, List.cons_append, outK_some, outR_ret, outR_nx, outB_s, outB_m, mConsD_app, mConsL_app, sPar_app, setAll_nil, setAll_cons, true_and, and_true, and_self, Bool.not_true, Bool.not_false, Bool.false_eq_true, reduceIte, seqA, hq, dict_list hd, sFor_app, hn]
  rw [show [PyData.tuple []] = [[]].map mkRow from rfl, e]
  simp only [bind_ok, bind_exc, bnd_app, lift_some, eC_app, eVar_0, eVar_1, eVar_2, eVar_3, eVar_4, eVar_5, eVar_6, eVar_7, eVar_8, eVar_9, eVar_10, ap1_app, ap2_app, apA_app, aCons_app, nilA_app, tru_app, tst_app, asB_bool, truD_bool, truD_list, truD_tuple, mNot_app, mAnd_app, mOr_app, eNot_app, eAnd_app, eOr_app, andK_b, orK_b, eIf_app, eTup_app, eLst_app, lLst_app, frzL_app, eList_app, eSl_app, pN_app, pS_app, partD_int, chn_b, eChain_app, seq_nx, seq_ret, seq_brk, seq_cnt, seq_exc, sSeq_app, sRet_app, sDrop_app, sIf_app, sRaise_app, sAsg_name, sSetL_app, rxM_ok, rxM_exc, eCall_app, outP_ret, outP_nx, outP_exc, Option.map_some, len0, len1, len2, len3, len4, len5, len6, len7, len8, eq_self, sz0, sz1, sz2, sz3, sz4, sz5, sz6, sz7, sz8, sz9, sz10, sz11, freeAt_s, freeAt_n, freeAt_d, freeAt_m, sFrz_app, frzK_ml, List.getElem?_cons_zero, List.getElem?_cons_succ, List.set_cons_zero, List.set_cons_succ, sAsg_tup, asgK_some, bTup_app, bAll_nil, bAll_cons, bName_app, Option.bind_some, isMl_s, isMl_m, resK_some, onK_ml, eApp_app, ePop_app, eIdxV_app, eLenV_app, tTruV_app, sSetI_app, onL_app, fLen_ok, fTru_ok, rbK_ok, cbK_ml, eCB_cons, eCB_nil, List.nil_append, List.cons_append, outK_some, outR_ret, outR_nx, outB_s, outB_m, mConsD_app, mConsL_app, sPar_app, setAll_nil, setAll_cons, true_and, and_true, and_self, Bool.not_true, Bool.not_false, Bool.false_eq_true, reduceIte]
/-! ### _law_groups_from: what it reckons -/
def under (g o : List Str) : Bool := g.all fun z => o.contains z
def gStep (qs : List (Str × Int)) (most : Int) (st : List (List Str) × Int) (g : List Str) : List (List Str) × Int :=
  if (!(st.1.any (under g)) && (decide (g.length = 1) || decide (st.2 + ((rowsOf (g.map (cnt qs)) [[]]).length : Int) + 3 * (qs.length : Int) ≤ most))) = true then (st.1 ++ [g], st.2 + ((rowsOf (g.map (cnt qs)) [[]]).length : Int)) else st
def gAll (qs : List (Str × Int)) (most : Int) (drawn : List (List Str)) : List (List Str) × Int := (drawn ++ (qs.map (·.1)).map fun z => [z]).foldl (gStep qs most) ([], 0)
def keptOf (gs : List (List Str)) : List (List Str) := gs.filter fun g => !(gs.any fun o => !(o == g) && under g o)
theorem all_filter (g o : List Str) : (g.filter fun z => !o.contains z).isEmpty = under g o := by
  unfold under
  induction g with
  | nil => rfl
  | cons z g ih =>
    rw [List.filter_cons, List.all_cons]
    cases o.contains z
    · rfl
    · simpa using ih
theorem gd_strs (g : List Str) (h : ∀ z ∈ g, z.length ≤ sizeLine) (hl : g.length ≤ sizeLine) : Gd 1 (.list (g.map PyData.str)) := by
  refine ⟨by rw [List.length_map]; exact hl, fun y hy => ?_⟩
  obtain ⟨z, hz, rfl⟩ := List.mem_map.mp hy
  exact h z hz
theorem gd_nil : Gd 1 (.list []) := ⟨Nat.zero_le _, fun y hy => nomatch hy⟩
def gok (g : List Str) : Prop := g.length ≤ 1000 ∧ ∀ z ∈ g, z.length ≤ sizeLine
theorem eq_lnil {n : Nat} {xs : List D} (h : Gd n (.list xs)) (hn : n ≤ 59) : eqD (.list xs) (.list []) = some (.bool xs.isEmpty) := by rw [eq_gd h gd_nil hn, eqv_lnil]
/-- [name for name in group if name not in other] == [] -/
theorem in_test {a0 a1 a2 a3 a4 a5 a7 a8 a9 a10 a11 a12 : Option Tv} {g o : List Str} (hg : gok g) :
    tst (ap2 eqD (frzL (eLc [13] (bName 13) (tst (ap2 ninD (eVar 13) (eVar 14))) (eVar 13) (ap1 itemsD (eVar 6)))) (eLst (nilA))) [a0, a1, a2, a3, a4, a5, some (.d (mkG g)), a7, a8, a9, a10, a11, a12, none, some (.d (mkG o))] =
      .ok (under g o) [a0, a1, a2, a3, a4, a5, some (.d (mkG g)), a7, a8, a9, a10, a11, a12, none, some (.d (mkG o))] := by
  have hz := sizeLine_big
  have e13 : ∀ (x : D), eVar 13 [a0, a1, a2, a3, a4, a5, some (.d (mkG g)), a7, a8, a9, a10, a11, a12, some (.d x), some (.d (mkG o))] = .ok x [a0, a1, a2, a3, a4, a5, some (.d (mkG g)), a7, a8, a9, a10, a11, a12, some (.d x), some (.d (mkG o))] := fun _ => rfl
  have e14 : ∀ (x : Option Tv), eVar 14 [a0, a1, a2, a3, a4, a5, some (.d (mkG g)), a7, a8, a9, a10, a11, a12, x, some (.d (mkG o))] = .ok (mkG o) [a0, a1, a2, a3, a4, a5, some (.d (mkG g)), a7, a8, a9, a10, a11, a12, x, some (.d (mkG o))] := fun _ => rfl
  have ec : eLc [13] (bName 13) (tst (ap2 ninD (eVar 13) (eVar 14))) (eVar 13) (ap1 itemsD (eVar 6)) [a0, a1, a2, a3, a4, a5, some (.d (mkG g)), a7, a8, a9, a10, a11, a12, none, some (.d (mkG o))] =
      .ok ((g.filter fun z => !o.contains z).map PyData.str) [a0, a1, a2, a3, a4, a5, some (.d (mkG g)), a7, a8, a9, a10, a11, a12, none, some (.d (mkG o))] := by
    refine lcF g PyData.str (fun z => !o.contains z) PyData.str rfl (by have := hg.1; omega) fun z hzz => ⟨_, rfl, ?_, fun _ => rfl, rfl, rfl⟩
    show tst (ap2 ninD (eVar 13) (eVar 14)) [a0, a1, a2, a3, a4, a5, some (.d (mkG g)), a7, a8, a9, a10, a11, a12, some (.d (.str z)), some (.d (mkG o))] = _
    simp only [bind_ok, bind_exc, bnd_app, lift_some, eC_app, eVar_0, eVar_1, eVar_2, eVar_3, eVar_4, eVar_5, eVar_6, eVar_7, eVar_8, eVar_9, eVar_10, ap1_app, ap2_app, apA_app, aCons_app, nilA_app, tru_app, tst_app, asB_bool, truD_bool, truD_list, truD_tuple, mNot_app, mAnd_app, mOr_app, eNot_app, eAnd_app, eOr_app, andK_b, orK_b, eIf_app, eTup_app, eLst_app, lLst_app, frzL_app, eList_app, eSl_app, pN_app, pS_app, partD_int, chn_b, eChain_app, seq_nx, seq_ret, seq_brk, seq_cnt, seq_exc, sSeq_app, sRet_app, sDrop_app, sIf_app, sRaise_app, sAsg_name, sSetL_app, rxM_ok, rxM_exc, eCall_app, outP_ret, outP_nx, outP_exc, Option.map_some, len0, len1, len2, len3, len4, len5, len6, len7, len8, eq_self, sz0, sz1, sz2, sz3, sz4, sz5, sz6, sz7, sz8, sz9, sz10, sz11, freeAt_s, freeAt_n, freeAt_d, freeAt_m, sFrz_app, frzK_ml, List.getElem?_cons_zero, List.getElem?_cons_succ, List.set_cons_zero, List.set_cons_succ, sAsg_tup, asgK_some, bTup_app, bAll_nil, bAll_cons, bName_app, Option.bind_some, isMl_s, isMl_m, resK_some, onK_ml, eApp_app, ePop_app, eIdxV_app, eLenV_app, tTruV_app, sSetI_app, onL_app, fLen_ok, fTru_ok, rbK_ok, cbK_ml, eCB_cons, eCB_nil, List.nil_append, List.cons_append, outK_some, outR_ret, outR_nx, outB_s, outB_m, mConsD_app, mConsL_app, sPar_app, setAll_nil, setAll_cons, true_and, and_true, and_self, Bool.not_true, Bool.not_false, Bool.false_eq_true, reduceIte, e13, e14, nin_strs (kx := mkG o) (known := o) rfl z]
  have gd : Gd 1 (.list ((g.filter fun z => !o.contains z).map PyData.str)) := gd_strs _ (fun z hz => hg.2 z (List.mem_filter.mp hz).1) (by have := List.length_filter_le (fun z => !o.contains z) g; have := hg.1; omega)
  have e1 : eqD (.list ((g.filter fun z => !o.contains z).map PyData.str)) (.list []) = some (.bool (under g o)) := by
    rw [eq_lnil gd (by omega), List.isEmpty_map, all_filter]
  simp only [bind_ok, bind_exc, bnd_app, lift_some, eC_app, eVar_0, eVar_1, eVar_2, eVar_3, eVar_4, eVar_5, eVar_6, eVar_7, eVar_8, eVar_9, eVar_10, ap1_app, ap2_app, apA_app, aCons_app, nilA_app, tru_app, tst_app, asB_bool, truD_bool, truD_list, truD_tuple, mNot_app, mAnd_app, mOr_app, eNot_app, eAnd_app, eOr_app, andK_b, orK_b, eIf_app, eTup_app, eLst_app, lLst_app, frzL_app, eList_app, eSl_app, pN_app, pS_app, partD_int, chn_b, eChain_app, seq_nx, seq_ret, seq_brk, seq_cnt, seq_exc, sSeq_app, sRet_app, sDrop_app, sIf_app, sRaise_app, sAsg_name, sSetL_app, rxM_ok, rxM_exc, eCall_app, outP_ret, outP_nx, outP_exc, Option.map_some, len0, len1, len2, len3, len4, len5, len6, len7, len8, eq_self, sz0, sz1, sz2, sz3, sz4, sz5, sz6, sz7, sz8, sz9, sz10, sz11, freeAt_s, freeAt_n, freeAt_d, freeAt_m, sFrz_app, frzK_ml, List.getElem?_cons_zero, List.getElem?_cons_succ, List.set_cons_zero, List.set_cons_succ, sAsg_tup, asgK_some, bTup_app, bAll_nil, bAll_cons, bName_app, Option.bind_some, isMl_s, isMl_m, resK_some, onK_ml, eApp_app, ePop_app, eIdxV_app, eLenV_app, tTruV_app, sSetI_app, onL_app, fLen_ok, fTru_ok, rbK_ok, cbK_ml, eCB_cons, eCB_nil, List.nil_append, List.cons_append, outK_some, outR_ret, outR_nx, outB_s, outB_m, mConsD_app, mConsL_app, sPar_app, setAll_nil, setAll_cons, true_and, and_true, and_self, Bool.not_true, Bool.not_false, Bool.false_eq_true, reduceIte, ec, e1]
theorem inside_comp {a0 a1 a2 a3 a5 a7 a8 a9 a10 a11 a12 : Option Tv} {g : List Str} {gs : List (List Str)} (hg : gok g) (hl : gs.length ≤ sizeLine) :
    eLcV [14] (bName 14) (tst (ap2 eqD (frzL (eLc [13] (bName 13) (tst (ap2 ninD (eVar 13) (eVar 14))) (eVar 13) (ap1 itemsD (eVar 6)))) (eLst (nilA)))) (eC (.int 1)) 4 [a0, a1, a2, a3, some (.ml false (gs.map mkG)), a5, some (.d (mkG g)), a7, a8, a9, a10, a11, a12, none, none] =
      .ok ((gs.filter (under g)).map fun _ => PyData.int 1) [a0, a1, a2, a3, some (.ml false (gs.map mkG)), a5, some (.d (mkG g)), a7, a8, a9, a10, a11, a12, none, none] := by
  refine lcVF gs mkG (under g) (fun _ => PyData.int 1) rfl hl (by decide) (fun o ho => ⟨_, rfl, ?_, fun _ => rfl, rfl, rfl⟩) rfl rfl
  exact in_test hg
theorem ones_gd (xs : List (List Str)) (hl : xs.length ≤ sizeLine) : Gd 1 (.list (xs.map fun _ => PyData.int 1)) := by
  refine ⟨by rw [List.length_map]; exact hl, fun y hy => ?_⟩
  obtain ⟨z, hz, rfl⟩ := List.mem_map.mp hy
  exact trivial
theorem filter_isEmpty {α : Type} (p : α → Bool) (xs : List α) : (xs.filter p).isEmpty = !xs.any p := by
  induction xs with
  | nil => rfl
  | cons x xs ih =>
    rw [List.filter_cons, List.any_cons]
    cases p x
    · simpa using ih
    · rfl
theorem g_body {q dr nm : D} {qs : List (Str × Int)} {most size : Int} {gs : List (List Str)} {g : List Str} {o8 o9 o10 : Option Tv} (h8 : dat o8 = true) (h9 : dat o9 = true) (h10 : dat o10 = true) (hq : seqD q = some (qs.map mkQ)) (hnm : lenD [nm] = some (.int (qs.length : Int))) (hd : (qs.map (·.1)).Nodup)
    (hin : ∀ z ∈ g, z ∈ qs.map (·.1) ∧ 1 ≤ cnt qs z ∧ cnt qs z ≤ 1000) (hg : gok g) (hp : ((g.map (cnt qs)).map Int.toNat).prod ≤ 1000000) (hl : gs.length < 1000) :
    ∃ p8 p9 p10, dat p8 = true ∧ dat p9 = true ∧ dat p10 = true ∧ (sSeq (sAsg (bName 8) (apA lenD (aCons (eCall 2 p__law_cells (aCons (eVar 0) (aCons (eVar 6) (nilA)))) (nilA)))) (sSeq (sSetL 9 (eLcV [14] (bName 14) (tst (ap2 eqD (frzL (eLc [13] (bName 13) (tst (ap2 ninD (eVar 13) (eVar 14))) (eVar 13) (ap1 itemsD (eVar 6)))) (eLst (nilA)))) (eC (.int 1)) 4)) (sSeq (sFrz 9) (sSeq (sAsg (bName 10) (ap2 eqD (apA lenD (aCons (eVar 6) (nilA))) (eC (.int 1)))) (sIf (mAnd (tst (ap2 eqD (eVar 9) (eLst (nilA)))) (mOr (tru (eVar 10)) (tst (ap2 leD (ap2 addD (ap2 addD (eVar 5) (eVar 8)) (ap2 mulD (eC (.int 3)) (apA lenD (aCons (eVar 3) (nilA))))) (eVar 2))))) (sSeq (sDrop (eApp 4 (eVar 6))) (sAsg (bName 5) (ap2 addD (eVar 5) (eVar 8)))) ((fun g => .ok .nx g)))))))
      [some (.d q), some (.d dr), some (.d (.int most)), some (.d nm), some (.ml false (gs.map mkG)), some (.d (.int size)), some (.d (mkG g)), none, o8, o9, o10, none, none, none, none] =
      .ok .nx [some (.d q), some (.d dr), some (.d (.int most)), some (.d nm), some (.ml false ((gStep qs most (gs, size) g).1.map mkG)), some (.d (.int (gStep qs most (gs, size) g).2)), some (.d (mkG g)), none, p8, p9, p10, none, none, none, none] := by
  have hz := sizeLine_big
  have hc := s_cells hq (nd := mkG g) rfl hd hin hg.1 hp
  have f8 : ∀ (a b c d e f h i : Option Tv) (r : Ga), freeAt (a :: b :: c :: d :: e :: f :: h :: i :: o8 :: r) 8 = true := fun _ _ _ _ _ _ _ _ _ => freeAt_dat (o := o8) rfl h8
  have f9 : ∀ (a b c d e f h i j : Option Tv) (r : Ga), freeAt (a :: b :: c :: d :: e :: f :: h :: i :: j :: o9 :: r) 9 = true := fun _ _ _ _ _ _ _ _ _ _ => freeAt_dat (o := o9) rfl h9
  have f10 : ∀ (a b c d e f h i j k : Option Tv) (r : Ga), freeAt (a :: b :: c :: d :: e :: f :: h :: i :: j :: k :: o10 :: r) 10 = true := fun _ _ _ _ _ _ _ _ _ _ _ => freeAt_dat (o := o10) rfl h10
  have ei := fun (a8 a9 a10 : Option Tv) => inside_comp (a0 := some (.d q)) (a1 := some (.d dr)) (a2 := some (.d (.int most))) (a3 := some (.d nm)) (a5 := some (.d (.int size))) (a7 := none) (a8 := a8) (a9 := a9) (a10 := a10) (a11 := none) (a12 := none) (gs := gs) hg (by omega)
  have e1 : eqD (.list ((gs.filter (under g)).map fun _ => PyData.int 1)) (.list []) = some (.bool (!gs.any (under g))) := by
    rw [eq_lnil (ones_gd _ (by have := List.length_filter_le (under g) gs; omega)) (by omega), List.isEmpty_map, filter_isEmpty]
  have el : lenD [mkG g] = some (.int (g.length : Int)) := by
    show some (PyData.int ((g.map PyData.str).length : Int)) = _
    rw [List.length_map]
  have e2 : ((g.length : Int) == 1) = decide (g.length = 1) := by
    rw [Bool.eq_iff_iff, beq_iff_eq, decide_eq_true_eq]
    omega
  have s3 : small 3 := ⟨by decide, by decide⟩
  have fa : fApp (gs.map mkG) (mkG g) = some (.none, gs.map mkG ++ [mkG g]) := fApp_ok (by rw [List.length_map]; omega)
  refine ⟨some (.d (.int ((rowsOf (g.map (cnt qs)) [[]]).length : Int))), some (.d (.list ((gs.filter (under g)).map fun _ => PyData.int 1))), some (.d (.bool (decide (g.length = 1)))), rfl, rfl, rfl, ?_⟩
  simp only [bind_ok, bind_exc, bnd_app, lift_some, eC_app, eVar_0, eVar_1, eVar_2, eVar_3, eVar_4, eVar_5, eVar_6, eVar_7, eVar_8, eVar_9, eVar_10, ap1_app, ap2_app, apA_app, aCons_app, nilA_app, tru_app, tst_app, asB_bool, truD_bool, truD_list, truD_tuple, mNot_app, mAnd_app, mOr_app, eNot_app, eAnd_app, eOr_app, andK_b, orK_b, eIf_app, eTup_app, eLst_app, lLst_app, frzL_app, eList_app, eSl_app, pN_app, pS_app, partD_int, chn_b, eChain_app, seq_nx, seq_ret, seq_brk, seq_cnt, seq_exc, sSeq_app, sRet_app, sDrop_app, sIf_app, sRaise_app, sAsg_name, sSetL_app, rxM_ok, rxM_exc, eCall_app, outP_ret, outP_nx, outP_exc, Option.map_some, len0, len1, len2, len3, len4, len5, len6, len7, len8, eq_self, sz0, sz1, sz2, sz3, sz4, sz5, sz6, sz7, sz8, sz9, sz10, sz11, freeAt_s, freeAt_n, freeAt_d, freeAt_m, sFrz_app, frzK_ml, List.getElem?_cons_zero, List.getElem?_cons_succ, List.set_cons_zero, List.set_cons_succ, sAsg_tup, asgK_some, bTup_app, bAll_nil, bAll_cons, bName_app, Option.bind_some, isMl_s, isMl_m, resK_some, onK_ml, eApp_app, ePop_app, eIdxV_app, eLenV_app, tTruV_app, sSetI_app, onL_app, fLen_ok, fTru_ok, rbK_ok, cbK_ml, eCB_cons, eCB_nil, List.nil_append, List.cons_append, outK_some, outR_ret, outR_nx, outB_s, outB_m, mConsD_app, mConsL_app, sPar_app, setAll_nil, setAll_cons, true_and, and_true, and_self, Bool.not_true, Bool.not_false, Bool.false_eq_true, reduceIte, hc, len_lst, List.length_map, f8, ei, f9, el, eq_int, e2, f10, e1]
  unfold gStep
  dsimp only
  cases ha : gs.any (under g)
  · simp only [bind_ok, bind_exc, bnd_app, lift_some, eC_app, eVar_0, eVar_1, eVar_2, eVar_3, eVar_4, eVar_5, eVar_6, eVar_7, eVar_8, eVar_9, eVar_10, ap1_app, ap2_app, apA_app, aCons_app, nilA_app, tru_app, tst_app, asB_bool, truD_bool, truD_list, truD_tuple, mNot_app, mAnd_app, mOr_app, eNot_app, eAnd_app, eOr_app, andK_b, orK_b, eIf_app, eTup_app, eLst_app, lLst_app, frzL_app, eList_app, eSl_app, pN_app, pS_app, partD_int, chn_b, eChain_app, seq_nx, seq_ret, seq_brk, seq_cnt, seq_exc, sSeq_app, sRet_app, sDrop_app, sIf_app, sRaise_app, sAsg_name, sSetL_app, rxM_ok, rxM_exc, eCall_app, outP_ret, outP_nx, outP_exc, Option.map_some, len0, len1, len2, len3, len4, len5, len6, len7, len8, eq_self, sz0, sz1, sz2, sz3, sz4, sz5, sz6, sz7, sz8, sz9, sz10, sz11, freeAt_s, freeAt_n, freeAt_d, freeAt_m, sFrz_app, frzK_ml, List.getElem?_cons_zero, List.getElem?_cons_succ, List.set_cons_zero, List.set_cons_succ, sAsg_tup, asgK_some, bTup_app, bAll_nil, bAll_cons, bName_app, Option.bind_some, isMl_s, isMl_m, resK_some, onK_ml, eApp_app, ePop_app, eIdxV_app, eLenV_app, tTruV_app, sSetI_app, onL_app, fLen_ok, fTru_ok, rbK_ok, cbK_ml, eCB_cons, eCB_nil, List.nil_append, List.cons_append, outK_some, outR_ret, outR_nx, outB_s, outB_m, mConsD_app, mConsL_app, sPar_app, setAll_nil, setAll_cons, true_and, and_true, and_self, Bool.not_true, Bool.not_false, Bool.false_eq_true, reduceIte, Bool.true_and]
    cases hs : decide (g.length = 1)
    · simp only [bind_ok, bind_exc, bnd_app, lift_some, eC_app, eVar_0, eVar_1, eVar_2, eVar_3, eVar_4, eVar_5, eVar_6, eVar_7, eVar_8, eVar_9, eVar_10, ap1_app, ap2_app, apA_app, aCons_app, nilA_app, tru_app, tst_app, asB_bool, truD_bool, truD_list, truD_tuple, mNot_app, mAnd_app, mOr_app, eNot_app, eAnd_app, eOr_app, andK_b, orK_b, eIf_app, eTup_app, eLst_app, lLst_app, frzL_app, eList_app, eSl_app, pN_app, pS_app, partD_int, chn_b, eChain_app, seq_nx, seq_ret, seq_brk, seq_cnt, seq_exc, sSeq_app, sRet_app, sDrop_app, sIf_app, sRaise_app, sAsg_name, sSetL_app, rxM_ok, rxM_exc, eCall_app, outP_ret, outP_nx, outP_exc, Option.map_some, len0, len1, len2, len3, len4, len5, len6, len7, len8, eq_self, sz0, sz1, sz2, sz3, sz4, sz5, sz6, sz7, sz8, sz9, sz10, sz11, freeAt_s, freeAt_n, freeAt_d, freeAt_m, sFrz_app, frzK_ml, List.getElem?_cons_zero, List.getElem?_cons_succ, List.set_cons_zero, List.set_cons_succ, sAsg_tup, asgK_some, bTup_app, bAll_nil, bAll_cons, bName_app, Option.bind_some, isMl_s, isMl_m, resK_some, onK_ml, eApp_app, ePop_app, eIdxV_app, eLenV_app, tTruV_app, sSetI_app, onL_app, fLen_ok, fTru_ok, rbK_ok, cbK_ml, eCB_cons, eCB_nil, List.nil_append, List.cons_append, outK_some, outR_ret, outR_nx, outB_s, outB_m, mConsD_app, mConsL_app, sPar_app, setAll_nil, setAll_cons, true_and, and_true, and_self, Bool.not_true, Bool.not_false, Bool.false_eq_true, reduceIte, Bool.false_or, hnm, add_int, mul_ok s3, le_int]
      by_cases hm : size + ((rowsOf (g.map (cnt qs)) [[]]).length : Int) + 3 * (qs.length : Int) ≤ most
      · simp only [hm, decide_true, bind_ok, bind_exc, bnd_app, lift_some, eC_app, eVar_0, eVar_1, eVar_2, eVar_3, eVar_4, eVar_5, eVar_6, eVar_7, eVar_8, eVar_9, eVar_10, ap1_app, ap2_app, apA_app, aCons_app, nilA_app, tru_app, tst_app, asB_bool, truD_bool, truD_list, truD_tuple, mNot_app, mAnd_app, mOr_app, eNot_app, eAnd_app, eOr_app, andK_b, orK_b, eIf_app, eTup_app, eLst_app, lLst_app, frzL_app, eList_app, eSl_app, pN_app, pS_app, partD_int, chn_b, eChain_app, seq_nx, seq_ret, seq_brk, seq_cnt, seq_exc, sSeq_app, sRet_app, sDrop_app, sIf_app, sRaise_app, sAsg_name, sSetL_app, rxM_ok, rxM_exc, eCall_app, outP_ret, outP_nx, outP_exc, Option.map_some, len0, len1, len2, len3, len4, len5, len6, len7, len8, eq_self, sz0, sz1, sz2, sz3, sz4, sz5, sz6, sz7, sz8, sz9, sz10, sz11, freeAt_s, freeAt_n, freeAt_d, freeAt_m, sFrz_app, frzK_ml, List.getElem?_cons_zero, List.getElem?_cons_succ, List.set_cons_zero, List.set_cons_succ, sAsg_tup, asgK_some, bTup_app, bAll_nil, bAll_cons, bName_app, Option.bind_some, isMl_s, isMl_m, resK_some, onK_ml, eApp_app, ePop_app, eIdxV_app, eLenV_app, tTruV_app, sSetI_app, onL_app, fLen_ok, fTru_ok, rbK_ok, cbK_ml, eCB_cons, eCB_nil, List.nil_append, List.cons_append, outK_some, outR_ret, outR_nx, outB_s, outB_m, mConsD_app, mConsL_app, sPar_app, setAll_nil, setAll_cons, true_and, and_true, and_self, Bool.not_true, Bool.not_false, Bool.false_eq_true, reduceIte, fa, add_int, List.map_append, List.map_cons, List.map_nil]
      · simp only [hm, decide_false, bind_ok, bind_exc, bnd_app, lift_some, eC_app, eVar_0, eVar_1, eVar_2, eVar_3, eVar_4, eVar_5, eVar_6, eVar_7, eVar_8, eVar_9, eVar_10, ap1_app, ap2_app, apA_app, aCons_app, nilA_app, tru_app, tst_app, asB_bool, truD_bool, truD_list, truD_tuple, mNot_app, mAnd_app, mOr_app, eNot_app, eAnd_app, eOr_app, andK_b, orK_b, eIf_app, eTup_app, eLst_app, lLst_app, frzL_app, eList_app, eSl_app, pN_app, pS_app, partD_int, chn_b, eChain_app, seq_nx, seq_ret, seq_brk, seq_cnt, seq_exc, sSeq_app, sRet_app, sDrop_app, sIf_app, sRaise_app, sAsg_name, sSetL_app, rxM_ok, rxM_exc, eCall_app, outP_ret, outP_nx, outP_exc, Option.map_some, len0, len1, len2, len3, len4, len5, len6, len7, len8, eq_self, sz0, sz1, sz2, sz3, sz4, sz5, sz6, sz7, sz8, sz9, sz10, sz11, freeAt_s, freeAt_n, freeAt_d, freeAt_m, sFrz_app, frzK_ml, List.getElem?_cons_zero, List.getElem?_cons_succ, List.set_cons_zero, List.set_cons_succ, sAsg_tup, asgK_some, bTup_app, bAll_nil, bAll_cons, bName_app, Option.bind_some, isMl_s, isMl_m, resK_some, onK_ml, eApp_app, ePop_app, eIdxV_app, eLenV_app, tTruV_app, sSetI_app, onL_app, fLen_ok, fTru_ok, rbK_ok, cbK_ml, eCB_cons, eCB_nil, List.nil_append, List.cons_append, outK_some, outR_ret, outR_nx, outB_s, outB_m, mConsD_app, mConsL_app, sPar_app, setAll_nil, setAll_cons, true_and, and_true, and_self, Bool.not_true, Bool.not_false, Bool.false_eq_true, reduceIte]
    · simp only [bind_ok, bind_exc, bnd_app, lift_some, eC_app, eVar_0, eVar_1, eVar_2, eVar_3, eVar_4, eVar_5, eVar_6, eVar_7, eVar_8, eVar_9, eVar_10, ap1_app, ap2_app, apA_app, aCons_app, nilA_app, tru_app, tst_app, asB_bool, truD_bool, truD_list, truD_tuple, mNot_app, mAnd_app, mOr_app, eNot_app, eAnd_app, eOr_app, andK_b, orK_b, eIf_app, eTup_app, eLst_app, lLst_app, frzL_app, eList_app, eSl_app, pN_app, pS_app, partD_int, chn_b, eChain_app, seq_nx, seq_ret, seq_brk, seq_cnt, seq_exc, sSeq_app, sRet_app, sDrop_app, sIf_app, sRaise_app, sAsg_name, sSetL_app, rxM_ok, rxM_exc, eCall_app, outP_ret, outP_nx, outP_exc, Option.map_some, len0, len1, len2, len3, len4, len5, len6, len7, len8, eq_self, sz0, sz1, sz2, sz3, sz4, sz5, sz6, sz7, sz8, sz9, sz10, sz11, freeAt_s, freeAt_n, freeAt_d, freeAt_m, sFrz_app, frzK_ml, List.getElem?_cons_zero, List.getElem?_cons_succ, List.set_cons_zero, List.set_cons_succ, sAsg_tup, asgK_some, bTup_app, bAll_nil, bAll_cons, bName_app, Option.bind_some, isMl_s, isMl_m, resK_some, onK_ml, eApp_app, ePop_app, eIdxV_app, eLenV_app, tTruV_app, sSetI_app, onL_app, fLen_ok, fTru_ok, rbK_ok, cbK_ml, eCB_cons, eCB_nil, List.nil_append, List.cons_append, outK_some, outR_ret, outR_nx, outB_s, outB_m, mConsD_app, mConsL_app, sPar_app, setAll_nil, setAll_cons, true_and, and_true, and_self, Bool.not_true, Bool.not_false, Bool.false_eq_true, reduceIte, Bool.true_or, fa, add_int, List.map_append, List.map_cons, List.map_nil]
  · simp only [bind_ok, bind_exc, bnd_app, lift_some, eC_app, eVar_0, eVar_1, eVar_2, eVar_3, eVar_4, eVar_5, eVar_6, eVar_7, eVar_8, eVar_9, eVar_10, ap1_app, ap2_app, apA_app, aCons_app, nilA_app, tru_app, tst_app, asB_bool, truD_bool, truD_list, truD_tuple, mNot_app, mAnd_app, mOr_app, eNot_app, eAnd_app, eOr_app, andK_b, orK_b, eIf_app, eTup_app, eLst_app, lLst_app, frzL_app, eList_app, eSl_app, pN_app, pS_app, partD_int, chn_b, eChain_app, seq_nx, seq_ret, seq_brk, seq_cnt, seq_exc, sSeq_app, sRet_app, sDrop_app, sIf_app, sRaise_app, sAsg_name, sSetL_app, rxM_ok, rxM_exc, eCall_app, outP_ret, outP_nx, outP_exc, Option.map_some, len0, len1, len2, len3, len4, len5, len6, len7, len8, eq_self, sz0, sz1, sz2, sz3, sz4, sz5, sz6, sz7, sz8, sz9, sz10, sz11, freeAt_s, freeAt_n, freeAt_d, freeAt_m, sFrz_app, frzK_ml, List.getElem?_cons_zero, List.getElem?_cons_succ, List.set_cons_zero, List.set_cons_succ, sAsg_tup, asgK_some, bTup_app, bAll_nil, bAll_cons, bName_app, Option.bind_some, isMl_s, isMl_m, resK_some, onK_ml, eApp_app, ePop_app, eIdxV_app, eLenV_app, tTruV_app, sSetI_app, onL_app, fLen_ok, fTru_ok, rbK_ok, cbK_ml, eCB_cons, eCB_nil, List.nil_append, List.cons_append, outK_some, outR_ret, outR_nx, outB_s, outB_m, mConsD_app, mConsL_app, sPar_app, setAll_nil, setAll_cons, true_and, and_true, and_self, Bool.not_true, Bool.not_false, Bool.false_eq_true, reduceIte, Bool.false_and]
theorem gStep_len (qs : List (Str × Int)) (most : Int) (st : List (List Str) × Int) (g : List Str) : (gStep qs most st g).1.length ≤ st.1.length + 1 := by
  unfold gStep
  split
  · simp
  · omega
theorem g_loop {q dr nm : D} {qs : List (Str × Int)} {most : Int} (hq : seqD q = some (qs.map mkQ)) (hnm : lenD [nm] = some (.int (qs.length : Int))) (hd : (qs.map (·.1)).Nodup) : ∀ (L : List (List Str)) (gs : List (List Str)) (size : Int) (o6' o8' o9' o10' : Option Tv), dat o6' = true → dat o8' = true → dat o9' = true → dat o10' = true →
    (∀ g ∈ L, (∀ z ∈ g, z ∈ qs.map (·.1) ∧ 1 ≤ cnt qs z ∧ cnt qs z ≤ 1000) ∧ gok g ∧ ((g.map (cnt qs)).map Int.toNat).prod ≤ 1000000) → gs.length + L.length ≤ 1000 →
    ∃ o6 o8 o9 o10, dat o6 = true ∧ loop (bName 6) (sSeq (sAsg (bName 8) (apA lenD (aCons (eCall 2 p__law_cells (aCons (eVar 0) (aCons (eVar 6) (nilA)))) (nilA)))) (sSeq (sSetL 9 (eLcV [14] (bName 14) (tst (ap2 eqD (frzL (eLc [13] (bName 13) (tst (ap2 ninD (eVar 13) (eVar 14))) (eVar 13) (ap1 itemsD (eVar 6)))) (eLst (nilA)))) (eC (.int 1)) 4)) (sSeq (sFrz 9) (sSeq (sAsg (bName 10) (ap2 eqD (apA lenD (aCons (eVar 6) (nilA))) (eC (.int 1)))) (sIf (mAnd (tst (ap2 eqD (eVar 9) (eLst (nilA)))) (mOr (tru (eVar 10)) (tst (ap2 leD (ap2 addD (ap2 addD (eVar 5) (eVar 8)) (ap2 mulD (eC (.int 3)) (apA lenD (aCons (eVar 3) (nilA))))) (eVar 2))))) (sSeq (sDrop (eApp 4 (eVar 6))) (sAsg (bName 5) (ap2 addD (eVar 5) (eVar 8)))) ((fun g => .ok .nx g))))))) (L.map mkG) [some (.d q), some (.d dr), some (.d (.int most)), some (.d nm), some (.ml false (gs.map mkG)), some (.d (.int size)), o6', none, o8', o9', o10', none, none, none, none] =
      .ok .nx [some (.d q), some (.d dr), some (.d (.int most)), some (.d nm), some (.ml false ((L.foldl (gStep qs most) (gs, size)).1.map mkG)), some (.d (.int (L.foldl (gStep qs most) (gs, size)).2)), o6, none, o8, o9, o10, none, none, none, none]
  | [], gs, size, o6', o8', o9', o10', h6, h8, h9, h10, _, _ => ⟨o6', o8', o9', o10', h6, rfl⟩
  | g :: L, gs, size, o6', o8', o9', o10', h6, h8, h9, h10, hL, hl => by
    obtain ⟨p1, p2, p3⟩ := hL g List.mem_cons_self
    rw [List.length_cons] at hl
    obtain ⟨a8, a9, a10, d8, d9, d10, e⟩ := g_body (dr := dr) (most := most) (size := size) (gs := gs) h8 h9 h10 hq hnm hd p1 p2 p3 (by omega)
    have hle := gStep_len qs most (gs, size) g
    obtain ⟨b6, b8, b9, b10, d6, e2⟩ := g_loop (dr := dr) hq hnm hd L (gStep qs most (gs, size) g).1 (gStep qs most (gs, size) g).2 (some (.d (mkG g))) a8 a9 a10 rfl d8 d9 d10 (fun g hg => hL g (List.mem_cons_of_mem _ hg)) (by dsimp only at hle; omega)
    refine ⟨b6, b8, b9, b10, d6, ?_⟩
    rw [List.map_cons, loop_cons, bName_dat (o := o6') rfl h6]
    simp only [List.set_cons_zero, List.set_cons_succ]
    rw [e]
    dsimp only
    rw [e2, List.foldl_cons]
theorem gd_mkG {g : List Str} (hg : gok g) : Gd 1 (mkG g) := by
  have hz := sizeLine_big
  refine ⟨by rw [List.length_map]; have := hg.1; omega, fun y hy => ?_⟩
  obtain ⟨z, hz, rfl⟩ := List.mem_map.mp hy
  exact hg.2 z hz
theorem eqvAll_strs : ∀ a b : List Str, PyData.eqvAll (a.map PyData.str) (b.map PyData.str) = (a == b)
  | [], [] => rfl
  | [], _ :: _ => rfl
  | _ :: _, [] => rfl
  | x :: a, y :: b => by
    rw [List.map_cons, List.map_cons, PyData.eqvAll, eqv_str, eqvAll_strs a b]
    rfl
theorem ne_mkG {a b : List Str} (ha : gok a) (hb : gok b) : neD (mkG a) (mkG b) = some (.bool (!(a == b))) := by
  rw [ne_gd (gd_mkG ha) (gd_mkG hb) (by omega), mkG, mkG, PyData.eqv, eqvAll_strs]
theorem mul_one_list (x : D) (b : Bool) : mulD (.list [x]) (.int (if b = true then 1 else 0)) = some (.list (if b = true then [x] else [])) := by
  cases b <;> rfl
theorem larger_comp {a0 a1 a2 a3 a5 a7 a8 a9 a10 a11 a12 : Option Tv} {g : List Str} {gs : List (List Str)} (hg : gok g) (hgs : ∀ o ∈ gs, gok o) (hl : gs.length ≤ sizeLine) :
    eLc [14] (bName 14) (mAnd (tst (ap2 neD (eVar 14) (eVar 6))) (tst (ap2 eqD (frzL (eLc [13] (bName 13) (tst (ap2 ninD (eVar 13) (eVar 14))) (eVar 13) (ap1 itemsD (eVar 6)))) (eLst (nilA))))) (eC (.int 1)) (ap1 itemsD (eVar 4)) [a0, a1, a2, a3, some (.d (.list (gs.map mkG))), a5, some (.d (mkG g)), a7, a8, a9, a10, a11, a12, none, none] =
      .ok ((gs.filter fun o => !(o == g) && under g o).map fun _ => PyData.int 1) [a0, a1, a2, a3, some (.d (.list (gs.map mkG))), a5, some (.d (mkG g)), a7, a8, a9, a10, a11, a12, none, none] := by
  refine lcF gs mkG (fun o => !(o == g) && under g o) (fun _ => PyData.int 1) rfl hl fun o ho => ⟨_, rfl, ?_, fun _ => rfl, rfl, rfl⟩
  have e14 : eVar 14 [a0, a1, a2, a3, some (.d (.list (gs.map mkG))), a5, some (.d (mkG g)), a7, a8, a9, a10, a11, a12, none, some (.d (mkG o))] = .ok (mkG o) [a0, a1, a2, a3, some (.d (.list (gs.map mkG))), a5, some (.d (mkG g)), a7, a8, a9, a10, a11, a12, none, some (.d (mkG o))] := rfl
  have et := in_test (a0 := a0) (a1 := a1) (a2 := a2) (a3 := a3) (a4 := some (.d (.list (gs.map mkG)))) (a5 := a5) (a7 := a7) (a8 := a8) (a9 := a9) (a10 := a10) (a11 := a11) (a12 := a12) (o := o) hg
  generalize (tst (ap2 eqD (frzL (eLc [13] (bName 13) (tst (ap2 ninD (eVar 13) (eVar 14))) (eVar 13) (ap1 itemsD (eVar 6)))) (eLst (nilA)))) = TT at et ⊢
  show mAnd (tst (ap2 neD (eVar 14) (eVar 6))) TT [a0, a1, a2, a3, some (.d (.list (gs.map mkG))), a5, some (.d (mkG g)), a7, a8, a9, a10, a11, a12, none, some (.d (mkG o))] = _
  simp only [bind_ok, bind_exc, bnd_app, lift_some, eC_app, eVar_0, eVar_1, eVar_2, eVar_3, eVar_4, eVar_5, eVar_6, eVar_7, eVar_8, eVar_9, eVar_10, ap1_app, ap2_app, apA_app, aCons_app, nilA_app, tru_app, tst_app, asB_bool, truD_bool, truD_list, truD_tuple, mNot_app, mAnd_app, mOr_app, eNot_app, eAnd_app, eOr_app, andK_b, orK_b, eIf_app, eTup_app, eLst_app, lLst_app, frzL_app, eList_app, eSl_app, pN_app, pS_app, partD_int, chn_b, eChain_app, seq_nx, seq_ret, seq_brk, seq_cnt, seq_exc, sSeq_app, sRet_app, sDrop_app, sIf_app, sRaise_app, sAsg_name, sSetL_app, rxM_ok, rxM_exc, eCall_app, outP_ret, outP_nx, outP_exc, Option.map_some, len0, len1, len2, len3, len4, len5, len6, len7, len8, eq_self, sz0, sz1, sz2, sz3, sz4, sz5, sz6, sz7, sz8, sz9, sz10, sz11, freeAt_s, freeAt_n, freeAt_d, freeAt_m, sFrz_app, frzK_ml, List.getElem?_cons_zero, List.getElem?_cons_succ, List.set_cons_zero, List.set_cons_succ, sAsg_tup, asgK_some, bTup_app, bAll_nil, bAll_cons, bName_app, Option.bind_some, isMl_s, isMl_m, resK_some, onK_ml, eApp_app, ePop_app, eIdxV_app, eLenV_app, tTruV_app, sSetI_app, onL_app, fLen_ok, fTru_ok, rbK_ok, cbK_ml, eCB_cons, eCB_nil, List.nil_append, List.cons_append, outK_some, outR_ret, outR_nx, outB_s, outB_m, mConsD_app, mConsL_app, sPar_app, setAll_nil, setAll_cons, true_and, and_true, and_self, Bool.not_true, Bool.not_false, Bool.false_eq_true, reduceIte, e14, ne_mkG (hgs o ho) hg]
  cases ho : o == g
  · simp only [bind_ok, bind_exc, bnd_app, lift_some, eC_app, eVar_0, eVar_1, eVar_2, eVar_3, eVar_4, eVar_5, eVar_6, eVar_7, eVar_8, eVar_9, eVar_10, ap1_app, ap2_app, apA_app, aCons_app, nilA_app, tru_app, tst_app, asB_bool, truD_bool, truD_list, truD_tuple, mNot_app, mAnd_app, mOr_app, eNot_app, eAnd_app, eOr_app, andK_b, orK_b, eIf_app, eTup_app, eLst_app, lLst_app, frzL_app, eList_app, eSl_app, pN_app, pS_app, partD_int, chn_b, eChain_app, seq_nx, seq_ret, seq_brk, seq_cnt, seq_exc, sSeq_app, sRet_app, sDrop_app, sIf_app, sRaise_app, sAsg_name, sSetL_app, rxM_ok, rxM_exc, eCall_app, outP_ret, outP_nx, outP_exc, Option.map_some, len0, len1, len2, len3, len4, len5, len6, len7, len8, eq_self, sz0, sz1, sz2, sz3, sz4, sz5, sz6, sz7, sz8, sz9, sz10, sz11, freeAt_s, freeAt_n, freeAt_d, freeAt_m, sFrz_app, frzK_ml, List.getElem?_cons_zero, List.getElem?_cons_succ, List.set_cons_zero, List.set_cons_succ, sAsg_tup, asgK_some, bTup_app, bAll_nil, bAll_cons, bName_app, Option.bind_some, isMl_s, isMl_m, resK_some, onK_ml, eApp_app, ePop_app, eIdxV_app, eLenV_app, tTruV_app, sSetI_app, onL_app, fLen_ok, fTru_ok, rbK_ok, cbK_ml, eCB_cons, eCB_nil, List.nil_append, List.cons_append, outK_some, outR_ret, outR_nx, outB_s, outB_m, mConsD_app, mConsL_app, sPar_app, setAll_nil, setAll_cons, true_and, and_true, and_self, Bool.not_true, Bool.not_false, Bool.false_eq_true, reduceIte, et]
    rfl
  · simp only [bind_ok, bind_exc, bnd_app, lift_some, eC_app, eVar_0, eVar_1, eVar_2, eVar_3, eVar_4, eVar_5, eVar_6, eVar_7, eVar_8, eVar_9, eVar_10, ap1_app, ap2_app, apA_app, aCons_app, nilA_app, tru_app, tst_app, asB_bool, truD_bool, truD_list, truD_tuple, mNot_app, mAnd_app, mOr_app, eNot_app, eAnd_app, eOr_app, andK_b, orK_b, eIf_app, eTup_app, eLst_app, lLst_app, frzL_app, eList_app, eSl_app, pN_app, pS_app, partD_int, chn_b, eChain_app, seq_nx, seq_ret, seq_brk, seq_cnt, seq_exc, sSeq_app, sRet_app, sDrop_app, sIf_app, sRaise_app, sAsg_name, sSetL_app, rxM_ok, rxM_exc, eCall_app, outP_ret, outP_nx, outP_exc, Option.map_some, len0, len1, len2, len3, len4, len5, len6, len7, len8, eq_self, sz0, sz1, sz2, sz3, sz4, sz5, sz6, sz7, sz8, sz9, sz10, sz11, freeAt_s, freeAt_n, freeAt_d, freeAt_m, sFrz_app, frzK_ml, List.getElem?_cons_zero, List.getElem?_cons_succ, List.set_cons_zero, List.set_cons_succ, sAsg_tup, asgK_some, bTup_app, bAll_nil, bAll_cons, bName_app, Option.bind_some, isMl_s, isMl_m, resK_some, onK_ml, eApp_app, ePop_app, eIdxV_app, eLenV_app, tTruV_app, sSetI_app, onL_app, fLen_ok, fTru_ok, rbK_ok, cbK_ml, eCB_cons, eCB_nil, List.nil_append, List.cons_append, outK_some, outR_ret, outR_nx, outB_s, outB_m, mConsD_app, mConsL_app, sPar_app, setAll_nil, setAll_cons, true_and, and_true, and_self, Bool.not_true, Bool.not_false, Bool.false_eq_true, reduceIte]
    rfl
theorem kept_loop {a0 a1 a2 a3 a5 a8 a9 a10 : Option Tv} {gs : List (List Str)} (hgs : ∀ o ∈ gs, gok o) (hl : gs.length ≤ 1000) : ∀ (L acc : List (List Str)) (o6 o11 : Option Tv), dat o6 = true → dat o11 = true → (∀ g ∈ L, gok g) → acc.length + L.length ≤ 1000 →
    ∃ p6 p11, loop (bName 6) (sSeq (sSetL 11 (eLc [14] (bName 14) (mAnd (tst (ap2 neD (eVar 14) (eVar 6))) (tst (ap2 eqD (frzL (eLc [13] (bName 13) (tst (ap2 ninD (eVar 13) (eVar 14))) (eVar 13) (ap1 itemsD (eVar 6)))) (eLst (nilA))))) (eC (.int 1)) (ap1 itemsD (eVar 4)))) (sSeq (sFrz 11) (sAsg (bName 7) (ap2 addD (eVar 7) (ap2 mulD (eLst (aCons (eVar 6) (nilA))) (apA intD (aCons (ap2 eqD (eVar 11) (eLst (nilA))) (nilA)))))))) (L.map mkG) [a0, a1, a2, a3, some (.d (.list (gs.map mkG))), a5, o6, some (.d (.list (acc.map mkG))), a8, a9, a10, o11, none, none, none] =
      .ok .nx [a0, a1, a2, a3, some (.d (.list (gs.map mkG))), a5, p6, some (.d (.list ((acc ++ L.filter fun g => !(gs.any fun o => !(o == g) && under g o)).map mkG))), a8, a9, a10, p11, none, none, none]
  | [], acc, o6, o11, _, _, _, _ => ⟨o6, o11, by rw [List.filter_nil, List.append_nil]; rfl⟩
  | g :: L, acc, o6, o11, h6, h11, hL, hla => by
    have hz := sizeLine_big
    rw [List.length_cons] at hla
    have hg := hL g List.mem_cons_self
    have ec := fun (x11 : Option Tv) => larger_comp (a0 := a0) (a1 := a1) (a2 := a2) (a3 := a3) (a5 := a5) (a7 := some (.d (.list (acc.map mkG)))) (a8 := a8) (a9 := a9) (a10 := a10) (a11 := x11) (a12 := none) hg hgs (by omega)
    have f11 : ∀ (a b c d e f h i j k l : Option Tv) (r : Ga), freeAt (a :: b :: c :: d :: e :: f :: h :: i :: j :: k :: l :: o11 :: r) 11 = true := fun _ _ _ _ _ _ _ _ _ _ _ _ => freeAt_dat (o := o11) rfl h11
    have e1 : eqD (.list ((gs.filter fun o => !(o == g) && under g o).map fun _ => PyData.int 1)) (.list []) = some (.bool (!gs.any fun o => !(o == g) && under g o)) := by
      rw [eq_lnil (ones_gd _ (by have := List.length_filter_le (fun o => !(o == g) && under g o) gs; omega)) (by omega), List.isEmpty_map, filter_isEmpty]
    have ev : ∀ x : D, eVar 11 [a0, a1, a2, a3, some (.d (.list (gs.map mkG))), a5, some (.d (mkG g)), some (.d (.list (acc.map mkG))), a8, a9, a10, some (.d x), none, none, none] = .ok x [a0, a1, a2, a3, some (.d (.list (gs.map mkG))), a5, some (.d (mkG g)), some (.d (.list (acc.map mkG))), a8, a9, a10, some (.d x), none, none, none] := fun _ => rfl
    have ea : addD (.list (acc.map mkG)) (.list (if (!gs.any fun o => !(o == g) && under g o) = true then [mkG g] else [])) = some (.list ((acc ++ if (!gs.any fun o => !(o == g) && under g o) = true then [g] else []).map mkG)) := by
      rw [add_lists]
      · rw [List.map_append]
        cases (!gs.any fun o => !(o == g) && under g o) <;> rfl
      · rw [List.length_map]
        cases (!gs.any fun o => !(o == g) && under g o) <;> simp <;> omega
    obtain ⟨p6, p11, e⟩ := kept_loop (a0 := a0) (a1 := a1) (a2 := a2) (a3 := a3) (a5 := a5) (a8 := a8) (a9 := a9) (a10 := a10) hgs hl L (acc ++ if (!gs.any fun o => !(o == g) && under g o) = true then [g] else []) (some (.d (mkG g))) (some (.d (.list ((gs.filter fun o => !(o == g) && under g o).map fun _ => PyData.int 1)))) rfl rfl (fun g hg => hL g (List.mem_cons_of_mem _ hg)) (by
      cases (!gs.any fun o => !(o == g) && under g o) <;> simp <;> omega)
    refine ⟨p6, p11, ?_⟩
    rw [List.map_cons, loop_cons, bName_dat (o := o6) rfl h6]
    simp only [List.set_cons_zero, List.set_cons_succ]
    simp only [bind_ok, bind_exc, bnd_app, lift_some, eC_app, eVar_0, eVar_1, eVar_2, eVar_3, eVar_4, eVar_5, eVar_6, eVar_7, eVar_8, eVar_9, eVar_10, ap1_app, ap2_app, apA_app, aCons_app, nilA_app, tru_app, tst_app, asB_bool, truD_bool, truD_list, truD_tuple, mNot_app, mAnd_app, mOr_app, eNot_app, eAnd_app, eOr_app, andK_b, orK_b, eIf_app, eTup_app, eLst_app, lLst_app, frzL_app, eList_app, eSl_app, pN_app, pS_app, partD_int, chn_b, eChain_app, seq_nx, seq_ret, seq_brk, seq_cnt, seq_exc, sSeq_app, sRet_app, sDrop_app, sIf_app, sRaise_app, sAsg_name, sSetL_app, rxM_ok, rxM_exc, eCall_app, outP_ret, outP_nx, outP_exc, Option.map_some, len0, len1, len2, len3, len4, len5, len6, len7, len8, eq_self, sz0, sz1, sz2, sz3, sz4, sz5, sz6, sz7, sz8, sz9, sz10, sz11, freeAt_s, freeAt_n, freeAt_d, freeAt_m, sFrz_app, frzK_ml, List.getElem?_cons_zero, List.getElem?_cons_succ, List.set_cons_zero, List.set_cons_succ, sAsg_tup, asgK_some, bTup_app, bAll_nil, bAll_cons, bName_app, Option.bind_some, isMl_s, isMl_m, resK_some, onK_ml, eApp_app, ePop_app, eIdxV_app, eLenV_app, tTruV_app, sSetI_app, onL_app, fLen_ok, fTru_ok, rbK_ok, cbK_ml, eCB_cons, eCB_nil, List.nil_append, List.cons_append, outK_some, outR_ret, outR_nx, outB_s, outB_m, mConsD_app, mConsL_app, sPar_app, setAll_nil, setAll_cons, true_and, and_true, and_self, Bool.not_true, Bool.not_false, Bool.false_eq_true, reduceIte, ec, f11, ev, e1, intD, mul_one_list, ea]
    rw [e, List.filter_cons]
    cases (!gs.any fun o => !(o == g) && under g o)
    · simp
    · simp
/-! ### sorting groups, names -/
def gLe (a b : List Str) : Bool := !PySem.W.dataLt (mkG b) (mkG a)
def sortG (ks : List (List Str)) : List (List Str) := ks.mergeSort gLe
theorem sortD_G (ks : List (List Str)) : sortD (ks.map mkG) = (sortG ks).map mkG := (PySem.W.sort_maps (r := gLe) (s := fun a b : D => !PySem.W.dataLt b a) mkG (fun _ _ _ _ => rfl)).symm
theorem srtOk_G {ks : List (List Str)} (h : ∀ g ∈ ks, g ≠ []) : srtOk (ks.map mkG) = true := by
  simp only [srtOk, Bool.and_eq_true, decide_eq_true_eq, Bool.or_eq_true]
  refine ⟨(plainAll_iff _).mpr fun y hy => ?_, ?_, ?_, .inl ?_⟩
  · obtain ⟨g, _, rfl⟩ := List.mem_map.mp hy
    rw [mkG, PyData.plain]
    exact plain_strs id g
  · simp only [alkB, List.all_eq_true]
    intro x hx y hy
    obtain ⟨a, _, rfl⟩ := List.mem_map.mp hx
    obtain ⟨b, _, rfl⟩ := List.mem_map.mp hy
    rw [mkG, mkG, PySem.W.alike]
    exact alikeAll_strs a b
  · refine depthAll_le _ fun y hy => ?_
    obtain ⟨g, _, rfl⟩ := List.mem_map.mp hy
    rw [mkG, PyData.depth]
    have := depthAll_le (n := 1) (g.map PyData.str) fun y hy => by
      obtain ⟨z, _, rfl⟩ := List.mem_map.mp hy
      simp [PyData.depth]
    omega
  · rw [List.all_eq_true]
    intro y hy
    obtain ⟨g, hg, rfl⟩ := List.mem_map.mp hy
    cases g with
    | nil => exact absurd rfl (h [] hg)
    | cons z g => rfl
theorem tup_list (xs : List D) : tupD [.list xs] = some (.tuple xs) := rfl
theorem s_groups_from {qs : List (Str × Int)} {drawn : List (List Str)} {most : Int} (hd : (qs.map (·.1)).Nodup) (hq : ∀ q ∈ qs, 1 ≤ q.2 ∧ q.2 ≤ 1000 ∧ q.1.length ≤ sizeLine) (hql : qs.length ≤ 100) (hdl : drawn.length ≤ 100)
    (hdr : ∀ g ∈ drawn, g ≠ [] ∧ (∀ z ∈ g, z ∈ qs.map (·.1)) ∧ g.length ≤ 100 ∧ ((g.map (cnt qs)).map Int.toNat).prod ≤ 1000000) :
    p__law_groups_from [.list (qs.map mkQ), .list (drawn.map mkG), .int most] = .ok (.tuple ((sortG (keptOf (gAll qs most drawn).1)).map mkG)) := by
  have hz := sizeLine_big
  have hcnt : ∀ z ∈ qs.map (·.1), 1 ≤ cnt qs z ∧ cnt qs z ≤ 1000 := fun z hz => by
    unfold cnt
    cases hf : qs.find? fun q => q.1 == z with
    | none =>
      obtain ⟨q, hq1, rfl⟩ := List.mem_map.mp hz
      rw [List.find?_eq_none] at hf
      exact absurd (beq_self_eq_true q.1) (hf q hq1)
    | some p =>
      have := hq p (List.mem_of_find?_eq_some hf)
      exact ⟨this.1, this.2.1⟩
  have hlen : ∀ z ∈ qs.map (·.1), z.length ≤ sizeLine := fun z hz => by
    obtain ⟨q, hq1, rfl⟩ := List.mem_map.mp hz
    exact (hq q hq1).2.2
  have e12 : ∀ (a b c d e f h i j k l m n o : Option Tv) (x : D), eVar 12 [a, b, c, d, e, f, h, i, j, k, l, m, some (.d x), n, o] = .ok x [a, b, c, d, e, f, h, i, j, k, l, m, some (.d x), n, o] := fun _ _ _ _ _ _ _ _ _ _ _ _ _ _ _ => rfl
  have e13 : ∀ (a b c d e f h i j k l m n o : Option Tv) (x : D), eVar 13 [a, b, c, d, e, f, h, i, j, k, l, m, n, some (.d x), o] = .ok x [a, b, c, d, e, f, h, i, j, k, l, m, n, some (.d x), o] := fun _ _ _ _ _ _ _ _ _ _ _ _ _ _ _ => rfl
  have c12 : eLc [12] (bName 12) (tAll) (ap2 ixD (eVar 12) (eC (.int 0))) (ap1 itemsD (eVar 0)) [some (.d (.list (qs.map mkQ))), some (.d (.list (drawn.map mkG))), some (.d (.int most)), none, none, none, none, none, none, none, none, none, none, none, none] = .ok ((qs.map (·.1)).map PyData.str) [some (.d (.list (qs.map mkQ))), some (.d (.list (drawn.map mkG))), some (.d (.int most)), none, none, none, none, none, none, none, none, none, none, none, none] := by
    rw [List.map_map]
    refine lcM qs mkQ _ rfl (by omega) fun q hq => ⟨_, rfl, ?_, rfl, rfl⟩
    show ap2 ixD (eVar 12) (eC (.int 0)) [some (.d (.list (qs.map mkQ))), some (.d (.list (drawn.map mkG))), some (.d (.int most)), none, none, none, none, none, none, none, none, none, some (.d (mkQ q)), none, none] = _
    simp only [bind_ok, bind_exc, bnd_app, lift_some, eC_app, eVar_0, eVar_1, eVar_2, eVar_3, eVar_4, eVar_5, eVar_6, eVar_7, eVar_8, eVar_9, eVar_10, ap1_app, ap2_app, apA_app, aCons_app, nilA_app, tru_app, tst_app, asB_bool, truD_bool, truD_list, truD_tuple, mNot_app, mAnd_app, mOr_app, eNot_app, eAnd_app, eOr_app, andK_b, orK_b, eIf_app, eTup_app, eLst_app, lLst_app, frzL_app, eList_app, eSl_app, pN_app, pS_app, partD_int, chn_b, eChain_app, seq_nx, seq_ret, seq_brk, seq_cnt, seq_exc, sSeq_app, sRet_app, sDrop_app, sIf_app, sRaise_app, sAsg_name, sSetL_app, rxM_ok, rxM_exc, eCall_app, outP_ret, outP_nx, outP_exc, Option.map_some, len0, len1, len2, len3, len4, len5, len6, len7, len8, eq_self, sz0, sz1, sz2, sz3, sz4, sz5, sz6, sz7, sz8, sz9, sz10, sz11, freeAt_s, freeAt_n, freeAt_d, freeAt_m, sFrz_app, frzK_ml, List.getElem?_cons_zero, List.getElem?_cons_succ, List.set_cons_zero, List.set_cons_succ, sAsg_tup, asgK_some, bTup_app, bAll_nil, bAll_cons, bName_app, Option.bind_some, isMl_s, isMl_m, resK_some, onK_ml, eApp_app, ePop_app, eIdxV_app, eLenV_app, tTruV_app, sSetI_app, onL_app, fLen_ok, fTru_ok, rbK_ok, cbK_ml, eCB_cons, eCB_nil, List.nil_append, List.cons_append, outK_some, outR_ret, outR_nx, outB_s, outB_m, mConsD_app, mConsL_app, sPar_app, setAll_nil, setAll_cons, true_and, and_true, and_self, Bool.not_true, Bool.not_false, Bool.false_eq_true, reduceIte, e12, mkQ, ix_t0]
    rfl
  have c13 : eLc [13] (bName 13) (tAll) (eTup (aCons (eVar 13) (nilA))) (ap1 itemsD (eVar 3)) [some (.d (.list (qs.map mkQ))), some (.d (.list (drawn.map mkG))), some (.d (.int most)), some (.d (.list ((qs.map (·.1)).map PyData.str))), some (.ml false []), some (.d (.int 0)), none, none, none, none, none, none, none, none, none] = .ok (((qs.map (·.1)).map fun z => [z]).map mkG) [some (.d (.list (qs.map mkQ))), some (.d (.list (drawn.map mkG))), some (.d (.int most)), some (.d (.list ((qs.map (·.1)).map PyData.str))), some (.ml false []), some (.d (.int 0)), none, none, none, none, none, none, none, none, none] := by
    rw [show (((qs.map (·.1)).map fun z => [z]).map mkG) = (qs.map (·.1)).map fun z => mkG [z] from List.map_map]
    refine lcM (qs.map fun q : Str × Int => q.1) PyData.str (fun z => mkG [z]) (by rfl) (by rw [List.length_map]; omega) (fun z hz => ⟨_, by rfl, ?_, by rfl, by rfl⟩)
    show eTup (aCons (eVar 13) (nilA)) [some (.d (.list (qs.map mkQ))), some (.d (.list (drawn.map mkG))), some (.d (.int most)), some (.d (.list ((qs.map (·.1)).map PyData.str))), some (.ml false []), some (.d (.int 0)), none, none, none, none, none, none, none, some (.d (.str z)), none] = _
    simp only [bind_ok, bind_exc, bnd_app, lift_some, eC_app, eVar_0, eVar_1, eVar_2, eVar_3, eVar_4, eVar_5, eVar_6, eVar_7, eVar_8, eVar_9, eVar_10, ap1_app, ap2_app, apA_app, aCons_app, nilA_app, tru_app, tst_app, asB_bool, truD_bool, truD_list, truD_tuple, mNot_app, mAnd_app, mOr_app, eNot_app, eAnd_app, eOr_app, andK_b, orK_b, eIf_app, eTup_app, eLst_app, lLst_app, frzL_app, eList_app, eSl_app, pN_app, pS_app, partD_int, chn_b, eChain_app, seq_nx, seq_ret, seq_brk, seq_cnt, seq_exc, sSeq_app, sRet_app, sDrop_app, sIf_app, sRaise_app, sAsg_name, sSetL_app, rxM_ok, rxM_exc, eCall_app, outP_ret, outP_nx, outP_exc, Option.map_some, len0, len1, len2, len3, len4, len5, len6, len7, len8, eq_self, sz0, sz1, sz2, sz3, sz4, sz5, sz6, sz7, sz8, sz9, sz10, sz11, freeAt_s, freeAt_n, freeAt_d, freeAt_m, sFrz_app, frzK_ml, List.getElem?_cons_zero, List.getElem?_cons_succ, List.set_cons_zero, List.set_cons_succ, sAsg_tup, asgK_some, bTup_app, bAll_nil, bAll_cons, bName_app, Option.bind_some, isMl_s, isMl_m, resK_some, onK_ml, eApp_app, ePop_app, eIdxV_app, eLenV_app, tTruV_app, sSetI_app, onL_app, fLen_ok, fTru_ok, rbK_ok, cbK_ml, eCB_cons, eCB_nil, List.nil_append, List.cons_append, outK_some, outR_ret, outR_nx, outB_s, outB_m, mConsD_app, mConsL_app, sPar_app, setAll_nil, setAll_cons, true_and, and_true, and_self, Bool.not_true, Bool.not_false, Bool.false_eq_true, reduceIte, e13]
    rfl
  have hL : ∀ g ∈ drawn ++ (qs.map (·.1)).map fun z => [z], (∀ z ∈ g, z ∈ qs.map (·.1) ∧ 1 ≤ cnt qs z ∧ cnt qs z ≤ 1000) ∧ gok g ∧ ((g.map (cnt qs)).map Int.toNat).prod ≤ 1000000 ∧ g ≠ [] := by
    intro g hg
    rcases List.mem_append.mp hg with hg | hg
    · obtain ⟨h1, h2, h3, h4⟩ := hdr g hg
      exact ⟨fun z hz => ⟨h2 z hz, hcnt z (h2 z hz)⟩, ⟨by omega, fun z hz => hlen z (h2 z hz)⟩, h4, h1⟩
    · obtain ⟨z, hz, rfl⟩ := List.mem_map.mp hg
      have := hcnt z hz
      refine ⟨fun y hy => ?_, ⟨by simp, fun y hy => ?_⟩, ?_, by simp⟩
      · rw [List.mem_singleton] at hy
        subst hy
        exact ⟨hz, this⟩
      · rw [List.mem_singleton] at hy
        subst hy
        exact hlen _ hz
      · simp
        omega
  have hLl : (drawn ++ (qs.map (·.1)).map fun z => [z]).length ≤ 200 := by
    simp only [List.length_append, List.length_map]
    omega
  obtain ⟨o6, o8, o9, o10, d6, e⟩ := g_loop (dr := .list (drawn.map mkG)) (nm := .list ((qs.map (·.1)).map PyData.str)) (most := most) (q := .list (qs.map mkQ)) rfl (by rw [len_lst, List.length_map, List.length_map]) hd (drawn ++ (qs.map (·.1)).map fun z => [z]) [] 0 none none none none rfl rfl rfl rfl (fun g hg => ⟨(hL g hg).1, (hL g hg).2.1, (hL g hg).2.2.1⟩) (by simp only [List.length_nil]; omega)
  have hsub : ∀ (L : List (List Str)) (st : List (List Str) × Int), (∀ g ∈ (L.foldl (gStep qs most) st).1, g ∈ st.1 ∨ g ∈ L) ∧ (L.foldl (gStep qs most) st).1.length ≤ st.1.length + L.length := by
    intro L
    induction L with
    | nil => exact fun st => ⟨fun g h => .inl h, by simp⟩
    | cons g L ih =>
      intro st
      obtain ⟨i1, i2⟩ := ih (gStep qs most st g)
      have hle := gStep_len qs most st g
      refine ⟨fun y hy => ?_, ?_⟩
      · rcases i1 y hy with h | h
        · unfold gStep at h
          split at h
          · rcases List.mem_append.mp h with h | h
            · exact .inl h
            · rw [List.mem_singleton] at h
              exact .inr (by rw [h]; exact List.mem_cons_self)
          · exact .inl h
        · exact .inr (List.mem_cons_of_mem _ h)
      · rw [List.foldl_cons, List.length_cons]
        omega
  obtain ⟨hs1, hs2⟩ := hsub (drawn ++ (qs.map (·.1)).map fun z => [z]) ([], 0)
  have hgs : ∀ g ∈ (gAll qs most drawn).1, gok g ∧ g ≠ [] := fun g hg => by
    rcases hs1 g hg with h | h
    · cases h
    · exact ⟨(hL g h).2.1, (hL g h).2.2.2⟩
  have hgl : (gAll qs most drawn).1.length ≤ 200 := by
    unfold gAll
    simp only [List.length_nil] at hs2
    omega
  obtain ⟨p6, p11, e2⟩ := kept_loop (a0 := some (.d (.list (qs.map mkQ)))) (a1 := some (.d (.list (drawn.map mkG)))) (a2 := some (.d (.int most))) (a3 := some (.d (.list ((qs.map (·.1)).map PyData.str)))) (a5 := some (.d (.int (gAll qs most drawn).2))) (a8 := o8) (a9 := o9) (a10 := o10) (gs := (gAll qs most drawn).1) (fun o ho => (hgs o ho).1) (by omega) (gAll qs most drawn).1 [] o6 none d6 rfl (fun o ho => (hgs o ho).1) (by simp only [List.length_nil]; omega)
  have hso : srtOk ((keptOf (gAll qs most drawn).1).map mkG) = true := srtOk_G fun g hg => (hgs g (List.mem_filter.mp hg).1).2
  have es : sortedD [.list ((keptOf (gAll qs most drawn).1).map mkG)] = some (.list ((sortG (keptOf (gAll qs most drawn).1)).map mkG)) := by
    show (if srtOk _ = true then some (sortD _) else none).map _ = _
    rw [if_pos hso, sortD_G]
    rfl
  have ea : addD (.list (drawn.map mkG)) (.list (((qs.map (·.1)).map fun z => [z]).map mkG)) = some (.list ((drawn ++ (qs.map (·.1)).map fun z => [z]).map mkG)) := by
    rw [add_lists (by simp only [List.length_map]; omega), List.map_append]
  rw [p__law_groups_from, runP_out, m__law_groups_from, show dsG [.list (qs.map mkQ), .list (drawn.map mkG), .int most] 15 = [some (.d (.list (qs.map mkQ))), some (.d (.list (drawn.map mkG))), some (.d (.int most)), none, none, none, none, none, none, none, none, none, none, none, none] from rfl]
  have ev7 : ∀ x, eVar 7 [some (.d (.list (qs.map mkQ))), some (.d (.list (drawn.map mkG))), some (.d (.int most)), some (.d (.list ((qs.map (·.1)).map PyData.str))), some (.d (.list ((gAll qs most drawn).1.map mkG))), some (.d (.int (gAll qs most drawn).2)), p6, some (.d x), o8, o9, o10, p11, none, none, none] = .ok x [some (.d (.list (qs.map mkQ))), some (.d (.list (drawn.map mkG))), some (.d (.int most)), some (.d (.list ((qs.map (·.1)).map PyData.str))), some (.d (.list ((gAll qs most drawn).1.map mkG))), some (.d (.int (gAll qs most drawn).2)), p6, some (.d x), o8, o9, o10, p11, none, none, none] := fun _ => rfl
  simp only [bind_ok, bind_exc, bnd_app, lift_some, eC_app, eVar_0, eVar_1, eVar_2, eVar_3, eVar_4, eVar_5, eVar_6, eVar_7, eVar_8, eVar_9, eVar_10, ap1_app, ap2_app, apA_app, aCons_app, nilA_app, tru_app, tst_app, asB_bool, truD_bool, truD_list, truD_tuple, mNot_app, mAnd_app, mOr_app, eNot_app, eAnd_app, eOr_app, andK_b, orK_b, eIf_app, eTup_app, eLst_app, lLst_app, frzL_app, eList_app, eSl_app, pN_app, pS_app, partD_int, chn_b, eChain_app, seq_nx, seq_ret, seq_brk, seq_cnt, seq_exc, sSeq_app, sRet_app, sDrop_app, sIf_app, sRaise_app, sAsg_name, sSetL_app, rxM_ok, rxM_exc, eCall_app, outP_ret, outP_nx, outP_exc, Option.map_some, len0, len1, len2, len3, len4, len5, len6, len7, len8, eq_self, sz0, sz1, sz2, sz3, sz4, sz5, sz6, sz7, sz8, sz9, sz10, sz11, freeAt_s, freeAt_n, freeAt_d, freeAt_m, sFrz_app, frzK_ml, List.getElem?_cons_zero, List.getElem?_cons_succ, List.set_cons_zero, List.set_cons_succ, sAsg_tup, asgK_some, bTup_app, bAll_nil, bAll_cons, bName_app, Option.bind_some, isMl_s, isMl_m, resK_some, onK_ml, eApp_app, ePop_app, eIdxV_app, eLenV_app, tTruV_app, sSetI_app, onL_app, fLen_ok, fTru_ok, rbK_ok, cbK_ml, eCB_cons, eCB_nil, List.nil_append, List.cons_append, outK_some, outR_ret, outR_nx, outB_s, outB_m, mConsD_app, mConsL_app, sPar_app, setAll_nil, setAll_cons, true_and, and_true, and_self, Bool.not_true, Bool.not_false, Bool.false_eq_true, reduceIte, c12, sFor_app, c13, ea, itemsD]
  rw [List.map_nil] at e
  rw [List.map_nil, List.nil_append] at e2
  simp only [e, bind_ok, bind_exc, bnd_app, lift_some, eC_app, eVar_0, eVar_1, eVar_2, eVar_3, eVar_4, eVar_5, eVar_6, eVar_7, eVar_8, eVar_9, eVar_10, ap1_app, ap2_app, apA_app, aCons_app, nilA_app, tru_app, tst_app, asB_bool, truD_bool, truD_list, truD_tuple, mNot_app, mAnd_app, mOr_app, eNot_app, eAnd_app, eOr_app, andK_b, orK_b, eIf_app, eTup_app, eLst_app, lLst_app, frzL_app, eList_app, eSl_app, pN_app, pS_app, partD_int, chn_b, eChain_app, seq_nx, seq_ret, seq_brk, seq_cnt, seq_exc, sSeq_app, sRet_app, sDrop_app, sIf_app, sRaise_app, sAsg_name, sSetL_app, rxM_ok, rxM_exc, eCall_app, outP_ret, outP_nx, outP_exc, Option.map_some, len0, len1, len2, len3, len4, len5, len6, len7, len8, eq_self, sz0, sz1, sz2, sz3, sz4, sz5, sz6, sz7, sz8, sz9, sz10, sz11, freeAt_s, freeAt_n, freeAt_d, freeAt_m, sFrz_app, frzK_ml, List.getElem?_cons_zero, List.getElem?_cons_succ, List.set_cons_zero, List.set_cons_succ, sAsg_tup, asgK_some, bTup_app, bAll_nil, bAll_cons, bName_app, Option.bind_some, isMl_s, isMl_m, resK_some, onK_ml, eApp_app, ePop_app, eIdxV_app, eLenV_app, tTruV_app, sSetI_app, onL_app, fLen_ok, fTru_ok, rbK_ok, cbK_ml, eCB_cons, eCB_nil, List.nil_append, List.cons_append, outK_some, outR_ret, outR_nx, outB_s, outB_m, mConsD_app, mConsL_app, sPar_app, setAll_nil, setAll_cons, true_and, and_true, and_self, Bool.not_true, Bool.not_false, Bool.false_eq_true, reduceIte]
  change outP ((loop (bName 6) _ ((gAll qs most drawn).1.map mkG) [some (.d (.list (qs.map mkQ))), some (.d (.list (drawn.map mkG))), some (.d (.int most)), some (.d (.list ((qs.map (·.1)).map PyData.str))), some (.d (.list ((gAll qs most drawn).1.map mkG))), some (.d (.int (gAll qs most drawn).2)), o6, some (.d (.list [])), o8, o9, o10, none, none, none, none]).seq _) = _
  rw [e2]
  unfold keptOf at es ⊢
  simp only [bind_ok, bind_exc, bnd_app, lift_some, eC_app, eVar_0, eVar_1, eVar_2, eVar_3, eVar_4, eVar_5, eVar_6, eVar_7, eVar_8, eVar_9, eVar_10, ap1_app, ap2_app, apA_app, aCons_app, nilA_app, tru_app, tst_app, asB_bool, truD_bool, truD_list, truD_tuple, mNot_app, mAnd_app, mOr_app, eNot_app, eAnd_app, eOr_app, andK_b, orK_b, eIf_app, eTup_app, eLst_app, lLst_app, frzL_app, eList_app, eSl_app, pN_app, pS_app, partD_int, chn_b, eChain_app, seq_nx, seq_ret, seq_brk, seq_cnt, seq_exc, sSeq_app, sRet_app, sDrop_app, sIf_app, sRaise_app, sAsg_name, sSetL_app, rxM_ok, rxM_exc, eCall_app, outP_ret, outP_nx, outP_exc, Option.map_some, len0, len1, len2, len3, len4, len5, len6, len7, len8, eq_self, sz0, sz1, sz2, sz3, sz4, sz5, sz6, sz7, sz8, sz9, sz10, sz11, freeAt_s, freeAt_n, freeAt_d, freeAt_m, sFrz_app, frzK_ml, List.getElem?_cons_zero, List.getElem?_cons_succ, List.set_cons_zero, List.set_cons_succ, sAsg_tup, asgK_some, bTup_app, bAll_nil, bAll_cons, bName_app, Option.bind_some, isMl_s, isMl_m, resK_some, onK_ml, eApp_app, ePop_app, eIdxV_app, eLenV_app, tTruV_app, sSetI_app, onL_app, fLen_ok, fTru_ok, rbK_ok, cbK_ml, eCB_cons, eCB_nil, List.nil_append, List.cons_append, outK_some, outR_ret, outR_nx, outB_s, outB_m, mConsD_app, mConsL_app, sPar_app, setAll_nil, setAll_cons, true_and, and_true, and_self, Bool.not_true, Bool.not_false, Bool.false_eq_true, reduceIte, es, tup_list]
/-! ### orders -/
theorem sLt_irrefl (a : Str) : sLt a a = false := PyProof.Rows.lex_irrefl _
theorem str_toks {a b : Str} (h : PySem.W.keyToks (.str a) = PySem.W.keyToks (.str b)) : a = b := by
  simp only [PySem.W.keyToks, List.cons.injEq, Sum.inr.injEq, and_true] at h
  obtain ⟨⟨x⟩⟩ := a
  obtain ⟨⟨y⟩⟩ := b
  simpa using h
theorem sLt_total {a b : Str} (h1 : sLt a b = false) (h2 : sLt b a = false) : a = b := str_toks (PyProof.Rows.lex_total _ _ h1 h2)
theorem strs_toks : ∀ {a b : List Str}, PySem.W.keyToksAll (a.map PyData.str) = PySem.W.keyToksAll (b.map PyData.str) → a = b
  | [], [], _ => rfl
  | [], y :: b, h => by simp [PySem.W.keyToksAll] at h
  | x :: a, [], h => by simp [PySem.W.keyToksAll] at h
  | x :: a, y :: b, h => by
    simp only [List.map_cons, PySem.W.keyToksAll, PySem.W.keyToks, List.cons_append, List.nil_append, List.cons.injEq, Sum.inr.injEq, true_and] at h
    obtain ⟨h1, h2⟩ := h
    rw [strs_toks h2, str_toks (a := x) (b := y) (by simp only [PySem.W.keyToks, h1])]
def gLt (a b : List Str) : Bool := PySem.W.dataLt (mkG a) (mkG b)
theorem gLt_total {a b : List Str} (h1 : gLt a b = false) (h2 : gLt b a = false) : a = b := by
  have := PyProof.Rows.lex_total _ _ h1 h2
  simp only [mkG, PySem.W.keyToks] at this
  exact strs_toks this
theorem le_total (k : List Str → D) : PySem.W.TotalLe (fun a b => !PySem.W.dataLt (k b) (k a)) := PySem.W.sortLe_total (PyProof.Rows.listOrd PyProof.Rows.itemOrd) false fun b => PySem.W.keyToks (k b)
theorem sortG_perm (ks : List (List Str)) : (sortG ks).Perm ks := List.mergeSort_perm ks _
theorem sortG_asc {ks : List (List Str)} (hn : ks.Nodup) : (sortG ks).Pairwise fun a b => gLt a b = true := by
  have h1 : (sortG ks).Pairwise fun a b => gLe a b = true := PySem.W.sort_pairwise (le_total mkG) ks
  have h2 : (sortG ks).Nodup := (sortG_perm ks).nodup_iff.mpr hn
  refine (List.pairwise_and_iff.mpr ⟨h1, h2⟩).imp fun {a b} h => ?_
  obtain ⟨h, hne⟩ := h
  cases hl : gLt a b with
  | true => rfl
  | false =>
    unfold gLe at h
    rw [Bool.not_eq_true'] at h
    exact absurd (gLt_total hl h) hne
def sortS (zs : List Str) : List Str := zs.mergeSort fun a b => !sLt b a
theorem sortD_S (zs : List Str) : sortD (zs.map PyData.str) = (sortS zs).map PyData.str := (PySem.W.sort_maps (r := fun a b : Str => !sLt b a) (s := fun a b : D => !PySem.W.dataLt b a) PyData.str (fun _ _ _ _ => rfl)).symm
theorem sortS_perm (zs : List Str) : (sortS zs).Perm zs := List.mergeSort_perm zs _
theorem sortS_asc {zs : List Str} (hn : zs.Nodup) : (sortS zs).Pairwise fun a b => sLt a b = true := by
  have tot : PySem.W.TotalLe (fun a b : Str => !sLt b a) := PySem.W.sortLe_total (PyProof.Rows.listOrd PyProof.Rows.itemOrd) false fun b : Str => PySem.W.keyToks (.str b)
  have h1 : (sortS zs).Pairwise fun a b => (!sLt b a) = true := PySem.W.sort_pairwise tot zs
  have h2 : (sortS zs).Nodup := (sortS_perm zs).nodup_iff.mpr hn
  refine (List.pairwise_and_iff.mpr ⟨h1, h2⟩).imp fun {a b} h => ?_
  obtain ⟨h, hne⟩ := h
  cases hl : sLt a b with
  | true => rfl
  | false =>
    rw [Bool.not_eq_true'] at h
    exact absurd (sLt_total hl h) hne
theorem srtOk_S (zs : List Str) : srtOk (zs.map PyData.str) = true := by
  simp only [srtOk, Bool.and_eq_true, decide_eq_true_eq, Bool.or_eq_true]
  refine ⟨plain_strs id zs, ?_, ?_, .inr ?_⟩
  · simp only [alkB, List.all_eq_true]
    intro x hx y hy
    obtain ⟨a, _, rfl⟩ := List.mem_map.mp hx
    obtain ⟨b, _, rfl⟩ := List.mem_map.mp hy
    rfl
  · refine depthAll_le _ fun y hy => ?_
    obtain ⟨g, _, rfl⟩ := List.mem_map.mp hy
    simp [PyData.depth]
  · rw [List.all_eq_true]
    intro y hy
    obtain ⟨g, hg, rfl⟩ := List.mem_map.mp hy
    rfl
theorem sorted_strs (zs : List Str) : sortedD [.list (zs.map PyData.str)] = some (.list ((sortS zs).map PyData.str)) := by
  show (if srtOk _ = true then some (sortD _) else none).map _ = _
  rw [if_pos (srtOk_S zs), sortD_S]
  rfl
/-! ### the groups that are kept -/
theorem under_self (g : List Str) : under g g = true := by
  rw [under, List.all_eq_true]
  intro z hz
  simpa using hz
theorem under_iff {g o : List Str} : under g o = true ↔ ∀ z ∈ g, z ∈ o := by
  rw [under, List.all_eq_true]
  constructor <;> (intro h z hz; have := h z hz; simpa using this)
def Up (gs : List (List Str)) : Prop := gs.Pairwise fun a b => under b a = false
theorem up_step {qs : List (Str × Int)} {most : Int} {st : List (List Str) × Int} {g : List Str} (h : Up st.1) : Up (gStep qs most st g).1 := by
  unfold gStep
  split
  · rename_i hc
    simp only [Bool.and_eq_true, Bool.not_eq_true'] at hc
    refine List.pairwise_append.mpr ⟨h, by simp, fun a ha b hb => ?_⟩
    rw [List.mem_singleton] at hb
    subst hb
    have := hc.1
    rw [List.any_eq_false] at this
    simpa using this a ha
  · exact h
theorem up_all {qs : List (Str × Int)} {most : Int} : ∀ (L : List (List Str)) (st : List (List Str) × Int), Up st.1 → Up (L.foldl (gStep qs most) st).1
  | [], _, h => h
  | g :: L, st, h => up_all L _ (up_step h)
theorem up_nodup {gs : List (List Str)} (h : Up gs) : gs.Nodup := h.imp fun {a b} h e => by
  subst e
  rw [under_self] at h
  cases h
theorem up_max {z : Str} : ∀ {gs : List (List Str)}, Up gs → (∃ g ∈ gs, z ∈ g) → ∃ g ∈ gs, z ∈ g ∧ ∀ o ∈ gs, o ≠ g → under g o = false
  | a :: gs, h, ⟨g, hg, hz⟩ => by
    obtain ⟨h1, h2⟩ := List.pairwise_cons.mp h
    by_cases hx : ∃ g ∈ gs, z ∈ g
    · obtain ⟨m, hm, hzm, hmax⟩ := up_max h2 hx
      refine ⟨m, List.mem_cons_of_mem _ hm, hzm, fun o ho hne => ?_⟩
      rcases List.mem_cons.mp ho with rfl | ho
      · exact h1 m hm
      · exact hmax o ho hne
    · have ha : g = a := by
        rcases List.mem_cons.mp hg with e | e
        · exact e
        · exact absurd ⟨g, e, hz⟩ hx
      subst ha
      refine ⟨g, List.mem_cons_self, hz, fun o ho hne => ?_⟩
      rcases List.mem_cons.mp ho with rfl | ho
      · exact absurd rfl hne
      · cases hu : under g o with
        | false => rfl
        | true => exact absurd ⟨o, ho, under_iff.mp hu z hz⟩ hx
theorem mem_kept {gs : List (List Str)} {g : List Str} : g ∈ keptOf gs ↔ g ∈ gs ∧ ∀ o ∈ gs, o ≠ g → under g o = false := by
  unfold keptOf
  rw [List.mem_filter]
  refine and_congr_right fun _ => ?_
  rw [Bool.not_eq_true', List.any_eq_false]
  refine forall_congr' fun o => forall_congr' fun _ => ?_
  rw [Bool.and_eq_true, Bool.not_eq_true', beq_eq_false_iff_ne]
  constructor
  · intro h hne
    cases hu : under g o with
    | false => rfl
    | true => exact absurd ⟨hne, hu⟩ h
  · rintro h ⟨hne, hu⟩
    rw [h hne] at hu
    cases hu
theorem cover_step {qs : List (Str × Int)} {most : Int} {z : Str} : ∀ (L : List (List Str)) (st : List (List Str) × Int), ([z] ∈ L ∨ ∃ g ∈ st.1, z ∈ g) → ∃ g ∈ (L.foldl (gStep qs most) st).1, z ∈ g
  | [], st, h => by
    rcases h with h | h
    · cases h
    · exact h
  | g :: L, st, h => by
    refine cover_step L _ ?_
    rcases h with h | ⟨o, ho, hz⟩
    · rcases List.mem_cons.mp h with e | h
      · right
        subst e
        unfold gStep
        split
        · exact ⟨[z], by simp, by simp⟩
        · rename_i hc
          cases ha : st.1.any (under [z]) with
          | true =>
            rw [List.any_eq_true] at ha
            obtain ⟨o, ho, hu⟩ := ha
            exact ⟨o, ho, under_iff.mp hu z (by simp)⟩
          | false =>
            rw [ha] at hc
            simp at hc
      · exact .inl h
    · right
      unfold gStep
      split
      · exact ⟨o, List.mem_append_left _ ho, hz⟩
      · exact ⟨o, ho, hz⟩
/-! ### how many cells -/
theorem prod_toNat : ∀ cs : List Int, (∀ c ∈ cs, 0 ≤ c) → (((cs.map Int.toNat).prod : Nat) : Int) = cs.prod
  | [], _ => rfl
  | c :: cs, h => by
    have h1 := h c List.mem_cons_self
    rw [List.map_cons, List.prod_cons, List.prod_cons, Int.natCast_mul, prod_toNat cs (fun d hd => h d (List.mem_cons_of_mem _ hd)), Int.toNat_of_nonneg h1]
theorem rows_cells {qs : List (Str × Int)} {g : List Str} (h : ∀ z ∈ g, 0 ≤ cnt qs z) : (((rowsOf (g.map (cnt qs)) [[]]).length : Nat) : Int) = cells qs g := by
  rw [rowsOf_len]
  simp only [List.length_cons, List.length_nil, Nat.zero_add, Nat.one_mul]
  rw [prod_toNat _ (fun c hc => by
    obtain ⟨z, hz, rfl⟩ := List.mem_map.mp hc
    exact h z hz)]
  rfl
def nu (names : List Str) (gs : List (List Str)) : Nat := names.countP fun y => !gs.contains [y]
theorem nu_le (names : List Str) (gs : List (List Str)) : nu names gs ≤ names.length := List.countP_le_length
theorem nu_mono (names : List Str) (gs : List (List Str)) (g : List Str) : nu names (gs ++ [g]) ≤ nu names gs := by
  refine List.countP_mono_left fun y _ h => ?_
  simp only [Bool.not_eq_true', List.contains_eq_mem, decide_eq_false_iff_not] at h ⊢
  exact fun hh => h (List.mem_append_left _ hh)
theorem nu_single {z : Str} {gs : List (List Str)} (hg : [z] ∉ gs) : ∀ {names : List Str}, z ∈ names → names.Nodup → nu names (gs ++ [[z]]) + 1 ≤ nu names gs
  | y :: names, hz, hn => by
    obtain ⟨n1, n2⟩ := List.nodup_cons.mp hn
    unfold nu
    rw [List.countP_cons, List.countP_cons]
    rcases List.mem_cons.mp hz with rfl | hz
    · have e1 : (!(gs ++ [[z]]).contains [z]) = false := by simp
      have e2 : (!gs.contains [z]) = true := by simpa using hg
      rw [e1, e2]
      have := nu_mono names gs [z]
      unfold nu at this
      simp only [Bool.false_eq_true, reduceIte]
      omega
    · have ih := nu_single hg hz n2
      unfold nu at ih
      have : (if (!(gs ++ [[z]]).contains [y]) = true then 1 else 0) ≤ (if (!gs.contains [y]) = true then 1 else 0) := by
        have hm : (!(gs ++ [[z]]).contains [y]) = true → (!gs.contains [y]) = true := fun h => by
          simp only [Bool.not_eq_true', List.contains_eq_mem, decide_eq_false_iff_not] at h ⊢
          exact fun hh => h (List.mem_append_left _ hh)
        split
        · rename_i h
          rw [if_pos (hm h)]
          exact Nat.le_refl _
        · exact Nat.zero_le _
      omega
def Bal (qs : List (Str × Int)) (most : Int) (st : List (List Str) × Int) : Prop := st.2 = (st.1.map (cells qs)).sum ∧ st.2 + 3 * (nu (qs.map (·.1)) st.1 : Int) ≤ most
theorem cnt_mem {qs : List (Str × Int)} {z : Str} (h : z ∈ qs.map (·.1)) : ∃ q ∈ qs, cnt qs z = q.2 := by
  unfold cnt
  cases hf : qs.find? fun q => q.1 == z with
  | none =>
    obtain ⟨q, hq1, rfl⟩ := List.mem_map.mp h
    rw [List.find?_eq_none] at hf
    exact absurd (beq_self_eq_true q.1) (hf q hq1)
  | some p => exact ⟨p, List.mem_of_find?_eq_some hf, rfl⟩
theorem sum_append1 (xs : List Int) (x : Int) : (xs ++ [x]).sum = xs.sum + x := by simp
theorem bal_step {qs : List (Str × Int)} {most : Int} (hd : (qs.map (·.1)).Nodup) (hq : ∀ q ∈ qs, 2 ≤ q.2 ∧ q.2 ≤ 3) {st : List (List Str) × Int} {g : List Str} (hg : ∀ z ∈ g, z ∈ qs.map (·.1)) (h : Bal qs most st) : Bal qs most (gStep qs most st g) := by
  have hc : ∀ z ∈ g, 0 ≤ cnt qs z := fun z hz => by
    obtain ⟨q, hq1, e⟩ := cnt_mem (hg z hz)
    have := hq q hq1
    omega
  have hr := rows_cells hc
  obtain ⟨h1, h2⟩ := h
  unfold gStep
  rw [hr]
  split
  · rename_i hcond
    simp only [Bool.and_eq_true, Bool.not_eq_true', Bool.or_eq_true, decide_eq_true_eq] at hcond
    obtain ⟨c1, c2⟩ := hcond
    refine ⟨?_, ?_⟩
    · show st.2 + cells qs g = _
      rw [List.map_append, List.map_cons, List.map_nil, sum_append1, h1]
    · show st.2 + cells qs g + 3 * (nu (qs.map (·.1)) (st.1 ++ [g]) : Int) ≤ most
      rcases c2 with c2 | c2
      · match g, c2 with
        | [z], _ =>
          have hz : z ∈ qs.map (·.1) := hg z (by simp)
          have hn : [z] ∉ st.1 := fun hh => by
            rw [List.any_eq_false] at c1
            exact c1 [z] hh (under_self [z])
          have := nu_single hn hz hd
          obtain ⟨q, hq1, e⟩ := cnt_mem hz
          have h3 := hq q hq1
          have e2 : cells qs [z] = cnt qs z := by simp [cells]
          rw [e2, e]
          omega
      · have := nu_le (qs.map (·.1)) (st.1 ++ [g])
        rw [List.length_map] at this
        omega
  · exact ⟨h1, h2⟩
theorem bal_all {qs : List (Str × Int)} {most : Int} (hd : (qs.map (·.1)).Nodup) (hq : ∀ q ∈ qs, 2 ≤ q.2 ∧ q.2 ≤ 3) : ∀ (L : List (List Str)) (st : List (List Str) × Int), (∀ g ∈ L, ∀ z ∈ g, z ∈ qs.map (·.1)) → Bal qs most st → Bal qs most (L.foldl (gStep qs most) st)
  | [], _, _, h => h
  | g :: L, st, hL, h => bal_all hd hq L _ (fun g hg => hL g (List.mem_cons_of_mem _ hg)) (bal_step hd hq (hL g List.mem_cons_self) h)
theorem cells_nonneg {qs : List (Str × Int)} (hq : ∀ q ∈ qs, 2 ≤ q.2 ∧ q.2 ≤ 3) {g : List Str} (hg : ∀ z ∈ g, z ∈ qs.map (·.1)) : 0 ≤ cells qs g := by
  rw [← rows_cells fun z hz => ?_]
  · omega
  · obtain ⟨q, hq1, e⟩ := cnt_mem (hg z hz)
    have := hq q hq1
    omega
theorem sum_filter {qs : List (Str × Int)} {p : List Str → Bool} : ∀ {gs : List (List Str)}, (∀ g ∈ gs, 0 ≤ cells qs g) → ((gs.filter p).map (cells qs)).sum ≤ (gs.map (cells qs)).sum
  | [], _ => by simp
  | g :: gs, h => by
    have ih := sum_filter (p := p) (gs := gs) fun g hg => h g (List.mem_cons_of_mem _ hg)
    have h1 := h g List.mem_cons_self
    rw [List.filter_cons]
    split
    · rw [List.map_cons, List.map_cons, List.sum_cons, List.sum_cons]
      omega
    · rw [List.map_cons, List.sum_cons]
      omega
theorem sum_perm {xs ys : List Int} (h : xs.Perm ys) : xs.sum = ys.sum := by
  induction h with
  | nil => rfl
  | cons x _ ih => rw [List.sum_cons, List.sum_cons, ih]
  | swap x y l => simp only [List.sum_cons]; omega
  | trans _ _ h1 h2 => exact h1.trans h2
/-! ### a valid scenario -/
structure VS (qs : List (Str × Int)) (gs : List (List Str)) : Prop where
  q1 : 1 ≤ qs.length
  q5 : qs.length ≤ 5
  qn : ∀ q ∈ qs, nmOk q.1 = true ∧ 2 ≤ q.2 ∧ q.2 ≤ 3
  qa : (qs.map (·.1)).Pairwise fun a b => sLt a b = true
  qp : (qs.map (·.2)).prod ≤ 32
  g1 : 1 ≤ gs.length
  g10 : gs.length ≤ 10
  gn : ∀ g ∈ gs, g ≠ [] ∧ (∀ z ∈ g, z ∈ qs.map (·.1)) ∧ g.Pairwise fun a b => sLt a b = true
  ga : gs.Pairwise fun a b => gLt a b = true
  anti : ∀ g ∈ gs, ∀ o ∈ gs, o ≠ g → under g o = false
  cov : ∀ z ∈ qs.map (·.1), ∃ g ∈ gs, z ∈ g
  sum : (gs.map (cells qs)).sum ≤ 40
def mkS (qs : List (Str × Int)) (gs : List (List Str)) : D := .tuple [.tuple (qs.map mkQ), .tuple (gs.map mkG)]
theorem gOf_mkG (g : List Str) : gOf (mkG g) = g := by
  show (g.map PyData.str).map strOf = g
  rw [List.map_map]
  exact List.map_id' g
theorem sl_ne {gs : List (List Str)} (hn : gs.Nodup) {g o : List Str} {i : Nat} (hg : gs[i]? = some g) (ho : o ∈ gs.take i ++ gs.drop (i + 1)) : o ∈ gs ∧ o ≠ g := by
  have hi := (List.getElem?_eq_some_iff.mp hg).1
  have e : gs = gs.take i ++ g :: gs.drop (i + 1) := by
    have h1 := List.take_append_drop i gs
    rw [List.drop_eq_getElem_cons hi, (List.getElem?_eq_some_iff.mp hg).2] at h1
    exact h1.symm
  constructor
  · rcases List.mem_append.mp ho with h | h
    · exact List.mem_of_mem_take h
    · exact List.mem_of_mem_drop h
  · rintro rfl
    rw [e] at hn
    obtain ⟨_, n2, n3⟩ := List.nodup_append.mp hn
    rcases List.mem_append.mp ho with h | h
    · exact n3 o h o List.mem_cons_self rfl
    · exact (List.nodup_cons.mp n2).1 h
/-- the questions -/
structure QS (qs : List (Str × Int)) : Prop where
  q1 : 1 ≤ qs.length
  q5 : qs.length ≤ 5
  qn : ∀ q ∈ qs, nmOk q.1 = true ∧ 2 ≤ q.2 ∧ q.2 ≤ 3
  qa : (qs.map (·.1)).Pairwise fun a b => sLt a b = true
  qp : (qs.map (·.2)).prod ≤ 32
theorem asc_nd {zs : List Str} (h : zs.Pairwise fun a b => sLt a b = true) : zs.Nodup := h.imp fun {a b} h e => by
  subst e
  rw [sLt_irrefl] at h
  cases h
theorem QS.nd {qs : List (Str × Int)} (h : QS qs) : (qs.map (·.1)).Nodup := asc_nd h.qa
def DG (qs : List (Str × Int)) (g : List Str) : Prop := g ≠ [] ∧ (∀ z ∈ g, z ∈ qs.map (·.1)) ∧ g.Pairwise fun a b => sLt a b = true
theorem vs_groups {qs : List (Str × Int)} {drawn : List (List Str)} (h : QS qs) (hd : ∀ g ∈ drawn, DG qs g) (hl : drawn.length ≤ 5) : VS qs (sortG (keptOf (gAll qs 34 drawn).1)) := by
  have hq23 : ∀ q ∈ qs, 2 ≤ q.2 ∧ q.2 ≤ 3 := fun q hq => (h.qn q hq).2
  have hL : ∀ g ∈ drawn ++ (qs.map (·.1)).map fun z => [z], DG qs g := by
    intro g hg
    rcases List.mem_append.mp hg with hg | hg
    · exact hd g hg
    · obtain ⟨z, hz, rfl⟩ := List.mem_map.mp hg
      refine ⟨by simp, fun y hy => ?_, by simp⟩
      rw [List.mem_singleton] at hy
      subst hy
      exact hz
  have hsub : ∀ (L : List (List Str)) (st : List (List Str) × Int), (∀ g ∈ (L.foldl (gStep qs 34) st).1, g ∈ st.1 ∨ g ∈ L) ∧ (L.foldl (gStep qs 34) st).1.length ≤ st.1.length + L.length := by
    intro L
    induction L with
    | nil => exact fun st => ⟨fun g h => .inl h, by simp⟩
    | cons g L ih =>
      intro st
      obtain ⟨i1, i2⟩ := ih (gStep qs 34 st g)
      have hle := gStep_len qs 34 st g
      refine ⟨fun y hy => ?_, ?_⟩
      · rcases i1 y hy with h | h
        · unfold gStep at h
          split at h
          · rcases List.mem_append.mp h with h | h
            · exact .inl h
            · rw [List.mem_singleton] at h
              exact .inr (by rw [h]; exact List.mem_cons_self)
          · exact .inl h
        · exact .inr (List.mem_cons_of_mem _ h)
      · rw [List.foldl_cons, List.length_cons]
        omega
  obtain ⟨hs1, hs2⟩ := hsub (drawn ++ (qs.map (·.1)).map fun z => [z]) ([], 0)
  have hg : ∀ g ∈ (gAll qs 34 drawn).1, DG qs g := fun g hg => by
    rcases hs1 g hg with h | h
    · cases h
    · exact hL g h
  have hup : Up (gAll qs 34 drawn).1 := up_all _ _ List.Pairwise.nil
  have hbal : Bal qs 34 (gAll qs 34 drawn) := bal_all h.nd hq23 _ _ (fun g hg => (hL g hg).2.1) ⟨by simp, by
    have := nu_le (qs.map (·.1)) []
    rw [List.length_map] at this
    have := h.q5
    show (0 : Int) + 3 * (nu (qs.map (·.1)) [] : Int) ≤ 34
    omega⟩
  have hcov : ∀ z ∈ qs.map (·.1), ∃ g ∈ (gAll qs 34 drawn).1, z ∈ g := fun z hz => cover_step _ _ (.inl (List.mem_append_right _ (List.mem_map.mpr ⟨z, hz, rfl⟩)))
  generalize hgs : (gAll qs 34 drawn).1 = gs at *
  have hglen : gs.length ≤ 10 := by
    have e : gs.length ≤ ([] : List (List Str)).length + (drawn ++ (qs.map (·.1)).map fun z => [z]).length := by
      rw [← hgs]
      exact hs2
    simp only [List.length_nil, List.length_append, List.length_map] at e
    have := h.q5
    omega
  have hp := sortG_perm (keptOf gs)
  have hmem : ∀ g, g ∈ sortG (keptOf gs) ↔ g ∈ keptOf gs := fun g => hp.mem_iff
  have hkn : (keptOf gs).Nodup := (up_nodup hup).sublist List.filter_sublist
  have hcov2 : ∀ z ∈ qs.map (·.1), ∃ g ∈ sortG (keptOf gs), z ∈ g := fun z hz => by
    obtain ⟨g, hg1, hg2, hg3⟩ := up_max hup (hcov z hz)
    exact ⟨g, (hmem g).mpr (mem_kept.mpr ⟨hg1, hg3⟩), hg2⟩
  refine ⟨h.q1, h.q5, h.qn, h.qa, h.qp, ?_, ?_, fun g hg' => ?_, sortG_asc hkn, fun g hg' o ho hne => ?_, hcov2, ?_⟩
  · have hne : qs.map (·.1) ≠ [] := fun e => by
      have := congrArg List.length e
      rw [List.length_map, List.length_nil] at this
      have := h.q1
      omega
    obtain ⟨z, hz⟩ := List.exists_mem_of_ne_nil _ hne
    obtain ⟨g, hg', _⟩ := hcov2 z hz
    exact List.length_pos_of_mem hg'
  · rw [hp.length_eq]
    exact Nat.le_trans (List.length_filter_le _ _) hglen
  · exact hg g (mem_kept.mp ((hmem g).mp hg')).1
  · exact (mem_kept.mp ((hmem g).mp hg')).2 o (mem_kept.mp ((hmem o).mp ho)).1 hne
  · rw [sum_perm (hp.map (cells qs))]
    refine Int.le_trans (sum_filter fun g hg' => cells_nonneg hq23 (hg g hg').2.1) ?_
    obtain ⟨b1, b2⟩ := hbal
    rw [hgs] at b1 b2
    rw [← b1]
    omega
/-! ### _law_scenario -/
theorem perm_strs {ys : List D} {zs : List Str} (h : ys.Perm (zs.map PyData.str)) : ∃ ws : List Str, ys = ws.map PyData.str ∧ ws.Perm zs := by
  refine ⟨ys.map strOf, ?_, ?_⟩
  · refine strs_of ?_
    rw [List.all_eq_true]
    intro y hy
    obtain ⟨z, _, rfl⟩ := List.mem_map.mp (h.mem_iff.mp hy)
    rfl
  · have := h.map strOf
    rw [List.map_map] at this
    exact this.trans (by rw [show strOf ∘ PyData.str = fun z => z from rfl, List.map_id'])
theorem sl_list_upto (xs : List D) {i : Int} (h : 0 ≤ i) : slD (.list xs) none (some i) = some (.list (xs.take i.toNat)) := by
  have := cut_upto xs i.toNat
  rw [Int.toNat_of_nonneg h] at this
  rw [slD, this]
/-- one question more -/
theorem q_loop {ns : List Int} (hn : ns.length ≤ 63) {most cap : Int} (hc : 3 ≤ cap ∧ cap ≤ 32) {a4 : Option Tv} : ∀ (L : List Str) (qs : List (Str × Int)) (size : Int) (zs : List D) (b : Nat) (o7 o10 : Option Tv), dat o7 = true → dat o10 = true → Sok b zs → b + 2 * L.length ≤ 1000000 → qs.length + L.length ≤ 1000 →
    (size = (qs.map (·.2)).prod ∧ 1 ≤ size ∧ size ≤ cap ∧ ∀ q ∈ qs, 2 ≤ q.2 ∧ q.2 ≤ 3) →
    ∃ (rs : List (Str × Int)) (size' : Int) (zs' : List D) (p7 p10 : Option Tv), Sok (b + 2 * L.length) zs' ∧ (rs.map (·.1)).Sublist L ∧ (qs = [] → L ≠ [] → rs ≠ []) ∧ (size' = ((qs ++ rs).map (·.2)).prod ∧ 1 ≤ size' ∧ size' ≤ cap ∧ ∀ q ∈ qs ++ rs, 2 ≤ q.2 ∧ q.2 ≤ 3) ∧ dat p7 = true ∧
      loop (bName 7) (sSeq (sAsg (bName 10) (eCB 1 1 b__law_pick 1 (aCons (eLst (aCons (eC (.int 2)) (aCons (eC (.int 2)) (aCons (eC (.int 2)) (aCons (eC (.int 3)) (nilA)))))) (nilA)) [] [eVar 0])) (sSeq (sIf (tst (ap2 gtD (ap2 mulD (eVar 6) (eVar 10)) (eVar 3))) (sAsg (bName 10) (eC (.int 2))) ((fun g => .ok .nx g))) (sIf (tst (ap2 leD (ap2 mulD (eVar 6) (eVar 10)) (eVar 3))) (sSeq (sDrop (eApp 5 (eTup (aCons (eVar 7) (aCons (eVar 10) (nilA)))))) (sAsg (bName 6) (ap2 mulD (eVar 6) (eVar 10)))) ((fun g => .ok .nx g))))) (L.map PyData.str)
        [some (.d (scr ns)), some (.ml true zs), some (.d (.int most)), some (.d (.int cap)), a4, some (.ml false (qs.map mkQ)), some (.d (.int size)), o7, none, none, o10, none] =
      .ok .nx [some (.d (scr ns)), some (.ml true zs'), some (.d (.int most)), some (.d (.int cap)), a4, some (.ml false ((qs ++ rs).map mkQ)), some (.d (.int size')), p7, none, none, p10, none]
  | [], qs, size, zs, b, o7, o10, h7, h10, hs, _, _, hq => ⟨[], size, zs, o7, o10, hs, by simp, fun _ h => absurd rfl h, by simpa using hq, h7, by rw [List.append_nil]; rfl⟩
  | z :: L, qs, size, zs, b, o7, o10, h7, h10, hs, hb, hl, hq => by
    have hz := sizeLine_big
    rw [List.length_cons] at hb hl
    obtain ⟨y, zs1, hy, hs1, ep⟩ := s_pick (ns := ns) (xs := [.int 2, .int 2, .int 2, .int 3]) hs (by omega) hn (by simp)
    obtain ⟨hq1, hq2, hq3, hq4⟩ := hq
    have hy' : ∃ c : Int, y = .int c ∧ (c = 2 ∨ c = 3) := by
      simp only [List.mem_cons, List.not_mem_nil, or_false] at hy
      rcases hy with rfl | rfl | rfl | rfl
      · exact ⟨2, rfl, .inl rfl⟩
      · exact ⟨2, rfl, .inl rfl⟩
      · exact ⟨2, rfl, .inl rfl⟩
      · exact ⟨3, rfl, .inr rfl⟩
    obtain ⟨c, rfl, hc23⟩ := hy'
    have f10 : ∀ (a b c d e f h i j k : Option Tv) (r : Ga), freeAt (a :: b :: c :: d :: e :: f :: h :: i :: j :: k :: o10 :: r) 10 = true := fun _ _ _ _ _ _ _ _ _ _ _ => freeAt_dat (o := o10) rfl h10
    have ss : small size := ⟨by show -(2 ^ 64) < size; omega, by show size < 2 ^ 64; omega⟩
    have fa : ∀ c : Int, fApp (qs.map mkQ) (.tuple [.str z, .int c]) = some (.none, (qs ++ [(z, c)]).map mkQ) := fun c => by
      rw [fApp_ok (by rw [List.length_map]; omega), List.map_append]
      rfl
    rw [List.map_cons, loop_cons, bName_dat (o := o7) rfl h7]
    simp only [List.set_cons_zero, List.set_cons_succ]
    simp only [bind_ok, bind_exc, bnd_app, lift_some, eC_app, eVar_0, eVar_1, eVar_2, eVar_3, eVar_4, eVar_5, eVar_6, eVar_7, eVar_8, eVar_9, eVar_10, ap1_app, ap2_app, apA_app, aCons_app, nilA_app, tru_app, tst_app, asB_bool, truD_bool, truD_list, truD_tuple, mNot_app, mAnd_app, mOr_app, eNot_app, eAnd_app, eOr_app, andK_b, orK_b, eIf_app, eTup_app, eLst_app, lLst_app, frzL_app, eList_app, eSl_app, pN_app, pS_app, partD_int, chn_b, eChain_app, seq_nx, seq_ret, seq_brk, seq_cnt, seq_exc, sSeq_app, sRet_app, sDrop_app, sIf_app, sRaise_app, sAsg_name, sSetL_app, rxM_ok, rxM_exc, eCall_app, outP_ret, outP_nx, outP_exc, Option.map_some, len0, len1, len2, len3, len4, len5, len6, len7, len8, eq_self, sz0, sz1, sz2, sz3, sz4, sz5, sz6, sz7, sz8, sz9, sz10, sz11, freeAt_s, freeAt_n, freeAt_d, freeAt_m, sFrz_app, frzK_ml, List.getElem?_cons_zero, List.getElem?_cons_succ, List.set_cons_zero, List.set_cons_succ, sAsg_tup, asgK_some, bTup_app, bAll_nil, bAll_cons, bName_app, Option.bind_some, isMl_s, isMl_m, resK_some, onK_ml, eApp_app, ePop_app, eIdxV_app, eLenV_app, tTruV_app, sSetI_app, onL_app, fLen_ok, fTru_ok, rbK_ok, cbK_ml, eCB_cons, eCB_nil, List.nil_append, List.cons_append, outK_some, outR_ret, outR_nx, outB_s, outB_m, mConsD_app, mConsL_app, sPar_app, setAll_nil, setAll_cons, true_and, and_true, and_self, Bool.not_true, Bool.not_false, Bool.false_eq_true, reduceIte, ep, f10, mul_ok ss, gt_int, app_ite, bind_ite, seq_ite]
    -- the count that is taken
    have key : ∀ c' : Int, 2 ≤ c' ∧ c' ≤ 3 → ∀ (m : Rs Fl) , True := fun _ _ _ => trivial
    by_cases hgt : cap < size * c
    · simp only [hgt, decide_true, bind_ok, bind_exc, bnd_app, lift_some, eC_app, eVar_0, eVar_1, eVar_2, eVar_3, eVar_4, eVar_5, eVar_6, eVar_7, eVar_8, eVar_9, eVar_10, ap1_app, ap2_app, apA_app, aCons_app, nilA_app, tru_app, tst_app, asB_bool, truD_bool, truD_list, truD_tuple, mNot_app, mAnd_app, mOr_app, eNot_app, eAnd_app, eOr_app, andK_b, orK_b, eIf_app, eTup_app, eLst_app, lLst_app, frzL_app, eList_app, eSl_app, pN_app, pS_app, partD_int, chn_b, eChain_app, seq_nx, seq_ret, seq_brk, seq_cnt, seq_exc, sSeq_app, sRet_app, sDrop_app, sIf_app, sRaise_app, sAsg_name, sSetL_app, rxM_ok, rxM_exc, eCall_app, outP_ret, outP_nx, outP_exc, Option.map_some, len0, len1, len2, len3, len4, len5, len6, len7, len8, eq_self, sz0, sz1, sz2, sz3, sz4, sz5, sz6, sz7, sz8, sz9, sz10, sz11, freeAt_s, freeAt_n, freeAt_d, freeAt_m, sFrz_app, frzK_ml, List.getElem?_cons_zero, List.getElem?_cons_succ, List.set_cons_zero, List.set_cons_succ, sAsg_tup, asgK_some, bTup_app, bAll_nil, bAll_cons, bName_app, Option.bind_some, isMl_s, isMl_m, resK_some, onK_ml, eApp_app, ePop_app, eIdxV_app, eLenV_app, tTruV_app, sSetI_app, onL_app, fLen_ok, fTru_ok, rbK_ok, cbK_ml, eCB_cons, eCB_nil, List.nil_append, List.cons_append, outK_some, outR_ret, outR_nx, outB_s, outB_m, mConsD_app, mConsL_app, sPar_app, setAll_nil, setAll_cons, true_and, and_true, and_self, Bool.not_true, Bool.not_false, Bool.false_eq_true, reduceIte, mul_ok ss, le_int]
      by_cases hle : size * 2 ≤ cap
      · simp only [hle, decide_true, bind_ok, bind_exc, bnd_app, lift_some, eC_app, eVar_0, eVar_1, eVar_2, eVar_3, eVar_4, eVar_5, eVar_6, eVar_7, eVar_8, eVar_9, eVar_10, ap1_app, ap2_app, apA_app, aCons_app, nilA_app, tru_app, tst_app, asB_bool, truD_bool, truD_list, truD_tuple, mNot_app, mAnd_app, mOr_app, eNot_app, eAnd_app, eOr_app, andK_b, orK_b, eIf_app, eTup_app, eLst_app, lLst_app, frzL_app, eList_app, eSl_app, pN_app, pS_app, partD_int, chn_b, eChain_app, seq_nx, seq_ret, seq_brk, seq_cnt, seq_exc, sSeq_app, sRet_app, sDrop_app, sIf_app, sRaise_app, sAsg_name, sSetL_app, rxM_ok, rxM_exc, eCall_app, outP_ret, outP_nx, outP_exc, Option.map_some, len0, len1, len2, len3, len4, len5, len6, len7, len8, eq_self, sz0, sz1, sz2, sz3, sz4, sz5, sz6, sz7, sz8, sz9, sz10, sz11, freeAt_s, freeAt_n, freeAt_d, freeAt_m, sFrz_app, frzK_ml, List.getElem?_cons_zero, List.getElem?_cons_succ, List.set_cons_zero, List.set_cons_succ, sAsg_tup, asgK_some, bTup_app, bAll_nil, bAll_cons, bName_app, Option.bind_some, isMl_s, isMl_m, resK_some, onK_ml, eApp_app, ePop_app, eIdxV_app, eLenV_app, tTruV_app, sSetI_app, onL_app, fLen_ok, fTru_ok, rbK_ok, cbK_ml, eCB_cons, eCB_nil, List.nil_append, List.cons_append, outK_some, outR_ret, outR_nx, outB_s, outB_m, mConsD_app, mConsL_app, sPar_app, setAll_nil, setAll_cons, true_and, and_true, and_self, Bool.not_true, Bool.not_false, Bool.false_eq_true, reduceIte, fa, mul_ok ss]
        obtain ⟨rs, size', zs', p7, p10, i1, i2, i3, i4, i5, i6⟩ := q_loop hn hc (a4 := a4) (most := most) L (qs ++ [(z, 2)]) (size * 2) zs1 (b + 2) (some (.d (.str z))) (some (.d (.int 2))) rfl rfl hs1 (by omega) (by rw [List.length_append, List.length_cons, List.length_nil]; omega) ⟨by rw [List.map_append, List.prod_append, hq1]; simp, by omega, hle, fun q hqm => by
          rcases List.mem_append.mp hqm with h | h
          · exact hq4 q h
          · rw [List.mem_singleton] at h
            subst h
            exact ⟨by show (2 : Int) ≤ 2; omega, by show (2 : Int) ≤ 3; omega⟩⟩
        refine ⟨(z, 2) :: rs, size', zs', p7, p10, i1.mono (by rw [List.length_cons]; omega), by rw [List.map_cons]; exact i2.cons_cons z, fun _ _ => by simp, by rw [List.append_assoc] at i4; exact i4, i5, ?_⟩
        rw [i6, List.append_assoc]
        rfl
      · simp only [hle, decide_false, bind_ok, bind_exc, bnd_app, lift_some, eC_app, eVar_0, eVar_1, eVar_2, eVar_3, eVar_4, eVar_5, eVar_6, eVar_7, eVar_8, eVar_9, eVar_10, ap1_app, ap2_app, apA_app, aCons_app, nilA_app, tru_app, tst_app, asB_bool, truD_bool, truD_list, truD_tuple, mNot_app, mAnd_app, mOr_app, eNot_app, eAnd_app, eOr_app, andK_b, orK_b, eIf_app, eTup_app, eLst_app, lLst_app, frzL_app, eList_app, eSl_app, pN_app, pS_app, partD_int, chn_b, eChain_app, seq_nx, seq_ret, seq_brk, seq_cnt, seq_exc, sSeq_app, sRet_app, sDrop_app, sIf_app, sRaise_app, sAsg_name, sSetL_app, rxM_ok, rxM_exc, eCall_app, outP_ret, outP_nx, outP_exc, Option.map_some, len0, len1, len2, len3, len4, len5, len6, len7, len8, eq_self, sz0, sz1, sz2, sz3, sz4, sz5, sz6, sz7, sz8, sz9, sz10, sz11, freeAt_s, freeAt_n, freeAt_d, freeAt_m, sFrz_app, frzK_ml, List.getElem?_cons_zero, List.getElem?_cons_succ, List.set_cons_zero, List.set_cons_succ, sAsg_tup, asgK_some, bTup_app, bAll_nil, bAll_cons, bName_app, Option.bind_some, isMl_s, isMl_m, resK_some, onK_ml, eApp_app, ePop_app, eIdxV_app, eLenV_app, tTruV_app, sSetI_app, onL_app, fLen_ok, fTru_ok, rbK_ok, cbK_ml, eCB_cons, eCB_nil, List.nil_append, List.cons_append, outK_some, outR_ret, outR_nx, outB_s, outB_m, mConsD_app, mConsL_app, sPar_app, setAll_nil, setAll_cons, true_and, and_true, and_self, Bool.not_true, Bool.not_false, Bool.false_eq_true, reduceIte]
        have hqs : qs ≠ [] := fun e => by
          subst e
          simp at hq1
          omega
        obtain ⟨rs, size', zs', p7, p10, i1, i2, i3, i4, i5, i6⟩ := q_loop hn hc (a4 := a4) (most := most) L qs size zs1 (b + 2) (some (.d (.str z))) (some (.d (.int 2))) rfl rfl hs1 (by omega) (by omega) ⟨hq1, hq2, hq3, hq4⟩
        exact ⟨rs, size', zs', p7, p10, i1.mono (by rw [List.length_cons]; omega), i2.cons z, fun e => absurd e hqs, i4, i5, i6⟩
    · have hle : size * c ≤ cap := by omega
      simp only [hgt, decide_false, bind_ok, bind_exc, bnd_app, lift_some, eC_app, eVar_0, eVar_1, eVar_2, eVar_3, eVar_4, eVar_5, eVar_6, eVar_7, eVar_8, eVar_9, eVar_10, ap1_app, ap2_app, apA_app, aCons_app, nilA_app, tru_app, tst_app, asB_bool, truD_bool, truD_list, truD_tuple, mNot_app, mAnd_app, mOr_app, eNot_app, eAnd_app, eOr_app, andK_b, orK_b, eIf_app, eTup_app, eLst_app, lLst_app, frzL_app, eList_app, eSl_app, pN_app, pS_app, partD_int, chn_b, eChain_app, seq_nx, seq_ret, seq_brk, seq_cnt, seq_exc, sSeq_app, sRet_app, sDrop_app, sIf_app, sRaise_app, sAsg_name, sSetL_app, rxM_ok, rxM_exc, eCall_app, outP_ret, outP_nx, outP_exc, Option.map_some, len0, len1, len2, len3, len4, len5, len6, len7, len8, eq_self, sz0, sz1, sz2, sz3, sz4, sz5, sz6, sz7, sz8, sz9, sz10, sz11, freeAt_s, freeAt_n, freeAt_d, freeAt_m, sFrz_app, frzK_ml, List.getElem?_cons_zero, List.getElem?_cons_succ, List.set_cons_zero, List.set_cons_succ, sAsg_tup, asgK_some, bTup_app, bAll_nil, bAll_cons, bName_app, Option.bind_some, isMl_s, isMl_m, resK_some, onK_ml, eApp_app, ePop_app, eIdxV_app, eLenV_app, tTruV_app, sSetI_app, onL_app, fLen_ok, fTru_ok, rbK_ok, cbK_ml, eCB_cons, eCB_nil, List.nil_append, List.cons_append, outK_some, outR_ret, outR_nx, outB_s, outB_m, mConsD_app, mConsL_app, sPar_app, setAll_nil, setAll_cons, true_and, and_true, and_self, Bool.not_true, Bool.not_false, Bool.false_eq_true, reduceIte, mul_ok ss, le_int, hle, decide_true, fa]
      obtain ⟨rs, size', zs', p7, p10, i1, i2, i3, i4, i5, i6⟩ := q_loop hn hc (a4 := a4) (most := most) L (qs ++ [(z, c)]) (size * c) zs1 (b + 2) (some (.d (.str z))) (some (.d (.int c))) rfl rfl hs1 (by omega) (by rw [List.length_append, List.length_cons, List.length_nil]; omega) ⟨by rw [List.map_append, List.prod_append, hq1]; simp, by rcases hc23 with rfl | rfl <;> omega, hle, fun q hqm => by
        rcases List.mem_append.mp hqm with h | h
        · exact hq4 q h
        · rw [List.mem_singleton] at h
          subst h
          show 2 ≤ c ∧ c ≤ 3
          omega⟩
      refine ⟨(z, c) :: rs, size', zs', p7, p10, i1.mono (by rw [List.length_cons]; omega), by rw [List.map_cons]; exact i2.cons_cons z, fun _ _ => by simp, by rw [List.append_assoc] at i4; exact i4, i5, ?_⟩
      rw [i6, List.append_assoc]
      rfl
theorem sorted_take {ws names : List Str} (hp : ws.Perm names) (hn : names.Nodup) (k : Nat) : (sortS (ws.take k)).Pairwise (fun a b => sLt a b = true) ∧ (∀ z ∈ sortS (ws.take k), z ∈ names) ∧ (sortS (ws.take k)).length = min k names.length := by
  have hw : ws.Nodup := hp.nodup_iff.mpr hn
  refine ⟨sortS_asc (hw.sublist (List.take_sublist k ws)), fun z hz => ?_, ?_⟩
  · exact hp.mem_iff.mp (List.mem_of_mem_take ((sortS_perm _).mem_iff.mp hz))
  · rw [(sortS_perm _).length_eq, List.length_take, hp.length_eq]
theorem tup_sorted (zs : List Str) : tupD [.list (zs.map PyData.str)] = some (mkG zs) := rfl
theorem d_loop {ns : List Int} (hn : ns.length ≤ 63) {a2 a3 a6 a7 a10 a11 : Option Tv} {qs : List (Str × Int)} {a5 : Option Tv} (hne : qs.map (·.1) ≠ []) (hnd : (qs.map (·.1)).Nodup) (hq5 : qs.length ≤ 5) : ∀ (L : List D) (dr : List (List Str)) (zs : List D) (b : Nat) (o9 : Option Tv), dat o9 = true → Sok b zs → b + 12 * L.length ≤ 1000000 → dr.length + L.length ≤ 1000 → (∀ g ∈ dr, DG qs g ∧ g.length ≤ 3) →
    ∃ (dr' : List (List Str)) (zs' : List D) (p9 : Option Tv), Sok (b + 12 * L.length) zs' ∧ dr'.length = dr.length + L.length ∧ (∀ g ∈ dr', DG qs g ∧ g.length ≤ 3) ∧
      loop (bName 9) (sDrop (eApp 8 (apA tupD (aCons (apA sortedD (aCons (eSl (eCB 1 1 b__law_shuffled 1 (aCons (eVar 4) (nilA)) [] [eVar 0]) (pN) (pS (eCB 1 1 b__law_pick 1 (aCons (eLst (aCons (eC (.int 1)) (aCons (eC (.int 2)) (aCons (eC (.int 2)) (aCons (eC (.int 2)) (aCons (eC (.int 3)) (aCons (eC (.int 3)) (nilA)))))))) (nilA)) [] [eVar 0]))) (nilA))) (nilA))))) L
        [some (.d (scr ns)), some (.ml true zs), a2, a3, some (.d (.list ((qs.map (·.1)).map PyData.str))), a5, a6, a7, some (.ml false (dr.map mkG)), o9, a10, a11] =
      .ok .nx [some (.d (scr ns)), some (.ml true zs'), a2, a3, some (.d (.list ((qs.map (·.1)).map PyData.str))), a5, a6, a7, some (.ml false (dr'.map mkG)), p9, a10, a11]
  | [], dr, zs, b, o9, h9, hs, _, _, hd => ⟨dr, zs, o9, hs, by simp, hd, rfl⟩
  | x :: L, dr, zs, b, o9, h9, hs, hb, hl, hd => by
    have hz := sizeLine_big
    rw [List.length_cons] at hb hl
    obtain ⟨ys, zs1, hp, hs1, e1⟩ := s_shuffled (ns := ns) (x := .list ((qs.map (·.1)).map PyData.str)) rfl hs (by simp only [List.length_map]; omega) hn
    obtain ⟨ws, rfl, hpw⟩ := perm_strs hp
    simp only [List.length_map] at hs1
    obtain ⟨y, zs2, hy, hs2, e2⟩ := s_pick (ns := ns) (xs := [.int 1, .int 2, .int 2, .int 2, .int 3, .int 3]) hs1 (by omega) hn (by simp)
    have hy' : ∃ c : Int, y = .int c ∧ 1 ≤ c ∧ c ≤ 3 := by
      simp only [List.mem_cons, List.not_mem_nil, or_false] at hy
      rcases hy with rfl | rfl | rfl | rfl | rfl | rfl
      · exact ⟨1, rfl, by omega, by omega⟩
      · exact ⟨2, rfl, by omega, by omega⟩
      · exact ⟨2, rfl, by omega, by omega⟩
      · exact ⟨2, rfl, by omega, by omega⟩
      · exact ⟨3, rfl, by omega, by omega⟩
      · exact ⟨3, rfl, by omega, by omega⟩
    obtain ⟨c, rfl, hc1, hc3⟩ := hy'
    obtain ⟨t1, t2, t3⟩ := sorted_take hpw hnd c.toNat
    have hlen : 0 < (qs.map (·.1)).length := List.length_pos_iff.mpr hne
    have hdg : DG qs (sortS (ws.take c.toNat)) ∧ (sortS (ws.take c.toNat)).length ≤ 3 := by
      refine ⟨⟨fun e => ?_, t2, t1⟩, by rw [t3]; omega⟩
      have := congrArg List.length e
      rw [t3, List.length_nil] at this
      omega
    have fa : fApp (dr.map mkG) (mkG (sortS (ws.take c.toNat))) = some (.none, (dr ++ [sortS (ws.take c.toNat)]).map mkG) := by
      rw [fApp_ok (by rw [List.length_map]; omega), List.map_append]
      rfl
    have es : slD (.list (ws.map PyData.str)) none (some c) = some (.list ((ws.take c.toNat).map PyData.str)) := by
      rw [sl_list_upto _ (by omega), List.map_take]
    obtain ⟨dr', zs', p9, i1, i2, i3, i4⟩ := d_loop hn (a2 := a2) (a3 := a3) (a6 := a6) (a7 := a7) (a10 := a10) (a11 := a11) (a5 := a5) hne hnd hq5 L (dr ++ [sortS (ws.take c.toNat)]) zs2 (b + 2 * qs.length + 2) (some (.d x)) rfl hs2 (by omega) (by rw [List.length_append, List.length_cons, List.length_nil]; omega) (fun g hg => by
      rcases List.mem_append.mp hg with h | h
      · exact hd g h
      · rw [List.mem_singleton] at h
        subst h
        exact hdg)
    refine ⟨dr', zs', p9, i1.mono (by rw [List.length_cons]; omega), by rw [i2, List.length_append, List.length_cons, List.length_cons, List.length_nil]; omega, i3, ?_⟩
    rw [loop_cons, bName_dat (o := o9) rfl h9]
    simp only [List.set_cons_zero, List.set_cons_succ]
    simp only [bind_ok, bind_exc, bnd_app, lift_some, eC_app, eVar_0, eVar_1, eVar_2, eVar_3, eVar_4, eVar_5, eVar_6, eVar_7, eVar_8, eVar_9, eVar_10, ap1_app, ap2_app, apA_app, aCons_app, nilA_app, tru_app, tst_app, asB_bool, truD_bool, truD_list, truD_tuple, mNot_app, mAnd_app, mOr_app, eNot_app, eAnd_app, eOr_app, andK_b, orK_b, eIf_app, eTup_app, eLst_app, lLst_app, frzL_app, eList_app, eSl_app, pN_app, pS_app, partD_int, chn_b, eChain_app, seq_nx, seq_ret, seq_brk, seq_cnt, seq_exc, sSeq_app, sRet_app, sDrop_app, sIf_app, sRaise_app, sAsg_name, sSetL_app, rxM_ok, rxM_exc, eCall_app, outP_ret, outP_nx, outP_exc, Option.map_some, len0, len1, len2, len3, len4, len5, len6, len7, len8, eq_self, sz0, sz1, sz2, sz3, sz4, sz5, sz6, sz7, sz8, sz9, sz10, sz11, freeAt_s, freeAt_n, freeAt_d, freeAt_m, sFrz_app, frzK_ml, List.getElem?_cons_zero, List.getElem?_cons_succ, List.set_cons_zero, List.set_cons_succ, sAsg_tup, asgK_some, bTup_app, bAll_nil, bAll_cons, bName_app, Option.bind_some, isMl_s, isMl_m, resK_some, onK_ml, eApp_app, ePop_app, eIdxV_app, eLenV_app, tTruV_app, sSetI_app, onL_app, fLen_ok, fTru_ok, rbK_ok, cbK_ml, eCB_cons, eCB_nil, List.nil_append, List.cons_append, outK_some, outR_ret, outR_nx, outB_s, outB_m, mConsD_app, mConsL_app, sPar_app, setAll_nil, setAll_cons, true_and, and_true, and_self, Bool.not_true, Bool.not_false, Bool.false_eq_true, reduceIte, e1, e2, es, sorted_strs, tup_sorted, fa]
    exact i4
def six : List Str := ["a", "b", "c", "d", "x", "ab"]
theorem six_ok : ∀ z ∈ six, nmOk z = true ∧ z.length ≤ sizeLine := by decide
theorem six_nd : six.Nodup := by decide
theorem nmOk_len {z : Str} (h : nmOk z = true) : z.length ≤ sizeLine := by
  simp only [nmOk, Bool.and_eq_true, decide_eq_true_eq] at h
  have := sizeLine_big
  omega
theorem prod_le4 {qs : List (Str × Int)} (hq : ∀ q ∈ qs, 2 ≤ q.2 ∧ q.2 ≤ 3) : ∀ (g : List Str), (∀ z ∈ g, z ∈ qs.map (·.1)) → ((g.map (cnt qs)).map Int.toNat).prod ≤ 3 ^ g.length
  | [], _ => by simp
  | z :: g, h => by
    have ih := prod_le4 hq g fun y hy => h y (List.mem_cons_of_mem _ hy)
    obtain ⟨q, hq1, e⟩ := cnt_mem (h z List.mem_cons_self)
    have := hq q hq1
    rw [List.map_cons, List.map_cons, List.prod_cons, List.length_cons, Nat.pow_succ, Nat.mul_comm (3 ^ g.length)]
    exact Nat.mul_le_mul (by omega) ih
theorem s_scenario6 {ns : List Int} (hn : ns.length ≤ 63) {most cap : Int} (hm : 1 ≤ most ∧ most ≤ 5) (hc : 3 ≤ cap ∧ cap ≤ 32) {zs : List D} {b : Nat} (hs : Sok b zs) (hb : b ≤ 900000) :
    ∃ qs gs zs', VS qs gs ∧ (∀ q ∈ qs, q.1 ∈ six) ∧ (qs.map (·.2)).prod ≤ cap ∧ qs.length ≤ most ∧ Sok (b + 100) zs' ∧ b__law_scenario [scr ns] zs [.int most, .int cap] = .ok (mkS qs gs) zs' := by
  have hz := sizeLine_big
  obtain ⟨ys, zs1, hp, hs1, e1⟩ := s_shuffled (ns := ns) (x := .list [.str "a", .str "b", .str "c", .str "d", .str "x", .str "ab"]) (xs := six.map PyData.str) rfl hs (by simp only [List.length_map, six, List.length_cons, List.length_nil]; omega) hn
  obtain ⟨ws, rfl, hpw⟩ := perm_strs hp
  rw [show (six.map PyData.str).length = 6 from rfl] at hs1
  obtain ⟨i, zs2, hi0, him, hs2, e2⟩ := s_draw (ns := ns) (many := most) hs1 (by omega) hn (by omega)
  have es : slD (.list (ws.map PyData.str)) none (some (1 + i)) = some (.list ((ws.take (1 + i).toNat).map PyData.str)) := by
    rw [sl_list_upto _ (by omega), List.map_take]
  obtain ⟨t1, t2, t3⟩ := sorted_take hpw six_nd (1 + i).toNat
  rw [show six.length = 6 from rfl] at t3
  generalize hnm : sortS (ws.take (1 + i).toNat) = names at *
  have hnl : 1 ≤ names.length ∧ names.length ≤ most := by omega
  obtain ⟨qs, size', zs3, p7, p10, i1, i2, i3, i4, i5, i6⟩ := q_loop hn hc (most := most) (a4 := some (.d (.list (names.map PyData.str)))) names [] 1 zs2 (b + 2 * 6 + 2) none none rfl rfl hs2 (by omega) (by simp only [List.length_nil]; omega) ⟨rfl, by omega, by omega, fun q h => nomatch h⟩
  rw [List.nil_append] at i4 i6
  obtain ⟨j1, j2, j3, j4⟩ := i4
  have hqne : qs ≠ [] := i3 rfl (fun e => by rw [e] at hnl; simp at hnl)
  have hql : qs.length ≤ most := by
    have := i2.length_le
    rw [List.length_map] at this
    omega
  have hQS : QS qs := by
    refine ⟨List.length_pos_iff.mpr hqne, by omega, fun q hq => ⟨?_, j4 q hq⟩, t1.sublist i2, by rw [← j1]; omega⟩
    exact (six_ok q.1 (t2 q.1 (i2.mem (List.mem_map_of_mem hq)))).1
  have hqne' : qs.map (·.1) ≠ [] := by simpa using hqne
  have c11 : eLcV [11] (bName 11) (tAll) (ap2 ixD (eVar 11) (eC (.int 0))) 5 [some (.d (scr ns)), some (.ml true zs3), some (.d (.int most)), some (.d (.int cap)), some (.d (.list (names.map PyData.str))), some (.ml false (qs.map mkQ)), some (.d (.int size')), p7, none, none, p10, none] = .ok ((qs.map (·.1)).map PyData.str) [some (.d (scr ns)), some (.ml true zs3), some (.d (.int most)), some (.d (.int cap)), some (.d (.list (names.map PyData.str))), some (.ml false (qs.map mkQ)), some (.d (.int size')), p7, none, none, p10, none] := by
    have := lcVF (vs := [11]) (b := bName 11) (t := tAll) (e := ap2 ixD (eVar 11) (eC (.int 0))) (j := 5) (bb := false) (g := [some (.d (scr ns)), some (.ml true zs3), some (.d (.int most)), some (.d (.int cap)), some (.d (.list (names.map PyData.str))), some (.ml false (qs.map mkQ)), some (.d (.int size')), p7, none, none, p10, none]) qs mkQ (fun _ => true) (fun q => PyData.str q.1) rfl (by omega) (by decide) (fun q hq => ⟨_, rfl, rfl, fun _ => by
      show ap2 ixD (eVar 11) (eC (.int 0)) [some (.d (scr ns)), some (.ml true zs3), some (.d (.int most)), some (.d (.int cap)), some (.d (.list (names.map PyData.str))), none, some (.d (.int size')), p7, none, none, p10, some (.d (mkQ q))] = _
      have e11 : eVar 11 [some (.d (scr ns)), some (.ml true zs3), some (.d (.int most)), some (.d (.int cap)), some (.d (.list (names.map PyData.str))), none, some (.d (.int size')), p7, none, none, p10, some (.d (mkQ q))] = .ok (mkQ q) [some (.d (scr ns)), some (.ml true zs3), some (.d (.int most)), some (.d (.int cap)), some (.d (.list (names.map PyData.str))), none, some (.d (.int size')), p7, none, none, p10, some (.d (mkQ q))] := rfl
      simp only [bind_ok, bind_exc, bnd_app, lift_some, eC_app, eVar_0, eVar_1, eVar_2, eVar_3, eVar_4, eVar_5, eVar_6, eVar_7, eVar_8, eVar_9, eVar_10, ap1_app, ap2_app, apA_app, aCons_app, nilA_app, tru_app, tst_app, asB_bool, truD_bool, truD_list, truD_tuple, mNot_app, mAnd_app, mOr_app, eNot_app, eAnd_app, eOr_app, andK_b, orK_b, eIf_app, eTup_app, eLst_app, lLst_app, frzL_app, eList_app, eSl_app, pN_app, pS_app, partD_int, chn_b, eChain_app, seq_nx, seq_ret, seq_brk, seq_cnt, seq_exc, sSeq_app, sRet_app, sDrop_app, sIf_app, sRaise_app, sAsg_name, sSetL_app, rxM_ok, rxM_exc, eCall_app, outP_ret, outP_nx, outP_exc, Option.map_some, len0, len1, len2, len3, len4, len5, len6, len7, len8, eq_self, sz0, sz1, sz2, sz3, sz4, sz5, sz6, sz7, sz8, sz9, sz10, sz11, freeAt_s, freeAt_n, freeAt_d, freeAt_m, sFrz_app, frzK_ml, List.getElem?_cons_zero, List.getElem?_cons_succ, List.set_cons_zero, List.set_cons_succ, sAsg_tup, asgK_some, bTup_app, bAll_nil, bAll_cons, bName_app, Option.bind_some, isMl_s, isMl_m, resK_some, onK_ml, eApp_app, ePop_app, eIdxV_app, eLenV_app, tTruV_app, sSetI_app, onL_app, fLen_ok, fTru_ok, rbK_ok, cbK_ml, eCB_cons, eCB_nil, List.nil_append, List.cons_append, outK_some, outR_ret, outR_nx, outB_s, outB_m, mConsD_app, mConsL_app, sPar_app, setAll_nil, setAll_cons, true_and, and_true, and_self, Bool.not_true, Bool.not_false, Bool.false_eq_true, reduceIte, e11]
      rw [mkQ, ix_t0]
      rfl, rfl, rfl⟩) rfl rfl
    rw [List.filter_eq_self.mpr (fun _ _ => rfl)] at this
    rw [this, List.map_map]
    rfl
  obtain ⟨k, zs4, hk0, hk6, hs4, e4⟩ := s_draw (ns := ns) (many := 6) i1 (by omega) hn (by omega)
  obtain ⟨dr, zs5, p9, l1, l2, l3, l4⟩ := d_loop hn (a2 := some (.d (.int most))) (a3 := some (.d (.int cap))) (a6 := some (.d (.int size'))) (a7 := p7) (a10 := p10) (a11 := none) (a5 := some (.ml false (qs.map mkQ))) hqne' hQS.nd hQS.q5 (rngD 0 k.toNat) [] zs4 _ none rfl hs4 (by rw [show (rngD 0 k.toNat).length = k.toNat by simp [rngD]]; omega) (by rw [show (rngD 0 k.toNat).length = k.toNat by simp [rngD]]; simp only [List.length_nil]; omega) (fun g h => nomatch h)
  rw [show (rngD 0 k.toNat).length = k.toNat by simp [rngD]] at l1 l2
  simp only [List.length_nil, Nat.zero_add] at l2
  have hvs := vs_groups hQS (fun g hg => (l3 g hg).1) (by omega : dr.length ≤ 5)
  have hgf := s_groups_from (qs := qs) (drawn := dr) (most := 34) hQS.nd (fun q hq => ⟨by have := j4 q hq; omega, by have := j4 q hq; omega, nmOk_len (hQS.qn q hq).1⟩) (by omega) (by omega) (fun g hg => by
    obtain ⟨⟨d1, d2, d3⟩, d4⟩ := l3 g hg
    refine ⟨d1, d2, by omega, Nat.le_trans (prod_le4 j4 g d2) ?_⟩
    exact Nat.le_trans (Nat.pow_le_pow_right (by omega) d4) (by decide))
  refine ⟨qs, _, zs5, hvs, fun q hq => t2 q.1 (i2.mem (List.mem_map_of_mem hq)), by rw [← j1]; exact j3, hql, l1.mono (by omega), ?_⟩
  have er : rng1 [.int k] = some (rngD 0 k.toNat) := by
    rw [rng1, if_pos ⟨by omega, by omega⟩]
  rw [List.map_nil] at i6 l4
  rw [b__law_scenario, runB_out, m__law_scenario, show bG [scr ns] zs [.int most, .int cap] 12 = [some (.d (scr ns)), some (.ml true zs), some (.d (.int most)), some (.d (.int cap)), none, none, none, none, none, none, none, none] from rfl]
  simp only [bind_ok, bind_exc, bnd_app, lift_some, eC_app, eVar_0, eVar_1, eVar_2, eVar_3, eVar_4, eVar_5, eVar_6, eVar_7, eVar_8, eVar_9, eVar_10, ap1_app, ap2_app, apA_app, aCons_app, nilA_app, tru_app, tst_app, asB_bool, truD_bool, truD_list, truD_tuple, mNot_app, mAnd_app, mOr_app, eNot_app, eAnd_app, eOr_app, andK_b, orK_b, eIf_app, eTup_app, eLst_app, lLst_app, frzL_app, eList_app, eSl_app, pN_app, pS_app, partD_int, chn_b, eChain_app, seq_nx, seq_ret, seq_brk, seq_cnt, seq_exc, sSeq_app, sRet_app, sDrop_app, sIf_app, sRaise_app, sAsg_name, sSetL_app, rxM_ok, rxM_exc, eCall_app, outP_ret, outP_nx, outP_exc, Option.map_some, len0, len1, len2, len3, len4, len5, len6, len7, len8, eq_self, sz0, sz1, sz2, sz3, sz4, sz5, sz6, sz7, sz8, sz9, sz10, sz11, freeAt_s, freeAt_n, freeAt_d, freeAt_m, sFrz_app, frzK_ml, List.getElem?_cons_zero, List.getElem?_cons_succ, List.set_cons_zero, List.set_cons_succ, sAsg_tup, asgK_some, bTup_app, bAll_nil, bAll_cons, bName_app, Option.bind_some, isMl_s, isMl_m, resK_some, onK_ml, eApp_app, ePop_app, eIdxV_app, eLenV_app, tTruV_app, sSetI_app, onL_app, fLen_ok, fTru_ok, rbK_ok, cbK_ml, eCB_cons, eCB_nil, List.nil_append, List.cons_append, outK_some, outR_ret, outR_nx, outB_s, outB_m, mConsD_app, mConsL_app, sPar_app, setAll_nil, setAll_cons, true_and, and_true, and_self, Bool.not_true, Bool.not_false, Bool.false_eq_true, reduceIte, e1, e2, add_int, es, sorted_strs, hnm, sFor_app, itemsD]
  simp only [i6, bind_ok, bind_exc, bnd_app, lift_some, eC_app, eVar_0, eVar_1, eVar_2, eVar_3, eVar_4, eVar_5, eVar_6, eVar_7, eVar_8, eVar_9, eVar_10, ap1_app, ap2_app, apA_app, aCons_app, nilA_app, tru_app, tst_app, asB_bool, truD_bool, truD_list, truD_tuple, mNot_app, mAnd_app, mOr_app, eNot_app, eAnd_app, eOr_app, andK_b, orK_b, eIf_app, eTup_app, eLst_app, lLst_app, frzL_app, eList_app, eSl_app, pN_app, pS_app, partD_int, chn_b, eChain_app, seq_nx, seq_ret, seq_brk, seq_cnt, seq_exc, sSeq_app, sRet_app, sDrop_app, sIf_app, sRaise_app, sAsg_name, sSetL_app, rxM_ok, rxM_exc, eCall_app, outP_ret, outP_nx, outP_exc, Option.map_some, len0, len1, len2, len3, len4, len5, len6, len7, len8, eq_self, sz0, sz1, sz2, sz3, sz4, sz5, sz6, sz7, sz8, sz9, sz10, sz11, freeAt_s, freeAt_n, freeAt_d, freeAt_m, sFrz_app, frzK_ml, List.getElem?_cons_zero, List.getElem?_cons_succ, List.set_cons_zero, List.set_cons_succ, sAsg_tup, asgK_some, bTup_app, bAll_nil, bAll_cons, bName_app, Option.bind_some, isMl_s, isMl_m, resK_some, onK_ml, eApp_app, ePop_app, eIdxV_app, eLenV_app, tTruV_app, sSetI_app, onL_app, fLen_ok, fTru_ok, rbK_ok, cbK_ml, eCB_cons, eCB_nil, List.nil_append, List.cons_append, outK_some, outR_ret, outR_nx, outB_s, outB_m, mConsD_app, mConsL_app, sPar_app, setAll_nil, setAll_cons, true_and, and_true, and_self, Bool.not_true, Bool.not_false, Bool.false_eq_true, reduceIte]
  simp only [c11, bind_ok, bind_exc, bnd_app, lift_some, eC_app, eVar_0, eVar_1, eVar_2, eVar_3, eVar_4, eVar_5, eVar_6, eVar_7, eVar_8, eVar_9, eVar_10, ap1_app, ap2_app, apA_app, aCons_app, nilA_app, tru_app, tst_app, asB_bool, truD_bool, truD_list, truD_tuple, mNot_app, mAnd_app, mOr_app, eNot_app, eAnd_app, eOr_app, andK_b, orK_b, eIf_app, eTup_app, eLst_app, lLst_app, frzL_app, eList_app, eSl_app, pN_app, pS_app, partD_int, chn_b, eChain_app, seq_nx, seq_ret, seq_brk, seq_cnt, seq_exc, sSeq_app, sRet_app, sDrop_app, sIf_app, sRaise_app, sAsg_name, sSetL_app, rxM_ok, rxM_exc, eCall_app, outP_ret, outP_nx, outP_exc, Option.map_some, len0, len1, len2, len3, len4, len5, len6, len7, len8, eq_self, sz0, sz1, sz2, sz3, sz4, sz5, sz6, sz7, sz8, sz9, sz10, sz11, freeAt_s, freeAt_n, freeAt_d, freeAt_m, sFrz_app, frzK_ml, List.getElem?_cons_zero, List.getElem?_cons_succ, List.set_cons_zero, List.set_cons_succ, sAsg_tup, asgK_some, bTup_app, bAll_nil, bAll_cons, bName_app, Option.bind_some, isMl_s, isMl_m, resK_some, onK_ml, eApp_app, ePop_app, eIdxV_app, eLenV_app, tTruV_app, sSetI_app, onL_app, fLen_ok, fTru_ok, rbK_ok, cbK_ml, eCB_cons, eCB_nil, List.nil_append, List.cons_append, outK_some, outR_ret, outR_nx, outB_s, outB_m, mConsD_app, mConsL_app, sPar_app, setAll_nil, setAll_cons, true_and, and_true, and_self, Bool.not_true, Bool.not_false, Bool.false_eq_true, reduceIte]
  simp only [sFor_app, bind_ok, bind_exc, bnd_app, lift_some, eC_app, eVar_0, eVar_1, eVar_2, eVar_3, eVar_4, eVar_5, eVar_6, eVar_7, eVar_8, eVar_9, eVar_10, ap1_app, ap2_app, apA_app, aCons_app, nilA_app, tru_app, tst_app, asB_bool, truD_bool, truD_list, truD_tuple, mNot_app, mAnd_app, mOr_app, eNot_app, eAnd_app, eOr_app, andK_b, orK_b, eIf_app, eTup_app, eLst_app, lLst_app, frzL_app, eList_app, eSl_app, pN_app, pS_app, partD_int, chn_b, eChain_app, seq_nx, seq_ret, seq_brk, seq_cnt, seq_exc, sSeq_app, sRet_app, sDrop_app, sIf_app, sRaise_app, sAsg_name, sSetL_app, rxM_ok, rxM_exc, eCall_app, outP_ret, outP_nx, outP_exc, Option.map_some, len0, len1, len2, len3, len4, len5, len6, len7, len8, eq_self, sz0, sz1, sz2, sz3, sz4, sz5, sz6, sz7, sz8, sz9, sz10, sz11, freeAt_s, freeAt_n, freeAt_d, freeAt_m, sFrz_app, frzK_ml, List.getElem?_cons_zero, List.getElem?_cons_succ, List.set_cons_zero, List.set_cons_succ, sAsg_tup, asgK_some, bTup_app, bAll_nil, bAll_cons, bName_app, Option.bind_some, isMl_s, isMl_m, resK_some, onK_ml, eApp_app, ePop_app, eIdxV_app, eLenV_app, tTruV_app, sSetI_app, onL_app, fLen_ok, fTru_ok, rbK_ok, cbK_ml, eCB_cons, eCB_nil, List.nil_append, List.cons_append, outK_some, outR_ret, outR_nx, outB_s, outB_m, mConsD_app, mConsL_app, sPar_app, setAll_nil, setAll_cons, true_and, and_true, and_self, Bool.not_true, Bool.not_false, Bool.false_eq_true, reduceIte, e4, er, l4]
  simp only [bind_ok, bind_exc, bnd_app, lift_some, eC_app, eVar_0, eVar_1, eVar_2, eVar_3, eVar_4, eVar_5, eVar_6, eVar_7, eVar_8, eVar_9, eVar_10, ap1_app, ap2_app, apA_app, aCons_app, nilA_app, tru_app, tst_app, asB_bool, truD_bool, truD_list, truD_tuple, mNot_app, mAnd_app, mOr_app, eNot_app, eAnd_app, eOr_app, andK_b, orK_b, eIf_app, eTup_app, eLst_app, lLst_app, frzL_app, eList_app, eSl_app, pN_app, pS_app, partD_int, chn_b, eChain_app, seq_nx, seq_ret, seq_brk, seq_cnt, seq_exc, sSeq_app, sRet_app, sDrop_app, sIf_app, sRaise_app, sAsg_name, sSetL_app, rxM_ok, rxM_exc, eCall_app, outP_ret, outP_nx, outP_exc, Option.map_some, len0, len1, len2, len3, len4, len5, len6, len7, len8, eq_self, sz0, sz1, sz2, sz3, sz4, sz5, sz6, sz7, sz8, sz9, sz10, sz11, freeAt_s, freeAt_n, freeAt_d, freeAt_m, sFrz_app, frzK_ml, List.getElem?_cons_zero, List.getElem?_cons_succ, List.set_cons_zero, List.set_cons_succ, sAsg_tup, asgK_some, bTup_app, bAll_nil, bAll_cons, bName_app, Option.bind_some, isMl_s, isMl_m, resK_some, onK_ml, eApp_app, ePop_app, eIdxV_app, eLenV_app, tTruV_app, sSetI_app, onL_app, fLen_ok, fTru_ok, rbK_ok, cbK_ml, eCB_cons, eCB_nil, List.nil_append, List.cons_append, outK_some, outR_ret, outR_nx, outB_s, outB_m, mConsD_app, mConsL_app, sPar_app, setAll_nil, setAll_cons, true_and, and_true, and_self, Bool.not_true, Bool.not_false, Bool.false_eq_true, reduceIte, tup_list, hgf]
  rfl
theorem s_scenario {ns : List Int} (hn : ns.length ≤ 63) {most cap : Int} (hm : 1 ≤ most ∧ most ≤ 5) (hc : 3 ≤ cap ∧ cap ≤ 32) {zs : List D} {b : Nat} (hs : Sok b zs) (hb : b ≤ 900000) :
    ∃ qs gs zs', VS qs gs ∧ (qs.map (·.2)).prod ≤ cap ∧ qs.length ≤ most ∧ Sok (b + 100) zs' ∧ b__law_scenario [scr ns] zs [.int most, .int cap] = .ok (mkS qs gs) zs' := by
  obtain ⟨qs, gs, z, h1, _, h3⟩ := s_scenario6 hn (most := most) (cap := cap) hm hc hs hb
  exact ⟨qs, gs, z, h1, h3⟩
end PP
namespace PP
open PySem PySem.Spec
local macro_rules
  | `(tactic| wp_walk) => `(tactic| wp_walk using eq_self)
  | `(tactic| wp_walk using $ts,*) => `(tactic| simp -implicitDefEqProofs only [bind_ok, bind_exc, bnd_app, lift_some, eC_app, eVar_0, eVar_1, eVar_2, eVar_3, eVar_4, eVar_5, eVar_6, eVar_7, eVar_8, eVar_9, eVar_10, ap1_app, ap2_app, apA_app, aCons_app, nilA_app, tru_app, tst_app, asB_bool, truD_bool, truD_list, truD_tuple, mNot_app, mAnd_app, mOr_app, eNot_app, eAnd_app, eOr_app, andK_b, orK_b, eIf_app, eTup_app, eLst_app, lLst_app, frzL_app, eList_app, eSl_app, pN_app, pS_app, partD_int, chn_b, eChain_app, seq_nx, seq_ret, seq_brk, seq_cnt, seq_exc, sSeq_app, sRet_app, sDrop_app, sIf_app, sRaise_app, sAsg_name, sSetL_app, rxM_ok, rxM_exc, eCall_app, outP_ret, outP_nx, outP_exc, Option.map_some, len0, len1, len2, len3, len4, len5, len6, len7, len8, eq_self, sz0, sz1, sz2, sz3, sz4, sz5, sz6, sz7, sz8, sz9, sz10, sz11, freeAt_s, freeAt_n, freeAt_d, freeAt_m, sFrz_app, frzK_ml, List.getElem?_cons_zero, List.getElem?_cons_succ, List.set_cons_zero, List.set_cons_succ, sAsg_tup, asgK_some, bTup_app, bAll_nil, bAll_cons, bName_app, Option.bind_some, isMl_s, isMl_m, resK_some, onK_ml, eApp_app, ePop_app, eIdxV_app, eLenV_app, tTruV_app, sSetI_app, onL_app, fLen_ok, fTru_ok, rbK_ok, cbK_ml, eCB_cons, eCB_nil, List.nil_append, List.cons_append, outK_some, outR_ret, outR_nx, outB_s, outB_m, mConsD_app, mConsL_app, sPar_app, setAll_nil, setAll_cons, true_and, and_true, and_self, Bool.not_true, Bool.not_false, Bool.false_eq_true, reduceIte, eVar_11, eVar_12, eVar_13, eVar_14, eVar_15, eVar_16, eVar_17, eVar_18, eVar_19, eVar_20, eVar_21, eVar_22, eVar_23, eVar_24, eVar_25, sWipe_app, wipeG_nil, wipeG_cons, sSetO_app, mConsO_app, ap2L_app, eIdx_app, eExt_app, eNewT_app, sAugI_app, augK_app, sAugT_app, augKT_app, isMt_s, isMt_m, freeAt_t, List.all_cons, List.all_nil, Bool.and_true, Bool.true_and, frzK_md, $[$ts:term],*])
/-! ### rows of answers -/
abbrev Rw (qs : List (Str × Int)) (N : List Str) : List (List Int) := rowsOf (N.map (cnt qs)) [[]]
theorem flatMap_map' {α β γ : Type} (f : α → List β) (h : β → γ) : ∀ l : List α, (l.flatMap f).map h = l.flatMap fun a => (f a).map h
  | [] => rfl
  | a :: l => by rw [List.flatMap_cons, List.map_append, flatMap_map' f h l, List.flatMap_cons]
theorem rowsOf_app : ∀ (cs : List Int) (rows more : List (List Int)), rowsOf cs (rows ++ more) = rowsOf cs rows ++ rowsOf cs more
  | [], _, _ => rfl
  | c :: cs, rows, more => by
    show rowsOf cs ((rows ++ more).flatMap (ext c)) = rowsOf cs (rows.flatMap (ext c)) ++ rowsOf cs (more.flatMap (ext c))
    rw [List.flatMap_append, rowsOf_app]
theorem rowsOf_pre : ∀ (cs : List Int) (r : List Int), rowsOf cs [r] = (rowsOf cs [[]]).map fun t => r ++ t
  | [], r => by simp [rowsOf]
  | c :: cs, r => by
    have flat : ∀ (rows : List (List Int)), rowsOf cs rows = rows.flatMap fun r => (rowsOf cs [[]]).map fun t => r ++ t := by
      intro rows
      induction rows with
      | nil =>
        have : ∀ cs : List Int, rowsOf cs [] = [] := fun cs => by
          induction cs with
          | nil => rfl
          | cons c cs ih => exact ih
        rw [this]
        rfl
      | cons a rows ih =>
        rw [show a :: rows = [a] ++ rows from rfl, rowsOf_app, ih, rowsOf_pre cs a]
        rfl
    show rowsOf cs (ext c r ++ []) = (rowsOf cs (ext c [] ++ [])).map fun t => r ++ t
    rw [List.append_nil, List.append_nil, flat, flat (ext c []), flatMap_map', ext, ext, List.flatMap_map, List.flatMap_map]
    congr 1
    funext a
    rw [List.map_map]
    congr 1
    funext t
    simp
theorem rows_cons (c : Int) (cs : List Int) : rowsOf (c :: cs) [[]] = (List.range c.toNat).flatMap fun (a : Nat) => (rowsOf cs [[]]).map fun t => (a : Int) :: t := by
  have flat : ∀ (rows : List (List Int)), rowsOf cs rows = rows.flatMap fun r => (rowsOf cs [[]]).map fun t => r ++ t := by
    intro rows
    induction rows with
    | nil =>
      have : ∀ cs : List Int, rowsOf cs [] = [] := fun cs => by
        induction cs with
        | nil => rfl
        | cons c cs ih => exact ih
      rw [this]
      rfl
    | cons a rows ih =>
      rw [show a :: rows = [a] ++ rows from rfl, rowsOf_app, ih, rowsOf_pre cs a]
      rfl
  show rowsOf cs (ext c [] ++ []) = _
  rw [List.append_nil, flat, ext, List.flatMap_map]
  rfl
def rowOk : List Int → List Int → Prop
  | [], [] => True
  | a :: r, c :: cs => (0 ≤ a ∧ a < c) ∧ rowOk r cs
  | _, _ => False
theorem mem_rows : ∀ (cs : List Int) (r : List Int), r ∈ rowsOf cs [[]] ↔ rowOk r cs
  | [], r => by
    show r ∈ [[]] ↔ _
    cases r with
    | nil => simp [rowOk]
    | cons a r => simp [rowOk]
  | c :: cs, r => by
    rw [rows_cons, List.mem_flatMap]
    constructor
    · rintro ⟨a, ha, h⟩
      obtain ⟨t, ht, rfl⟩ := List.mem_map.mp h
      have ha := List.mem_range.mp ha
      exact ⟨⟨by omega, by omega⟩, (mem_rows cs t).mp ht⟩
    · cases r with
      | nil => intro h; exact h.elim
      | cons a r =>
        rintro ⟨⟨h1, h2⟩, h3⟩
        refine ⟨a.toNat, List.mem_range.mpr (by omega), List.mem_map.mpr ⟨r, (mem_rows cs r).mpr h3, ?_⟩⟩
        have : ((a.toNat : Nat) : Int) = a := by omega
        rw [this]
theorem rowOk_len : ∀ {r cs : List Int}, rowOk r cs → r.length = cs.length
  | [], [], _ => rfl
  | a :: r, c :: cs, h => by rw [List.length_cons, List.length_cons, rowOk_len h.2]
  | [], _ :: _, h => h.elim
  | _ :: _, [], h => h.elim
/-! ### names of a scenario -/
structure NS (qs : List (Str × Int)) (N : List Str) : Prop where
  nd : N.Nodup
  sub : ∀ z ∈ N, z ∈ qs.map (·.1)
theorem nodup_len {α : Type} [DecidableEq α] : ∀ {a b : List α}, a.Nodup → (∀ x ∈ a, x ∈ b) → a.length ≤ b.length
  | [], _, _, _ => Nat.zero_le _
  | x :: a, b, hn, h => by
    obtain ⟨n1, n2⟩ := List.nodup_cons.mp hn
    have hx := h x List.mem_cons_self
    have : a.length ≤ (b.erase x).length := nodup_len n2 fun y hy => by
      have hne : y ≠ x := fun e => n1 (e ▸ hy)
      exact (List.mem_erase_of_ne hne).mpr (h y (List.mem_cons_of_mem _ hy))
    rw [List.length_erase_of_mem hx] at this
    have hp : 0 < b.length := List.length_pos_of_mem hx
    rw [List.length_cons]
    omega
section
variable {qs : List (Str × Int)} {gs : List (List Str)} {N F : List Str}
theorem NS.len (hN : NS qs N) (hq : qs.length ≤ 5) : N.length ≤ 5 := by
  have := nodup_len hN.nd hN.sub
  rw [List.length_map] at this
  omega
theorem VS.nd (h : VS qs gs) : (qs.map (·.1)).Nodup := asc_nd h.qa
theorem VS.gns (h : VS qs gs) {g : List Str} (hg : g ∈ gs) : NS qs g := ⟨asc_nd (h.gn g hg).2.2, (h.gn g hg).2.1⟩
theorem VS.cnt23 (h : VS qs gs) {z : Str} (hz : z ∈ qs.map (·.1)) : 2 ≤ cnt qs z ∧ cnt qs z ≤ 3 := by
  obtain ⟨q, hq, e⟩ := cnt_mem hz
  rw [e]
  exact (h.qn q hq).2
theorem prod_pow : ∀ (cs : List Int), (∀ c ∈ cs, c ≤ 3) → (cs.map Int.toNat).prod ≤ 3 ^ cs.length
  | [], _ => by simp
  | c :: cs, h => by
    rw [List.map_cons, List.prod_cons, List.length_cons, Nat.pow_succ, Nat.mul_comm]
    have h1 := h c List.mem_cons_self
    exact Nat.mul_le_mul (prod_pow cs fun x hx => h x (List.mem_cons_of_mem _ hx)) (by omega)
theorem Rw_prod (h : VS qs gs) (hN : NS qs N) : ((N.map (cnt qs)).map Int.toNat).prod ≤ 243 := by
  have h1 := prod_pow (N.map (cnt qs)) (fun c hc => by
    obtain ⟨z, hz, rfl⟩ := List.mem_map.mp hc
    exact (h.cnt23 (hN.sub z hz)).2)
  rw [List.length_map] at h1
  have h2 : 3 ^ N.length ≤ 3 ^ 5 := Nat.pow_le_pow_right (by omega) (hN.len h.q5)
  omega
theorem Rw_len (h : VS qs gs) (hN : NS qs N) : (Rw qs N).length ≤ 243 := by
  rw [Rw, rowsOf_len]
  simpa using Rw_prod h hN
/-! ### cells(scenario, names) -/
theorem row_len {cs r : List Int} (h : r ∈ rowsOf cs [[]]) : r.length = cs.length := rowOk_len ((mem_rows cs r).mp h)
end
end PP
namespace PP
open PySem PySem.Spec
/-! ### k03 -/
theorem VS.gok {qs : List (Str × Int)} {gs : List (List Str)} (h : VS qs gs) : ∀ g ∈ gs, gok g := fun g hg => by
  have hz := sizeLine_big
  obtain ⟨g1, g2, g3⟩ := h.gn g hg
  refine ⟨?_, fun z hz => ?_⟩
  · have hn : g.Nodup := asc_nd g3
    have : g.length ≤ (qs.map (·.1)).length := by
      have key : ∀ (g m : List Str), g.Nodup → (∀ z ∈ g, z ∈ m) → g.length ≤ m.length := by
        intro g
        induction g with
        | nil => intro m _ _; simp
        | cons x g ih =>
          intro m hn hs
          obtain ⟨n1, n2⟩ := List.nodup_cons.mp hn
          have hx := hs x List.mem_cons_self
          have := ih (m.erase x) n2 fun z hz => by
            have hne : z ≠ x := fun e => n1 (e ▸ hz)
            exact (List.mem_erase_of_ne hne).mpr (hs z (List.mem_cons_of_mem _ hz))
          rw [List.length_erase_of_mem hx] at this
          have := List.length_pos_of_mem hx
          rw [List.length_cons]
          omega
      exact key g _ hn g2
    rw [List.length_map] at this
    have := h.q5
    omega
  · obtain ⟨q, hq, rfl⟩ := List.mem_map.mp (g2 z hz)
    exact nmOk_len (h.qn q hq).1
theorem VS.gd {qs : List (Str × Int)} {gs : List (List Str)} (h : VS qs gs) : Gd 3 (mkS qs gs) := by
  have hz := sizeLine_big
  refine ⟨by simp only [List.length_cons, List.length_nil]; omega, fun y hy => ?_⟩
  simp only [List.mem_cons, List.not_mem_nil, or_false] at hy
  rcases hy with rfl | rfl
  · refine ⟨by rw [List.length_map]; have := h.q5; omega, fun y hy => ?_⟩
    obtain ⟨q, hq, rfl⟩ := List.mem_map.mp hy
    refine ⟨by simp only [List.length_cons, List.length_nil]; omega, fun y hy => ?_⟩
    simp only [List.mem_cons, List.not_mem_nil, or_false] at hy
    rcases hy with rfl | rfl
    · exact nmOk_len (h.qn q hq).1
    · trivial
  · refine ⟨by rw [List.length_map]; have := h.g10; omega, fun y hy => ?_⟩
    obtain ⟨g, hg, rfl⟩ := List.mem_map.mp hy
    exact gd_mkG (h.gok g hg)
theorem ix_tup {xs : List D} {k : Nat} {y : D} (h : xs[k]? = some y) : ixD (.tuple xs) (.int (k : Int)) = some y := by
  have hk := (List.getElem?_eq_some_iff.mp h).1
  show L2.atI xs (k : Int) = _
  rw [L2.atI, L2.ixN, if_pos (by omega), if_pos (by omega)]
  simpa using h
end PP
namespace PP
open PySem PySem.Spec
local macro_rules
  | `(tactic| wp_walk) => `(tactic| wp_walk using eq_self)
  | `(tactic| wp_walk using $ts,*) => `(tactic| simp -implicitDefEqProofs only [bind_ok, bind_exc, bnd_app, lift_some, eC_app, eVar_0, eVar_1, eVar_2, eVar_3, eVar_4, eVar_5, eVar_6, eVar_7, eVar_8, eVar_9, eVar_10, ap1_app, ap2_app, apA_app, aCons_app, nilA_app, tru_app, tst_app, asB_bool, truD_bool, truD_list, truD_tuple, mNot_app, mAnd_app, mOr_app, eNot_app, eAnd_app, eOr_app, andK_b, orK_b, eIf_app, eTup_app, eLst_app, lLst_app, frzL_app, eList_app, eSl_app, pN_app, pS_app, partD_int, chn_b, eChain_app, seq_nx, seq_ret, seq_brk, seq_cnt, seq_exc, sSeq_app, sRet_app, sDrop_app, sIf_app, sRaise_app, sAsg_name, sSetL_app, rxM_ok, rxM_exc, eCall_app, outP_ret, outP_nx, outP_exc, Option.map_some, len0, len1, len2, len3, len4, len5, len6, len7, len8, eq_self, sz0, sz1, sz2, sz3, sz4, sz5, sz6, sz7, sz8, sz9, sz10, sz11, freeAt_s, freeAt_n, freeAt_d, freeAt_m, sFrz_app, frzK_ml, List.getElem?_cons_zero, List.getElem?_cons_succ, List.set_cons_zero, List.set_cons_succ, sAsg_tup, asgK_some, bTup_app, bAll_nil, bAll_cons, bName_app, Option.bind_some, isMl_s, isMl_m, resK_some, onK_ml, eApp_app, ePop_app, eIdxV_app, eLenV_app, tTruV_app, sSetI_app, onL_app, fLen_ok, fTru_ok, rbK_ok, cbK_ml, eCB_cons, eCB_nil, List.nil_append, List.cons_append, outK_some, outR_ret, outR_nx, outB_s, outB_m, mConsD_app, mConsL_app, sPar_app, setAll_nil, setAll_cons, true_and, and_true, and_self, Bool.not_true, Bool.not_false, Bool.false_eq_true, reduceIte, eVar_11, eVar_12, eVar_13, eVar_14, eVar_15, eVar_16, eVar_17, eVar_18, eVar_19, eVar_20, eVar_21, eVar_22, eVar_23, eVar_24, eVar_25, sWipe_app, wipeG_nil, wipeG_cons, sSetO_app, mConsO_app, ap2L_app, eIdx_app, eExt_app, eNewT_app, sAugI_app, augK_app, sAugT_app, augKT_app, isMt_s, isMt_m, freeAt_t, List.all_cons, List.all_nil, Bool.and_true, Bool.true_and, frzK_md, $[$ts:term],*])
/-! ### the answers to fewer names -/
def pt (N : List Str) (row : List Int) (F : List Str) : List Int := F.map fun z => row.getD (N.idxOf z) 0
/-! ### sums over rows -/
theorem gd_row {r : List Int} (h : r.length ≤ sizeLine) : Gd 1 (mkRow r) := by
  refine ⟨by rw [List.length_map]; exact h, fun y hy => ?_⟩
  obtain ⟨i, _, rfl⟩ := List.mem_map.mp hy
  trivial
theorem zip2_of {x y : D} {xs ys : List D} (hx : seqD x = some xs) (hy : seqD y = some ys) : zip2 [x, y] = some (zipD xs ys) := by
  rw [zip2, hx, hy]
theorem mem_zip_left {α β : Type} {a : List α} {b : List β} {p : α × β} (h : p ∈ a.zip b) : p.1 ∈ a := (List.of_mem_zip h).1
section
variable {qs : List (Str × Int)} {gs : List (List Str)} {N F : List Str}
theorem row_lenN {r : List Int} (h : r ∈ Rw qs N) : r.length = N.length := by
  have := row_len h
  rw [List.length_map] at this
  exact this
end
/-! ### dicts with keys rows -/
/-! ### summed -/
/-! ### sums of parts -/
/-! ### models -/
abbrev mkM (ms : List (List Int)) : D := .tuple (ms.map mkRow)
/-! ### drawn weights -/
/-! ### bent things -/
def BT : Nat → D → Prop
  | _, .int i => i.natAbs < 2 ^ 64
  | _, .str z => z.length ≤ 1000
  | n + 1, .tuple xs => xs.length ≤ 1000 ∧ ∀ y ∈ xs, BT n y
  | _, _ => False
/-- good data of moderate size -/
def Gk : Nat → D → Prop
  | _, .none => True
  | _, .bool _ => True
  | _, .int _ => True
  | _, .str x => x.length ≤ sizeLine
  | n + 1, .list xs => xs.length ≤ 100000 ∧ ∀ y ∈ xs, Gk n y
  | n + 1, .tuple xs => xs.length ≤ 100000 ∧ ∀ y ∈ xs, Gk n y
  | _, _ => False
theorem Gk.mono : ∀ {n m : Nat} {x : D}, Gk n x → n ≤ m → Gk m x
  | _, _, .none, _, _ => by simp [Gk]
  | _, _, .bool _, _, _ => by simp [Gk]
  | _, _, .int _, _, _ => by simp [Gk]
  | _, _, .str _, h, _ => by simpa [Gk] using h
  | 0, _, .list _, h, _ => by simp [Gk] at h
  | n + 1, 0, .list xs, h, l => by omega
  | n + 1, m + 1, .list xs, h, l => by
    simp only [Gk] at h ⊢
    exact ⟨h.1, fun y hy => Gk.mono (h.2 y hy) (by omega)⟩
  | 0, _, .tuple _, h, _ => by simp [Gk] at h
  | n + 1, 0, .tuple xs, h, l => by omega
  | n + 1, m + 1, .tuple xs, h, l => by
    simp only [Gk] at h ⊢
    exact ⟨h.1, fun y hy => Gk.mono (h.2 y hy) (by omega)⟩
  | 0, _, .dict _, h, _ => by simp [Gk] at h
  | n + 1, _, .dict _, h, _ => by simp [Gk] at h
theorem Gk.gd : ∀ {n : Nat} {x : D}, Gk n x → Gd n x
  | _, .none, _ => by simp [Gd]
  | _, .bool _, _ => by simp [Gd]
  | _, .int _, _ => by simp [Gd]
  | _, .str _, h => by simpa [Gd, Gk] using h
  | 0, .list _, h => by simp [Gk] at h
  | n + 1, .list xs, h => by
    have := sizeLine_big
    simp only [Gk] at h
    exact ⟨by have := h.1; omega, fun y hy => Gk.gd (h.2 y hy)⟩
  | 0, .tuple _, h => by simp [Gk] at h
  | n + 1, .tuple xs, h => by
    have := sizeLine_big
    simp only [Gk] at h
    exact ⟨by have := h.1; omega, fun y hy => Gk.gd (h.2 y hy)⟩
  | 0, .dict _, h => by simp [Gk] at h
  | n + 1, .dict _, h => by simp [Gk] at h
theorem BT.gd : ∀ {n : Nat} {x : D}, BT n x → Gd n x
  | _, .int i, _ => by simp [Gd]
  | _, .str z, h => by
    have := sizeLine_big
    have h : z.length ≤ 1000 := by cases ‹Nat› <;> exact h
    simp only [Gd]
    omega
  | 0, .tuple xs, h => by exact h.elim
  | n + 1, .tuple xs, h => by
    have := sizeLine_big
    exact ⟨by have := h.1; omega, fun y hy => BT.gd (h.2 y hy)⟩
  | 0, .none, h => h.elim
  | n + 1, .none, h => h.elim
  | 0, .bool _, h => h.elim
  | n + 1, .bool _, h => h.elim
  | 0, .list _, h => h.elim
  | n + 1, .list _, h => h.elim
  | 0, .dict _, h => h.elim
  | n + 1, .dict _, h => h.elim
theorem cut_sub {α : Type} {xs : List α} {lo hi : Option Int} : ∀ y ∈ cutD xs lo hi, y ∈ xs := fun y hy => List.mem_of_mem_drop (List.mem_of_mem_take hy)
theorem cut_len {α : Type} {xs : List α} {lo hi : Option Int} : (cutD xs lo hi).length ≤ xs.length := by
  unfold cutD
  rw [List.length_take, List.length_drop]
  omega
theorem add_lsts {xs ys : List D} (h : xs.length + ys.length ≤ 100000) : addD (.list xs) (.list ys) = some (.list (xs ++ ys)) := add_lists (by have := sizeLine_big; omega)
theorem mul_two {xs : List D} (h : xs.length ≤ 1000) : mulD (.list xs) (.int 2) = some (.list (xs ++ xs)) := by
  rw [mulD, if_pos]
  · rw [show (2 : Int).toNat = 2 from rfl]
    simp [List.replicate]
  · simp only [Bool.and_eq_true, decide_eq_true_eq]
    refine ⟨⟨by decide, by decide⟩, ?_⟩
    rw [show (2 : Int).toNat = 2 from rfl]
    omega
theorem str_ok {i : Int} (h : i.natAbs < 2 ^ 64) : ∃ z : Str, z.length ≤ sizeLine ∧ strD [.int i] = some (.str z) := by
  have hl : i.natAbs.log2 < 1920 := by
    by_cases h0 : i.natAbs = 0
    · rw [h0]; decide
    · exact (Nat.log2_lt h0).mpr (Nat.lt_of_lt_of_le h (Nat.pow_le_pow_right (by decide) (by decide)))
  refine ⟨_, PySem.int_text_fits hl, ?_⟩
  rw [strD, if_pos hl]
def L19 : List D := [.none, .bool true, .bool false, .int 0, .int 1, .int (-1), .int 3, .int 10, .str "a", .str "b", .str "", .str "A", .str "abcd", .tuple [], .list [], .tuple [.str "a"], .tuple [.str "a", .str "b"], .tuple [.str "b", .str "a"], .tuple [.str "a", .int 2]]
theorem L19_gk : ∀ y ∈ L19, Gk 1 y := by
  have hz := sizeLine_big
  have e1 : ("a" : Str).length = 1 := by decide
  have e2 : ("b" : Str).length = 1 := by decide
  have e3 : ("" : Str).length = 0 := by decide
  have e4 : ("A" : Str).length = 1 := by decide
  have e5 : ("abcd" : Str).length = 4 := by decide
  intro y hy
  simp only [L19, List.mem_cons, List.not_mem_nil, or_false] at hy
  rcases hy with rfl | rfl | rfl | rfl | rfl | rfl | rfl | rfl | rfl | rfl | rfl | rfl | rfl | rfl | rfl | rfl | rfl | rfl | rfl <;> simp [Gk, e1, e2, e3, e4, e5] <;> omega
theorem neg_one : negD (.int 1) = some (.int (-1)) := rfl
theorem sub_one (i : Int) : subD (.int i) (.int 1) = some (.int (i - 1)) := rfl
/-! ### tuples of counts -/
theorem tup_gd {n : Nat} {xs : List D} (h : Gd n (.tuple xs)) : xs.length ≤ sizeLine ∧ ∃ m, n = m + 1 ∧ ∀ y ∈ xs, Gd m y := by
  cases n with
  | zero => exact h.elim
  | succ m => exact ⟨h.1, m, rfl, h.2⟩
theorem isi_tup_of {x : D} (h : isDict x = false) : isiD "tuple" x = some (.bool (isTupD x)) := isi_tuple h
/-! ### models recognized -/
/-! ### the law's own loop -/
/-! ### rows in order, combinations, supports -/
section
variable {qs : List (Str × Int)} {gs : List (List Str)}
/-- a table of rows of the groups, each in order; rows may be empty -/
structure SW (qs : List (Str × Int)) (gs : List (List Str)) (sup : List (List (List Int))) : Prop where
  len : sup.length = gs.length
  sub : ∀ p ∈ gs.zip sup, p.2.Sublist (Rw qs p.1)
def mkSup (sup : List (List (List Int))) : D := .tuple (sup.map mkM)
theorem SW.gd (h : VS qs gs) {sup : List (List (List Int))} (hs : SW qs gs sup) : Gd 3 (mkSup sup) := by
  have hz := sizeLine_big
  have hg10 := h.g10
  refine ⟨by rw [List.length_map, hs.len]; omega, fun y hy => ?_⟩
  obtain ⟨rs, hr, rfl⟩ := List.mem_map.mp hy
  obtain ⟨i, hi, e⟩ := List.mem_iff_getElem.mp hr
  have hg : i < gs.length := by rw [← hs.len]; exact hi
  have hm : (gs[i], rs) ∈ gs.zip sup := by
    rw [← e, List.mem_iff_getElem]
    exact ⟨i, by rw [List.length_zip]; omega, List.getElem_zip ..⟩
  have sb : rs.Sublist (Rw qs gs[i]) := hs.sub _ hm
  have := sb.length_le
  have := Rw_len h (h.gns (List.getElem_mem hg))
  have hN := (h.gns (List.getElem_mem hg)).len h.q5
  refine ⟨by rw [List.length_map]; omega, fun z hz' => ?_⟩
  obtain ⟨r, hr, rfl⟩ := List.mem_map.mp hz'
  refine gd_row ?_
  have := row_lenN (sb.subset hr)
  omega
end
/-! ### comprehensions that draw; drawn supports -/
/-! ### matched combinations, trimmed supports -/
theorem in_gd {α : Type} {f : α → D} {n m : Nat} {x y : D} {xs : List α} (hy : seqD y = some (xs.map f)) (hx : Gd n x) (hn : n ≤ 59) (h : ∀ a ∈ xs, Gd m (f a)) : inD x y = some (.bool (xs.any fun a => PyData.eqv (f a) x)) := by
  have e : inOk x (xs.map f) = true := by
    simp only [inOk, Bool.and_eq_true, decide_eq_true_eq]
    refine ⟨hx.plain, (plainAll_iff _).mpr fun y hy => ?_, by have := hx.depth; omega⟩
    obtain ⟨a, ha, rfl⟩ := List.mem_map.mp hy
    exact (h a ha).plain
  rw [inD, hy]
  dsimp only
  rw [if_pos e, inB, List.any_map]
  rfl
theorem nin_gd {α : Type} {f : α → D} {n m : Nat} {x y : D} {xs : List α} (hy : seqD y = some (xs.map f)) (hx : Gd n x) (hn : n ≤ 59) (h : ∀ a ∈ xs, Gd m (f a)) : ninD x y = some (.bool (!xs.any fun a => PyData.eqv (f a) x)) := by
  have h := in_gd hy hx hn h
  unfold inD at h
  unfold ninD
  rw [hy] at h ⊢
  dsimp only at h ⊢
  split at h
  · rename_i e
    rw [if_pos e]
    injection h with h
    injection h with h
    rw [h]
  · cases h
section
variable {qs : List (Str × Int)} {gs : List (List Str)} {sup : List (List (List Int))}
theorem SW.rows (h : VS qs gs) (hs : SW qs gs sup) {p : List Str × List (List Int)} (hp : p ∈ gs.zip sup) : p.2.length ≤ 243 := by
  have := (hs.sub p hp).length_le
  have := Rw_len h (h.gns (mem_zip_left hp))
  omega
theorem SW.at (hs : SW qs gs sup) {i : Nat} {r : List (List Int)} (h : sup[i]? = some r) : ∃ g, gs[i]? = some g ∧ (g, r) ∈ gs.zip sup := by
  have hi := (List.getElem?_eq_some_iff.mp h).1
  have hg : i < gs.length := by rw [← hs.len]; exact hi
  refine ⟨gs[i], List.getElem?_eq_getElem hg, List.mem_iff_getElem?.mpr ⟨i, ?_⟩⟩
  rw [List.getElem?_zip_eq_some]
  exact ⟨List.getElem?_eq_getElem hg, h⟩
end
/-! ### models of weights -/
/-! ### the same data -/
def ST : Nat → D → Prop
  | _, .none => True
  | _, .bool _ => True
  | _, .int _ => True
  | _, .str z => z.length ≤ sizeLine
  | n + 1, .tuple xs => xs.length ≤ sizeLine ∧ ∀ y ∈ xs, ST n y
  | _, _ => False
theorem ST.gd : ∀ {n : Nat} {x : D}, ST n x → Gd n x
  | _, .none, _ => by simp [Gd]
  | _, .bool _, _ => by simp [Gd]
  | _, .int _, _ => by simp [Gd]
  | 0, .str z, h => h
  | n + 1, .str z, h => h
  | 0, .tuple xs, h => h.elim
  | n + 1, .tuple xs, h => ⟨h.1, fun y hy => ST.gd (h.2 y hy)⟩
  | 0, .list _, h => h.elim
  | n + 1, .list _, h => h.elim
  | 0, .dict _, h => h.elim
  | n + 1, .dict _, h => h.elim
theorem zip_self {α : Type} : ∀ l : List α, l.zip l = l.map fun x => (x, x)
  | [] => rfl
  | x :: l => by rw [List.zip_cons_cons, zip_self l, List.map_cons]
theorem isE_none (x : D) : isE x .none = some (.bool (isNo x)) := by cases x <;> rfl
theorem eq_self_gd {n : Nat} {x : D} (h : Gd n x) (hn : n ≤ 59) : eqD x x = some (.bool true) := by
  rw [eq_gd h h hn, SeqAt.eqv_refl_plain x h.plain]
theorem same_leaf {rec : PF} {x : D} {n : Nat} (hx : ST n x) (ht : isTupD x = false) : outP (m__law_same rec [some (.d x), some (.d x), none, none]) = .ok (.bool true) := by
  have hg := hx.gd
  have e1 := isi_bool hg.nd
  have e2 := isi_tup_of hg.nd
  have e3 := isi_str hg.nd
  have e4 := isi_int hg.nd
  rw [m__law_same, m__law_same_s10, m__law_same_s9, m__law_same_s8, m__law_same_s7, m__law_same_s6, m__law_same_s5, m__law_same_s2, m__law_same_s1]
  cases x with
  | none => wp_walk using isE_none, isNo
  | bool b =>
    have e5 := eq_self_gd (n := 0) (x := .bool b) trivial (by omega)
    wp_walk using isE_none, isNo, e1, isBoolD, e5
  | int i =>
    have e5 := eq_self_gd (n := 0) (x := .int i) trivial (by omega)
    wp_walk using isE_none, isNo, e1, e2, e3, e4, isBoolD, isTupD, isStrD, isIB, e5
  | str z =>
    have hz : z.length ≤ sizeLine := by cases n <;> exact hx
    have e5 := eq_self_gd (n := 0) (x := .str z) hz (by omega)
    wp_walk using isE_none, isNo, e1, e2, e3, e4, isBoolD, isTupD, isStrD, isIB, e5
  | tuple xs => cases ht
  | list _ => cases n <;> exact hx.elim
  | dict _ => cases n <;> exact hx.elim
theorem s_same_refl : ∀ (n f : Nat) (x : D), n < f → n ≤ 50 → ST n x → p__law_same f [x, x] = .ok (.bool true) := by
  intro n
  induction n with
  | zero =>
    intro f x hf hn hx
    cases f with
    | zero => omega
    | succ f =>
      rw [p__law_same, runP_out, show dsG [x, x] 4 = [some (.d x), some (.d x), none, none] from rfl]
      refine same_leaf hx ?_
      cases x with
      | tuple xs => exact hx.elim
      | _ => rfl
  | succ n ih =>
    intro f x hf hn hx
    cases f with
    | zero => omega
    | succ f =>
      rw [p__law_same, runP_out, show dsG [x, x] 4 = [some (.d x), some (.d x), none, none] from rfl]
      by_cases ht : isTupD x = true
      · cases x with
        | tuple xs =>
          have hg := hx.gd
          have e1 := isi_bool hg.nd
          have e2 := isi_tup_of hg.nd
          obtain ⟨c, hc⟩ : ∃ c : Int, lenD [.tuple xs] = some (.int c) := ⟨_, len_tup xs⟩
          have en : neD (.int c) (.int c) = some (.bool false) := by rw [ne_int, beq_self_eq_true]; rfl
          have e10 : m__law_same_s10 (p__law_same f) [some (.d (.tuple xs)), some (.d (.tuple xs)), none, none] = .ok .nx [some (.d (.tuple xs)), some (.d (.tuple xs)), none, none] := by
            rw [m__law_same_s10]
            wp_walk using isE_none, isNo
          have e9 : m__law_same_s9 (p__law_same f) [some (.d (.tuple xs)), some (.d (.tuple xs)), none, none] = .ok .nx [some (.d (.tuple xs)), some (.d (.tuple xs)), none, none] := by
            rw [m__law_same_s9]
            wp_walk using e1, isBoolD
          have e4 : m__law_same_s4 (p__law_same f) [some (.d (.tuple xs)), some (.d (.tuple xs)), none, none] = .ok .nx [some (.d (.tuple xs)), some (.d (.tuple xs)), none, none] := by
            rw [m__law_same_s4]
            wp_walk using e2, isTupD, hc, en
          have e3 : m__law_same_s3 (p__law_same f) [some (.d (.tuple xs)), some (.d (.tuple xs)), none, none] = .ok (.ret (.bool true)) [some (.d (.tuple xs)), some (.d (.tuple xs)), none, none] := by
            rw [m__law_same_s3, sRet_app, apA_app, aCons_app, frzL_app]
            rw [lcM xs (fun y => .tuple [y, y]) (fun _ => .bool true) ?_ ?_ ?_ ?_ ?_]
            · have ea := all_bools xs (fun _ => true)
              have et : xs.all (fun _ => true) = true := List.all_eq_true.mpr fun _ _ => rfl
              rw [et] at ea
              wp_walk using ea
            · have ez : zipD xs xs = xs.map fun y => .tuple [y, y] := by
                rw [zipD, zip_self, List.map_map]
                rfl
              wp_walk using zip2_of (x := .tuple xs) (y := .tuple xs) rfl rfl, ez
            · exact hx.1
            · intro y hy
              refine ⟨_, rfl, ?_, rfl, rfl⟩
              have e := ih f y (by omega) (by omega) (hx.2 y hy)
              wp_walk using e
            · rfl
            · rfl
          rw [m__law_same, sSeq_app, e10, seq_nx, sSeq_app, e9, seq_nx, sSeq_app, m__law_same_s8, sIf_app]
          simp only [tru_app, ap1_app, eVar_1, bind_ok, e2, isTupD, lift_some, truD_bool, reduceIte]
          rw [sSeq_app, e4, seq_nx, e3]
          rfl
        | _ => cases ht
      · exact same_leaf hx (by simpa using ht)
/-! ### fitting assignments, stuck combinations, extensions -/
abbrev nmsOf (qs : List (Str × Int)) : List Str := qs.map (·.1)
/-! ### rows cut and joined -/
/-! ### fractions -/
/-! ### weights with a scale -/
/-! ### shares of joint tables -/
/-- names in order, at least one -/
structure GN (qs : List (Str × Int)) (N : List Str) : Prop where
  ne : N ≠ []
  sub : ∀ z ∈ N, z ∈ nmsOf qs
  asc : N.Pairwise fun a b => sLt a b = true
section
variable {qs : List (Str × Int)} {gs : List (List Str)} {ns : List Int} {N : List Str}
theorem GN.nd (h : GN qs N) : NS qs N := ⟨asc_nd h.asc, h.sub⟩
/-! ### some names -/
end
/-! ### steps, ranges of whole numbers, loops that gather -/
def irange (a b : Int) : List Int := (List.range (b - a).toNat).map fun (k : Nat) => a + (k : Int)
/-! ### numbers for all cells -/
def isIT (k : Nat) : D → Bool
  | .tuple xs => xs.length == k && xs.all isIntD
  | _ => false
def isCN (qs : List (Str × Int)) (gs : List (List Str)) : D → Bool
  | .tuple ts => ts.length == gs.length && (gs.zip ts).all fun p => isIT (Rw qs p.1).length p.2
  | _ => false
structure CN (qs : List (Str × Int)) (gs : List (List Str)) (N : List (List Int)) : Prop where
  len : N.length = gs.length
  row : ∀ p ∈ gs.zip N, p.2.length = (Rw qs p.1).length
theorem isIT_row (r : List Int) : isIT r.length (mkRow r) = true := by
  rw [mkRow, isIT, List.length_map, beq_self_eq_true, Bool.true_and, List.all_eq_true]
  intro y hy
  obtain ⟨i, _, rfl⟩ := List.mem_map.mp hy
  rfl
theorem CN.is {qs : List (Str × Int)} {gs : List (List Str)} {N : List (List Int)} (h : CN qs gs N) : isCN qs gs (mkM N) = true := by
  rw [mkM, isCN, List.length_map, h.len, beq_self_eq_true, Bool.true_and, List.all_eq_true]
  intro p hp
  rw [List.zip_map_right] at hp
  obtain ⟨q, hq, rfl⟩ := List.mem_map.mp hp
  have := h.row q hq
  show isIT (Rw qs q.1).length (mkRow q.2) = true
  rw [← this]
  exact isIT_row _
end PP
namespace PP
open PySem PySem.Spec
/-! ### folds with T -/
/-- a scenario's data -/
theorem VS.st {qs : List (Str × Int)} {gs : List (List Str)} (h : VS qs gs) : ST 3 (mkS qs gs) := by
  have hz := sizeLine_big
  have hq5 := h.q5
  have hg10 := h.g10
  have hnm : ∀ z ∈ qs.map (·.1), z.length ≤ sizeLine := fun z hz' => by
    obtain ⟨q, hq, rfl⟩ := List.mem_map.mp hz'
    exact nmOk_len (h.qn q hq).1
  have key : ST 2 (.tuple (qs.map mkQ)) ∧ ST 2 (.tuple (gs.map mkG)) := by
    refine ⟨⟨by rw [List.length_map]; omega, fun y hy => ?_⟩, ⟨by rw [List.length_map]; omega, fun y hy => ?_⟩⟩
    · obtain ⟨q, hq, rfl⟩ := List.mem_map.mp hy
      refine ⟨by simp only [List.length_cons, List.length_nil]; omega, fun w hw => ?_⟩
      simp only [List.mem_cons, List.not_mem_nil, or_false] at hw
      rcases hw with rfl | rfl
      · exact hnm _ (List.mem_map.mpr ⟨q, hq, rfl⟩)
      · trivial
    · obtain ⟨g, hg, rfl⟩ := List.mem_map.mp hy
      have hl : g.length ≤ 5 := (h.gns hg).len h.q5
      refine ⟨by rw [List.length_map]; omega, fun w hw => ?_⟩
      obtain ⟨z, hz', rfl⟩ := List.mem_map.mp hw
      exact hnm z ((h.gn g hg).2.1 z hz')
  refine ⟨by simp only [List.length_cons, List.length_nil]; omega, fun y hy => ?_⟩
  simp only [List.mem_cons, List.not_mem_nil, or_false] at hy
  rcases hy with rfl | rfl
  · exact key.1
  · exact key.2
theorem VS.same {qs : List (Str × Int)} {gs : List (List Str)} (h : VS qs gs) : p__law_same 12 [mkS qs gs, mkS qs gs] = .ok (.bool true) := s_same_refl 3 12 _ (by omega) (by omega) h.st
end PP
namespace PP
open PySem PySem.Spec
local macro_rules
  | `(tactic| wp_walk) => `(tactic| wp_walk using eq_self)
  | `(tactic| wp_walk using $ts,*) => `(tactic| simp -implicitDefEqProofs only [T.ok_bind, T.bind_assoc, T.bind_ok, pair_eta, T.exc_bind, T.ofO_some, T.ofRx_ok, T.ofRx_exc, T.ofRb_ok, callT_1, callT_2, callT_3, callT_4, callT_5, callT_6, cbT_0, cbT_1, cbT_2, cbT_3, lenT_0, lenT_1, lenT_2, lenT_3, lenT_4, lenT_5, lenT_6, T.tup2_mk, T.tup3_mk, T.tup4_mk, T.andD_b, T.orD_b, T.chn_b, T.bindF_nx, T.bindF_ret, T.bindF_brk, T.bindR_nx, T.bindR_ret, tryT_ok, tryT_exc, asB_bool, truD_bool, truD_list, truD_tuple, partD_int, Option.map_some, Bool.not_true, Bool.not_false, Bool.false_eq_true, reduceIte, eq_self, $[$ts:term],*])
/-! ### bent things, by form -/
def tupV (xs : List D) : List D := [.list xs, .tuple (cutD xs none (some (-1))), .tuple (xs ++ cutD xs (some (-1)) none), .tuple (cutD xs (some 1) none), .tuple xs.reverse, .tuple (xs ++ [.none])]
inductive Bent : D → D → Prop
  | pick {x y : D} : y ∈ L19 → Bent x y
  | tup {xs : List D} {y : D} : y ∈ tupV xs → Bent (.tuple xs) y
  | int {i j : Int} : j = i + 1 ∨ j = i - 1 → Bent (.int i) (.int j)
  | bool {i : Int} {b : Bool} : Bent (.int i) (.bool b)
  | one {i : Int} : Bent (.int i) (.tuple [.int i])
  | text {i : Int} {z : Str} : z.length ≤ sizeLine → Bent (.int i) (.str z)
  | sub {xs : List D} {k : Nat} {x y : D} : xs[k]? = some x → Bent x y → Bent (.tuple xs) (.tuple (xs.take k ++ y :: xs.drop (k + 1)))
abbrev L15 : List D := [.none, .bool true, .bool false, .int 0, .int 1, .int (-1), .int 3, .int 10, .str "a", .str "b", .str "", .str "A", .str "abcd", .tuple [], .list []]
abbrev L4 : List D := [.tuple [.str "a"], .tuple [.str "a", .str "b"], .tuple [.str "b", .str "a"], .tuple [.str "a", .int 2]]
section
variable {ns : List Int}
theorem e19 : addD (.list L15) (.list L4) = some (.list L19) := add_lsts (by decide)
theorem l15 (t : T D) : lenT L15 t = t := lenT_n (by decide)
end
end PP
namespace PP
open PySem PySem.Spec
/-! ### list(x) == sorted(set(x)): ascending -/
theorem lt_trans {a b c : D} (h1 : PySem.W.dataLt a b = true) (h2 : PySem.W.dataLt b c = true) : PySem.W.dataLt a c = true := (PyProof.Rows.listOrd PyProof.Rows.itemOrd).trans _ _ _ h1 h2
theorem lt_irr (a : D) : PySem.W.dataLt a a = false := PyProof.Rows.lex_irrefl _
theorem asc_iff : ∀ {xs : List D}, ascB xs = true ↔ xs.Pairwise fun a b => PySem.W.dataLt a b = true
  | [] => ⟨fun _ => .nil, fun _ => rfl⟩
  | [x] => ⟨fun _ => List.pairwise_singleton _ _, fun _ => rfl⟩
  | x :: y :: xs => by
    have ih := asc_iff (xs := y :: xs)
    have e : ascB (x :: y :: xs) = (PySem.W.dataLt x y && ascB (y :: xs)) := rfl
    rw [e, Bool.and_eq_true, ih, List.pairwise_cons (a := x)]
    constructor
    · rintro ⟨h1, h2⟩
      refine ⟨fun z hz => ?_, h2⟩
      rcases List.mem_cons.mp hz with rfl | hz
      · exact h1
      · exact lt_trans h1 ((List.pairwise_cons.mp h2).1 z hz)
    · rintro ⟨h1, h2⟩
      exact ⟨h1 y List.mem_cons_self, h2⟩
theorem ddup_id : ∀ {xs : List D}, AllN xs → xs.Nodup → ddup xs = xs
  | [], _, _ => rfl
  | x :: xs, an, nd => by
    obtain ⟨h1, h2⟩ := List.nodup_cons.mp nd
    have an2 : AllN xs := fun z hz => an z (List.mem_cons_of_mem _ hz)
    rw [ddup, ddup_id an2 h2]
    congr 1
    refine List.filter_eq_self.mpr fun y hy => ?_
    cases q : PyData.eqv x y with
    | false => rfl
    | true =>
      obtain ⟨k, hk⟩ := an x List.mem_cons_self
      obtain ⟨k', hk'⟩ := an2 y hy
      rw [eqv_nk x y k k' hk hk' q] at h1
      exact absurd hy h1
theorem eqvAll_nk {xs ys : List D} (a1 : AllN xs) (a2 : AllN ys) : PyData.eqvAll xs ys = true ↔ xs = ys := by
  induction xs generalizing ys with
  | nil =>
    cases ys with
    | nil => exact ⟨fun _ => rfl, fun _ => rfl⟩
    | cons y ys => exact ⟨(fun h => by cases h), (fun h => by cases h)⟩
  | cons x xs ih =>
    cases ys with
    | nil => exact ⟨(fun h => by cases h), (fun h => by cases h)⟩
    | cons y ys =>
      have ih := ih (ys := ys) (fun z hz => a1 z (List.mem_cons_of_mem _ hz)) (fun z hz => a2 z (List.mem_cons_of_mem _ hz))
      obtain ⟨k, hk⟩ := a1 x List.mem_cons_self
      obtain ⟨k', hk'⟩ := a2 y List.mem_cons_self
      rw [PyData.eqvAll, Bool.and_eq_true, ih]
      constructor
      · rintro ⟨h1, h2⟩
        rw [eqv_nk x y k k' hk hk' h1, h2]
      · intro h
        injection h with h1 h2
        subst h1
        exact ⟨nk_refl hk, h2⟩
theorem asc_set {xs : List D} (an : AllN xs) (al : alkB xs = true) : PyData.eqvAll xs (sortD (ddup xs)) = ascB xs := by
  have p1 : (sortD (ddup xs)).Perm (ddup xs) := List.mergeSort_perm _ _
  have an2 : AllN (sortD (ddup xs)) := fun y hy => an y ((ddup_mem an y).mp (p1.mem_iff.mp hy))
  have key := eqvAll_nk an an2
  cases h : ascB xs with
  | true =>
    have pw := asc_iff.mp h
    have nd : xs.Nodup := pw.imp fun {a b} hab e => by rw [e, lt_irr] at hab; cases hab
    refine key.mpr ?_
    rw [ddup_id an nd]
    refine (perm_asc (List.mergeSort_perm xs _).symm (pw.imp fun {a b} hab => ?_) (sortD_asc xs) fun a ha b hb h1 h2 => ?_)
    · cases q : PySem.W.dataLt b a with
      | false => rfl
      | true => have := lt_trans hab q; rw [lt_irr] at this; cases this
    · obtain ⟨k, hk⟩ := an a ha
      obtain ⟨k', hk'⟩ := an b hb
      exact antisym_nk hk hk' (List.all_eq_true.mp (List.all_eq_true.mp al a ha) b hb) h1 h2
  | false =>
    refine Bool.eq_false_iff.mpr fun e0 => ?_
    have e := key.mp e0
    have nd : xs.Nodup := by rw [e]; exact p1.nodup_iff.mpr (ddup_nodup an)
    have so : xs.Pairwise fun a b => (!PySem.W.dataLt b a) = true := by
      have := sortD_asc (ddup xs)
      rw [← e] at this
      exact this
    have : ascB xs = true := by
      refine asc_iff.mpr ((so.and nd).imp_of_mem fun {a b} ha hb hab => ?_)
      cases q : PySem.W.dataLt a b with
      | true => rfl
      | false =>
        obtain ⟨k, hk⟩ := an a ha
        obtain ⟨k', hk'⟩ := an b hb
        exact absurd (antisym_nk hk hk' (List.all_eq_true.mp (List.all_eq_true.mp al a ha) b hb) q (by simpa using hab.1)) hab.2
    rw [h] at this
    cases this
theorem plain_mem : ∀ {xs : List D}, PyData.plainAll xs = true ↔ ∀ x ∈ xs, x.plain = true
  | [] => ⟨(fun _ x hx => by cases hx), fun _ => rfl⟩
  | y :: xs => by
    rw [PyData.plainAll, Bool.and_eq_true, plain_mem (xs := xs)]
    constructor
    · rintro ⟨h1, h2⟩ x hx
      rcases List.mem_cons.mp hx with rfl | hx
      · exact h1
      · exact h2 x hx
    · exact fun h => ⟨h y List.mem_cons_self, fun x hx => h x (List.mem_cons_of_mem _ hx)⟩
theorem depth_le : ∀ {xs : List D} {n : Nat}, PyData.depthAll xs ≤ n ↔ ∀ x ∈ xs, x.depth ≤ n
  | [], n => ⟨(fun _ x hx => by cases hx), fun _ => Nat.zero_le _⟩
  | y :: xs, n => by
    rw [PyData.depthAll]
    have ih := depth_le (xs := xs) (n := n)
    constructor
    · intro h x hx
      rcases List.mem_cons.mp hx with rfl | hx
      · omega
      · exact ih.mp (by omega) x hx
    · intro h
      have h1 := h y List.mem_cons_self
      have h2 := ih.mpr fun x hx => h x (List.mem_cons_of_mem _ hx)
      omega
theorem srtOk_sub {xs ys : List D} (h : srtOk xs = true) (s : ∀ y ∈ ys, y ∈ xs) : srtOk ys = true := by
  simp only [srtOk, alkB, Bool.and_eq_true, decide_eq_true_eq, Bool.or_eq_true, List.all_eq_true] at h ⊢
  obtain ⟨h1, h2, h3, h4⟩ := h
  exact ⟨plain_mem.mpr fun y hy => plain_mem.mp h1 y (s y hy), fun a ha b hb => h2 a (s a ha) b (s b hb), depth_le.mpr fun y hy => depth_le.mp h3 y (s y hy), h4.imp (fun z y hy => z y (s y hy)) fun z y hy => z y (s y hy)⟩
theorem setOk_an {xs : List D} (h : setOk xs = true) : AllN xs := by
  simp only [setOk, Bool.and_eq_true, Option.isSome_iff_exists] at h
  obtain ⟨_, _, ⟨ks, ek⟩, _⟩ := h
  exact allN_of ek
theorem set_asc {x : D} {xs : List D} (hx : seqD x = some xs) (ok : setOk xs = true) (so : srtOk xs = true) : srtSetD x = some (.list (sortD (ddup xs))) ∧ eqD (.list xs) (.list (sortD (ddup xs))) = some (.bool (ascB xs)) := by
  have an := setOk_an ok
  have so2 : srtOk (ddup xs) = true := srtOk_sub so fun y hy => (ddup_mem an y).mp hy
  have p1 : (sortD (ddup xs)).Perm (ddup xs) := List.mergeSort_perm _ _
  constructor
  · unfold srtSetD
    rw [hx]
    dsimp only
    rw [if_pos (by rw [ok, so2]; rfl)]
  · have sx := so
    have so3 : srtOk (sortD (ddup xs)) = true := srtOk_sub so fun y hy => (ddup_mem an y).mp (p1.mem_iff.mp hy)
    simp only [srtOk, Bool.and_eq_true, decide_eq_true_eq] at sx so3
    rw [eqD, if_pos, PyData.eqv, asc_set an sx.2.1]
    simp only [cmpOk, Bool.and_eq_true, decide_eq_true_eq, PyData.plain, PyData.depth]
    refine ⟨sx.1, so3.1, ?_⟩
    refine decide_eq_true ?_
    have dd8 : PyData.depthAll xs ≤ 8 := by
      have := ok
      simp only [setOk, Bool.and_eq_true, decide_eq_true_eq] at this
      exact this.2.1
    omega
/-! texts -/
theorem nk_strs : ∀ zs : List Str, nkDs (zs.map PyData.str) = some (zs.map .text)
  | [] => rfl
  | z :: zs => by rw [List.map_cons, nkDs, nk_strs zs]; rfl
theorem depth_strs (zs : List Str) : PyData.depthAll (zs.map PyData.str) ≤ 0 := depth_le.mpr fun x hx => by
  obtain ⟨z, _, rfl⟩ := List.mem_map.mp hx
  exact Nat.le_refl _
theorem setOk_strs {zs : List Str} (h : zs.length < 64) : setOk (zs.map PyData.str) = true := by
  have hd := depth_strs zs
  simp only [setOk, Bool.and_eq_true, decide_eq_true_eq, Bool.or_eq_true, List.length_map, nk_strs]
  exact ⟨h, by omega, rfl, .inl (List.all_eq_true.mpr fun x hx => by obtain ⟨z, _, rfl⟩ := List.mem_map.mp hx; rfl)⟩
theorem srtOk_strs (zs : List Str) : srtOk (zs.map PyData.str) = true := by
  have hd := depth_strs zs
  simp only [srtOk, alkB, Bool.and_eq_true, decide_eq_true_eq, Bool.or_eq_true, List.all_eq_true]
  refine ⟨plain_mem.mpr fun x hx => ?_, fun a ha b hb => ?_, by omega, .inr fun x hx => ?_⟩
  · obtain ⟨z, _, rfl⟩ := List.mem_map.mp hx; rfl
  · obtain ⟨z, _, rfl⟩ := List.mem_map.mp ha
    obtain ⟨y, _, rfl⟩ := List.mem_map.mp hb
    rfl
  · obtain ⟨z, _, rfl⟩ := List.mem_map.mp hx; rfl
/-! bent: good, and not much longer -/
theorem gd_cut {n : Nat} {xs : List D} (hl : xs.length ≤ sizeLine) (h : ∀ y ∈ xs, Gd n y) {lo hi : Option Int} : Gd (n + 1) (.tuple (cutD xs lo hi)) := ⟨Nat.le_trans cut_len hl, fun y hy => h y (cut_sub y hy)⟩
theorem Bent.gd {x y : D} (h : Bent x y) : ∀ {n : Nat}, BT n x → Gd (n + 2) y := by
  have hz := sizeLine_big
  induction h with
  | pick hy => intro n _; exact ((L19_gk _ hy).mono (by omega)).gd
  | @tup xs y hy =>
    intro n hx
    cases n with
    | zero => exact hx.elim
    | succ n =>
      have hl : xs.length ≤ 1000 := hx.1
      have hg : ∀ y ∈ xs, Gd n y := fun y hy => (hx.2 y hy).gd
      have hg2 : ∀ y ∈ xs, Gd (n + 2) y := fun y hy => (hg y hy).mono (by omega)
      simp only [tupV, List.mem_cons, List.not_mem_nil, or_false] at hy
      rcases hy with rfl | rfl | rfl | rfl | rfl | rfl
      · exact ⟨by omega, hg2⟩
      · exact gd_cut (by omega) hg2
      · refine ⟨by rw [List.length_append]; have := cut_len (xs := xs) (lo := some (-1)) (hi := none); omega, fun z hz' => ?_⟩
        rcases List.mem_append.mp hz' with hz' | hz'
        · exact hg2 z hz'
        · exact hg2 z (cut_sub z hz')
      · exact gd_cut (by omega) hg2
      · exact ⟨by rw [List.length_reverse]; omega, fun z hz' => hg2 z (List.mem_reverse.mp hz')⟩
      · refine ⟨by rw [List.length_append, List.length_singleton]; omega, fun z hz' => ?_⟩
        rcases List.mem_append.mp hz' with hz' | hz'
        · exact hg2 z hz'
        · rw [List.mem_singleton.mp hz']; simp [Gd]
  | int _ => intro n _; simp [Gd]
  | bool => intro n _; simp [Gd]
  | one => intro n _; exact ⟨by simp only [List.length_cons, List.length_nil]; omega, fun z hz' => by rw [List.mem_singleton.mp hz']; simp [Gd]⟩
  | text hl => intro n _; simpa [Gd] using hl
  | @sub xs k x y e _ ih =>
    intro n hx
    cases n with
    | zero => exact hx.elim
    | succ n =>
      have hk : k < xs.length := (List.getElem?_eq_some_iff.mp e).1
      have hl : xs.length ≤ 1000 := hx.1
      refine ⟨by simp only [List.length_append, List.length_take, List.length_cons, List.length_drop]; omega, fun z hz' => ?_⟩
      rcases List.mem_append.mp hz' with hz' | hz'
      · exact (hx.2 z (List.mem_of_mem_take hz')).gd.mono (by omega)
      · rcases List.mem_cons.mp hz' with rfl | hz'
        · exact ih (hx.2 x (List.mem_of_getElem? e))
        · exact (hx.2 z (List.mem_of_mem_drop hz')).gd.mono (by omega)
/-- how long a tuple is -/
def tlen : D → Nat
  | .tuple xs => xs.length
  | _ => 0
theorem Bent.len {x y : D} (h : Bent x y) {c : Nat} (hc : 1 ≤ c) (hx : tlen x ≤ c) : tlen y ≤ c + 1 := by
  cases h with
  | pick hy =>
    simp only [L19, List.mem_cons, List.not_mem_nil, or_false] at hy
    rcases hy with rfl | rfl | rfl | rfl | rfl | rfl | rfl | rfl | rfl | rfl | rfl | rfl | rfl | rfl | rfl | rfl | rfl | rfl | rfl <;> simp only [tlen, List.length_cons, List.length_nil] <;> omega
  | @tup xs y hy =>
    have hx : xs.length ≤ c := hx
    simp only [tupV, List.mem_cons, List.not_mem_nil, or_false] at hy
    rcases hy with rfl | rfl | rfl | rfl | rfl | rfl
    · exact Nat.zero_le _
    · have := cut_len (xs := xs) (lo := none) (hi := some (-1)); show (cutD _ _ _).length ≤ _; omega
    · have h1 : (cutD xs (some (-1)) none).length ≤ 1 := by
        unfold cutD
        rw [List.length_take, List.length_drop]
        have : HT.sIx xs.length 0 (some (-1)) = xs.length - 1 := by
          simp only [HT.sIx]
          split <;> omega
        omega
      show (xs ++ _).length ≤ _
      rw [List.length_append]; omega
    · have := cut_len (xs := xs) (lo := some 1) (hi := none); show (cutD _ _ _).length ≤ _; omega
    · show xs.reverse.length ≤ _; rw [List.length_reverse]; omega
    · show (xs ++ _).length ≤ _; rw [List.length_append, List.length_singleton]; omega
  | int _ => exact Nat.zero_le _
  | bool => exact Nat.zero_le _
  | one => show 1 ≤ c + 1; omega
  | text _ => exact Nat.zero_le _
  | @sub xs k x y e _ =>
    have hk : k < xs.length := (List.getElem?_eq_some_iff.mp e).1
    have hx : xs.length ≤ c := hx
    show (xs.take k ++ y :: xs.drop (k + 1)).length ≤ _
    simp only [List.length_append, List.length_take, List.length_cons, List.length_drop]
    omega
end PP
namespace PP
open PySem PySem.Spec
local macro_rules
  | `(tactic| wp_walk) => `(tactic| wp_walk using eq_self)
  | `(tactic| wp_walk using $ts,*) => `(tactic| simp -implicitDefEqProofs only [T.ok_bind, T.bind_assoc, T.bind_ok, pair_eta, T.exc_bind, T.ofO_some, T.ofRx_ok, T.ofRx_exc, T.ofRb_ok, callT_1, callT_2, callT_3, callT_4, callT_5, callT_6, cbT_0, cbT_1, cbT_2, cbT_3, lenT_0, lenT_1, lenT_2, lenT_3, lenT_4, lenT_5, lenT_6, T.tup2_mk, T.tup3_mk, T.tup4_mk, T.andD_b, T.orD_b, T.chn_b, T.bindF_nx, T.bindF_ret, T.bindF_brk, T.bindR_nx, T.bindR_ret, tryT_ok, tryT_exc, asB_bool, truD_bool, truD_list, truD_tuple, partD_int, Option.map_some, Bool.not_true, Bool.not_false, Bool.false_eq_true, reduceIte, eq_self, $[$ts:term],*])
/-! ### data of moderate width, and its bend, with truth values -/
def Gn (m : Nat) : Nat → D → Prop
  | _, .none => True
  | _, .bool _ => True
  | _, .int i => i.natAbs ≤ m
  | _, .str z => z.length ≤ sizeLine
  | n + 1, .list xs => xs.length ≤ m ∧ ∀ y ∈ xs, Gn m n y
  | n + 1, .tuple xs => xs.length ≤ m ∧ ∀ y ∈ xs, Gn m n y
  | _, _ => False
theorem Gn.mono {m m' : Nat} (hm : m ≤ m') : ∀ {n n' : Nat} {x : D}, Gn m n x → n ≤ n' → Gn m' n' x
  | _, _, .none, _, _ => by simp [Gn]
  | _, _, .bool _, _, _ => by simp [Gn]
  | _, _, .int _, h, _ => by simp only [Gn] at h ⊢; omega
  | _, _, .str _, h, _ => by simpa [Gn] using h
  | 0, _, .list _, h, _ => by simp [Gn] at h
  | n + 1, 0, .list xs, h, l => by omega
  | n + 1, k + 1, .list xs, h, l => by
    simp only [Gn] at h ⊢
    exact ⟨by omega, fun y hy => Gn.mono hm (h.2 y hy) (by omega)⟩
  | 0, _, .tuple _, h, _ => by simp [Gn] at h
  | n + 1, 0, .tuple xs, h, l => by omega
  | n + 1, k + 1, .tuple xs, h, l => by
    simp only [Gn] at h ⊢
    exact ⟨by omega, fun y hy => Gn.mono hm (h.2 y hy) (by omega)⟩
  | 0, _, .dict _, h, _ => by simp [Gn] at h
  | n + 1, _, .dict _, h, _ => by simp [Gn] at h
theorem Gn.gd {m : Nat} (hm : m ≤ 1000) : ∀ {n : Nat} {x : D}, Gn m n x → Gd n x
  | _, .none, _ => by simp [Gd]
  | _, .bool _, _ => by simp [Gd]
  | _, .int _, h => by simp [Gd]
  | _, .str _, h => by simpa [Gn, Gd] using h
  | 0, .list _, h => by simp [Gn] at h
  | n + 1, .list xs, h => by
    have hz := sizeLine_big
    simp only [Gn, Gd] at h ⊢
    exact ⟨by omega, fun y hy => Gn.gd hm (h.2 y hy)⟩
  | 0, .tuple _, h => by simp [Gn] at h
  | n + 1, .tuple xs, h => by
    have hz := sizeLine_big
    simp only [Gn, Gd] at h ⊢
    exact ⟨by omega, fun y hy => Gn.gd hm (h.2 y hy)⟩
  | 0, .dict _, h => by simp [Gn] at h
  | n + 1, .dict _, h => by simp [Gn] at h
theorem L19_gn {m n : Nat} (hm : 10 ≤ m) : ∀ y ∈ L19, Gn m (n + 1) y := by
  have hz := sizeLine_big
  have s1 : ∀ z : Str, z.length ≤ 4 → Gn m n (.str z) := fun z h => by simp only [Gn]; omega
  have s2 : ∀ z : Str, z.length ≤ 4 → Gn m (n + 1) (.str z) := fun z h => by simp only [Gn]; omega
  have i1 : ∀ i : Int, i.natAbs ≤ 10 → Gn m n (.int i) := fun i h => by simp only [Gn]; omega
  have i2 : ∀ i : Int, i.natAbs ≤ 10 → Gn m (n + 1) (.int i) := fun i h => by simp only [Gn]; omega
  have t2 : ∀ xs : List D, xs.length ≤ 2 → (∀ y ∈ xs, Gn m n y) → Gn m (n + 1) (.tuple xs) := fun xs h1 h2 => ⟨by omega, h2⟩
  intro y hy
  simp only [L19, List.mem_cons, List.not_mem_nil, or_false] at hy
  rcases hy with rfl | rfl | rfl | rfl | rfl | rfl | rfl | rfl | rfl | rfl | rfl | rfl | rfl | rfl | rfl | rfl | rfl | rfl | rfl
  · trivial
  · trivial
  · trivial
  · exact i2 _ (by decide)
  · exact i2 _ (by decide)
  · exact i2 _ (by decide)
  · exact i2 _ (by decide)
  · exact i2 _ (by decide)
  · exact s2 _ (by decide)
  · exact s2 _ (by decide)
  · exact s2 _ (by decide)
  · exact s2 _ (by decide)
  · exact s2 _ (by decide)
  · exact ⟨Nat.zero_le _, fun y hy => absurd hy List.not_mem_nil⟩
  · exact ⟨Nat.zero_le _, fun y hy => absurd hy List.not_mem_nil⟩
  · exact t2 _ (by decide) fun y hy => by
      simp only [List.mem_cons, List.not_mem_nil, or_false] at hy
      subst hy
      exact s1 _ (by decide)
  · exact t2 _ (by decide) fun y hy => by
      simp only [List.mem_cons, List.not_mem_nil, or_false] at hy
      rcases hy with rfl | rfl <;> exact s1 _ (by decide)
  · exact t2 _ (by decide) fun y hy => by
      simp only [List.mem_cons, List.not_mem_nil, or_false] at hy
      rcases hy with rfl | rfl <;> exact s1 _ (by decide)
  · exact t2 _ (by decide) fun y hy => by
      simp only [List.mem_cons, List.not_mem_nil, or_false] at hy
      rcases hy with rfl | rfl
      · exact s1 _ (by decide)
      · exact i1 _ (by decide)
theorem tupV_gn {m n : Nat} {xs : List D} (h : Gn m (n + 1) (.tuple xs)) : ∀ y ∈ tupV xs, Gn (2 * m + 1) (n + 1) y := by
  obtain ⟨h1, h2⟩ := h
  have h3 : ∀ y ∈ xs, Gn (2 * m + 1) n y := fun y hy => (h2 y hy).mono (by omega) (Nat.le_refl _)
  intro y hy
  simp only [tupV, List.mem_cons, List.not_mem_nil, or_false] at hy
  rcases hy with rfl | rfl | rfl | rfl | rfl | rfl
  · exact ⟨by omega, h3⟩
  · exact ⟨by have := cut_len (xs := xs) (lo := none) (hi := some (-1)); omega, fun y hy => h3 y (cut_sub y hy)⟩
  · refine ⟨by rw [List.length_append]; have := cut_len (xs := xs) (lo := some (-1)) (hi := none); omega, fun z hz' => ?_⟩
    rcases List.mem_append.mp hz' with hz' | hz'
    · exact h3 z hz'
    · exact h3 z (cut_sub z hz')
  · exact ⟨by have := cut_len (xs := xs) (lo := some 1) (hi := none); omega, fun y hy => h3 y (cut_sub y hy)⟩
  · exact ⟨by rw [List.length_reverse]; omega, fun z hz' => h3 z (List.mem_reverse.mp hz')⟩
  · refine ⟨by rw [List.length_append, List.length_singleton]; omega, fun z hz' => ?_⟩
    rcases List.mem_append.mp hz' with hz' | hz'
    · exact h3 z hz'
    · rw [List.mem_singleton.mp hz']; simp [Gn]
section
variable {ns : List Int}
/-- an int, a truth value -/
theorem bn_num {rec : BF} (hn : ns.length ≤ 63) {m n : Nat} (hm : 10 ≤ m) {x xp xm : D} {k : Bool} {z : Str} (t0 : isiD "tuple" x = some (.bool false)) (t1 : isiD "int" x = some (.bool true)) (a1 : addBD x (.int 1) = some xp) (sub_one : subBD x (.int 1) = some xm)
    (tr : truD x = some k) (ez : strBD [x] = some (.str z)) (g0 : Gn (2 * m + 1) n x) (gp : Gn (2 * m + 1) (n + 1) xp) (gm : Gn (2 * m + 1) (n + 1) xm) (hzl : z.length ≤ sizeLine) {zs : List D} {b : Nat} (hs : Sok b zs) (hb : b + 2 ≤ sizeLine) :
    ∃ y zs', Gn (2 * m + 1) (n + 1) y ∧ Sok (b + 2) zs' ∧ d__law_benB rec (scr ns) zs x = .ok (y, zs') := by
  have hz := sizeLine_big
  obtain ⟨W, hW⟩ : ∃ W : List D, W = [xp, xm, .bool (!k), .tuple [x], .str z] := ⟨_, rfl⟩
  have hWl : W.length = 5 := by rw [hW]; rfl
  obtain ⟨y, z1, hy, s1, e1⟩ := s_pick (ns := ns) (xs := L19 ++ (W ++ W)) hs hb hn (by simp [L19])
  refine ⟨y, z1, ?_, s1, ?_⟩
  · rcases List.mem_append.mp hy with h | h
    · exact L19_gn (by omega) y h
    · have h : y ∈ W := by rcases List.mem_append.mp h with h | h <;> exact h
      rw [hW] at h
      simp only [List.mem_cons, List.not_mem_nil, or_false] at h
      rcases h with rfl | rfl | rfl | rfl | rfl
      · exact gp
      · exact gm
      · simp [Gn]
      · exact ⟨by simp only [List.length_cons, List.length_nil]; omega, fun y hy => by rw [List.mem_singleton.mp hy]; exact g0⟩
      · simpa [Gn] using hzl
  · have m2 := mul_two (xs := W) (by omega)
    have ad : addD (.list L19) (.list (W ++ W)) = some (.list (L19 ++ (W ++ W))) := add_lsts (by rw [List.length_append, hWl]; decide)
    rw [hW] at m2 ad
    rw [hW] at e1
    unfold d__law_benB
    wp_walk using t0, t1, neg_one, l15, e19, a1, sub_one, tr, ez, m2, ad, e1
theorem bn_else {rec : BF} (hn : ns.length ≤ 63) {m n : Nat} (hm : 10 ≤ m) {x : D} (t0 : isiD "tuple" x = some (.bool false)) (t1 : isiD "int" x = some (.bool false)) {zs : List D} {b : Nat} (hs : Sok b zs) (hb : b + 2 ≤ sizeLine) :
    ∃ y zs', Gn (2 * m + 1) (n + 1) y ∧ Sok (b + 2) zs' ∧ d__law_benB rec (scr ns) zs x = .ok (y, zs') := by
  obtain ⟨y, z1, hy, s1, e1⟩ := s_pick (ns := ns) (xs := L19) hs hb hn (by simp [L19])
  refine ⟨y, z1, L19_gn (by omega) y hy, s1, ?_⟩
  unfold d__law_benB
  wp_walk using t0, t1, neg_one, l15, e19, e1
theorem bn_tup {rec : BF} (hn : ns.length ≤ 63) {m n : Nat} (hm : 10 ≤ m) (hm2 : m ≤ 100) {xs : List D} (hx : Gn m (n + 1) (.tuple xs)) {zs : List D} {b : Nat} (hs : Sok b zs) (hb : b + 6 * (n + 1) + 6 ≤ sizeLine) (hrec : ∀ y ∈ xs, ∀ zs b, Sok b zs → b + 6 * n + 6 ≤ sizeLine → ∃ w zs', Gn (2 * m + 1) (n + 1) w ∧ Sok (b + 6 * n + 6) zs' ∧ rec [scr ns] zs [y] = .ok w zs') :
    ∃ y zs', Gn (2 * m + 1) (n + 2) y ∧ Sok (b + 6 * (n + 1) + 6) zs' ∧ d__law_benB rec (scr ns) zs (.tuple xs) = .ok (y, zs') := by
  have hz := sizeLine_big
  have hl : xs.length ≤ 100 := by have := hx.1; omega
  have hg := hx
  have t0 : isiD "tuple" (.tuple xs) = some (.bool true) := isi_tuple rfl
  have t1 : isiD "int" (.tuple xs) = some (.bool false) := isi_int rfl
  have c1 : slD (.tuple xs) none (some (-1)) = some (.tuple (cutD xs none (some (-1)))) := rfl
  have c2 : slD (.tuple xs) (some (-1)) none = some (.tuple (cutD xs (some (-1)) none)) := rfl
  have c3 : slD (.tuple xs) (some 1) none = some (.tuple (cutD xs (some 1) none)) := rfl
  have c4 : revD (.tuple xs) = some (.tuple xs.reverse) := rfl
  have c5 : addD (.tuple xs) (.tuple [.none]) = some (.tuple (xs ++ [.none])) := add_tups (by simp only [List.length_cons, List.length_nil]; omega)
  have c6 : addD (.tuple xs) (.tuple (cutD xs (some (-1)) none)) = some (.tuple (xs ++ cutD xs (some (-1)) none)) := add_tups (by have := cut_len (xs := xs) (lo := some (-1)) (hi := none); omega)
  have c7 : seqA [.tuple xs] = some xs := rfl
  have ad : addD (.list L19) (.list (tupV xs)) = some (.list (L19 ++ tupV xs)) := add_lsts (by show 19 + 6 ≤ 100000; decide)
  rw [tupV] at ad
  have pk : ∀ z1 b1, Sok b1 z1 → b1 ≤ b + 2 → ∃ y zs', Gn (2 * m + 1) (n + 2) y ∧ Sok (b + 6 * (n + 1) + 6) zs' ∧ b__law_pick [scr ns] z1 [.list (L19 ++ tupV xs)] = .ok y zs' := by
    intro z1 b1 s1 h1
    obtain ⟨y, z2, hy, s2, e2⟩ := s_pick (ns := ns) (xs := L19 ++ tupV xs) s1 (by omega) hn (by simp [L19])
    refine ⟨y, z2, ?_, s2.mono (by omega), e2⟩
    rcases List.mem_append.mp hy with h | h
    · exact L19_gn (by omega) y h
    · exact (tupV_gn hg y h).mono (Nat.le_refl _) (by omega)
  cases he : xs.isEmpty with
  | true =>
    obtain ⟨y, z2, hy, s2, e2⟩ := pk zs b hs (by omega)
    rw [tupV] at e2
    refine ⟨y, z2, hy, s2, ?_⟩
    unfold d__law_benB
    wp_walk using t0, t1, he, neg_one, l15, e19, c1, c2, c3, c4, c5, c6, c7, ad, e2
  | false =>
    obtain ⟨k, z1, k0, k1, s1, e1⟩ := s_draw (ns := ns) (many := 4) hs (by omega) hn (by omega)
    have eq0 := eq_int k 0
    cases hk : (k == 0) with
    | true =>
      rw [hk] at eq0
      obtain ⟨y, z2, hy, s2, e2⟩ := pk z1 (b + 2) s1 (by omega)
      rw [tupV] at e2
      refine ⟨y, z2, hy, s2, ?_⟩
      unfold d__law_benB
      wp_walk using t0, t1, he, e1, eq0, neg_one, l15, e19, c1, c2, c3, c4, c5, c6, c7, ad, e2
    | false =>
      rw [hk] at eq0
      have pos : 0 < xs.length := by
        cases xs with
        | nil => simp at he
        | cons a r => simp
      obtain ⟨c, hc⟩ : ∃ c : Int, c = (xs.length : Int) := ⟨_, rfl⟩
      have el : lenD [.tuple xs] = some (.int c) := by rw [len_tup, hc]
      obtain ⟨j, z2, j0, j1, s2, e2⟩ := s_draw (ns := ns) (many := c) s1 (by omega) hn (by omega)
      obtain ⟨q, rfl⟩ := Int.eq_ofNat_of_zero_le j0
      have hq : q < xs.length := by omega
      have gx : xs[q]? = some xs[q] := List.getElem?_eq_getElem hq
      obtain ⟨w, z3, hw, s3, e3⟩ := hrec xs[q] (List.getElem_mem hq) z2 (b + 2 + 2) s2 (by omega)
      have ix : ixD (.tuple xs) (.int (q : Int)) = some xs[q] := ix_tup gx
      have d1 : slD (.tuple xs) none (some (q : Int)) = some (.tuple (xs.take q)) := sl_upto xs q
      have d2 : slD (.tuple xs) (some ((q : Int) + 1)) none = some (.tuple (xs.drop (q + 1))) := sl_from xs (q + 1)
      have a1 : addD (.tuple (xs.take q)) (.tuple [w]) = some (.tuple (xs.take q ++ [w])) := add_tups (by simp only [List.length_take, List.length_cons, List.length_nil]; omega)
      have a2 : addD (.tuple (xs.take q ++ [w])) (.tuple (xs.drop (q + 1))) = some (.tuple (xs.take q ++ w :: xs.drop (q + 1))) := by
        rw [add_tups (by simp only [List.length_append, List.length_take, List.length_drop, List.length_cons, List.length_nil]; omega), List.append_assoc]
        rfl
      have a3 : addBD (.int (q : Int)) (.int 1) = some (.int ((q : Int) + 1)) := rfl
      refine ⟨.tuple (xs.take q ++ w :: xs.drop (q + 1)), z3, ?_, s3.mono (by omega), ?_⟩
      · refine ⟨?_, fun y hy => ?_⟩
        · simp only [List.length_append, List.length_take, List.length_cons, List.length_drop]
          have := hg.1
          omega
        · rcases List.mem_append.mp hy with h | h
          · exact (hg.2 y (List.mem_of_mem_take h)).mono (by omega) (by omega)
          · rcases List.mem_cons.mp h with rfl | h
            · exact hw
            · exact (hg.2 y (List.mem_of_mem_drop h)).mono (by omega) (by omega)
      · generalize (q : Int) = qi at *
        unfold d__law_benB
        wp_walk using t0, t1, he, e1, eq0, el, e2, d1, ix, e3, a1, a3, d2, a2
theorem s_bnl (hn : ns.length ≤ 63) {m : Nat} (hm : 10 ≤ m) (hm2 : m ≤ 100) (n f : Nat) (x : D) (zs : List D) (b : Nat) (hx : Gn m n x) (ht : ∀ xs, x ≠ .tuple xs) (hs : Sok b zs) (hb : b + 2 ≤ sizeLine) : ∃ (y : D) (zs' : List D), Gn (2 * m + 1) (n + 1) y ∧ Sok (b + 2) zs' ∧ b__law_benB (f + 1) [scr ns] zs [x] = .ok y zs' := by
  have hz := sizeLine_big
  have num : ∀ {xp xm : D} {k : Bool} {z : Str}, isiD "tuple" x = some (.bool false) → isiD "int" x = some (.bool true) → addBD x (.int 1) = some xp → subBD x (.int 1) = some xm → truD x = some k → strBD [x] = some (.str z) → Gn (2 * m + 1) n x → Gn (2 * m + 1) (n + 1) xp → Gn (2 * m + 1) (n + 1) xm → z.length ≤ sizeLine → ∃ (y : D) (zs' : List D), Gn (2 * m + 1) (n + 1) y ∧ Sok (b + 2) zs' ∧ b__law_benB (f + 1) [scr ns] zs [x] = .ok y zs' := by
    intro xp xm k z h1 h2 h3 h4 h5 h6 h7 h8 h9 h10
    obtain ⟨y, z, q1, q2, q3⟩ := bn_num (rec := b__law_benB f) hn hm h1 h2 h3 h4 h5 h6 h7 h8 h9 h10 hs hb
    exact ⟨y, z, q1, q2, (sm__law_benB _ _ _ _).ok q3⟩
  have els : isiD "tuple" x = some (.bool false) → isiD "int" x = some (.bool false) → ∃ (y : D) (zs' : List D), Gn (2 * m + 1) (n + 1) y ∧ Sok (b + 2) zs' ∧ b__law_benB (f + 1) [scr ns] zs [x] = .ok y zs' := by
    intro h1 h2
    obtain ⟨y, z, q1, q2, q3⟩ := bn_else (rec := b__law_benB f) hn hm (n := n) h1 h2 hs hb
    exact ⟨y, z, q1, q2, (sm__law_benB _ _ _ _).ok q3⟩
  cases x with
  | none => exact els (isi_tuple rfl) (isi_int rfl)
  | str x => exact els (isi_tuple rfl) (isi_int rfl)
  | list x => exact els (isi_tuple rfl) (isi_int rfl)
  | tuple xs => exact absurd rfl (ht xs)
  | dict x => cases n <;> simp [Gn] at hx
  | int i =>
    have hi : i.natAbs ≤ m := by cases n <;> simpa [Gn] using hx
    obtain ⟨z, hzl, ez⟩ := str_ok (i := i) (by omega)
    refine num (xp := .int (i + 1)) (xm := .int (i - 1)) (k := i != 0) (z := z) (isi_tuple rfl) (isi_int rfl) rfl rfl rfl ez ?_ ?_ ?_ hzl
    · cases n <;> simp only [Gn] <;> omega
    · simp only [Gn]; omega
    · simp only [Gn]; omega
  | bool a =>
    refine num (xp := .int (boolI a + 1)) (xm := .int (boolI a - 1)) (k := a) (z := if a = true then "True" else "False") (isi_tuple rfl) (isi_int rfl) rfl rfl rfl rfl ?_ ?_ ?_ ?_
    · cases n <;> simp only [Gn]
    · simp only [Gn]; cases a <;> simp [boolI] <;> omega
    · simp only [Gn]; cases a <;> simp [boolI] <;> omega
    · have h1 : ("True" : Str).length = 4 := by decide
      have h2 : ("False" : Str).length = 5 := by decide
      cases a
      · rw [if_neg Bool.false_ne_true]; omega
      · rw [if_pos rfl]; omega
theorem s_bn (hn : ns.length ≤ 63) {m : Nat} (hm : 10 ≤ m) (hm2 : m ≤ 100) : ∀ (n f : Nat) (x : D) (zs : List D) (b : Nat), n < f → Gn m n x → Sok b zs → b + 6 * n + 6 ≤ sizeLine → ∃ (y : D) (zs' : List D), Gn (2 * m + 1) (n + 1) y ∧ Sok (b + 6 * n + 6) zs' ∧ b__law_benB f [scr ns] zs [x] = .ok y zs' := by
  intro n
  induction n with
  | zero =>
    intro f x zs b hf hx hs hb
    obtain ⟨f, rfl⟩ : ∃ g, f = g + 1 := ⟨f - 1, by omega⟩
    obtain ⟨y, z, h1, h2, h3⟩ := s_bnl hn hm hm2 0 f x zs b hx (fun xs e => by subst e; simp [Gn] at hx) hs (by omega)
    exact ⟨y, z, h1, h2.mono (by omega), h3⟩
  | succ n ih =>
    intro f x zs b hf hx hs hb
    obtain ⟨f, rfl⟩ : ∃ g, f = g + 1 := ⟨f - 1, by omega⟩
    by_cases ht : ∃ xs, x = .tuple xs
    · obtain ⟨xs, rfl⟩ := ht
      obtain ⟨y, z, h1, h2, h3⟩ := bn_tup (rec := b__law_benB f) hn hm hm2 (n := n) hx hs (by omega) fun y hy zs b hs hb => ih f y zs b (by omega) (hx.2 y hy) hs hb
      exact ⟨y, z, h1, h2, (sm__law_benB _ _ _ _).ok h3⟩
    · obtain ⟨y, z, h1, h2, h3⟩ := s_bnl hn hm hm2 (n + 1) f x zs b hx (fun xs e => ht ⟨xs, e⟩) hs (by omega)
      exact ⟨y, z, h1, h2.mono (by omega), h3⟩
end
/-! ### the law's own check: names, ints, questions -/
theorem filtE {α : Type} (p : α → Bool) (xs : List α) : (xs.filter fun x => !p x).isEmpty = xs.all p := by
  induction xs with
  | nil => rfl
  | cons x xs ih =>
    rw [List.filter_cons, List.all_cons]
    cases p x with
    | true => rw [if_neg (by decide), ih, Bool.true_and]
    | false => rw [if_pos (by decide), Bool.false_and]; rfl
theorem eqNilL {n : Nat} {ys : List D} (h : Gd n (.list ys)) (hn : n ≤ 59 := by omega) : eqD (.list ys) (.list []) = some (.bool ys.isEmpty) := by
  rw [eq_gd h (m := 1) (y := .list []) ⟨Nat.zero_le _, fun y hy => absurd hy List.not_mem_nil⟩, eqv_lnil]
theorem eqNilT {n : Nat} {ys : List D} (h : Gd n (.tuple ys)) (hn : n ≤ 59 := by omega) : eqD (.tuple ys) (.tuple []) = some (.bool ys.isEmpty) := by
  rw [eq_gd h (m := 1) (y := .tuple []) ⟨Nat.zero_le _, fun y hy => absurd hy List.not_mem_nil⟩, eqv_tnil]
theorem s_nm01 {n : Nat} (x : D) (h : Gd n x) : p__law_is_name [x] = .ok (.bool (isNm x)) := by
  refine (sm__law_is_name _).ok ?_
  unfold d__law_is_name
  have t0 := isi_str h.nd
  cases x with
  | str z =>
    have hz : z.length ≤ sizeLine := by cases n <;> simpa [Gd] using h
    have t0 : isiD "str" (.str z) = some (.bool true) := isi_str rfl
    have el := len_str hz
    have l1 : leD (.int 1) (.int z.length) = some (.bool (decide (1 ≤ z.length))) := by rw [le_int]; congr 2; exact decide_eq_decide.mpr (by omega)
    have l2 : leD (.int z.length) (.int 3) = some (.bool (decide (z.length ≤ 3))) := by rw [le_int]; congr 2; exact decide_eq_decide.mpr (by omega)
    cases h1 : decide (1 ≤ z.length) with
    | false =>
      rw [h1] at l1
      wp_walk using t0, el, l1
      rw [isNm, nmOk, h1]
      rfl
    | true =>
      cases h2 : decide (z.length ≤ 3) with
      | false =>
        rw [h1] at l1
        rw [h2] at l2
        wp_walk using t0, el, l1, l2
        rw [isNm, nmOk, h1, h2]
        rfl
      | true =>
        rw [h1] at l1
        rw [h2] at l2
        have ei : itemsD (.str z) = some (z.cps.toList.map fun c => .str ⟨#[c]⟩) := rfl
        have hl : z.cps.toList.length ≤ 3 := of_decide_eq_true h2
        wp_walk using t0, el, l1, l2, ei
        have f1 := filT_eq z.cps.toList (fun c => PyData.str ⟨#[c]⟩) (fun c => !chOk c) (fun c => PyData.str ⟨#[c]⟩) (f := fun x7 => (T.chn (leD (PyData.str "a") x7) (T.ofO (leD x7 (PyData.str "z")))).bind fun x => (T.ofO (asB x)).bind fun x => if (!x) = true then T.ok (some x7) else T.ok none) fun c hc => by
          have c1 := le_a c
          have c2 := le_z c
          unfold chOk
          cases k1 : decide (97 ≤ c) <;> cases k2 : decide (c ≤ 122) <;> (rw [k1] at c1; rw [k2] at c2; wp_walk using c1, c2; try rfl)
        rw [lenT_n (by rw [List.length_map]; omega)]
        rw [f1]
        have ee := eqNilL (ys := (z.cps.toList.filter fun c => !chOk c).map fun c => PyData.str ⟨#[c]⟩) (n := 1) ⟨by have := sizeLine_big; have := List.length_filter_le (fun c => !chOk c) z.cps.toList; rw [List.length_map]; omega, fun y hy => by
          obtain ⟨c, _, rfl⟩ := List.mem_map.mp hy
          have := sizeLine_big
          show (1 : Nat) ≤ _
          omega⟩
        rw [List.isEmpty_map, filtE] at ee
        wp_walk using ee
        rw [isNm, nmOk, h1, h2, Bool.true_and, Bool.true_and]
  | _ =>
    wp_walk using t0
    rfl
theorem s_int01 {n : Nat} (x : D) (h : Gd n x) : p__law_is_int [x] = .ok (.bool (isIntD x)) := by
  refine (sm__law_is_int _).ok ?_
  unfold d__law_is_int
  have t0 := isi_int h.nd
  have t1 := isi_bool h.nd
  cases x <;> first | (wp_walk using t0, t1, isIB, isBoolD; rfl) | cases h.nd
/-! questions -/
def okQ : List D → Int → Str → Option (Int × Str)
  | [], s, l => some (s, l)
  | x :: r, s, l => if (isQ x && sLt l (q0 x)) = true then okQ r (s * q1 x) (q0 x) else none
def lastQ : List D → Str → Str
  | [], l => l
  | x :: r, _ => lastQ r (q0 x)
theorem okQ_eq : ∀ (xs : List D) (s : Int) (l : Str), okQ xs s l = if (xs.all isQ && ascB (.str l :: xs.map fun x => .str (q0 x))) = true then some (s * (xs.map q1).prod, lastQ xs l) else none
  | [], s, l => by
    have e : ([].all isQ && ascB (PyData.str l :: List.map (fun x => PyData.str (q0 x)) [])) = true := rfl
    rw [okQ, if_pos e, List.map_nil, List.prod_nil, Int.mul_one]
    rfl
  | x :: r, s, l => by
    have e : ascB (.str l :: (x :: r).map fun x => PyData.str (q0 x)) = (sLt l (q0 x) && ascB (.str (q0 x) :: r.map fun x => .str (q0 x))) := rfl
    rw [okQ, okQ_eq r, e, List.all_cons, List.map_cons, List.prod_cons, lastQ, Int.mul_assoc]
    cases isQ x <;> cases sLt l (q0 x) <;> simp
theorem nm_pos {z : Str} (h : nmOk z = true) : sLt "" z = true := by
  unfold nmOk at h
  rw [Bool.and_eq_true, decide_eq_true_eq] at h
  have h1 := h.1
  rw [sLt, PySem.W.dataLt_str]
  refine decide_eq_true ?_
  show ([] : List Nat) < z.cps.toList
  cases e : z.cps.toList with
  | nil =>
    have : z.cps.toList.length = z.length := rfl
    rw [e, List.length_nil] at this
    omega
  | cons a r => exact List.nil_lt_cons ..
theorem areQ_ok {x : D} {r : List D} : (match okQ (x :: r) 1 "" with | some p => decide (p.1 ≤ 32) | none => false) = ((x :: r).all isQ && (ascB ((x :: r).map fun x => .str (q0 x)) && decide (((x :: r).map q1).prod ≤ 32))) := by
  rw [okQ_eq]
  have e : ascB (.str "" :: (x :: r).map fun x => PyData.str (q0 x)) = (sLt "" (q0 x) && ascB ((x :: r).map fun x => .str (q0 x))) := rfl
  rw [e, Int.one_mul]
  cases hq : (x :: r).all isQ with
  | false => rw [Bool.false_and, Bool.false_and, if_neg Bool.false_ne_true]
  | true =>
    have h1 : isQ x = true := List.all_eq_true.mp hq x List.mem_cons_self
    obtain ⟨z, i, rfl, hz, _, _⟩ := isQ_inv h1
    have h2 : sLt "" (q0 (.tuple [.str z, .int i])) = true := nm_pos hz
    rw [h2, Bool.true_and, Bool.true_and, Bool.true_and]
    cases ascB ((PyData.tuple [.str z, .int i] :: r).map fun x => .str (q0 x)) with
    | false => rw [if_neg Bool.false_ne_true, Bool.false_and]
    | true => rw [if_pos rfl, Bool.true_and]
theorem forF_q {β : Type} {f : D × D → D → T (Fw (D × D) (D × D) D)} : ∀ (xs : List D) (s : Int) (l : Str), (∀ s l x, x ∈ xs → f (.int s, .str l) x = .ok (if (isQ x && sLt l (q0 x)) = true then .nx (.int (s * q1 x), .str (q0 x)) else .ret (.bool false))) →
    forF (β := β) xs (.int s, .str l) f = .ok (match okQ xs s l with | some p => .nx (.int p.1, .str p.2) | none => .ret (.bool false))
  | [], s, l, _ => rfl
  | x :: r, s, l, h => by
    have h1 := h s l x List.mem_cons_self
    rw [okQ]
    cases hc : (isQ x && sLt l (q0 x)) with
    | false =>
      rw [hc, if_neg Bool.false_ne_true] at h1
      rw [if_neg Bool.false_ne_true]
      unfold forF
      rw [h1]
    | true =>
      rw [hc, if_pos rfl] at h1
      rw [if_pos rfl, forF_cons h1]
      exact forF_q r _ _ fun s l y hy => h s l y (List.mem_cons_of_mem _ hy)
def inQ : D → Bool
  | .int i => decide (2 ≤ i) && decide (i ≤ 3)
  | _ => false
theorem isQ_ab (a b : D) : isQ (.tuple [a, b]) = (isNm a && inQ b) := by
  cases b <;> rfl
theorem nin23 (i : Int) : ninD (.int i) (.tuple [.int 2, .int 3]) = some (.bool (!(decide (2 ≤ i) && decide (i ≤ 3)))) := by
  have e := nin_gd (f := PyData.int) (xs := [2, 3]) (x := .int i) (y := .tuple [.int 2, .int 3]) (n := 0) (m := 0) rfl trivial (by omega) (fun a _ => trivial)
  rw [e]
  congr 3
  have e2 : ∀ j : Int, PyData.eqv (.int j) (.int i) = decide (j = i) := fun j => by rw [PyData.eqv]; rfl
  show (PyData.eqv (.int 2) (.int i) || (PyData.eqv (.int 3) (.int i) || false)) = _
  rw [e2, e2, Bool.or_false, ← Bool.decide_or, ← Bool.decide_and]
  exact decide_eq_decide.mpr (by omega)
theorem s_questions01 {n : Nat} (x : D) (h : Gd n x) (hn : n ≤ 59 := by omega) : p__law_questions [x] = .ok (.bool (areQ x)) := by
  refine (sm__law_questions _).ok ?_
  unfold d__law_questions
  have t0 := isi_tuple h.nd
  cases x with
  | tuple xs =>
    have t0 : isiD "tuple" (.tuple xs) = some (.bool true) := isi_tuple rfl
    have el : lenD [.tuple xs] = some (.int xs.length) := rfl
    have l1 : leD (.int 1) (.int xs.length) = some (.bool (decide (1 ≤ xs.length))) := by rw [le_int]; congr 2; exact decide_eq_decide.mpr (by omega)
    have l2 : leD (.int xs.length) (.int 5) = some (.bool (decide (xs.length ≤ 5))) := by rw [le_int]; congr 2; exact decide_eq_decide.mpr (by omega)
    obtain ⟨hl, m, rfl, hg⟩ := tup_gd h
    rw [areQ]
    cases h1 : decide (1 ≤ xs.length) with
    | false =>
      rw [h1] at l1
      wp_walk using t0, el, l1
      first | done | rfl
    | true =>
      cases h2 : decide (xs.length ≤ 5) with
      | false =>
        rw [h1] at l1
        rw [h2] at l2
        wp_walk using t0, el, l1, l2
        first | done | rfl
      | true =>
        rw [h1] at l1
        rw [h2] at l2
        have ei : itemsD (.tuple xs) = some xs := rfl
        cases xs with
        | nil => cases h1
        | cons x r =>
          wp_walk using t0, el, l1, l2, ei
          rw [forF_q (x :: r) 1 "" ?_]
          · have key := areQ_ok (x := x) (r := r)
            rw [Bool.true_and, Bool.true_and, ← key]
            cases okQ (x :: r) 1 "" with
            | none => rfl
            | some p =>
              have l3 : leD (.int p.1) (.int 32) = some (.bool (decide (p.1 ≤ 32))) := le_int _ _
              wp_walk using l3
          · intro s l y hy
            have gy := hg y hy
            have ty := isi_tuple gy.nd
            cases y with
            | tuple ys =>
              have ty : isiD "tuple" (.tuple ys) = some (.bool true) := isi_tuple rfl
              obtain ⟨_, k, rfl, gz⟩ := tup_gd gy
              have ely : lenD [.tuple ys] = some (.int ys.length) := rfl
              match ys, gz, ely, ty with
              | [], gz, ely, ty =>
                have e2 : neD (.int ((([] : List D).length : Nat) : Int)) (.int 2) = some (.bool true) := ne_int 0 2
                wp_walk using ty, ely, e2
                first | done | rfl
              | [a], gz, ely, ty =>
                have e2 : neD (.int (([a].length : Nat) : Int)) (.int 2) = some (.bool true) := ne_int 1 2
                wp_walk using ty, ely, e2
                first | done | rfl
              | a :: b :: c :: r2, gz, ely, ty =>
                have e2 : neD (.int (((a :: b :: c :: r2).length : Nat) : Int)) (.int 2) = some (.bool true) := by
                  rw [ne_int]
                  refine congrArg some (congrArg PyData.bool ?_)
                  rw [Bool.not_eq_true', beq_eq_false_iff_ne, List.length_cons, List.length_cons, List.length_cons]
                  omega
                wp_walk using ty, ely, e2
                first | done | rfl
              | [a, b], gz, ely, ty =>
                have e2 : neD (.int (([a, b].length : Nat) : Int)) (.int 2) = some (.bool false) := ne_int 2 2
                have i0 := ix_t0 a [b]
                have i1 := ix_t1 a b []
                have en := s_nm01 a (gz a (by simp))
                have eb := s_int01 b (gz b (by simp))
                have eq : isQ (.tuple [a, b]) = (isNm a && inQ b) := isQ_ab a b
                rw [eq]
                cases ha : isNm a with
                | false =>
                  rw [ha] at en
                  wp_walk using ty, ely, e2, i0, en
                  first | done | rfl
                | true =>
                  rw [ha] at en
                  cases a with
                  | str z =>
                    cases b with
                    | int i =>
                      have eb : p__law_is_int [.int i] = .ok (.bool true) := eb
                      have n1 := nin23 i
                      have le1 : leD (.str z) (.str l) = some (.bool (!sLt l z)) := le_str _ _
                      have qi : inQ (.int i) = (decide (2 ≤ i) && decide (i ≤ 3)) := rfl
                      rw [qi]
                      have q0e : q0 (.tuple [.str z, .int i]) = z := rfl
                      have q1e : q1 (.tuple [.str z, .int i]) = i := rfl
                      rw [q0e, q1e]
                      cases hi : (decide (2 ≤ i) && decide (i ≤ 3)) with
                      | false =>
                        rw [hi] at n1
                        wp_walk using ty, ely, e2, i0, i1, en, eb, n1, hi
                        first | done | rfl
                      | true =>
                        rw [hi] at n1
                        have hh : 2 ≤ i ∧ i ≤ 3 := by rw [Bool.and_eq_true, decide_eq_true_eq, decide_eq_true_eq] at hi; exact hi
                        have mu : mulD (.int s) (.int i) = some (.int (s * i)) := by
                          rw [mulD, if_pos]
                          unfold mulOk
                          have k1 : decide (-(2 ^ 64) < i) = true := decide_eq_true (by omega)
                          have k2 : decide (i < 2 ^ 64) = true := decide_eq_true (by omega)
                          rw [k1, k2, Bool.and_true, Bool.or_true]
                        cases hl2 : sLt l z with
                        | false =>
                          rw [hl2] at le1
                          wp_walk using ty, ely, e2, i0, i1, en, eb, n1, hi, le1
                          first | done | rfl
                        | true =>
                          rw [hl2] at le1
                          wp_walk using ty, ely, e2, i0, i1, en, eb, n1, hi, le1, mu
                          first | done | rfl
                    | _ =>
                      have eb := eb
                      dsimp only [isIntD] at eb
                      wp_walk using ty, ely, e2, i0, i1, en, eb
                      first | done | rfl
                  | _ => cases ha
            | _ =>
              wp_walk using ty
              first | done | rfl
  | _ =>
    wp_walk using t0
    first | done | rfl
theorem strsA {xs : List D} (h : xs.all isStrD = true) : ∃ zs : List Str, xs = zs.map PyData.str := ⟨xs.map strOf, strs_of h⟩
theorem s_group01 {known : List Str} {n m : Nat} (x : D) (h : Gn m n x) (hm : m < 64) (hn : n ≤ 50) : p__law_group [.list (known.map PyData.str), x] = .ok (.bool (isNT known x)) := by
  have hx : Gd n x := h.gd (by omega)
  refine (sm__law_group _ _).ok ?_
  have t0 := isi_tuple hx.nd
  unfold d__law_group
  cases x with
  | tuple xs =>
    have hl : xs.length < 64 := by
      cases n with
      | zero => simp [Gn] at h
      | succ n => have := h.1; omega
    have t0 : isiD "tuple" (.tuple xs) = some (.bool true) := isi_tuple rfl
    have en := eqNilT hx (by omega)
    have ei : itemsD (.tuple xs) = some xs := rfl
    cases he : xs.isEmpty with
    | true =>
      rw [he] at en
      wp_walk using t0, en
      rw [isNT, he]
      first | done | rfl
    | false =>
      rw [he] at en
      obtain ⟨_, k, rfl, hg⟩ := tup_gd hx
      wp_walk using t0, en, ei
      have f1 := filT_eq xs id (fun x => !isStrD x) id (f := fun x6 => (T.ofO (isiD "str" x6)).bind fun x => (T.ofO (truD x)).bind fun x => if (!x) = true then T.ok (some x6) else T.ok none) fun y hy => by
        have t1 := isi_str (hg y hy).nd
        wp_walk using id, t1
        cases isStrD y <;> rfl
      rw [List.map_id, List.map_id] at f1
      rw [lenT_n (by omega), f1]
      have fe := filtE isStrD xs
      cases ha : xs.all isStrD with
      | false =>
        rw [ha] at fe
        wp_walk using fe
        rw [isNT, ha, Bool.false_and, Bool.and_false]
      | true =>
        rw [ha] at fe
        obtain ⟨zs, rfl⟩ := strsA ha
        rw [List.length_map] at hl
        obtain ⟨g1, g2⟩ := set_asc (x := .tuple (zs.map PyData.str)) rfl (setOk_strs hl) (srtOk_strs zs)
        have g3 : seqA [.tuple (zs.map PyData.str)] = some (zs.map PyData.str) := rfl
        have hnt : isNT known (.tuple (zs.map PyData.str)) = (ascB (zs.map PyData.str) && zs.all fun z => known.contains z) := by
          rw [isNT, he, ha, Bool.not_false, Bool.true_and, Bool.true_and, List.all_map]
          rfl
        rw [hnt]
        wp_walk using fe
        have f2 := filT_eq zs PyData.str (fun z => !known.contains z) PyData.str (f := fun x13 => (T.ofO (ninD x13 (.list (known.map PyData.str)))).bind fun x => (T.ofO (asB x)).bind fun v15 => if v15 = true then T.ok (some x13) else T.ok none) fun z hz' => by
          have en := nin_strs (kx := .list (known.map PyData.str)) (known := known) rfl z
          wp_walk using en
          cases known.contains z <;> rfl
        rw [lenT_n (by rw [List.length_map]; omega)]
        rw [f2]
        have fe2 := filtE (fun z => known.contains z) zs
        rw [← List.isEmpty_map (f := PyData.str)] at fe2
        cases hc : zs.all fun z => known.contains z with
        | false =>
          rw [hc] at fe2
          wp_walk using fe2
          rw [Bool.and_false]
        | true =>
          rw [hc] at fe2
          wp_walk using fe2, g1, g2, g3
          rw [Bool.and_true]
  | _ =>
    wp_walk using t0
    first | done | rfl
end PP
namespace PP
open PySem PySem.Spec
/-! ### groups: sets of them -/
theorem nk_gts01 : ∀ gs : List (List Str), ∃ ks, nkDs (gs.map mkG) = some ks
  | [] => ⟨[], rfl⟩
  | g :: gs => by
    obtain ⟨ks, e⟩ := nk_gts01 gs
    have e1 : nkD (mkG g) = some (.tup (g.map .text)) := by rw [mkG, nkD, nk_strs]; rfl
    exact ⟨_ :: ks, by rw [List.map_cons, nkDs, e1, e]⟩
theorem depth_gts01 (gs : List (List Str)) : PyData.depthAll (gs.map mkG) ≤ 1 := depth_le.mpr fun x hx => by
  obtain ⟨g, _, rfl⟩ := List.mem_map.mp hx
  have := depth_strs g
  rw [mkG, PyData.depth]
  omega
theorem setOk_gts01 {gs : List (List Str)} (h : gs.length < 64) : setOk (gs.map mkG) = true := by
  have hd := depth_gts01 gs
  obtain ⟨ks, e⟩ := nk_gts01 gs
  simp only [setOk, Bool.and_eq_true, decide_eq_true_eq, Bool.or_eq_true, List.length_map, e]
  exact ⟨h, by omega, rfl, .inr (.inr (List.all_eq_true.mpr fun x hx => by obtain ⟨z, _, rfl⟩ := List.mem_map.mp hx; rfl))⟩
theorem ne_ofeq {x y : D} {b : Bool} (h : eqD x y = some (.bool b)) : neD x y = some (.bool (!b)) := by
  rw [eqD] at h
  rw [neD]
  split at h
  · rename_i hc
    rw [if_pos hc]
    cases h
    rfl
  · cases h
theorem areQ_inv {xs : List D} (h : areQ (.tuple xs) = true) : ∃ qs : List (Str × Int), xs = qs.map mkQ ∧ qsOf xs = qs ∧ QS qs := by
  simp only [areQ, Bool.and_eq_true, decide_eq_true_eq] at h
  obtain ⟨⟨h1, h2⟩, h3, h4, h5⟩ := h
  have e := qs_eq h3
  have hl : (qsOf xs).length = xs.length := by simp [qsOf]
  refine ⟨qsOf xs, e, rfl, by omega, by omega, fun q hq => ?_, ?_, ?_⟩
  · obtain ⟨x, hx, rfl⟩ := List.mem_map.mp hq
    obtain ⟨z, i, rfl, z1, z2, z3⟩ := isQ_inv (List.all_eq_true.mp h3 x hx)
    exact ⟨z1, z2, z3⟩
  · have e4 : (xs.map fun x => PyData.str (q0 x)) = ((qsOf xs).map (·.1)).map PyData.str := by
      rw [qsOf, List.map_map, List.map_map]
      rfl
    rw [e4] at h4
    have := asc_iff.mp h4
    rw [List.pairwise_map] at this
    exact this
  · have e5 : (qsOf xs).map (·.2) = xs.map q1 := by
      rw [qsOf, List.map_map]
      rfl
    rw [e5]
    exact h5
/-- the antichain test -/
theorem anti_eq {gs : List (List Str)} (hn : gs.Nodup) : antiB gs = gs.all fun g => !gs.any fun o => !(o == g) && under g o := by
  rw [Bool.eq_iff_iff]
  unfold antiB
  simp only [List.all_eq_true, Bool.not_eq_true', List.any_eq_false]
  constructor
  · intro h g hg o ho hc
    rw [Bool.and_eq_true, Bool.not_eq_true', beq_eq_false_iff_ne] at hc
    obtain ⟨i, hi, e⟩ := List.getElem_of_mem hg
    have h1 := h (g, i) (List.mem_zipIdx_iff_getElem?.mpr (by rw [List.getElem?_eq_getElem hi, e])) o ?_
    · exact h1 (List.all_eq_true.mp hc.2)
    · have e2 : gs = gs.take i ++ g :: gs.drop (i + 1) := by
        have h1 := List.take_append_drop i gs
        rw [List.drop_eq_getElem_cons hi, e] at h1
        exact h1.symm
      rw [e2] at ho
      rcases List.mem_append.mp ho with h | h
      · exact List.mem_append_left _ h
      · rcases List.mem_cons.mp h with h | h
        · exact absurd h hc.1
        · exact List.mem_append_right _ h
  · rintro h ⟨g, i⟩ hp o ho hc
    have hg : gs[i]? = some g := by
      have := List.mem_zipIdx_iff_getElem?.mp hp
      simpa using this
    obtain ⟨h1, h2⟩ := sl_ne hn hg ho
    refine h g (List.mem_of_getElem? hg) o h1 ?_
    rw [Bool.and_eq_true, Bool.not_eq_true', beq_eq_false_iff_ne]
    exact ⟨h2, List.all_eq_true.mpr hc⟩
theorem s_cells01 {qs : List (Str × Int)} (h : QS qs) {g : List Str} (hg : ∀ z ∈ g, z ∈ qs.map (·.1)) (ha : g.Pairwise fun a b => sLt a b = true) : ∃ rows : List (List Int), p__law_cells [.tuple (qs.map mkQ), mkG g] = .ok (.list (rows.map mkRow)) ∧ (rows.length : Int) = cells qs g := by
  have hnd := asc_nd ha
  have hl : g.length ≤ 5 := by
    have h1 : g.length ≤ (qs.map (·.1)).length := nodup_len hnd hg
    rw [List.length_map] at h1
    have := h.q5
    omega
  have hc : ∀ z ∈ g, 2 ≤ cnt qs z ∧ cnt qs z ≤ 3 := fun z hz => by
    obtain ⟨q, hq, e⟩ := cnt_mem (hg z hz)
    rw [e]
    exact (h.qn q hq).2
  have hp := prod_le4 (fun q hq => (h.qn q hq).2) g hg
  have hp2 : 3 ^ g.length ≤ 3 ^ 5 := Nat.pow_le_pow_right (by omega) hl
  refine ⟨rowsOf (g.map (cnt qs)) [[]], ?_, ?_⟩
  · exact s_cells rfl rfl h.nd (fun z hz => ⟨hg z hz, by have := hc z hz; omega, by have := hc z hz; omega⟩) (by omega) (by omega)
  · rw [rowsOf_len, List.length_singleton, Nat.one_mul, cells]
    clear hp hp2 hl hnd ha hg
    induction g with
    | nil => rfl
    | cons z g ih =>
      have h1 := hc z List.mem_cons_self
      rw [List.map_cons, List.map_cons, List.prod_cons, List.prod_cons, Int.natCast_mul, ih (fun y hy => hc y (List.mem_cons_of_mem _ hy)), Int.toNat_of_nonneg (by omega)]
end PP
namespace PP
open PySem PySem.Spec
local macro_rules
  | `(tactic| wp_walk) => `(tactic| wp_walk using eq_self)
  | `(tactic| wp_walk using $ts,*) => `(tactic| simp -implicitDefEqProofs only [T.ok_bind, T.bind_assoc, T.bind_ok, pair_eta, T.exc_bind, T.ofO_some, T.ofRx_ok, T.ofRx_exc, T.ofRb_ok, callT_1, callT_2, callT_3, callT_4, callT_5, callT_6, cbT_0, cbT_1, cbT_2, cbT_3, lenT_0, lenT_1, lenT_2, lenT_3, lenT_4, lenT_5, lenT_6, T.tup2_mk, T.tup3_mk, T.tup4_mk, T.andD_b, T.orD_b, T.chn_b, T.bindF_nx, T.bindF_ret, T.bindF_brk, T.bindR_nx, T.bindR_ret, tryT_ok, tryT_exc, asB_bool, truD_bool, truD_list, truD_tuple, partD_int, Option.map_some, Bool.not_true, Bool.not_false, Bool.false_eq_true, reduceIte, eq_self, $[$ts:term],*])
theorem forF_chk01 {γ β ρ : Type} {f : Unit → D → T (Fw Unit Unit ρ)} (mk : γ → D) (p : γ → Bool) (v : ρ) : ∀ xs : List γ, (∀ x ∈ xs, f () (mk x) = .ok (if p x = true then .nx () else .ret v)) → forF (β := β) (xs.map mk) () f = .ok (if xs.all p = true then .nx () else .ret v)
  | [], _ => rfl
  | x :: xs, h => by
    have h1 := h x List.mem_cons_self
    cases hp : p x with
    | true =>
      rw [hp, if_pos rfl] at h1
      rw [List.map_cons, forF_cons h1, forF_chk01 mk p v xs fun y hy => h y (List.mem_cons_of_mem _ hy), List.all_cons, hp, Bool.true_and]
    | false =>
      rw [hp, if_neg (by decide)] at h1
      rw [List.map_cons, forF_ret h1, List.all_cons, hp, Bool.false_and, if_neg (by decide)]
theorem filt_any {α : Type} (p : α → Bool) (f : α → D) (xs : List α) : ((xs.filter p).map f).isEmpty = !xs.any p := by
  induction xs with
  | nil => rfl
  | cons x xs ih =>
    rw [List.filter_cons, List.any_cons]
    cases p x with
    | true => rfl
    | false => rw [if_neg (by decide), ih, Bool.false_or]
/-- groups that pass the law's test -/
theorem gts_ok {known : List Str} {xs : List D} (h : xs.all (isNT known) = true) : ∀ g ∈ xs.map gOf, g ≠ [] ∧ (∀ z ∈ g, z ∈ known) ∧ g.Pairwise fun a b => sLt a b = true := by
  intro g hg
  obtain ⟨x, hx, rfl⟩ := List.mem_map.mp hg
  have h1 := List.all_eq_true.mp h x hx
  cases x with
  | tuple ys =>
    simp only [isNT, Bool.and_eq_true] at h1
    obtain ⟨n1, n2, n3, n4⟩ := h1
    obtain ⟨zs, rfl⟩ := strsA n2
    have eg : gOf (.tuple (zs.map PyData.str)) = zs := gOf_mkG zs
    rw [eg]
    refine ⟨fun e => (by subst e; cases n1), fun z hz => ?_, ?_⟩
    · have := List.all_eq_true.mp n4 _ (List.mem_map_of_mem hz)
      exact List.contains_iff_mem.mp this
    · have := asc_iff.mp n3
      rw [List.pairwise_map] at this
      exact this
  | _ => cases h1
theorem gd_ints1 {α : Type} (xs : List α) (h : xs.length ≤ 1000) : Gd 1 (.list (xs.map fun _ => PyData.int 1)) := by
  have hz := sizeLine_big
  refine ⟨by rw [List.length_map]; omega, fun y hy => ?_⟩
  obtain ⟨_, _, rfl⟩ := List.mem_map.mp hy
  trivial
def inS (b : D) : D → Bool
  | .tuple xs => isGs (qsOf xs) b
  | _ => false
theorem isScn_ab (a b : D) : isScn (.tuple [a, b]) = (areQ a && inS b a) := by
  cases a <;> rfl
theorem s_scn01 {n m : Nat} (x : D) (h : Gn m n x) (hm : m < 64) (hn : n ≤ 50) : p__law_is_scenario [x] = .ok (.bool (isScn x)) := by
  have hz := sizeLine_big
  have hx : Gd n x := h.gd (by omega)
  refine (sm__law_is_scenario _).ok ?_
  have t0 := isi_tuple hx.nd
  unfold d__law_is_scenario
  cases x with
  | tuple ys =>
    have t0 : isiD "tuple" (.tuple ys) = some (.bool true) := isi_tuple rfl
    obtain ⟨_, k, rfl, gy⟩ := tup_gd hx
    have gn : ∀ y ∈ ys, Gn m k y := h.2
    have el : lenD [.tuple ys] = some (.int ys.length) := rfl
    match ys, gy, gn, el, t0 with
    | [], gy, gn, el, t0 =>
      have e2 : neD (.int ((([] : List D).length : Nat) : Int)) (.int 2) = some (.bool true) := ne_int 0 2
      wp_walk using t0, el, e2
      first | done | rfl
    | [a], gy, gn, el, t0 =>
      have e2 : neD (.int (([a].length : Nat) : Int)) (.int 2) = some (.bool true) := ne_int 1 2
      wp_walk using t0, el, e2
      first | done | rfl
    | a :: b :: c :: r2, gy, gn, el, t0 =>
      have e2 : neD (.int (((a :: b :: c :: r2).length : Nat) : Int)) (.int 2) = some (.bool true) := by
        rw [ne_int]
        refine congrArg some (congrArg PyData.bool ?_)
        rw [Bool.not_eq_true', beq_eq_false_iff_ne, List.length_cons, List.length_cons, List.length_cons]
        omega
      wp_walk using t0, el, e2
      first | done | rfl
    | [a, b], gy, gn, el, t0 =>
      have e2 : neD (.int (([a, b].length : Nat) : Int)) (.int 2) = some (.bool false) := ne_int 2 2
      have i0 := ix_t0 a [b]
      have i1 := ix_t1 a b []
      have eq := s_questions01 a (gy a (by simp)) (by omega)
      have gb := gn b (by simp)
      have gdb := gy b (by simp)
      rw [isScn_ab a b]
      cases ha : areQ a with
      | false =>
        rw [ha] at eq
        wp_walk using t0, el, e2, i0, eq
        first | done | rfl
      | true =>
        rw [ha] at eq
        cases a with
        | tuple xs =>
          obtain ⟨qs, rfl, hqs, Q⟩ := areQ_inv ha
          have iq : itemsD (.tuple (qs.map mkQ)) = some (qs.map mkQ) := rfl
          have hq5 := Q.q5
          have mt : mapT (fun x14 => T.ofO (ixD x14 (.int 0))) (qs.map mkQ) = .ok (qs.map fun q => PyData.str q.1) := mapT_eq qs mkQ (fun q => PyData.str q.1) fun q hq => by
            rw [mkQ, ix_t0]
            rfl
          have lt1 : ∀ {t : T (List D)}, lenT (qs.map mkQ) t = t := fun {t} => lenT_n (by rw [List.length_map]; omega)
          have tb := isi_tuple gdb.nd
          have e3 : (qs.map fun q => PyData.str q.1) = (qs.map (·.1)).map PyData.str := by rw [List.map_map]; rfl
          rw [e3] at mt
          have lt2 : ∀ {t : T D}, lenT [.list ((qs.map (·.1)).map PyData.str), b] t = t := fun {t} => lenT_n (by simp only [List.length_cons, List.length_nil]; omega)
          rw [inS, hqs, Bool.true_and]
          cases b with
          | tuple bs =>
            have tb : isiD "tuple" (.tuple bs) = some (.bool true) := isi_tuple rfl
            have hbl : bs.length < 64 := by
              cases k with
              | zero => simp [Gn] at gb
              | succ k => have := gb.1; omega
            obtain ⟨_, k2, rfl, gy2⟩ := tup_gd gdb
            have gn2 : ∀ y ∈ bs, Gn m k2 y := gb.2
            have elb : lenD [.tuple bs] = some (.int bs.length) := rfl
            have l1 : leD (.int 1) (.int bs.length) = some (.bool (decide (1 ≤ bs.length))) := by rw [le_int]; congr 2; exact decide_eq_decide.mpr (by omega)
            have l2 : leD (.int bs.length) (.int 10) = some (.bool (decide (bs.length ≤ 10))) := by rw [le_int]; congr 2; exact decide_eq_decide.mpr (by omega)
            rw [isGs]
            cases h1 : decide (1 ≤ bs.length) with
            | false =>
              rw [h1] at l1
              wp_walk using t0, el, e2, i0, i1, eq, iq, lt1, mt, lt2, tb, elb, l1
              first | done | rfl
            | true =>
              cases h2 : decide (bs.length ≤ 10) with
              | false =>
                rw [h1] at l1
                rw [h2] at l2
                wp_walk using t0, el, e2, i0, i1, eq, iq, lt1, mt, lt2, tb, elb, l1, l2
                first | done | rfl
              | true =>
                rw [h1] at l1
                rw [h2] at l2
                have ib : itemsD (.tuple bs) = some bs := rfl
                wp_walk using t0, el, e2, i0, i1, eq, iq, lt1, mt, lt2, tb, elb, l1, l2, ib
                have eg : ∀ y ∈ bs, p__law_group [.list ((qs.map (·.1)).map PyData.str), y] = .ok (.bool (isNT (qs.map (·.1)) y)) := fun y hy => s_group01 y (gn2 y hy) hm (by omega)
                have f1 := filT_eq bs id (fun y => !isNT (qs.map (·.1)) y) id (f := fun x30 => (T.ofRx (p__law_group [PyData.list (List.map PyData.str (List.map (fun x => x.fst) qs)), x30])).bind fun x => (T.ofO (truD x)).bind fun x => if (!x) = true then T.ok (some x30) else T.ok none) fun y hy => by
                  have e := eg y hy
                  wp_walk using id, e
                  cases isNT (qs.map (·.1)) y <;> rfl
                rw [List.map_id, List.map_id] at f1
                rw [lenT_n (by omega), f1]
                have fe := filtE (isNT (qs.map (·.1))) bs
                cases hnt : bs.all (isNT (qs.map (·.1))) with
                | false =>
                  rw [hnt] at fe
                  wp_walk using fe
                  first | done | rfl
                | true =>
                  rw [hnt] at fe
                  wp_walk using fe
                  have gok1 := gts_ok hnt
                  have ebs := gs_eq hnt
                  generalize hgs : bs.map gOf = gs at *
                  subst ebs
                  rw [List.length_map] at h1 h2 hbl
                  rw [Bool.true_and, Bool.true_and]
                  have h10 : gs.length ≤ 10 := of_decide_eq_true h2
                  have gne : ∀ g ∈ gs, g ≠ [] := fun g hg => (gok1 g hg).1
                  obtain ⟨g1, g2⟩ := set_asc (x := .tuple (gs.map mkG)) rfl (setOk_gts01 hbl) (srtOk_G gne)
                  have g3 : seqA [.tuple (gs.map mkG)] = some (gs.map mkG) := rfl
                  have g4 := ne_ofeq g2
                  cases hasc : ascB (gs.map mkG) with
                  | false =>
                    rw [hasc] at g4
                    wp_walk using g3, g1, g4
                    first | done | rfl
                  | true =>
                    rw [hasc] at g4
                    have nd : gs.Nodup := by
                      have := asc_iff.mp hasc
                      rw [List.pairwise_map] at this
                      exact this.imp fun {a b} h e => by
                        subst e
                        rw [lt_irr] at h
                        cases h
                    wp_walk using g3, g1, g4
                    have gk : ∀ g ∈ gs, gok g := fun g hg => by
                      obtain ⟨_, k1, k2⟩ := gok1 g hg
                      have hl := nodup_len (asc_nd k2) k1
                      rw [List.length_map] at hl
                      refine ⟨by omega, fun z hz' => ?_⟩
                      obtain ⟨q, hq, rfl⟩ := List.mem_map.mp (k1 z hz')
                      exact nmOk_len (Q.qn q hq).1
                    have hlg : ∀ {α : Type} {t : T α}, lenT (gs.map mkG) t = t := fun {α t} => lenT_n (by rw [List.length_map]; omega)
                    rw [forF_chk01 (β := Unit) mkG (fun g => !gs.any fun o => !(o == g) && under g o) (.bool false) gs ?_]
                    · rw [← anti_eq nd]
                      cases han : antiB gs with
                      | false =>
                        wp_walk using Bool.false_eq_true
                        first | done | rfl
                      | true =>
                        have inm : itemsD (.list ((qs.map (·.1)).map PyData.str)) = some ((qs.map (·.1)).map PyData.str) := rfl
                        wp_walk using inm
                        rw [forF_chk01 (β := Unit) PyData.str (fun z => gs.any fun g => g.contains z) (.bool false) (qs.map (·.1)) ?_]
                        · cases hco : (qs.map (·.1)).all fun z => gs.any fun g => g.contains z with
                          | false =>
                            wp_walk using Bool.false_eq_true
                            rw [coverB, hco]
                            first | done | rfl
                          | true =>
                            rw [coverB, hco]
                            have mt2 : mapT (fun x124 => (T.ofRx (p__law_cells [PyData.tuple (List.map mkQ qs), x124])).bind fun x => T.ofO (lenD [x])) (gs.map mkG) = .ok (gs.map fun g => PyData.int (cells qs g)) := mapT_eq gs mkG (fun g => PyData.int (cells qs g)) fun g hg => by
                              obtain ⟨rows, e1, e2⟩ := s_cells01 Q (gok1 g hg).2.1 (gok1 g hg).2.2
                              have e3 : lenD [.list (rows.map mkRow)] = some (.int (cells qs g)) := by rw [len_lst, List.length_map, e2]
                              wp_walk using e1, e3
                            have sm := sum_ints gs (cells qs)
                            have l40 := le_int (gs.map (cells qs)).sum 40
                            wp_walk using hlg, mt2, sm, l40
                            first | done | rfl
                        · intro z hz'
                          wp_walk using hlg
                          have f2 := filT_eq gs mkG (fun g => g.contains z) (fun _ => .int 1) (f := fun x104 => (T.ofO (inD (.str z) x104)).bind fun x => (T.ofO (asB x)).bind fun v70 => if v70 = true then T.ok (some (PyData.int 1)) else T.ok none) fun g hg => by
                            have e := in_strs (kx := mkG g) (known := g) rfl z
                            wp_walk using e
                            cases g.contains z <;> rfl
                          rw [f2]
                          have ee := eqNilL (gd_ints1 (gs.filter fun g => g.contains z) (by have := List.length_filter_le (fun g => g.contains z) gs; omega))
                          rw [filt_any (fun g : List Str => g.contains z) (fun _ => PyData.int 1) gs] at ee
                          wp_walk using ee
                          cases gs.any fun g => g.contains z <;> rfl
                    · intro g hg
                      wp_walk using hlg
                      have f2 := filT_eq gs mkG (fun o => !(o == g) && under g o) (fun _ => .int 1) (f := fun x59 => (T.ofO (neD x59 (mkG g))).bind fun x => (T.ofO (asB x)).bind fun x => (if x = true then (T.ofO (itemsD (mkG g))).bind fun x => (lenT x (filT (fun x61 => (T.ofO (ninD x61 x59)).bind fun x => (T.ofO (asB x)).bind fun v63 => if v63 = true then T.ok (some x61) else T.ok none) x)).bind fun x => (T.ofO (eqD (PyData.list x) (PyData.list []))).bind fun v4 => T.ofO (asB v4) else T.ok false).bind fun v70 => if v70 = true then T.ok (some (PyData.int 1)) else T.ok none) fun o ho => by
                        have e := ne_mkG (gk o ho) (gk g hg)
                        cases heq : o == g with
                        | true =>
                          rw [heq] at e
                          wp_walk using e
                          first | done | rfl
                        | false =>
                          rw [heq] at e
                          have ig : itemsD (mkG g) = some (g.map PyData.str) := rfl
                          have hl := (gk g hg).1
                          wp_walk using e, ig
                          rw [lenT_ok (by rw [List.length_map]; omega), filT_eq g PyData.str (fun z => !o.contains z) PyData.str ?_]
                          · have ee := eqNilL (ys := (g.filter fun z => !o.contains z).map PyData.str) (n := 1) ⟨by rw [List.length_map]; have := List.length_filter_le (fun z => !o.contains z) g; omega, fun y hy => by
                              obtain ⟨z, hz', rfl⟩ := List.mem_map.mp hy
                              have := (gk g hg).2 z (List.mem_filter.mp hz').1
                              simpa [Gd] using this⟩
                            rw [List.isEmpty_map, filtE (fun z => o.contains z) g] at ee
                            have eu : under g o = g.all fun z => o.contains z := rfl
                            wp_walk using ee
                            rw [eu]
                            cases g.all fun z => o.contains z <;> rfl
                          · intro z hz'
                            have e := nin_strs (kx := mkG o) (known := o) rfl z
                            wp_walk using e
                            cases o.contains z <;> rfl
                      rw [f2]
                      wp_walk using filt_any
                      cases gs.any fun o => !(o == g) && under g o <;> rfl
          | _ =>
            wp_walk using t0, el, e2, i0, i1, eq, iq, lt1, mt, lt2, tb
            first | done | rfl
        | _ => cases ha
  | _ =>
    wp_walk using t0
    first | done | rfl
def gnB (m : Nat) : Nat → D → Bool
  | 0, x => match x with
    | .none => true
    | .bool _ => true
    | .int i => decide (i.natAbs ≤ m)
    | .str z => decide (z.length ≤ 100)
    | _ => false
  | n + 1, x => match x with
    | .none => true
    | .bool _ => true
    | .int i => decide (i.natAbs ≤ m)
    | .str z => decide (z.length ≤ 100)
    | .list xs => decide (xs.length ≤ m) && xs.all (gnB m n)
    | .tuple xs => decide (xs.length ≤ m) && xs.all (gnB m n)
    | _ => false
theorem gnB_ok {m : Nat} : ∀ {n : Nat} {x : D}, gnB m n x = true → Gn m n x := by
  have hz := sizeLine_big
  intro n
  induction n with
  | zero =>
    intro x h
    cases x with
    | none => trivial
    | bool _ => trivial
    | int i => have : i.natAbs ≤ m := of_decide_eq_true h; exact this
    | str z => have : z.length ≤ 100 := of_decide_eq_true h; show z.length ≤ sizeLine; omega
    | _ => cases h
  | succ n ih =>
    intro x h
    cases x with
    | none => trivial
    | bool _ => trivial
    | int i => have : i.natAbs ≤ m := of_decide_eq_true h; exact this
    | str z => have : z.length ≤ 100 := of_decide_eq_true h; show z.length ≤ sizeLine; omega
    | list xs =>
      simp only [gnB, Bool.and_eq_true, decide_eq_true_eq, List.all_eq_true] at h
      exact ⟨h.1, fun y hy => ih (h.2 y hy)⟩
    | tuple xs =>
      simp only [gnB, Bool.and_eq_true, decide_eq_true_eq, List.all_eq_true] at h
      exact ⟨h.1, fun y hy => ih (h.2 y hy)⟩
    | _ => cases h
theorem near_gn : ∀ y ∈ L__law_near_misses, Gn 43 5 y := fun y hy => gnB_ok (List.all_eq_true.mp (by decide +kernel : L__law_near_misses.all (gnB 43 5) = true) y hy)
theorem VS.gn10 {qs : List (Str × Int)} {gs : List (List Str)} (h : VS qs gs) : Gn 10 3 (mkS qs gs) := by
  have hz := sizeLine_big
  have hq5 := h.q5
  have hg10 := h.g10
  refine ⟨by simp only [List.length_cons, List.length_nil]; omega, fun y hy => ?_⟩
  simp only [List.mem_cons, List.not_mem_nil, or_false] at hy
  rcases hy with rfl | rfl
  · refine ⟨by rw [List.length_map]; omega, fun y hy => ?_⟩
    obtain ⟨q, hq, rfl⟩ := List.mem_map.mp hy
    obtain ⟨h1, h2, h3⟩ := h.qn q hq
    refine ⟨by simp only [List.length_cons, List.length_nil]; omega, fun y hy => ?_⟩
    simp only [List.mem_cons, List.not_mem_nil, or_false] at hy
    rcases hy with rfl | rfl
    · exact nmOk_len h1
    · show q.2.natAbs ≤ 10
      omega
  · refine ⟨by rw [List.length_map]; omega, fun y hy => ?_⟩
    obtain ⟨g, hg, rfl⟩ := List.mem_map.mp hy
    have hl := (h.gns hg).len h.q5
    refine ⟨by rw [List.length_map]; omega, fun y hy => ?_⟩
    obtain ⟨z, hz', rfl⟩ := List.mem_map.mp hy
    obtain ⟨q, hq, rfl⟩ := List.mem_map.mp ((h.gns hg).sub z hz')
    exact nmOk_len (h.qn q hq).1
def k01F (sc : D) (s14 : List D × List D) : T (List D × List D) :=
  (T.ofRb (b__law_scenario [sc] s14.fst [PyData.int 5, PyData.int 32])).bind fun s16 =>
    (appT s14.snd s16.fst).bind fun s17 =>
      (T.ofRb (b__law_benB 12 [sc] s16.snd [s16.fst])).bind fun x =>
        (appT s17 x.fst).bind fun x_1 =>
          (T.ofRb (b__law_benB 12 [sc] x.snd [s16.fst])).bind fun x =>
            (T.ofRb (b__law_benB 12 [sc] x.snd [x.fst])).bind fun x =>
              (appT x_1 x.fst).bind fun x_2 => T.ok (x.snd, x_2)
def I01 (k : Nat) (s : List D × List D) : Prop := Sok (200 * k) s.1 ∧ s.2.length = 23 + 3 * k ∧ (∀ y ∈ s.2, Gn 43 5 y) ∧ k ≤ 1000
theorem k01_turn {ns : List Int} (hn : ns.length ≤ 63) {k : Nat} {s : List D × List D} (h : I01 k s) (hk : k < 1000) : ∃ s', k01F (scr ns) s = .ok s' ∧ I01 (k + 1) s' := by
  have hz := sizeLine_big
  obtain ⟨zs, xs⟩ := s
  obtain ⟨s0, w1, w2, _⟩ := h
  have s0 : Sok (200 * k) zs := s0
  have w1 : xs.length = 23 + 3 * k := w1
  have w2 : ∀ y ∈ xs, Gn 43 5 y := w2
  obtain ⟨qs, gs, z1, vs, _, _, s1, e1⟩ := s_scenario hn (most := 5) (cap := 32) (by omega) (by omega) s0 (by omega)
  have g1 := vs.gn10
  obtain ⟨y1, z2, g2, s2, e2⟩ := s_bn hn (m := 10) (by omega) (by omega) 3 12 (mkS qs gs) z1 _ (by omega) g1 s1 (by omega)
  obtain ⟨y2, z3, g3, s3, e3⟩ := s_bn hn (m := 10) (by omega) (by omega) 3 12 (mkS qs gs) z2 _ (by omega) g1 s2 (by omega)
  obtain ⟨y3, z4, g4, s4, e4⟩ := s_bn hn (m := 21) (by omega) (by omega) 4 12 y2 z3 _ (by omega) g3 s3 (by omega)
  have a1 : ∀ y, appT xs y = .ok (xs ++ [y]) := fun y => appT_ok (by omega)
  have a2 : ∀ y y', appT (xs ++ [y]) y' = .ok (xs ++ [y] ++ [y']) := fun y y' => appT_ok (by rw [List.length_append, List.length_singleton]; omega)
  have a3 : ∀ y y' y'', appT (xs ++ [y] ++ [y']) y'' = .ok (xs ++ [y] ++ [y'] ++ [y'']) := fun y y' y'' => appT_ok (by rw [List.length_append, List.length_append, List.length_singleton, List.length_singleton]; omega)
  refine ⟨(z4, xs ++ [mkS qs gs] ++ [y1] ++ [y3]), ?_, s4.mono (by omega), ?_, fun y hy => ?_, by omega⟩
  · unfold k01F
    wp_walk using e1, a1, e2, a2, e3, e4, a3
  · simp only [List.length_append, List.length_singleton]
    omega
  · simp only [List.mem_append, List.mem_singleton] at hy
    rcases hy with ((hy | rfl) | rfl) | rfl
    · exact w2 y hy
    · exact g1.mono (by omega) (by omega)
    · exact g2.mono (by omega) (by omega)
    · exact g4.mono (by omega) (by omega)
theorem forN_relN {γ σ : Type} (mk : γ → D) {f : σ → D → T σ} (I : Nat → σ → Prop) (N : Nat) (h : ∀ n s x, n < N → I n s → ∃ s', f s (mk x) = .ok s' ∧ I (n + 1) s') : ∀ (src : List γ) (n : Nat) (s : σ), I n s → n + src.length ≤ N → ∃ s', forN (src.map mk) s f = .ok s' ∧ I (n + src.length) s'
  | [], n, s, h0, _ => ⟨s, rfl, h0⟩
  | x :: r, n, s, h0, hl => by
    rw [List.length_cons] at hl
    obtain ⟨s1, h1, h2⟩ := h n s x (by omega) h0
    obtain ⟨s2, h3, h4⟩ := forN_relN mk I N h r (n + 1) s1 h2 (by omega)
    refine ⟨s2, by rw [List.map_cons, forN, h1, T.ok_bind, h3], ?_⟩
    rw [List.length_cons, show n + (r.length + 1) = n + 1 + r.length by omega]
    exact h4
theorem k01_law (ns : List Int) (hn : ns.length ≤ 63) : runP 5 m_law [.list (ns.map PyData.int)] = .ok (.bool true) := by
  have hz := sizeLine_big
  refine (sm_law _).ok ?_
  have hs0 : (PyData.list (ns.map PyData.int)) = scr ns := rfl
  rw [hs0]
  unfold d_law
  have ri : rng1 [(PyData.int 12)] = some ((irange 0 12).map PyData.int) := by rfl
  have l0 : ∀ {t : T (List D)}, lenT [] t = t := fun {t} => lenT_n (by decide)
  have h0 : I01 0 ([], L__law_near_misses) := ⟨⟨by simp, .inl rfl⟩, rfl, near_gn, by omega⟩
  have il : (irange 0 12).length = 12 := by rfl
  obtain ⟨⟨z1, W⟩, e1, i1⟩ := forN_relN PyData.int (f := fun s14 x15 => k01F (scr ns) s14) I01 500 (fun n s x hn' hI => k01_turn hn hI (by omega)) (irange 0 12) 0 ([], L__law_near_misses) h0 (by omega)
  obtain ⟨_, w1, w2, _⟩ := i1
  have w1 : W.length = 23 + 3 * (0 + (irange 0 12).length) := w1
  have w2 : ∀ y ∈ W, Gn 43 5 y := w2
  have f1 := filT_eq W id (fun _ => true) (fun _ => .bool true) (f := fun x29 => (T.ofRx (p_is_scenario [x29])).bind fun x => (T.ofRx (p__law_is_scenario [x29])).bind fun x_1 => (T.ofO (eqD x x_1)).bind fun v32 => T.ok (some v32)) fun y hy => by
    have g1 := s_is_scenario y ((w2 y hy).gd (by omega))
    have g2 := s_scn01 y (w2 y hy) (by omega) (by omega)
    have g3 : eqD (.bool (isScn y)) (.bool (isScn y)) = some (.bool true) := by cases isScn y <;> rfl
    wp_walk using id, g1, g2, g3
  rw [List.map_id] at f1
  have al := all_bools (W.filter fun _ => true) (fun _ => true)
  have at1 : ((W.filter fun _ => true).all fun _ => true) = true := List.all_eq_true.mpr fun _ _ => rfl
  rw [at1] at al
  have lW : ∀ {t : T (List D)}, lenT W t = t := fun {t} => lenT_n (by omega)
  unfold k01F at e1
  wp_walk using ri, l0, e1, lW, f1, al
end PP
namespace PP
open PySem PySem.Spec L2
open PyProof.Rows hiding St
abbrev excs : List Str := []
theorem sc_is_integer : FnScope ["candidate"] ["candidate"] (defScope (Hd.top 1)) := ⟨rfl, rfl, rfl, by decide +kernel, rfl, by decide +kernel, by decide +kernel⟩
theorem w_is_integer {P : Program} {w : World} {K : PySem.W.Frag} {mg : Str → Option Value} {base h : Heap} (KX : K.In h) (G : h.Ns mainGlobals mg) (c : He.SaysD Hd.fa Hd.fn K) (EX : ExcF K mg excs) (EM : ExcM K excs) : Has P w K mg base 1 "is_integer" 1 p_is_integer := by
  obtain ⟨fd, F⟩ := c.def_ 0 (d := Hd.dd 1 "is_integer") rfl
  refine ⟨_, fd, ["candidate"], ?_, He.glo_ok KX G (c.fact 0 (f := .glo "is_integer") rfl), F.kp, F.bindsN fun _ _ _ _ _ _ us hl => match us, hl with | [_], _ => rfl⟩
  have g_bool : mg "bool" = none := He.free_ok KX G (c.fact 27 (f := .free "bool") rfl)
  have g_int : mg "int" = none := He.free_ok KX G (c.fact 30 (f := .free "int") rfl)
  have g_isinstance : mg "isinstance" = none := He.free_ok KX G (c.fact 31 (f := .free "isinstance") rfl)
  have hN := sc_is_integer.nd
  refine fn_pure F sc_is_integer ?_
  rintro ⟨prog, w', K', mg', bs, A, N, s0, H0, ⟨scope, locs, gls, cells, qual, func, code, frame, blts⟩, outer, stack, ex, fn, calm, pn, xe⟩ E h1 h2 h3 h4 h5 h6 h7 hc hf hst hfr hr tk hp
  cases h1; cases h2; cases h3; cases h4; cases h5; cases h6; cases h7; cases hc; cases hf
  have hu : A.units + 64 < cLine := by have := hr.un; simp only at this; omega
  exact r_end (r_ret (r_and (r_isi (T := "int") g_isinstance g_int (by rfl) (r_var 0)) (r_one (r_not (r_isi (T := "bool") g_isinstance g_bool (by rfl) (r_var 0))))))
theorem sc_is_ascending : FnScope ["row", "one", "other"] ["row"] (defScope (Hd.top 2)) := ⟨rfl, rfl, rfl, by decide +kernel, rfl, by decide +kernel, by decide +kernel⟩
theorem w_is_ascending {P : Program} {w : World} {K : PySem.W.Frag} {mg : Str → Option Value} {base h : Heap} (KX : K.In h) (G : h.Ns mainGlobals mg) (c : He.SaysD Hd.fa Hd.fn K) (EX : ExcF K mg excs) (EM : ExcM K excs) : Has P w K mg base 1 "is_ascending" 1 p_is_ascending := by
  obtain ⟨fd, F⟩ := c.def_ 1 (d := Hd.dd 2 "is_ascending") rfl
  refine ⟨_, fd, ["row"], ?_, He.glo_ok KX G (c.fact 1 (f := .glo "is_ascending") rfl), F.kp, F.bindsN fun _ _ _ _ _ _ us hl => match us, hl with | [_], _ => rfl⟩
  have g_all : mg "all" = none := He.free_ok KX G (c.fact 25 (f := .free "all") rfl)
  have g_zip : mg "zip" = none := He.free_ok KX G (c.fact 41 (f := .free "zip") rfl)
  have hN := sc_is_ascending.nd
  refine fn_pure F sc_is_ascending ?_
  rintro ⟨prog, w', K', mg', bs, A, N, s0, H0, ⟨scope, locs, gls, cells, qual, func, code, frame, blts⟩, outer, stack, ex, fn, calm, pn, xe⟩ E h1 h2 h3 h4 h5 h6 h7 hc hf hst hfr hr tk hp
  cases h1; cases h2; cases h3; cases h4; cases h5; cases h6; cases h7; cases hc; cases hf
  have hu : A.units + 64 < cLine := by have := hr.un; simp only at this; omega
  exact r_end (r_ret (r_blt (c_all rfl) g_all (by rfl) (r_cons (r_fzL (r_lc  rfl hN (r_zip g_zip (r_cons (r_var 0) (r_cons (r_sl (r_var 0) (r_ps (r_int)) (r_pn)) (r_nil)))) (own := [("one", 1), ("other", 2)]) (us := [1, 2]) (blk_of (by kernel_rfl)) (by decide) (fun s H C cl fp => r_gtup rfl (r_gcons (r_name hN) (r_gcons (r_name hN) (r_gnil)))) (fun s H C cl fp => r_ifs0) (fun s H C cl fp => r_cmp (o_lt hu) (r_var 1) (r_var 2)))) (r_nil))))
theorem sc_is_name : FnScope ["candidate", "sign"] ["candidate"] (defScope (Hd.top 3)) := ⟨rfl, rfl, rfl, by decide +kernel, rfl, by decide +kernel, by decide +kernel⟩
theorem w_is_name {P : Program} {w : World} {K : PySem.W.Frag} {mg : Str → Option Value} {base h : Heap} (KX : K.In h) (G : h.Ns mainGlobals mg) (c : He.SaysD Hd.fa Hd.fn K) (EX : ExcF K mg excs) (EM : ExcM K excs) : Has P w K mg base 1 "is_name" 1 p_is_name := by
  obtain ⟨fd, F⟩ := c.def_ 2 (d := Hd.dd 3 "is_name") rfl
  refine ⟨_, fd, ["candidate"], ?_, He.glo_ok KX G (c.fact 2 (f := .glo "is_name") rfl), F.kp, F.bindsN fun _ _ _ _ _ _ us hl => match us, hl with | [_], _ => rfl⟩
  have g_all : mg "all" = none := He.free_ok KX G (c.fact 25 (f := .free "all") rfl)
  have g_isinstance : mg "isinstance" = none := He.free_ok KX G (c.fact 31 (f := .free "isinstance") rfl)
  have g_len : mg "len" = none := He.free_ok KX G (c.fact 32 (f := .free "len") rfl)
  have g_str : mg "str" = none := He.free_ok KX G (c.fact 38 (f := .free "str") rfl)
  have hN := sc_is_name.nd
  refine fn_pure F sc_is_name ?_
  rintro ⟨prog, w', K', mg', bs, A, N, s0, H0, ⟨scope, locs, gls, cells, qual, func, code, frame, blts⟩, outer, stack, ex, fn, calm, pn, xe⟩ E h1 h2 h3 h4 h5 h6 h7 hc hf hst hfr hr tk hp
  cases h1; cases h2; cases h3; cases h4; cases h5; cases h6; cases h7; cases hc; cases hf
  have hu : A.units + 64 < cLine := by have := hr.un; simp only at this; omega
  exact r_end (r_ret (r_and (r_isi (T := "str") g_isinstance g_str (by rfl) (r_var 0)) (r_and (r_chain (o_le hu) (o_le hu) (r_int) (r_blt (c_len) g_len (by rfl) (r_cons (r_var 0) (r_nil))) (r_int)) (r_one (r_blt (c_all rfl) g_all (by rfl) (r_cons (r_fzL (r_lc  rfl hN (r_iter (r_var 0)) (own := [("sign", 1)]) (us := [1]) (blk_of (by kernel_rfl)) (by decide) (fun s H C cl fp => r_name hN) (fun s H C cl fp => r_ifs0) (fun s H C cl fp => r_chain (o_le hu) (o_le hu) (r_str) (r_var 1) (r_str)))) (r_nil)))))))
theorem sc_is_question : FnScope ["candidate"] ["candidate"] (defScope (Hd.top 4)) := ⟨rfl, rfl, rfl, by decide +kernel, rfl, by decide +kernel, by decide +kernel⟩
theorem w_is_question {P : Program} {w : World} {K : PySem.W.Frag} {mg : Str → Option Value} {base h : Heap} (KX : K.In h) (G : h.Ns mainGlobals mg) (c : He.SaysD Hd.fa Hd.fn K) (EX : ExcF K mg excs) (EM : ExcM K excs) : Has P w K mg base 2 "is_question" 1 p_is_question := by
  obtain ⟨fd, F⟩ := c.def_ 3 (d := Hd.dd 4 "is_question") rfl
  refine ⟨_, fd, ["candidate"], ?_, He.glo_ok KX G (c.fact 3 (f := .glo "is_question") rfl), F.kp, F.bindsN fun _ _ _ _ _ _ us hl => match us, hl with | [_], _ => rfl⟩
  have g_isinstance : mg "isinstance" = none := He.free_ok KX G (c.fact 31 (f := .free "isinstance") rfl)
  have g_len : mg "len" = none := He.free_ok KX G (c.fact 32 (f := .free "len") rfl)
  have g_tuple : mg "tuple" = none := He.free_ok KX G (c.fact 40 (f := .free "tuple") rfl)
  have F_is_integer := w_is_integer (P := P) (w := w) (base := base) KX G c EX EM
  have F_is_name := w_is_name (P := P) (w := w) (base := base) KX G c EX EM
  have hN := sc_is_question.nd
  refine fn_pure F sc_is_question ?_
  rintro ⟨prog, w', K', mg', bs, A, N, s0, H0, ⟨scope, locs, gls, cells, qual, func, code, frame, blts⟩, outer, stack, ex, fn, calm, pn, xe⟩ E h1 h2 h3 h4 h5 h6 h7 hc hf hst hfr hr tk hp
  cases h1; cases h2; cases h3; cases h4; cases h5; cases h6; cases h7; cases hc; cases hf
  have hu : A.units + 64 < cLine := by have := hr.un; simp only at this; omega
  exact r_seq (r_if (r_tw (r_tor (r_tnot (r_tru (r_isi (T := "tuple") g_isinstance g_tuple (by rfl) (r_var 0)))) (r_tor (r_tcmp (o_ne hu) (r_blt (c_len) g_len (by rfl) (r_cons (r_var 0) (r_nil))) (r_int)) (r_tor1 (r_tnot (r_tru (r_call F_is_name (hr.mono (by omega)) tk (r_cons (r_ix hu (r_var 0) (r_int)) (r_nil))))))))) (r_end (r_ret (r_bl))) (r_empty)) (r_end (r_ret (r_and (r_call F_is_integer (hr.mono (by omega)) tk (r_cons (r_ix hu (r_var 0) (r_int)) (r_nil))) (r_one (r_chain (o_le hu) (o_le hu) (r_int) (r_ix hu (r_var 0) (r_int)) (r_int))))))
theorem sc_product : FnScope ["numbers", "result", "number"] ["numbers"] (defScope (Hd.top 5)) := ⟨rfl, rfl, rfl, by decide +kernel, rfl, by decide +kernel, by decide +kernel⟩
theorem w_product {P : Program} {w : World} {K : PySem.W.Frag} {mg : Str → Option Value} {base h : Heap} (KX : K.In h) (G : h.Ns mainGlobals mg) (c : He.SaysD Hd.fa Hd.fn K) (EX : ExcF K mg excs) (EM : ExcM K excs) : Has P w K mg base 1 "product" 1 p_product := by
  obtain ⟨fd, F⟩ := c.def_ 4 (d := Hd.dd 5 "product") rfl
  refine ⟨_, fd, ["numbers"], ?_, He.glo_ok KX G (c.fact 4 (f := .glo "product") rfl), F.kp, F.bindsN fun _ _ _ _ _ _ us hl => match us, hl with | [_], _ => rfl⟩
  have hN := sc_product.nd
  refine fn_pure F sc_product ?_
  rintro ⟨prog, w', K', mg', bs, A, N, s0, H0, ⟨scope, locs, gls, cells, qual, func, code, frame, blts⟩, outer, stack, ex, fn, calm, pn, xe⟩ E h1 h2 h3 h4 h5 h6 h7 hc hf hst hfr hr tk hp
  cases h1; cases h2; cases h3; cases h4; cases h5; cases h6; cases h7; cases hc; cases hf
  have hu : A.units + 64 < cLine := by have := hr.un; simp only at this; omega
  exact r_seq (r_set (i := 1) hN (r_int)) (r_seq (r_for hp rfl (r_iter (r_var 0)) (r_name hN) (r_end (r_aug (i := 1) io_mul hN (r_var 2)))) (r_end (r_ret (r_var 1))))
theorem sc_are_questions : FnScope ["candidate", "one"] ["candidate"] (defScope (Hd.top 6)) := ⟨rfl, rfl, rfl, by decide +kernel, rfl, by decide +kernel, by decide +kernel⟩
theorem w_are_questions {P : Program} {w : World} {K : PySem.W.Frag} {mg : Str → Option Value} {base h : Heap} (KX : K.In h) (G : h.Ns mainGlobals mg) (c : He.SaysD Hd.fa Hd.fn K) (EX : ExcF K mg excs) (EM : ExcM K excs) : Has P w K mg base 3 "are_questions" 1 p_are_questions := by
  obtain ⟨fd, F⟩ := c.def_ 5 (d := Hd.dd 6 "are_questions") rfl
  refine ⟨_, fd, ["candidate"], ?_, He.glo_ok KX G (c.fact 5 (f := .glo "are_questions") rfl), F.kp, F.bindsN fun _ _ _ _ _ _ us hl => match us, hl with | [_], _ => rfl⟩
  have g_all : mg "all" = none := He.free_ok KX G (c.fact 25 (f := .free "all") rfl)
  have g_isinstance : mg "isinstance" = none := He.free_ok KX G (c.fact 31 (f := .free "isinstance") rfl)
  have g_len : mg "len" = none := He.free_ok KX G (c.fact 32 (f := .free "len") rfl)
  have g_tuple : mg "tuple" = none := He.free_ok KX G (c.fact 40 (f := .free "tuple") rfl)
  have F_is_ascending := w_is_ascending (P := P) (w := w) (base := base) KX G c EX EM
  have F_is_question := w_is_question (P := P) (w := w) (base := base) KX G c EX EM
  have F_product := w_product (P := P) (w := w) (base := base) KX G c EX EM
  have hN := sc_are_questions.nd
  refine fn_pure F sc_are_questions ?_
  rintro ⟨prog, w', K', mg', bs, A, N, s0, H0, ⟨scope, locs, gls, cells, qual, func, code, frame, blts⟩, outer, stack, ex, fn, calm, pn, xe⟩ E h1 h2 h3 h4 h5 h6 h7 hc hf hst hfr hr tk hp
  cases h1; cases h2; cases h3; cases h4; cases h5; cases h6; cases h7; cases hc; cases hf
  have hu : A.units + 64 < cLine := by have := hr.un; simp only at this; omega
  exact r_seq (r_if (r_tw (r_tor (r_tnot (r_tru (r_isi (T := "tuple") g_isinstance g_tuple (by rfl) (r_var 0)))) (r_tor1 (r_tnot (r_tchain (o_le hu) (o_le hu) (r_int) (r_blt (c_len) g_len (by rfl) (r_cons (r_var 0) (r_nil))) (r_int)))))) (r_end (r_ret (r_bl))) (r_empty)) (r_seq (r_if (r_tnot (r_tru (r_blt (c_all rfl) g_all (by rfl) (r_cons (r_fzL (r_lc  rfl hN (r_iter (r_var 0)) (own := [("one", 1)]) (us := [1]) (blk_of (by kernel_rfl)) (by decide) (fun s H C cl fp => r_name hN) (fun s H C cl fp => r_ifs0) (fun s H C cl fp => r_call F_is_question (hr.mono (by omega)) takesF (r_cons (r_var 1) (r_nil))))) (r_nil))))) (r_end (r_ret (r_bl))) (r_empty)) (r_end (r_ret (r_and (r_call F_is_ascending (hr.mono (by omega)) tk (r_cons (r_fzL (r_lc  rfl hN (r_iter (r_var 0)) (own := [("one", 1)]) (us := [1]) (blk_of (by kernel_rfl)) (by decide) (fun s H C cl fp => r_name hN) (fun s H C cl fp => r_ifs0) (fun s H C cl fp => r_ix hu (r_var 1) (r_int)))) (r_nil))) (r_one (r_cmp (o_le hu) (r_call F_product (hr.mono (by omega)) tk (r_cons (r_fzL (r_lc  rfl hN (r_iter (r_var 0)) (own := [("one", 1)]) (us := [1]) (blk_of (by kernel_rfl)) (by decide) (fun s H C cl fp => r_name hN) (fun s H C cl fp => r_ifs0) (fun s H C cl fp => r_ix hu (r_var 1) (r_int)))) (r_nil))) (r_int)))))))
theorem sc_is_name_tuple : FnScope ["known", "candidate", "one"] ["known", "candidate"] (defScope (Hd.top 7)) := ⟨rfl, rfl, rfl, by decide +kernel, rfl, by decide +kernel, by decide +kernel⟩
theorem w_is_name_tuple {P : Program} {w : World} {K : PySem.W.Frag} {mg : Str → Option Value} {base h : Heap} (KX : K.In h) (G : h.Ns mainGlobals mg) (c : He.SaysD Hd.fa Hd.fn K) (EX : ExcF K mg excs) (EM : ExcM K excs) : Has P w K mg base 2 "is_name_tuple" 2 p_is_name_tuple := by
  obtain ⟨fd, F⟩ := c.def_ 6 (d := Hd.dd 7 "is_name_tuple") rfl
  refine ⟨_, fd, ["known", "candidate"], ?_, He.glo_ok KX G (c.fact 6 (f := .glo "is_name_tuple") rfl), F.kp, F.bindsN fun _ _ _ _ _ _ us hl => match us, hl with | [_, _], _ => rfl⟩
  have g_all : mg "all" = none := He.free_ok KX G (c.fact 25 (f := .free "all") rfl)
  have g_isinstance : mg "isinstance" = none := He.free_ok KX G (c.fact 31 (f := .free "isinstance") rfl)
  have g_str : mg "str" = none := He.free_ok KX G (c.fact 38 (f := .free "str") rfl)
  have g_tuple : mg "tuple" = none := He.free_ok KX G (c.fact 40 (f := .free "tuple") rfl)
  have F_is_ascending := w_is_ascending (P := P) (w := w) (base := base) KX G c EX EM
  have hN := sc_is_name_tuple.nd
  refine fn_pure F sc_is_name_tuple ?_
  rintro ⟨prog, w', K', mg', bs, A, N, s0, H0, ⟨scope, locs, gls, cells, qual, func, code, frame, blts⟩, outer, stack, ex, fn, calm, pn, xe⟩ E h1 h2 h3 h4 h5 h6 h7 hc hf hst hfr hr tk hp
  cases h1; cases h2; cases h3; cases h4; cases h5; cases h6; cases h7; cases hc; cases hf
  have hu : A.units + 64 < cLine := by have := hr.un; simp only at this; omega
  exact r_seq (r_if (r_tw (r_tor (r_tnot (r_tru (r_isi (T := "tuple") g_isinstance g_tuple (by rfl) (r_var 1)))) (r_tor (r_tcmp (o_eq hu) (r_var 1) (r_tup (r_nil))) (r_tor1 (r_tnot (r_tru (r_blt (c_all rfl) g_all (by rfl) (r_cons (r_fzL (r_lc  rfl hN (r_iter (r_var 1)) (own := [("one", 2)]) (us := [2]) (blk_of (by kernel_rfl)) (by decide) (fun s H C cl fp => r_name hN) (fun s H C cl fp => r_ifs0) (fun s H C cl fp => r_isi (T := "str") g_isinstance g_str (by rfl) (r_var 2)))) (r_nil))))))))) (r_end (r_ret (r_bl))) (r_empty)) (r_end (r_ret (r_and (r_call F_is_ascending (hr.mono (by omega)) tk (r_cons (r_var 1) (r_nil))) (r_one (r_blt (c_all rfl) g_all (by rfl) (r_cons (r_fzL (r_lc  rfl hN (r_iter (r_var 1)) (own := [("one", 2)]) (us := [2]) (blk_of (by kernel_rfl)) (by decide) (fun s H C cl fp => r_name hN) (fun s H C cl fp => r_ifs0) (fun s H C cl fp => r_cmp (o_in hu) (r_var 2) (r_var 0)))) (r_nil)))))))
theorem sc_contains : FnScope ["larger", "smaller", "name"] ["larger", "smaller"] (defScope (Hd.top 8)) := ⟨rfl, rfl, rfl, by decide +kernel, rfl, by decide +kernel, by decide +kernel⟩
theorem w_contains {P : Program} {w : World} {K : PySem.W.Frag} {mg : Str → Option Value} {base h : Heap} (KX : K.In h) (G : h.Ns mainGlobals mg) (c : He.SaysD Hd.fa Hd.fn K) (EX : ExcF K mg excs) (EM : ExcM K excs) : Has P w K mg base 1 "contains" 2 p_contains := by
  obtain ⟨fd, F⟩ := c.def_ 7 (d := Hd.dd 8 "contains") rfl
  refine ⟨_, fd, ["larger", "smaller"], ?_, He.glo_ok KX G (c.fact 7 (f := .glo "contains") rfl), F.kp, F.bindsN fun _ _ _ _ _ _ us hl => match us, hl with | [_, _], _ => rfl⟩
  have g_all : mg "all" = none := He.free_ok KX G (c.fact 25 (f := .free "all") rfl)
  have hN := sc_contains.nd
  refine fn_pure F sc_contains ?_
  rintro ⟨prog, w', K', mg', bs, A, N, s0, H0, ⟨scope, locs, gls, cells, qual, func, code, frame, blts⟩, outer, stack, ex, fn, calm, pn, xe⟩ E h1 h2 h3 h4 h5 h6 h7 hc hf hst hfr hr tk hp
  cases h1; cases h2; cases h3; cases h4; cases h5; cases h6; cases h7; cases hc; cases hf
  have hu : A.units + 64 < cLine := by have := hr.un; simp only at this; omega
  exact r_end (r_ret (r_blt (c_all rfl) g_all (by rfl) (r_cons (r_fzL (r_lc  rfl hN (r_iter (r_var 1)) (own := [("name", 2)]) (us := [2]) (blk_of (by kernel_rfl)) (by decide) (fun s H C cl fp => r_name hN) (fun s H C cl fp => r_ifs0) (fun s H C cl fp => r_cmp (o_in hu) (r_var 2) (r_var 0)))) (r_nil))))
theorem sc_cell_count : FnScope ["questions", "groups", "counts", "group", "name"] ["questions", "groups"] (defScope (Hd.top 9)) := ⟨rfl, rfl, rfl, by decide +kernel, rfl, by decide +kernel, by decide +kernel⟩
theorem w_cell_count {P : Program} {w : World} {K : PySem.W.Frag} {mg : Str → Option Value} {base h : Heap} (KX : K.In h) (G : h.Ns mainGlobals mg) (c : He.SaysD Hd.fa Hd.fn K) (EX : ExcF K mg excs) (EM : ExcM K excs) : Has P w K mg base 2 "cell_count" 2 p_cell_count := by
  obtain ⟨fd, F⟩ := c.def_ 8 (d := Hd.dd 9 "cell_count") rfl
  refine ⟨_, fd, ["questions", "groups"], ?_, He.glo_ok KX G (c.fact 8 (f := .glo "cell_count") rfl), F.kp, F.bindsN fun _ _ _ _ _ _ us hl => match us, hl with | [_, _], _ => rfl⟩
  have g_dict : mg "dict" = none := He.free_ok KX G (c.fact 28 (f := .free "dict") rfl)
  have g_sum : mg "sum" = none := He.free_ok KX G (c.fact 39 (f := .free "sum") rfl)
  have F_product := w_product (P := P) (w := w) (base := base) KX G c EX EM
  have hN := sc_cell_count.nd
  refine fn_pure F sc_cell_count ?_
  rintro ⟨prog, w', K', mg', bs, A, N, s0, H0, ⟨scope, locs, gls, cells, qual, func, code, frame, blts⟩, outer, stack, ex, fn, calm, pn, xe⟩ E h1 h2 h3 h4 h5 h6 h7 hc hf hst hfr hr tk hp
  cases h1; cases h2; cases h3; cases h4; cases h5; cases h6; cases h7; cases hc; cases hf
  have hu : A.units + 64 < cLine := by have := hr.un; simp only at this; omega
  exact r_seq (r_set (i := 2) hN (r_typ (c_dict rfl) g_dict (by rfl) (r_cons (r_var 0) (r_nil)))) (r_end (r_ret (r_blt (c_sum rfl) g_sum (by rfl) (r_cons (r_fzL (r_lc  rfl hN (r_iter (r_var 1)) (own := [("group", 3)]) (us := [3]) (blk_of (by kernel_rfl)) (by decide) (fun s H C cl fp => r_name hN) (fun s H C cl fp => r_ifs0) (fun s H C cl fp => r_call F_product (hr.mono (by omega)) takesF (r_cons (r_fzL (r_lc  rfl hN (r_iter (r_var 3)) (own := [("name", 4)]) (us := [4]) (blk_of (by kernel_rfl)) (by decide) (fun s H C cl fp => r_name hN) (fun s H C cl fp => r_ifs0) (fun s H C cl fp => r_ix hu (r_var 2) (r_var 4)))) (r_nil))))) (r_nil)))))
theorem sc_is_scenario : FnScope ["candidate", "questions", "groups", "known", "index", "group", "question", "other", "name"] ["candidate"] (defScope (Hd.top 10)) := ⟨rfl, rfl, rfl, by decide +kernel, rfl, by decide +kernel, by decide +kernel⟩
theorem w_is_scenario {P : Program} {w : World} {K : PySem.W.Frag} {mg : Str → Option Value} {base h : Heap} (KX : K.In h) (G : h.Ns mainGlobals mg) (c : He.SaysD Hd.fa Hd.fn K) (EX : ExcF K mg excs) (EM : ExcM K excs) : Has P w K mg base 4 "is_scenario" 1 p_is_scenario := by
  obtain ⟨fd, F⟩ := c.def_ 9 (d := Hd.dd 10 "is_scenario") rfl
  refine ⟨_, fd, ["candidate"], ?_, He.glo_ok KX G (c.fact 9 (f := .glo "is_scenario") rfl), F.kp, F.bindsN fun _ _ _ _ _ _ us hl => match us, hl with | [_], _ => rfl⟩
  have g_all : mg "all" = none := He.free_ok KX G (c.fact 25 (f := .free "all") rfl)
  have g_any : mg "any" = none := He.free_ok KX G (c.fact 26 (f := .free "any") rfl)
  have g_enumerate : mg "enumerate" = none := He.free_ok KX G (c.fact 29 (f := .free "enumerate") rfl)
  have g_isinstance : mg "isinstance" = none := He.free_ok KX G (c.fact 31 (f := .free "isinstance") rfl)
  have g_len : mg "len" = none := He.free_ok KX G (c.fact 32 (f := .free "len") rfl)
  have g_tuple : mg "tuple" = none := He.free_ok KX G (c.fact 40 (f := .free "tuple") rfl)
  have F_are_questions := w_are_questions (P := P) (w := w) (base := base) KX G c EX EM
  have F_cell_count := w_cell_count (P := P) (w := w) (base := base) KX G c EX EM
  have F_contains := w_contains (P := P) (w := w) (base := base) KX G c EX EM
  have F_is_ascending := w_is_ascending (P := P) (w := w) (base := base) KX G c EX EM
  have F_is_name_tuple := w_is_name_tuple (P := P) (w := w) (base := base) KX G c EX EM
  have hN := sc_is_scenario.nd
  refine fn_pure F sc_is_scenario ?_
  rintro ⟨prog, w', K', mg', bs, A, N, s0, H0, ⟨scope, locs, gls, cells, qual, func, code, frame, blts⟩, outer, stack, ex, fn, calm, pn, xe⟩ E h1 h2 h3 h4 h5 h6 h7 hc hf hst hfr hr tk hp
  cases h1; cases h2; cases h3; cases h4; cases h5; cases h6; cases h7; cases hc; cases hf
  have hu : A.units + 64 < cLine := by have := hr.un; simp only at this; omega
  exact r_seq (r_if (r_tw (r_tor (r_tnot (r_tru (r_isi (T := "tuple") g_isinstance g_tuple (by rfl) (r_var 0)))) (r_tor (r_tcmp (o_ne hu) (r_blt (c_len) g_len (by rfl) (r_cons (r_var 0) (r_nil))) (r_int)) (r_tor1 (r_tnot (r_tru (r_call F_are_questions (hr.mono (by omega)) tk (r_cons (r_ix hu (r_var 0) (r_int)) (r_nil))))))))) (r_end (r_ret (r_bl))) (r_empty)) (r_seq (r_asg (r_var 0) (r_gtup rfl (r_gcons (r_name hN) (r_gcons (r_name hN) (r_gnil))))) (r_seq ((by first | exact r_setLc (i := 3) (hsw := rfl) rfl hN (r_iter (r_var 1)) (own := [("question", 6)]) (us := [6]) (blk_of (by kernel_rfl)) (by decide) (fun s H C cl fp => r_name hN) (fun s H C cl fp => r_ifs0) (fun s H C cl fp => r_ix hu (r_var 6) (r_int)) | exact r_setL (i := 3) hN (r_lc  rfl hN (r_iter (r_var 1)) (own := [("question", 6)]) (us := [6]) (blk_of (by kernel_rfl)) (by decide) (fun s H C cl fp => r_name hN) (fun s H C cl fp => r_ifs0) (fun s H C cl fp => r_ix hu (r_var 6) (r_int))))) (r_frz (i := 3) (r_seq (r_if (r_tw (r_tor (r_tnot (r_tru (r_isi (T := "tuple") g_isinstance g_tuple (by rfl) (r_var 2)))) (r_tor1 (r_tnot (r_tchain (o_le hu) (o_le hu) (r_int) (r_blt (c_len) g_len (by rfl) (r_cons (r_var 2) (r_nil))) (r_int)))))) (r_end (r_ret (r_bl))) (r_empty)) (r_seq (r_if (r_tw (r_tor (r_tnot (r_tru (r_blt (c_all rfl) g_all (by rfl) (r_cons (r_fzL (r_lc  rfl hN (r_iter (r_var 2)) (own := [("group", 5)]) (us := [5]) (blk_of (by kernel_rfl)) (by decide) (fun s H C cl fp => r_name hN) (fun s H C cl fp => r_ifs0) (fun s H C cl fp => r_call F_is_name_tuple (hr.mono (by omega)) takesF (r_cons (r_var 3) (r_cons (r_var 5) (r_nil)))))) (r_nil))))) (r_tor1 (r_tnot (r_tru (r_call F_is_ascending (hr.mono (by omega)) tk (r_cons (r_var 2) (r_nil)))))))) (r_end (r_ret (r_bl))) (r_empty)) (r_seq (r_for hp rfl (r_enum g_enumerate (r_cons (r_var 2) (r_nil))) (r_gtup rfl (r_gcons (r_name hN) (r_gcons (r_name hN) (r_gnil)))) (r_end (r_if (r_tru (r_blt (c_any rfl) g_any (by rfl) (r_cons (r_fzL (r_lc  rfl hN (r_iter (r_bin o_add (r_sl (r_var 2) (r_pn) (r_ps (r_var 4))) (r_sl (r_var 2) (r_ps (r_bin o_add (r_var 4) (r_int))) (r_pn)))) (own := [("other", 7)]) (us := [7]) (blk_of (by kernel_rfl)) (by decide) (fun s H C cl fp => r_name hN) (fun s H C cl fp => r_ifs0) (fun s H C cl fp => r_call F_contains (hr.mono (by omega)) takesF (r_cons (r_var 7) (r_cons (r_var 5) (r_nil)))))) (r_nil)))) (r_end (r_ret (r_bl))) (r_empty)))) (r_seq (r_if (r_tnot (r_tru (r_blt (c_all rfl) g_all (by rfl) (r_cons (r_fzL (r_lc  rfl hN (r_iter (r_var 3)) (own := [("name", 8)]) (us := [8]) (blk_of (by kernel_rfl)) (by decide) (fun s H C cl fp => r_name hN) (fun s H C cl fp => r_ifs0) (fun s H C cl fp => r_blt (c_any rfl) g_any (by rfl) (r_cons (r_fzL (r_lc  rfl hN (r_iter (r_var 2)) (own := [("group", 5)]) (us := [5]) (blk_of (by kernel_rfl)) (by decide) (fun s H C cl fp => r_name hN) (fun s H C cl fp => r_ifs0) (fun s H C cl fp => r_cmp (o_in hu) (r_var 8) (r_var 5)))) (r_nil))))) (r_nil))))) (r_end (r_ret (r_bl))) (r_empty)) (r_end (r_ret (r_cmp (o_le hu) (r_call F_cell_count (hr.mono (by omega)) tk (r_cons (r_var 1) (r_cons (r_var 2) (r_nil)))) (r_int)))))))))))
theorem sc__law_draw : FnScope ["script", "state", "many", "k", "cell", "digits", "number", "more"] ["script", "state", "many"] (defScope (Hd.top 12)) := ⟨rfl, rfl, rfl, by decide +kernel, rfl, by decide +kernel, by decide +kernel⟩
theorem w__law_draw {P : Program} {w : World} {K : PySem.W.Frag} {mg : Str → Option Value} {base h : Heap} (KX : K.In h) (G : h.Ns mainGlobals mg) (c : He.SaysD Hd.fa Hd.fn K) (EX : ExcF K mg excs) (EM : ExcM K excs) : HasB P w K mg base 1 "_law_draw" 1 1 b__law_draw := by
  obtain ⟨fd, F⟩ := c.def_ 10 (d := Hd.dd 12 "_law_draw") rfl
  refine ⟨_, fd, ["script", "state", "many"], ?_, He.glo_ok KX G (c.fact 10 (f := .glo "_law_draw") rfl), F.kp, F.bindsN fun _ _ _ _ _ _ us hl => match us, hl with | [_, _, _], _ => rfl⟩
  have g_abs : mg "abs" = none := He.free_ok KX G (c.fact 24 (f := .free "abs") rfl)
  have g_len : mg "len" = none := He.free_ok KX G (c.fact 32 (f := .free "len") rfl)
  have g_max : mg "max" = none := He.free_ok KX G (c.fact 34 (f := .free "max") rfl)
  have hN := sc__law_draw.nd
  refine fn_ref (np := 1) (nq := 1) F sc__law_draw rfl ?_
  rintro ⟨prog, w', K', mg', bs, A, N, s0, H0, ⟨scope, locs, gls, cells, qual, func, code, frame, blts⟩, outer, stack, ex, fn, calm, pn, xe⟩ E h1 h2 h3 h4 h5 h6 h7 hc hf hst hfr hr tk hp
  cases h1; cases h2; cases h3; cases h4; cases h5; cases h6; cases h7; cases hc; cases hf
  have hu : A.units + 64 < cLine := by have := hr.un; simp only at this; omega
  exact r_seq (r_if (r_tnot (r_truV (i := 1))) (r_end (r_expr (r_app (i := 1) (r_blt (c_max rfl hu) g_max (by rfl) (r_cons (r_bin o_add (r_fzL (r_lc  rfl hN (r_iter (r_var 0)) (own := [("cell", 4)]) (us := [4]) (blk_of (by kernel_rfl)) (by decide) (fun s H C cl fp => r_name hN) (fun s H C cl fp => r_ifs0) (fun s H C cl fp => r_blt (c_abs) g_abs (by rfl) (r_cons (r_var 4) (r_nil))))) (r_lst (r_cons (r_int) (r_nil)))) (r_nil)))))) (r_empty)) (r_seq (r_expr (r_app (i := 1) (r_int))) (r_seq (r_set (i := 3) hN (r_lenV (i := 1) g_len)) (r_seq (r_set (i := 4) hN (r_ifE (r_tru (r_var 0)) (r_ix hu (r_var 0) (r_bin o_mod (r_var 3) (r_blt (c_len) g_len (by rfl) (r_cons (r_var 0) (r_nil))))) (r_int))) (r_seq (r_set (i := 5) hN (r_bin o_mod (r_idxV (i := 1) (r_int)) (r_int))) (r_seq (r_setI (i := 1) (r_bin o_fdiv (r_idxV (i := 1) (r_int)) (r_int)) (r_int)) (r_seq (r_set (i := 6) hN (r_bin o_mod (r_bin o_add (r_bin o_add (r_var 4) (r_bin o_mul (r_int) (r_var 5))) (r_bin o_mul (r_int) (r_var 3))) (r_int))) (r_seq (r_set (i := 6) hN (r_bin o_mod (r_bin o_mul (r_bin o_mod (r_bin o_mul (r_var 6) (r_var 6)) (r_int)) (r_int)) (r_int))) (r_seq (r_set (i := 7) hN (r_bin o_mod (r_bin o_mul (r_bin o_mod (r_bin o_mul (r_var 6) (r_var 6)) (r_int)) (r_int)) (r_int))) (r_end (r_ret (r_bin o_mod (r_bin o_add (r_bin o_mul (r_bin o_fdiv (r_var 6) (r_int)) (r_int)) (r_bin o_fdiv (r_var 7) (r_int))) (r_var 2))))))))))))
theorem sc__law_pick : FnScope ["script", "state", "some"] ["script", "state", "some"] (defScope (Hd.top 13)) := ⟨rfl, rfl, rfl, by decide +kernel, rfl, by decide +kernel, by decide +kernel⟩
theorem w__law_pick {P : Program} {w : World} {K : PySem.W.Frag} {mg : Str → Option Value} {base h : Heap} (KX : K.In h) (G : h.Ns mainGlobals mg) (c : He.SaysD Hd.fa Hd.fn K) (EX : ExcF K mg excs) (EM : ExcM K excs) : HasB P w K mg base 2 "_law_pick" 1 1 b__law_pick := by
  obtain ⟨fd, F⟩ := c.def_ 11 (d := Hd.dd 13 "_law_pick") rfl
  refine ⟨_, fd, ["script", "state", "some"], ?_, He.glo_ok KX G (c.fact 11 (f := .glo "_law_pick") rfl), F.kp, F.bindsN fun _ _ _ _ _ _ us hl => match us, hl with | [_, _, _], _ => rfl⟩
  have g_len : mg "len" = none := He.free_ok KX G (c.fact 32 (f := .free "len") rfl)
  have F__law_draw := w__law_draw (P := P) (w := w) (base := base) KX G c EX EM
  have hN := sc__law_pick.nd
  refine fn_ref (np := 1) (nq := 1) F sc__law_pick rfl ?_
  rintro ⟨prog, w', K', mg', bs, A, N, s0, H0, ⟨scope, locs, gls, cells, qual, func, code, frame, blts⟩, outer, stack, ex, fn, calm, pn, xe⟩ E h1 h2 h3 h4 h5 h6 h7 hc hf hst hfr hr tk hp
  cases h1; cases h2; cases h3; cases h4; cases h5; cases h6; cases h7; cases hc; cases hf
  have hu : A.units + 64 < cLine := by have := hr.un; simp only at this; omega
  exact r_end (r_ret (r_ix hu (r_var 2) (r_callB F__law_draw (hr.mono (by omega)) tk (r_bc (r_var 0) (r_b0 (i := 1) (r_cons (r_blt (c_len) g_len (by rfl) (r_cons (r_var 2) (r_nil))) (r_nil)))))))
theorem sc__law_shuffled : FnScope ["script", "state", "things", "rest", "found"] ["script", "state", "things"] (defScope (Hd.top 14)) := ⟨rfl, rfl, rfl, by decide +kernel, rfl, by decide +kernel, by decide +kernel⟩
theorem w__law_shuffled {P : Program} {w : World} {K : PySem.W.Frag} {mg : Str → Option Value} {base h : Heap} (KX : K.In h) (G : h.Ns mainGlobals mg) (c : He.SaysD Hd.fa Hd.fn K) (EX : ExcF K mg excs) (EM : ExcM K excs) : HasB P w K mg base 2 "_law_shuffled" 1 1 b__law_shuffled := by
  obtain ⟨fd, F⟩ := c.def_ 12 (d := Hd.dd 14 "_law_shuffled") rfl
  refine ⟨_, fd, ["script", "state", "things"], ?_, He.glo_ok KX G (c.fact 12 (f := .glo "_law_shuffled") rfl), F.kp, F.bindsN fun _ _ _ _ _ _ us hl => match us, hl with | [_, _, _], _ => rfl⟩
  have g_len : mg "len" = none := He.free_ok KX G (c.fact 32 (f := .free "len") rfl)
  have g_list : mg "list" = none := He.free_ok KX G (c.fact 33 (f := .free "list") rfl)
  have F__law_draw := w__law_draw (P := P) (w := w) (base := base) KX G c EX EM
  have hN := sc__law_shuffled.nd
  refine fn_ref (np := 1) (nq := 1) F sc__law_shuffled rfl ?_
  rintro ⟨prog, w', K', mg', bs, A, N, s0, H0, ⟨scope, locs, gls, cells, qual, func, code, frame, blts⟩, outer, stack, ex, fn, calm, pn, xe⟩ E h1 h2 h3 h4 h5 h6 h7 hc hf hst hfr hr tk hp
  cases h1; cases h2; cases h3; cases h4; cases h5; cases h6; cases h7; cases hc; cases hf
  have hu : A.units + 64 < cLine := by have := hr.un; simp only at this; omega
  exact r_seq (r_par2 (i := 3) (j := 4) rfl hN (m_consL (r_list g_list (r_cons (r_var 2) (r_nil))) (m_consL (r_lstL (r_nil)) (m_nil)))) (r_seq (r_while (fuelL 3) hp (r_truV (i := 3)) (r_end (r_expr (r_app (i := 4) (r_pop (i := 3) (r_callB F__law_draw (hr.mono (by omega)) tk (r_bc (r_var 0) (r_b0 (i := 1) (r_cons (r_lenV (i := 3) g_len) (r_nil)))))))))) (r_frz (i := 4) (r_end (r_ret (r_var 4)))))
theorem sc__law_benB : FnScope ["script", "state", "thing", "at", "some"] ["script", "state", "thing"] (defScope (Hd.top 15)) := ⟨rfl, rfl, rfl, by decide +kernel, rfl, by decide +kernel, by decide +kernel⟩
theorem wr__law_benB {P : Program} {w : World} {K : PySem.W.Frag} {mg : Str → Option Value} {base h : Heap} (KX : K.In h) (G : h.Ns mainGlobals mg) (c : He.SaysD Hd.fa Hd.fn K) (EX : ExcF K mg excs) (EM : ExcM K excs) : ∀ n : Nat, HasB P w K mg base (3 + n) "_law_bent" 1 1 (b__law_benB n) := by
  intro n
  induction n with
  | zero =>
    obtain ⟨fd, F⟩ := c.def_ 13 (d := Hd.dd 15 "_law_bent") rfl
    refine ⟨_, fd, ["script", "state", "thing"], ?_, He.glo_ok KX G (c.fact 13 (f := .glo "_law_bent") rfl), F.kp, F.bindsN fun _ _ _ _ _ _ us hl => match us, hl with | [_, _, _], _ => rfl⟩
    refine fn_ref (k := 2) (np := 1) (nq := 1) F sc__law_benB rfl ?_
    exact fun _ _ _ _ _ _ _ _ _ _ _ _ _ _ _ _ => r_stuck
  | succ n F__law_bent =>
    obtain ⟨fd, F⟩ := c.def_ 13 (d := Hd.dd 15 "_law_bent") rfl
    refine ⟨_, fd, ["script", "state", "thing"], ?_, He.glo_ok KX G (c.fact 13 (f := .glo "_law_bent") rfl), F.kp, F.bindsN fun _ _ _ _ _ _ us hl => match us, hl with | [_, _, _], _ => rfl⟩
    have g_int : mg "int" = none := He.free_ok KX G (c.fact 30 (f := .free "int") rfl)
    have g_isinstance : mg "isinstance" = none := He.free_ok KX G (c.fact 31 (f := .free "isinstance") rfl)
    have g_len : mg "len" = none := He.free_ok KX G (c.fact 32 (f := .free "len") rfl)
    have g_list : mg "list" = none := He.free_ok KX G (c.fact 33 (f := .free "list") rfl)
    have g_str : mg "str" = none := He.free_ok KX G (c.fact 38 (f := .free "str") rfl)
    have g_tuple : mg "tuple" = none := He.free_ok KX G (c.fact 40 (f := .free "tuple") rfl)
    have F__law_draw := w__law_draw (P := P) (w := w) (base := base) KX G c EX EM
    have F__law_pick := w__law_pick (P := P) (w := w) (base := base) KX G c EX EM
    have hN := sc__law_benB.nd
    refine fn_ref (k := 3 + n) (np := 1) (nq := 1) F sc__law_benB rfl ?_
    rintro ⟨prog, w', K', mg', bs, A, N, s0, H0, ⟨scope, locs, gls, cells, qual, func, code, frame, blts⟩, outer, stack, ex, fn, calm, pn, xe⟩ E h1 h2 h3 h4 h5 h6 h7 hc hf hst hfr hr tk hp
    cases h1; cases h2; cases h3; cases h4; cases h5; cases h6; cases h7; cases hc; cases hf
    have hu : A.units + 64 < cLine := by have := hr.un; simp only at this; omega
    exact r_seq (r_if (r_tw (r_tor (r_tnot (r_tru (r_isi (T := "tuple") g_isinstance g_tuple (by rfl) (r_var 2)))) (r_tor (r_tnot (r_tru (r_var 2))) (r_tor1 (r_tcmp (o_eq hu) (r_callB F__law_draw (hr.mono (by omega)) tk (r_bc (r_var 0) (r_b0 (i := 1) (r_cons (r_int) (r_nil))))) (r_int)))))) (r_seq (r_set (i := 4) hN (r_lst (r_cons (r_non) (r_cons (r_bl) (r_cons (r_bl) (r_cons (r_int) (r_cons (r_int) (r_cons (r_un u_neg (r_int)) (r_cons (r_int) (r_cons (r_int) (r_cons (r_str) (r_cons (r_str) (r_cons (r_str) (r_cons (r_str) (r_cons (r_str) (r_cons (r_tup (r_nil)) (r_cons (r_lst (r_nil)) (r_nil)))))))))))))))))) (r_seq (r_set (i := 4) hN (r_bin o_add (r_var 4) (r_lst (r_cons (r_tup (r_cons (r_str) (r_nil))) (r_cons (r_tup (r_cons (r_str) (r_cons (r_str) (r_nil)))) (r_cons (r_tup (r_cons (r_str) (r_cons (r_str) (r_nil)))) (r_cons (r_tup (r_cons (r_str) (r_cons (r_int) (r_nil)))) (r_nil)))))))) (r_seq (r_if (r_tru (r_isi (T := "tuple") g_isinstance g_tuple (by rfl) (r_var 2))) (r_end (r_set (i := 4) hN (r_bin o_add (r_var 4) (r_lst (r_cons (r_fzL (r_list g_list (r_cons (r_var 2) (r_nil)))) (r_cons (r_sl (r_var 2) (r_pn) (r_ps (r_un u_neg (r_int)))) (r_cons (r_bin o_add (r_var 2) (r_sl (r_var 2) (r_ps (r_un u_neg (r_int))) (r_pn))) (r_cons (r_sl (r_var 2) (r_ps (r_int)) (r_pn)) (r_cons (r_rev (r_var 2)) (r_cons (r_bin o_add (r_var 2) (r_tup (r_cons (r_non) (r_nil)))) (r_nil))))))))))) (r_empty)) (r_seq (r_if (r_tru (r_isi (T := "int") g_isinstance g_int (by rfl) (r_var 2))) (r_end (r_set (i := 4) hN (r_bin o_add (r_var 4) (r_bin o_mul (r_lst (r_cons (r_bin o_addB (r_var 2) (r_int)) (r_cons (r_bin o_subB (r_var 2) (r_int)) (r_cons (r_not (r_var 2)) (r_cons (r_tup (r_cons (r_var 2) (r_nil))) (r_cons (r_typ (c_strB) g_str (by rfl) (r_cons (r_var 2) (r_nil))) (r_nil))))))) (r_int))))) (r_empty)) (r_end (r_ret (r_callB F__law_pick (hr.mono (by omega)) tk (r_bc (r_var 0) (r_b0 (i := 1) (r_cons (r_var 4) (r_nil))))))))))) (r_empty)) (r_seq (r_set (i := 3) hN (r_callB F__law_draw (hr.mono (by omega)) tk (r_bc (r_var 0) (r_b0 (i := 1) (r_cons (r_blt (c_len) g_len (by rfl) (r_cons (r_var 2) (r_nil))) (r_nil)))))) (r_end (r_ret (r_bin o_add (r_bin o_add (r_sl (r_var 2) (r_pn) (r_ps (r_var 3))) (r_tup (r_cons (r_callB F__law_bent (hr.mono (by omega)) tk (r_bc (r_var 0) (r_b0 (i := 1) (r_cons (r_ix hu (r_var 2) (r_var 3)) (r_nil))))) (r_nil)))) (r_sl (r_var 2) (r_ps (r_bin o_addB (r_var 3) (r_int))) (r_pn))))))
theorem w__law_benB {P : Program} {w : World} {K : PySem.W.Frag} {mg : Str → Option Value} {base h : Heap} (KX : K.In h) (G : h.Ns mainGlobals mg) (c : He.SaysD Hd.fa Hd.fn K) (EX : ExcF K mg excs) (EM : ExcM K excs) : HasB P w K mg base 15 "_law_bent" 1 1 (b__law_benB 12) := wr__law_benB KX G c EX EM 12
theorem sc__law_cells : FnScope ["questions", "names", "counts", "rows", "name", "longer", "row", "answer"] ["questions", "names"] (defScope (Hd.top 16)) := ⟨rfl, rfl, rfl, by decide +kernel, rfl, by decide +kernel, by decide +kernel⟩
theorem w__law_cells {P : Program} {w : World} {K : PySem.W.Frag} {mg : Str → Option Value} {base h : Heap} (KX : K.In h) (G : h.Ns mainGlobals mg) (c : He.SaysD Hd.fa Hd.fn K) (EX : ExcF K mg excs) (EM : ExcM K excs) : Has P w K mg base 1 "_law_cells" 2 p__law_cells := by
  obtain ⟨fd, F⟩ := c.def_ 14 (d := Hd.dd 16 "_law_cells") rfl
  refine ⟨_, fd, ["questions", "names"], ?_, He.glo_ok KX G (c.fact 14 (f := .glo "_law_cells") rfl), F.kp, F.bindsN fun _ _ _ _ _ _ us hl => match us, hl with | [_, _], _ => rfl⟩
  have g_dict : mg "dict" = none := He.free_ok KX G (c.fact 28 (f := .free "dict") rfl)
  have g_list : mg "list" = none := He.free_ok KX G (c.fact 33 (f := .free "list") rfl)
  have g_range : mg "range" = none := He.free_ok KX G (c.fact 35 (f := .free "range") rfl)
  have hN := sc__law_cells.nd
  refine fn_pure F sc__law_cells ?_
  rintro ⟨prog, w', K', mg', bs, A, N, s0, H0, ⟨scope, locs, gls, cells, qual, func, code, frame, blts⟩, outer, stack, ex, fn, calm, pn, xe⟩ E h1 h2 h3 h4 h5 h6 h7 hc hf hst hfr hr tk hp
  cases h1; cases h2; cases h3; cases h4; cases h5; cases h6; cases h7; cases hc; cases hf
  have hu : A.units + 64 < cLine := by have := hr.un; simp only at this; omega
  exact r_seq (r_par2 (i := 2) (j := 3) rfl hN (m_consD (r_typ (c_dict rfl) g_dict (by rfl) (r_cons (r_fzL (r_list g_list (r_cons (r_var 0) (r_nil)))) (r_nil))) (m_consD (r_lst (r_cons (r_tup (r_nil)) (r_nil))) (m_nil)))) (r_seq (r_for hp rfl (r_iter (r_var 1)) (r_name hN) (r_seq (r_set (i := 5) hN (r_lst (r_nil))) (r_seq (r_for hp rfl (r_iter (r_var 3)) (r_name hN) (r_end (r_set (i := 5) hN (r_bin o_add (r_var 5) (r_fzL (r_lc  rfl hN (r_rng1 g_range (r_cons (r_ix hu (r_var 2) (r_var 4)) (r_nil))) (own := [("answer", 7)]) (us := [7]) (blk_of (by kernel_rfl)) (by decide) (fun s H C cl fp => r_name hN) (fun s H C cl fp => r_ifs0) (fun s H C cl fp => r_bin o_add (r_var 6) (r_tup (r_cons (r_var 7) (r_nil)))))))))) (r_end (r_set (i := 3) hN (r_var 5)))))) (r_end (r_ret (r_var 3))))
theorem sc__law_groups_from : FnScope ["questions", "drawn", "most", "names", "groups", "size", "group", "kept", "cells_here", "inside", "single", "larger", "question", "name", "other"] ["questions", "drawn", "most"] (defScope (Hd.top 17)) := ⟨rfl, rfl, rfl, by decide +kernel, rfl, by decide +kernel, by decide +kernel⟩
theorem w__law_groups_from {P : Program} {w : World} {K : PySem.W.Frag} {mg : Str → Option Value} {base h : Heap} (KX : K.In h) (G : h.Ns mainGlobals mg) (c : He.SaysD Hd.fa Hd.fn K) (EX : ExcF K mg excs) (EM : ExcM K excs) : Has P w K mg base 2 "_law_groups_from" 3 p__law_groups_from := by
  obtain ⟨fd, F⟩ := c.def_ 15 (d := Hd.dd 17 "_law_groups_from") rfl
  refine ⟨_, fd, ["questions", "drawn", "most"], ?_, He.glo_ok KX G (c.fact 15 (f := .glo "_law_groups_from") rfl), F.kp, F.bindsN fun _ _ _ _ _ _ us hl => match us, hl with | [_, _, _], _ => rfl⟩
  have g_int : mg "int" = none := He.free_ok KX G (c.fact 30 (f := .free "int") rfl)
  have g_len : mg "len" = none := He.free_ok KX G (c.fact 32 (f := .free "len") rfl)
  have g_sorted : mg "sorted" = none := He.free_ok KX G (c.fact 37 (f := .free "sorted") rfl)
  have g_tuple : mg "tuple" = none := He.free_ok KX G (c.fact 40 (f := .free "tuple") rfl)
  have F__law_cells := w__law_cells (P := P) (w := w) (base := base) KX G c EX EM
  have hN := sc__law_groups_from.nd
  refine fn_pure F sc__law_groups_from ?_
  rintro ⟨prog, w', K', mg', bs, A, N, s0, H0, ⟨scope, locs, gls, cells, qual, func, code, frame, blts⟩, outer, stack, ex, fn, calm, pn, xe⟩ E h1 h2 h3 h4 h5 h6 h7 hc hf hst hfr hr tk hp
  cases h1; cases h2; cases h3; cases h4; cases h5; cases h6; cases h7; cases hc; cases hf
  have hu : A.units + 64 < cLine := by have := hr.un; simp only at this; omega
  exact r_seq (r_par3 (i := 3) (j := 4) (l := 5) rfl hN (m_consD (r_fzL (r_lc  rfl hN (r_iter (r_var 0)) (own := [("question", 12)]) (us := [12]) (blk_of (by kernel_rfl)) (by decide) (fun s H C cl fp => r_name hN) (fun s H C cl fp => r_ifs0) (fun s H C cl fp => r_ix hu (r_var 12) (r_int)))) (m_consL (r_lstL (r_nil)) (m_consD (r_int) (m_nil))))) (r_seq (r_for hp rfl (r_iter (r_bin o_add (r_var 1) (r_fzL (r_lc  rfl hN (r_iter (r_var 3)) (own := [("name", 13)]) (us := [13]) (blk_of (by kernel_rfl)) (by decide) (fun s H C cl fp => r_name hN) (fun s H C cl fp => r_ifs0) (fun s H C cl fp => r_tup (r_cons (r_var 13) (r_nil))))))) (r_name hN) (r_seq (r_set (i := 8) hN (r_blt (c_len) g_len (by rfl) (r_cons (r_call F__law_cells (hr.mono (by omega)) tk (r_cons (r_var 0) (r_cons (r_var 6) (r_nil)))) (r_nil)))) (r_seq ((by first | exact r_setLcV (i := 9) (hsw := rfl) (j := 4) rfl hN (own := [("other", 14)]) (us := [14]) (blk_of (by kernel_rfl)) (by decide) (fun s H C cl fp => r_name hN) (fun s H C cl fp => r_ifs1 (r_tcmp (o_eq hu) (r_fzL (r_lc  rfl hN (r_iter (r_var 6)) (own := [("name", 13)]) (us := [13]) (blk_of (by kernel_rfl)) (by decide) (fun s H C cl fp => r_name hN) (fun s H C cl fp => r_ifs1 (r_tcmp (o_nin hu) (r_var 13) (r_var 14))) (fun s H C cl fp => r_var 13))) (r_lst (r_nil)))) (fun s H C cl fp => r_int) | exact r_setL (i := 9) hN (r_lcV  (j := 4) rfl hN (own := [("other", 14)]) (us := [14]) (blk_of (by kernel_rfl)) (by decide) (fun s H C cl fp => r_name hN) (fun s H C cl fp => r_ifs1 (r_tcmp (o_eq hu) (r_fzL (r_lc  rfl hN (r_iter (r_var 6)) (own := [("name", 13)]) (us := [13]) (blk_of (by kernel_rfl)) (by decide) (fun s H C cl fp => r_name hN) (fun s H C cl fp => r_ifs1 (r_tcmp (o_nin hu) (r_var 13) (r_var 14))) (fun s H C cl fp => r_var 13))) (r_lst (r_nil)))) (fun s H C cl fp => r_int)))) (r_frz (i := 9) (r_seq (r_set (i := 10) hN (r_cmp (o_eq hu) (r_blt (c_len) g_len (by rfl) (r_cons (r_var 6) (r_nil))) (r_int))) (r_end (r_if (r_tw (r_tand (r_tcmp (o_eq hu) (r_var 9) (r_lst (r_nil))) (r_tand1 (r_tw (r_tor (r_tru (r_var 10)) (r_tor1 (r_tcmp (o_le hu) (r_bin o_add (r_bin o_add (r_var 5) (r_var 8)) (r_bin o_mul (r_int) (r_blt (c_len) g_len (by rfl) (r_cons (r_var 3) (r_nil))))) (r_var 2)))))))) (r_seq (r_expr (r_app (i := 4) (r_var 6))) (r_end (r_set (i := 5) hN (r_bin o_add (r_var 5) (r_var 8))))) (r_empty)))))))) (r_seq (r_set (i := 7) hN (r_lst (r_nil))) (r_frz (i := 4) (r_seq (r_for hp rfl (r_iter (r_var 4)) (r_name hN) (r_seq ((by first | exact r_setLc (i := 11) (hsw := rfl) rfl hN (r_iter (r_var 4)) (own := [("other", 14)]) (us := [14]) (blk_of (by kernel_rfl)) (by decide) (fun s H C cl fp => r_name hN) (fun s H C cl fp => r_ifs1 (r_tw (r_tand (r_tcmp (o_ne hu) (r_var 14) (r_var 6)) (r_tand1 (r_tcmp (o_eq hu) (r_fzL (r_lc  rfl hN (r_iter (r_var 6)) (own := [("name", 13)]) (us := [13]) (blk_of (by kernel_rfl)) (by decide) (fun s H C cl fp => r_name hN) (fun s H C cl fp => r_ifs1 (r_tcmp (o_nin hu) (r_var 13) (r_var 14))) (fun s H C cl fp => r_var 13))) (r_lst (r_nil))))))) (fun s H C cl fp => r_int) | exact r_setL (i := 11) hN (r_lc  rfl hN (r_iter (r_var 4)) (own := [("other", 14)]) (us := [14]) (blk_of (by kernel_rfl)) (by decide) (fun s H C cl fp => r_name hN) (fun s H C cl fp => r_ifs1 (r_tw (r_tand (r_tcmp (o_ne hu) (r_var 14) (r_var 6)) (r_tand1 (r_tcmp (o_eq hu) (r_fzL (r_lc  rfl hN (r_iter (r_var 6)) (own := [("name", 13)]) (us := [13]) (blk_of (by kernel_rfl)) (by decide) (fun s H C cl fp => r_name hN) (fun s H C cl fp => r_ifs1 (r_tcmp (o_nin hu) (r_var 13) (r_var 14))) (fun s H C cl fp => r_var 13))) (r_lst (r_nil))))))) (fun s H C cl fp => r_int)))) (r_frz (i := 11) (r_end (r_set (i := 7) hN (r_bin o_add (r_var 7) (r_bin o_mul (r_lst (r_cons (r_var 6) (r_nil))) (r_typ (c_int) g_int (by rfl) (r_cons (r_cmp (o_eq hu) (r_var 11) (r_lst (r_nil))) (r_nil)))))))))) (r_end (r_ret (r_typ (c_tup) g_tuple (by rfl) (r_cons (r_blt (c_sorted hu) g_sorted (by rfl) (r_cons (r_var 7) (r_nil))) (r_nil)))))))))
theorem sc__law_scenario : FnScope ["script", "state", "most", "cap", "names", "questions", "size", "name", "drawn", "k", "count", "question"] ["script", "state", "most", "cap"] (defScope (Hd.top 18)) := ⟨rfl, rfl, rfl, by decide +kernel, rfl, by decide +kernel, by decide +kernel⟩
theorem w__law_scenario {P : Program} {w : World} {K : PySem.W.Frag} {mg : Str → Option Value} {base h : Heap} (KX : K.In h) (G : h.Ns mainGlobals mg) (c : He.SaysD Hd.fa Hd.fn K) (EX : ExcF K mg excs) (EM : ExcM K excs) : HasB P w K mg base 3 "_law_scenario" 1 2 b__law_scenario := by
  obtain ⟨fd, F⟩ := c.def_ 16 (d := Hd.dd 18 "_law_scenario") rfl
  refine ⟨_, fd, ["script", "state", "most", "cap"], ?_, He.glo_ok KX G (c.fact 16 (f := .glo "_law_scenario") rfl), F.kp, F.bindsN fun _ _ _ _ _ _ us hl => match us, hl with | [_, _, _, _], _ => rfl⟩
  have g_range : mg "range" = none := He.free_ok KX G (c.fact 35 (f := .free "range") rfl)
  have g_sorted : mg "sorted" = none := He.free_ok KX G (c.fact 37 (f := .free "sorted") rfl)
  have g_tuple : mg "tuple" = none := He.free_ok KX G (c.fact 40 (f := .free "tuple") rfl)
  have F__law_draw := w__law_draw (P := P) (w := w) (base := base) KX G c EX EM
  have F__law_groups_from := w__law_groups_from (P := P) (w := w) (base := base) KX G c EX EM
  have F__law_pick := w__law_pick (P := P) (w := w) (base := base) KX G c EX EM
  have F__law_shuffled := w__law_shuffled (P := P) (w := w) (base := base) KX G c EX EM
  have hN := sc__law_scenario.nd
  refine fn_ref (np := 1) (nq := 2) F sc__law_scenario rfl ?_
  rintro ⟨prog, w', K', mg', bs, A, N, s0, H0, ⟨scope, locs, gls, cells, qual, func, code, frame, blts⟩, outer, stack, ex, fn, calm, pn, xe⟩ E h1 h2 h3 h4 h5 h6 h7 hc hf hst hfr hr tk hp
  cases h1; cases h2; cases h3; cases h4; cases h5; cases h6; cases h7; cases hc; cases hf
  have hu : A.units + 64 < cLine := by have := hr.un; simp only at this; omega
  exact r_seq (r_set (i := 4) hN (r_blt (c_sorted hu) g_sorted (by rfl) (r_cons (r_sl (r_callB F__law_shuffled (hr.mono (by omega)) tk (r_bc (r_var 0) (r_b0 (i := 1) (r_cons (r_lst (r_cons (r_str) (r_cons (r_str) (r_cons (r_str) (r_cons (r_str) (r_cons (r_str) (r_cons (r_str) (r_nil)))))))) (r_nil))))) (r_pn) (r_ps (r_bin o_add (r_int) (r_callB F__law_draw (hr.mono (by omega)) tk (r_bc (r_var 0) (r_b0 (i := 1) (r_cons (r_var 2) (r_nil)))))))) (r_nil)))) (r_seq (r_par2 (i := 5) (j := 6) rfl hN (m_consL (r_lstL (r_nil)) (m_consD (r_int) (m_nil)))) (r_seq (r_for hp rfl (r_iter (r_var 4)) (r_name hN) (r_seq (r_set (i := 10) hN (r_callB F__law_pick (hr.mono (by omega)) tk (r_bc (r_var 0) (r_b0 (i := 1) (r_cons (r_lst (r_cons (r_int) (r_cons (r_int) (r_cons (r_int) (r_cons (r_int) (r_nil)))))) (r_nil)))))) (r_seq (r_if (r_tcmp (o_gt hu) (r_bin o_mul (r_var 6) (r_var 10)) (r_var 3)) (r_end (r_set (i := 10) hN (r_int))) (r_empty)) (r_end (r_if (r_tcmp (o_le hu) (r_bin o_mul (r_var 6) (r_var 10)) (r_var 3)) (r_seq (r_expr (r_app (i := 5) (r_tup (r_cons (r_var 7) (r_cons (r_var 10) (r_nil)))))) (r_end (r_set (i := 6) hN (r_bin o_mul (r_var 6) (r_var 10))))) (r_empty)))))) (r_seq (r_par2 (i := 4) (j := 8) rfl hN (m_consD (r_fzL (r_lcV  (j := 5) rfl hN (own := [("question", 11)]) (us := [11]) (blk_of (by kernel_rfl)) (by decide) (fun s H C cl fp => r_name hN) (fun s H C cl fp => r_ifs0) (fun s H C cl fp => r_ix hu (r_var 11) (r_int)))) (m_consL (r_lstL (r_nil)) (m_nil)))) (r_seq (r_for hp rfl (r_rng1 g_range (r_cons (r_callB F__law_draw (hr.mono (by omega)) tk (r_bc (r_var 0) (r_b0 (i := 1) (r_cons (r_int) (r_nil))))) (r_nil))) (r_name hN) (r_end (r_expr (r_app (i := 8) (r_typ (c_tup) g_tuple (by rfl) (r_cons (r_blt (c_sorted hu) g_sorted (by rfl) (r_cons (r_sl (r_callB F__law_shuffled (hr.mono (by omega)) tk (r_bc (r_var 0) (r_b0 (i := 1) (r_cons (r_var 4) (r_nil))))) (r_pn) (r_ps (r_callB F__law_pick (hr.mono (by omega)) tk (r_bc (r_var 0) (r_b0 (i := 1) (r_cons (r_lst (r_cons (r_int) (r_cons (r_int) (r_cons (r_int) (r_cons (r_int) (r_cons (r_int) (r_cons (r_int) (r_nil)))))))) (r_nil))))))) (r_nil))) (r_nil))))))) (r_frz (i := 5) (r_frz (i := 8) (r_end (r_ret (r_tup (r_cons (r_typ (c_tup) g_tuple (by rfl) (r_cons (r_var 5) (r_nil))) (r_cons (r_call F__law_groups_from (hr.mono (by omega)) tk (r_cons (r_var 5) (r_cons (r_var 8) (r_cons (r_int) (r_nil))))) (r_nil))))))))))))
theorem sc__law_is_int : FnScope ["thing"] ["thing"] (defScope (Hd.top 19)) := ⟨rfl, rfl, rfl, by decide +kernel, rfl, by decide +kernel, by decide +kernel⟩
theorem w__law_is_int {P : Program} {w : World} {K : PySem.W.Frag} {mg : Str → Option Value} {base h : Heap} (KX : K.In h) (G : h.Ns mainGlobals mg) (c : He.SaysD Hd.fa Hd.fn K) (EX : ExcF K mg excs) (EM : ExcM K excs) : Has P w K mg base 1 "_law_is_int" 1 p__law_is_int := by
  obtain ⟨fd, F⟩ := c.def_ 17 (d := Hd.dd 19 "_law_is_int") rfl
  refine ⟨_, fd, ["thing"], ?_, He.glo_ok KX G (c.fact 17 (f := .glo "_law_is_int") rfl), F.kp, F.bindsN fun _ _ _ _ _ _ us hl => match us, hl with | [_], _ => rfl⟩
  have g_bool : mg "bool" = none := He.free_ok KX G (c.fact 27 (f := .free "bool") rfl)
  have g_int : mg "int" = none := He.free_ok KX G (c.fact 30 (f := .free "int") rfl)
  have g_isinstance : mg "isinstance" = none := He.free_ok KX G (c.fact 31 (f := .free "isinstance") rfl)
  have hN := sc__law_is_int.nd
  refine fn_pure F sc__law_is_int ?_
  rintro ⟨prog, w', K', mg', bs, A, N, s0, H0, ⟨scope, locs, gls, cells, qual, func, code, frame, blts⟩, outer, stack, ex, fn, calm, pn, xe⟩ E h1 h2 h3 h4 h5 h6 h7 hc hf hst hfr hr tk hp
  cases h1; cases h2; cases h3; cases h4; cases h5; cases h6; cases h7; cases hc; cases hf
  have hu : A.units + 64 < cLine := by have := hr.un; simp only at this; omega
  exact r_end (r_ret (r_and (r_isi (T := "int") g_isinstance g_int (by rfl) (r_var 0)) (r_one (r_not (r_isi (T := "bool") g_isinstance g_bool (by rfl) (r_var 0))))))
theorem sc__law_is_name : FnScope ["thing", "sign"] ["thing"] (defScope (Hd.top 20)) := ⟨rfl, rfl, rfl, by decide +kernel, rfl, by decide +kernel, by decide +kernel⟩
theorem w__law_is_name {P : Program} {w : World} {K : PySem.W.Frag} {mg : Str → Option Value} {base h : Heap} (KX : K.In h) (G : h.Ns mainGlobals mg) (c : He.SaysD Hd.fa Hd.fn K) (EX : ExcF K mg excs) (EM : ExcM K excs) : Has P w K mg base 1 "_law_is_name" 1 p__law_is_name := by
  obtain ⟨fd, F⟩ := c.def_ 18 (d := Hd.dd 20 "_law_is_name") rfl
  refine ⟨_, fd, ["thing"], ?_, He.glo_ok KX G (c.fact 18 (f := .glo "_law_is_name") rfl), F.kp, F.bindsN fun _ _ _ _ _ _ us hl => match us, hl with | [_], _ => rfl⟩
  have g_isinstance : mg "isinstance" = none := He.free_ok KX G (c.fact 31 (f := .free "isinstance") rfl)
  have g_len : mg "len" = none := He.free_ok KX G (c.fact 32 (f := .free "len") rfl)
  have g_str : mg "str" = none := He.free_ok KX G (c.fact 38 (f := .free "str") rfl)
  have hN := sc__law_is_name.nd
  refine fn_pure F sc__law_is_name ?_
  rintro ⟨prog, w', K', mg', bs, A, N, s0, H0, ⟨scope, locs, gls, cells, qual, func, code, frame, blts⟩, outer, stack, ex, fn, calm, pn, xe⟩ E h1 h2 h3 h4 h5 h6 h7 hc hf hst hfr hr tk hp
  cases h1; cases h2; cases h3; cases h4; cases h5; cases h6; cases h7; cases hc; cases hf
  have hu : A.units + 64 < cLine := by have := hr.un; simp only at this; omega
  exact r_seq (r_if (r_tw (r_tor (r_tnot (r_tru (r_isi (T := "str") g_isinstance g_str (by rfl) (r_var 0)))) (r_tor1 (r_tnot (r_tchain (o_le hu) (o_le hu) (r_int) (r_blt (c_len) g_len (by rfl) (r_cons (r_var 0) (r_nil))) (r_int)))))) (r_end (r_ret (r_bl))) (r_empty)) (r_end (r_ret (r_cmp (o_eq hu) (r_fzL (r_lc  rfl hN (r_iter (r_var 0)) (own := [("sign", 1)]) (us := [1]) (blk_of (by kernel_rfl)) (by decide) (fun s H C cl fp => r_name hN) (fun s H C cl fp => r_ifs1 (r_tnot (r_tchain (o_le hu) (o_le hu) (r_str) (r_var 1) (r_str)))) (fun s H C cl fp => r_var 1))) (r_lst (r_nil)))))
theorem sc__law_questions : FnScope ["thing", "size", "last", "one"] ["thing"] (defScope (Hd.top 21)) := ⟨rfl, rfl, rfl, by decide +kernel, rfl, by decide +kernel, by decide +kernel⟩
theorem w__law_questions {P : Program} {w : World} {K : PySem.W.Frag} {mg : Str → Option Value} {base h : Heap} (KX : K.In h) (G : h.Ns mainGlobals mg) (c : He.SaysD Hd.fa Hd.fn K) (EX : ExcF K mg excs) (EM : ExcM K excs) : Has P w K mg base 2 "_law_questions" 1 p__law_questions := by
  obtain ⟨fd, F⟩ := c.def_ 19 (d := Hd.dd 21 "_law_questions") rfl
  refine ⟨_, fd, ["thing"], ?_, He.glo_ok KX G (c.fact 19 (f := .glo "_law_questions") rfl), F.kp, F.bindsN fun _ _ _ _ _ _ us hl => match us, hl with | [_], _ => rfl⟩
  have g_isinstance : mg "isinstance" = none := He.free_ok KX G (c.fact 31 (f := .free "isinstance") rfl)
  have g_len : mg "len" = none := He.free_ok KX G (c.fact 32 (f := .free "len") rfl)
  have g_tuple : mg "tuple" = none := He.free_ok KX G (c.fact 40 (f := .free "tuple") rfl)
  have F__law_is_int := w__law_is_int (P := P) (w := w) (base := base) KX G c EX EM
  have F__law_is_name := w__law_is_name (P := P) (w := w) (base := base) KX G c EX EM
  have hN := sc__law_questions.nd
  refine fn_pure F sc__law_questions ?_
  rintro ⟨prog, w', K', mg', bs, A, N, s0, H0, ⟨scope, locs, gls, cells, qual, func, code, frame, blts⟩, outer, stack, ex, fn, calm, pn, xe⟩ E h1 h2 h3 h4 h5 h6 h7 hc hf hst hfr hr tk hp
  cases h1; cases h2; cases h3; cases h4; cases h5; cases h6; cases h7; cases hc; cases hf
  have hu : A.units + 64 < cLine := by have := hr.un; simp only at this; omega
  exact r_seq (r_if (r_tw (r_tor (r_tnot (r_tru (r_isi (T := "tuple") g_isinstance g_tuple (by rfl) (r_var 0)))) (r_tor1 (r_tnot (r_tchain (o_le hu) (o_le hu) (r_int) (r_blt (c_len) g_len (by rfl) (r_cons (r_var 0) (r_nil))) (r_int)))))) (r_end (r_ret (r_bl))) (r_empty)) (r_seq (r_asg (r_tup (r_cons (r_int) (r_cons (r_str) (r_nil)))) (r_gtup rfl (r_gcons (r_name hN) (r_gcons (r_name hN) (r_gnil))))) (r_seq (r_for hp rfl (r_iter (r_var 0)) (r_name hN) (r_seq (r_if (r_tw (r_tor (r_tnot (r_tru (r_isi (T := "tuple") g_isinstance g_tuple (by rfl) (r_var 3)))) (r_tor (r_tcmp (o_ne hu) (r_blt (c_len) g_len (by rfl) (r_cons (r_var 3) (r_nil))) (r_int)) (r_tor1 (r_tnot (r_tru (r_call F__law_is_name (hr.mono (by omega)) tk (r_cons (r_ix hu (r_var 3) (r_int)) (r_nil))))))))) (r_end (r_ret (r_bl))) (r_empty)) (r_seq (r_if (r_tnot (r_tru (r_call F__law_is_int (hr.mono (by omega)) tk (r_cons (r_ix hu (r_var 3) (r_int)) (r_nil))))) (r_end (r_ret (r_bl))) (r_empty)) (r_seq (r_if (r_tw (r_tor (r_tcmp (o_nin hu) (r_ix hu (r_var 3) (r_int)) (r_tup (r_cons (r_int) (r_cons (r_int) (r_nil))))) (r_tor1 (r_tcmp (o_le hu) (r_ix hu (r_var 3) (r_int)) (r_var 2))))) (r_end (r_ret (r_bl))) (r_empty)) (r_seq (r_par2 (i := 1) (j := 2) rfl hN (m_consD (r_bin o_mul (r_var 1) (r_ix hu (r_var 3) (r_int))) (m_consD (r_ix hu (r_var 3) (r_int)) (m_nil)))) (r_wipe (vs := [3]) r_empty)))))) (r_end (r_ret (r_cmp (o_le hu) (r_var 1) (r_int))))))
theorem sc__law_group : FnScope ["names", "thing", "one"] ["names", "thing"] (defScope (Hd.top 22)) := ⟨rfl, rfl, rfl, by decide +kernel, rfl, by decide +kernel, by decide +kernel⟩
theorem w__law_group {P : Program} {w : World} {K : PySem.W.Frag} {mg : Str → Option Value} {base h : Heap} (KX : K.In h) (G : h.Ns mainGlobals mg) (c : He.SaysD Hd.fa Hd.fn K) (EX : ExcF K mg excs) (EM : ExcM K excs) : Has P w K mg base 1 "_law_group" 2 p__law_group := by
  obtain ⟨fd, F⟩ := c.def_ 20 (d := Hd.dd 22 "_law_group") rfl
  refine ⟨_, fd, ["names", "thing"], ?_, He.glo_ok KX G (c.fact 20 (f := .glo "_law_group") rfl), F.kp, F.bindsN fun _ _ _ _ _ _ us hl => match us, hl with | [_, _], _ => rfl⟩
  have g_isinstance : mg "isinstance" = none := He.free_ok KX G (c.fact 31 (f := .free "isinstance") rfl)
  have g_list : mg "list" = none := He.free_ok KX G (c.fact 33 (f := .free "list") rfl)
  have g_set : mg "set" = none := He.free_ok KX G (c.fact 36 (f := .free "set") rfl)
  have g_sorted : mg "sorted" = none := He.free_ok KX G (c.fact 37 (f := .free "sorted") rfl)
  have g_str : mg "str" = none := He.free_ok KX G (c.fact 38 (f := .free "str") rfl)
  have g_tuple : mg "tuple" = none := He.free_ok KX G (c.fact 40 (f := .free "tuple") rfl)
  have hN := sc__law_group.nd
  refine fn_pure F sc__law_group ?_
  rintro ⟨prog, w', K', mg', bs, A, N, s0, H0, ⟨scope, locs, gls, cells, qual, func, code, frame, blts⟩, outer, stack, ex, fn, calm, pn, xe⟩ E h1 h2 h3 h4 h5 h6 h7 hc hf hst hfr hr tk hp
  cases h1; cases h2; cases h3; cases h4; cases h5; cases h6; cases h7; cases hc; cases hf
  have hu : A.units + 64 < cLine := by have := hr.un; simp only at this; omega
  exact r_seq (r_if (r_tw (r_tor (r_tnot (r_tru (r_isi (T := "tuple") g_isinstance g_tuple (by rfl) (r_var 1)))) (r_tor1 (r_tcmp (o_eq hu) (r_var 1) (r_tup (r_nil)))))) (r_end (r_ret (r_bl))) (r_empty)) (r_seq (r_if (r_tru (r_fzL (r_lc  rfl hN (r_iter (r_var 1)) (own := [("one", 2)]) (us := [2]) (blk_of (by kernel_rfl)) (by decide) (fun s H C cl fp => r_name hN) (fun s H C cl fp => r_ifs1 (r_tnot (r_tru (r_isi (T := "str") g_isinstance g_str (by rfl) (r_var 2))))) (fun s H C cl fp => r_var 2)))) (r_end (r_ret (r_bl))) (r_empty)) (r_seq (r_if (r_tru (r_fzL (r_lc  rfl hN (r_iter (r_var 1)) (own := [("one", 2)]) (us := [2]) (blk_of (by kernel_rfl)) (by decide) (fun s H C cl fp => r_name hN) (fun s H C cl fp => r_ifs1 (r_tcmp (o_nin hu) (r_var 2) (r_var 0))) (fun s H C cl fp => r_var 2)))) (r_end (r_ret (r_bl))) (r_empty)) (r_end (r_ret (r_cmp (o_eq hu) (r_fzL (r_list g_list (r_cons (r_var 1) (r_nil)))) (r_srtSet rfl hu g_sorted g_set (r_var 1)))))))
theorem sc__law_is_scenario : FnScope ["thing", "names", "groups", "group", "name", "one", "other"] ["thing"] (defScope (Hd.top 23)) := ⟨rfl, rfl, rfl, by decide +kernel, rfl, by decide +kernel, by decide +kernel⟩
theorem w__law_is_scenario {P : Program} {w : World} {K : PySem.W.Frag} {mg : Str → Option Value} {base h : Heap} (KX : K.In h) (G : h.Ns mainGlobals mg) (c : He.SaysD Hd.fa Hd.fn K) (EX : ExcF K mg excs) (EM : ExcM K excs) : Has P w K mg base 3 "_law_is_scenario" 1 p__law_is_scenario := by
  obtain ⟨fd, F⟩ := c.def_ 21 (d := Hd.dd 23 "_law_is_scenario") rfl
  refine ⟨_, fd, ["thing"], ?_, He.glo_ok KX G (c.fact 21 (f := .glo "_law_is_scenario") rfl), F.kp, F.bindsN fun _ _ _ _ _ _ us hl => match us, hl with | [_], _ => rfl⟩
  have g_isinstance : mg "isinstance" = none := He.free_ok KX G (c.fact 31 (f := .free "isinstance") rfl)
  have g_len : mg "len" = none := He.free_ok KX G (c.fact 32 (f := .free "len") rfl)
  have g_list : mg "list" = none := He.free_ok KX G (c.fact 33 (f := .free "list") rfl)
  have g_set : mg "set" = none := He.free_ok KX G (c.fact 36 (f := .free "set") rfl)
  have g_sorted : mg "sorted" = none := He.free_ok KX G (c.fact 37 (f := .free "sorted") rfl)
  have g_sum : mg "sum" = none := He.free_ok KX G (c.fact 39 (f := .free "sum") rfl)
  have g_tuple : mg "tuple" = none := He.free_ok KX G (c.fact 40 (f := .free "tuple") rfl)
  have F__law_cells := w__law_cells (P := P) (w := w) (base := base) KX G c EX EM
  have F__law_group := w__law_group (P := P) (w := w) (base := base) KX G c EX EM
  have F__law_questions := w__law_questions (P := P) (w := w) (base := base) KX G c EX EM
  have hN := sc__law_is_scenario.nd
  refine fn_pure F sc__law_is_scenario ?_
  rintro ⟨prog, w', K', mg', bs, A, N, s0, H0, ⟨scope, locs, gls, cells, qual, func, code, frame, blts⟩, outer, stack, ex, fn, calm, pn, xe⟩ E h1 h2 h3 h4 h5 h6 h7 hc hf hst hfr hr tk hp
  cases h1; cases h2; cases h3; cases h4; cases h5; cases h6; cases h7; cases hc; cases hf
  have hu : A.units + 64 < cLine := by have := hr.un; simp only at this; omega
  exact r_seq (r_if (r_tw (r_tor (r_tnot (r_tru (r_isi (T := "tuple") g_isinstance g_tuple (by rfl) (r_var 0)))) (r_tor (r_tcmp (o_ne hu) (r_blt (c_len) g_len (by rfl) (r_cons (r_var 0) (r_nil))) (r_int)) (r_tor1 (r_tnot (r_tru (r_call F__law_questions (hr.mono (by omega)) tk (r_cons (r_ix hu (r_var 0) (r_int)) (r_nil))))))))) (r_end (r_ret (r_bl))) (r_empty)) (r_seq (r_asg (r_tup (r_cons (r_fzL (r_lc  rfl hN (r_iter (r_ix hu (r_var 0) (r_int))) (own := [("one", 5)]) (us := [5]) (blk_of (by kernel_rfl)) (by decide) (fun s H C cl fp => r_name hN) (fun s H C cl fp => r_ifs0) (fun s H C cl fp => r_ix hu (r_var 5) (r_int)))) (r_cons (r_ix hu (r_var 0) (r_int)) (r_nil)))) (r_gtup rfl (r_gcons (r_name hN) (r_gcons (r_name hN) (r_gnil))))) (r_seq (r_if (r_tw (r_tor (r_tnot (r_tru (r_isi (T := "tuple") g_isinstance g_tuple (by rfl) (r_var 2)))) (r_tor1 (r_tnot (r_tchain (o_le hu) (o_le hu) (r_int) (r_blt (c_len) g_len (by rfl) (r_cons (r_var 2) (r_nil))) (r_int)))))) (r_end (r_ret (r_bl))) (r_empty)) (r_seq (r_if (r_tru (r_fzL (r_lc  rfl hN (r_iter (r_var 2)) (own := [("group", 3)]) (us := [3]) (blk_of (by kernel_rfl)) (by decide) (fun s H C cl fp => r_name hN) (fun s H C cl fp => r_ifs1 (r_tnot (r_tru (r_call F__law_group (hr.mono (by omega)) takesF (r_cons (r_var 1) (r_cons (r_var 3) (r_nil))))))) (fun s H C cl fp => r_var 3)))) (r_end (r_ret (r_bl))) (r_empty)) (r_seq (r_if (r_tcmp (o_ne hu) (r_fzL (r_list g_list (r_cons (r_var 2) (r_nil)))) (r_srtSet rfl hu g_sorted g_set (r_var 2))) (r_end (r_ret (r_bl))) (r_empty)) (r_seq (r_for hp rfl (r_iter (r_var 2)) (r_name hN) (r_seq (r_if (r_tru (r_fzL (r_lc  rfl hN (r_iter (r_var 2)) (own := [("other", 6)]) (us := [6]) (blk_of (by kernel_rfl)) (by decide) (fun s H C cl fp => r_name hN) (fun s H C cl fp => r_ifs1 (r_tw (r_tand (r_tcmp (o_ne hu) (r_var 6) (r_var 3)) (r_tand1 (r_tcmp (o_eq hu) (r_fzL (r_lc  rfl hN (r_iter (r_var 3)) (own := [("name", 4)]) (us := [4]) (blk_of (by kernel_rfl)) (by decide) (fun s H C cl fp => r_name hN) (fun s H C cl fp => r_ifs1 (r_tcmp (o_nin hu) (r_var 4) (r_var 6))) (fun s H C cl fp => r_var 4))) (r_lst (r_nil))))))) (fun s H C cl fp => r_int)))) (r_end (r_ret (r_bl))) (r_empty)) (r_wipe (vs := [3]) r_empty))) (r_seq (r_for hp rfl (r_iter (r_var 1)) (r_name hN) (r_seq (r_if (r_tcmp (o_eq hu) (r_fzL (r_lc  rfl hN (r_iter (r_var 2)) (own := [("group", 3)]) (us := [3]) (blk_of (by kernel_rfl)) (by decide) (fun s H C cl fp => r_name hN) (fun s H C cl fp => r_ifs1 (r_tcmp (o_in hu) (r_var 4) (r_var 3))) (fun s H C cl fp => r_int))) (r_lst (r_nil))) (r_end (r_ret (r_bl))) (r_empty)) (r_wipe (vs := [4]) r_empty))) (r_end (r_ret (r_cmp (o_le hu) (r_blt (c_sum rfl) g_sum (by rfl) (r_cons (r_fzL (r_lc  rfl hN (r_iter (r_var 2)) (own := [("group", 3)]) (us := [3]) (blk_of (by kernel_rfl)) (by decide) (fun s H C cl fp => r_name hN) (fun s H C cl fp => r_ifs0) (fun s H C cl fp => r_blt (c_len) g_len (by rfl) (r_cons (r_call F__law_cells (hr.mono (by omega)) takesF (r_cons (r_ix hu (r_var 0) (r_int)) (r_cons (r_var 3) (r_nil)))) (r_nil))))) (r_nil))) (r_int))))))))))
theorem sc__law_near_misses : FnScope ["two", "three", "five", "pairs", "wide"] [] (defScope (Hd.top 24)) := ⟨rfl, rfl, rfl, by decide +kernel, rfl, by decide +kernel, by decide +kernel⟩
theorem w__law_near_misses {P : Program} {w : World} {K : PySem.W.Frag} {mg : Str → Option Value} {base h : Heap} (KX : K.In h) (G : h.Ns mainGlobals mg) (c : He.SaysD Hd.fa Hd.fn K) (EX : ExcF K mg excs) (EM : ExcM K excs) : HasN P w K mg base 1 "_law_near_misses" 0 n__law_near_misses := by
  obtain ⟨fd, F⟩ := c.def_ 22 (d := Hd.dd 24 "_law_near_misses") rfl
  refine ⟨_, fd, [], ?_, He.glo_ok KX G (c.fact 22 (f := .glo "_law_near_misses") rfl), F.kp, F.bindsN fun _ _ _ _ _ _ us hl => match us, hl with | [], _ => rfl⟩
  have hN := sc__law_near_misses.nd
  refine fn_new F sc__law_near_misses ?_
  rintro ⟨prog, w', K', mg', bs, A, N, s0, H0, ⟨scope, locs, gls, cells, qual, func, code, frame, blts⟩, outer, stack, ex, fn, calm, pn, xe⟩ E h1 h2 h3 h4 h5 h6 h7 hc hf hst hfr hr tk hp
  cases h1; cases h2; cases h3; cases h4; cases h5; cases h6; cases h7; cases hc; cases hf
  have hu : A.units + 64 < cLine := by have := hr.un; simp only at this; omega
  exact r_seqN (r_asg (r_tup (r_cons (r_tup (r_cons (r_tup (r_cons (r_str) (r_cons (r_int) (r_nil)))) (r_cons (r_tup (r_cons (r_str) (r_cons (r_int) (r_nil)))) (r_nil)))) (r_cons (r_tup (r_cons (r_tup (r_cons (r_str) (r_cons (r_int) (r_nil)))) (r_cons (r_tup (r_cons (r_str) (r_cons (r_int) (r_nil)))) (r_cons (r_tup (r_cons (r_str) (r_cons (r_int) (r_nil)))) (r_nil))))) (r_nil)))) (r_gtup rfl (r_gcons (r_name hN) (r_gcons (r_name hN) (r_gnil))))) (r_seqN (r_set (i := 2) hN (r_tup (r_cons (r_tup (r_cons (r_str) (r_cons (r_int) (r_nil)))) (r_cons (r_tup (r_cons (r_str) (r_cons (r_int) (r_nil)))) (r_cons (r_tup (r_cons (r_str) (r_cons (r_int) (r_nil)))) (r_cons (r_tup (r_cons (r_str) (r_cons (r_int) (r_nil)))) (r_cons (r_tup (r_cons (r_str) (r_cons (r_int) (r_nil)))) (r_nil)))))))) (r_seqN (r_set (i := 3) hN (r_tup (r_cons (r_tup (r_cons (r_str) (r_cons (r_str) (r_nil)))) (r_cons (r_tup (r_cons (r_str) (r_cons (r_str) (r_nil)))) (r_cons (r_tup (r_cons (r_str) (r_cons (r_str) (r_nil)))) (r_cons (r_tup (r_cons (r_str) (r_cons (r_str) (r_nil)))) (r_cons (r_tup (r_cons (r_str) (r_cons (r_str) (r_nil)))) (r_cons (r_tup (r_cons (r_str) (r_cons (r_str) (r_nil)))) (r_cons (r_tup (r_cons (r_str) (r_cons (r_str) (r_nil)))) (r_cons (r_tup (r_cons (r_str) (r_cons (r_str) (r_nil)))) (r_cons (r_tup (r_cons (r_str) (r_cons (r_str) (r_nil)))) (r_nil)))))))))))) (r_seqN (r_set (i := 4) hN (r_tup (r_cons (r_tup (r_cons (r_str) (r_cons (r_str) (r_cons (r_str) (r_nil))))) (r_cons (r_tup (r_cons (r_str) (r_cons (r_str) (r_cons (r_str) (r_nil))))) (r_cons (r_tup (r_cons (r_str) (r_cons (r_str) (r_cons (r_str) (r_nil))))) (r_cons (r_tup (r_cons (r_str) (r_cons (r_str) (r_cons (r_str) (r_nil))))) (r_cons (r_tup (r_cons (r_str) (r_cons (r_str) (r_cons (r_str) (r_nil))))) (r_nil)))))))) (r_retN' (r_nL (r_lstL (r_cons (r_tup (r_cons (r_var 0) (r_cons (r_tup (r_cons (r_tup (r_cons (r_str) (r_nil))) (r_nil))) (r_nil)))) (r_cons (r_tup (r_cons (r_var 0) (r_cons (r_tup (r_cons (r_tup (r_cons (r_str) (r_nil))) (r_cons (r_tup (r_cons (r_str) (r_cons (r_str) (r_nil)))) (r_nil)))) (r_nil)))) (r_cons (r_tup (r_cons (r_var 0) (r_cons (r_tup (r_cons (r_tup (r_cons (r_str) (r_nil))) (r_cons (r_tup (r_cons (r_str) (r_nil))) (r_nil)))) (r_nil)))) (r_cons (r_tup (r_cons (r_var 0) (r_cons (r_tup (r_cons (r_tup (r_cons (r_str) (r_cons (r_str) (r_nil)))) (r_cons (r_tup (r_cons (r_str) (r_nil))) (r_nil)))) (r_nil)))) (r_cons (r_tup (r_cons (r_tup (r_cons (r_tup (r_cons (r_str) (r_cons (r_int) (r_nil)))) (r_nil))) (r_cons (r_tup (r_cons (r_tup (r_cons (r_str) (r_nil))) (r_nil))) (r_nil)))) (r_cons (r_tup (r_cons (r_tup (r_cons (r_tup (r_cons (r_str) (r_cons (r_int) (r_nil)))) (r_nil))) (r_cons (r_tup (r_cons (r_tup (r_cons (r_str) (r_nil))) (r_nil))) (r_nil)))) (r_cons (r_tup (r_cons (r_tup (r_cons (r_tup (r_cons (r_str) (r_cons (r_bl) (r_nil)))) (r_nil))) (r_cons (r_tup (r_cons (r_tup (r_cons (r_str) (r_nil))) (r_nil))) (r_nil)))) (r_cons (r_tup (r_cons (r_bin o_add (r_var 1) (r_tup (r_cons (r_tup (r_cons (r_str) (r_cons (r_int) (r_nil)))) (r_nil)))) (r_cons (r_tup (r_cons (r_tup (r_cons (r_str) (r_cons (r_str) (r_cons (r_str) (r_nil))))) (r_cons (r_tup (r_cons (r_str) (r_nil))) (r_nil)))) (r_nil)))) (r_cons (r_tup (r_cons (r_var 1) (r_cons (r_tup (r_cons (r_tup (r_cons (r_str) (r_cons (r_str) (r_cons (r_str) (r_nil))))) (r_nil))) (r_nil)))) (r_cons (r_tup (r_cons (r_tup (r_cons (r_tup (r_cons (r_str) (r_cons (r_int) (r_nil)))) (r_nil))) (r_cons (r_tup (r_cons (r_tup (r_cons (r_str) (r_nil))) (r_nil))) (r_nil)))) (r_cons (r_tup (r_cons (r_bin o_add (r_var 1) (r_tup (r_cons (r_tup (r_cons (r_str) (r_cons (r_int) (r_nil)))) (r_cons (r_tup (r_cons (r_str) (r_cons (r_int) (r_nil)))) (r_nil))))) (r_cons (r_tup (r_cons (r_tup (r_cons (r_str) (r_cons (r_str) (r_nil)))) (r_cons (r_tup (r_cons (r_str) (r_nil))) (r_cons (r_tup (r_cons (r_str) (r_nil))) (r_cons (r_tup (r_cons (r_str) (r_nil))) (r_nil)))))) (r_nil)))) (r_cons (r_tup (r_cons (r_var 2) (r_cons (r_var 3) (r_nil)))) (r_cons (r_tup (r_cons (r_bin o_add (r_var 2) (r_tup (r_cons (r_tup (r_cons (r_str) (r_cons (r_int) (r_nil)))) (r_nil)))) (r_cons (r_tup (r_cons (r_tup (r_cons (r_str) (r_nil))) (r_cons (r_tup (r_cons (r_str) (r_nil))) (r_cons (r_tup (r_cons (r_str) (r_nil))) (r_cons (r_tup (r_cons (r_str) (r_nil))) (r_cons (r_tup (r_cons (r_str) (r_nil))) (r_cons (r_tup (r_cons (r_str) (r_nil))) (r_nil)))))))) (r_nil)))) (r_cons (r_tup (r_cons (r_var 2) (r_cons (r_var 4) (r_nil)))) (r_cons (r_tup (r_cons (r_var 2) (r_cons (r_bin o_add (r_bin o_add (r_sl (r_var 4) (r_pn) (r_ps (r_int))) (r_tup (r_cons (r_tup (r_cons (r_str) (r_cons (r_str) (r_cons (r_str) (r_nil))))) (r_nil)))) (r_sl (r_var 4) (r_ps (r_int)) (r_pn))) (r_nil)))) (r_cons (r_tup (r_cons (r_var 0) (r_cons (r_tup (r_nil)) (r_nil)))) (r_cons (r_tup (r_cons (r_var 0) (r_cons (r_tup (r_cons (r_tup (r_cons (r_str) (r_cons (r_str) (r_nil)))) (r_cons (r_tup (r_cons (r_str) (r_cons (r_str) (r_nil)))) (r_nil)))) (r_nil)))) (r_cons (r_tup (r_cons (r_var 0) (r_cons (r_lst (r_cons (r_tup (r_cons (r_str) (r_cons (r_str) (r_nil)))) (r_nil))) (r_nil)))) (r_cons (r_tup (r_cons (r_tup (r_cons (r_tup (r_cons (r_str) (r_cons (r_int) (r_nil)))) (r_cons (r_tup (r_cons (r_str) (r_cons (r_int) (r_nil)))) (r_nil)))) (r_cons (r_tup (r_cons (r_tup (r_cons (r_str) (r_cons (r_str) (r_nil)))) (r_nil))) (r_nil)))) (r_cons (r_tup (r_cons (r_tup (r_cons (r_tup (r_cons (r_str) (r_cons (r_int) (r_nil)))) (r_cons (r_tup (r_cons (r_str) (r_cons (r_int) (r_nil)))) (r_nil)))) (r_cons (r_tup (r_cons (r_tup (r_cons (r_str) (r_nil))) (r_nil))) (r_nil)))) (r_cons (r_tup (r_cons (r_var 0) (r_cons (r_tup (r_cons (r_tup (r_cons (r_str) (r_cons (r_str) (r_cons (r_str) (r_nil))))) (r_nil))) (r_nil)))) (r_cons (r_tup (r_cons (r_var 1) (r_cons (r_tup (r_cons (r_tup (r_cons (r_str) (r_cons (r_str) (r_nil)))) (r_cons (r_tup (r_cons (r_str) (r_cons (r_str) (r_nil)))) (r_cons (r_tup (r_cons (r_str) (r_cons (r_str) (r_nil)))) (r_nil))))) (r_nil)))) (r_cons (r_tup (r_cons (r_var 2) (r_cons (r_tup (r_cons (r_tup (r_cons (r_str) (r_cons (r_str) (r_cons (r_str) (r_cons (r_str) (r_nil)))))) (r_cons (r_tup (r_cons (r_str) (r_cons (r_str) (r_cons (r_str) (r_cons (r_str) (r_nil)))))) (r_cons (r_tup (r_cons (r_str) (r_cons (r_str) (r_nil)))) (r_nil))))) (r_nil)))) (r_nil))))))))))))))))))))))))))))))
theorem sc_law : FnScope ["script", "state", "things", "k", "thing"] ["script"] (defScope (Hd.top 25)) := ⟨rfl, rfl, rfl, by decide +kernel, rfl, by decide +kernel, by decide +kernel⟩
theorem w_law {P : Program} {w : World} {K : PySem.W.Frag} {mg : Str → Option Value} {h : Heap} {fA : Addr} (KX : K.In h) (G : h.Ns mainGlobals mg) (c : He.SaysD Hd.fa Hd.fn K) (EX : ExcF K mg excs) (EM : ExcM K excs) (hfa : mg ("law" : Str) = some (.ref fA)) (HM : ∀ ns : List Int, ns.length ≤ 63 → runP 5 m_law [.list (ns.map PyData.int)] = .ok (.bool true)) : ∃ fd : FuncData, (∀ (s : Shared) (v : Value), BindsTo s fd ⟨[v], []⟩ [("script", v)]) ∧ ∀ base : Heap, FnOk P w K mg base (L2.CX P w) 16 fA fd ["script"] (spLaw K) := by
  obtain ⟨fd, F⟩ := c.def_ 23 (d := Hd.dd 25 "law") rfl
  have e := hfa.symm.trans (He.glo_ok KX G (c.fact 23 (f := .glo "law") rfl))
  cases e
  have b := FunD.bindsA (ps := ["script"]) F fun _ _ _ _ _ _ us hl => match us, hl with | [_], _ => rfl
  refine ⟨fd, fun s v => b s [v] rfl, fun base => ?_⟩
  have g_all : mg "all" = none := He.free_ok KX G (c.fact 25 (f := .free "all") rfl)
  have g_range : mg "range" = none := He.free_ok KX G (c.fact 35 (f := .free "range") rfl)
  have F__law_bent := w__law_benB (P := P) (w := w) (base := base) KX G c EX EM
  have F__law_is_scenario := w__law_is_scenario (P := P) (w := w) (base := base) KX G c EX EM
  have F__law_near_misses := w__law_near_misses (P := P) (w := w) (base := base) KX G c EX EM
  have F__law_scenario := w__law_scenario (P := P) (w := w) (base := base) KX G c EX EM
  have F_is_scenario := w_is_scenario (P := P) (w := w) (base := base) KX G c EX EM
  have hN := sc_law.nd
  refine fn_law F sc_law ?_ HM
  rintro ⟨prog, w', K', mg', bs, A, N, s0, H0, ⟨scope, locs, gls, cells, qual, func, code, frame, blts⟩, outer, stack, ex, fn, calm, pn, xe⟩ E h1 h2 h3 h4 h5 h6 h7 hc hf hst hfr hr tk hp
  cases h1; cases h2; cases h3; cases h4; cases h5; cases h6; cases h7; cases hc; cases hf
  have hu : A.units + 64 < cLine := by have := hr.un; simp only at this; omega
  exact r_seq (r_setL (i := 1) hN (r_lstL (r_nil))) (r_seq (r_setN (i := 2) hN (r_callN0 F__law_near_misses (hr.mono (by omega)))) (r_seq (r_for hp rfl (r_rng1 g_range (r_cons (r_int) (r_nil))) (r_name hN) (r_seq (r_set (i := 4) hN (r_callB F__law_scenario (hr.mono (by omega)) tk (r_bc (r_var 0) (r_b0 (i := 1) (r_cons (r_int) (r_cons (r_int) (r_nil))))))) (r_seq (r_expr (r_app (i := 2) (r_var 4))) (r_seq (r_expr (r_app (i := 2) (r_callB F__law_bent (hr.mono (by omega)) tk (r_bc (r_var 0) (r_b0 (i := 1) (r_cons (r_var 4) (r_nil))))))) (r_seq (r_expr (r_app (i := 2) (r_callB F__law_bent (hr.mono (by omega)) tk (r_bc (r_var 0) (r_b0 (i := 1) (r_cons (r_callB F__law_bent (hr.mono (by omega)) tk (r_bc (r_var 0) (r_b0 (i := 1) (r_cons (r_var 4) (r_nil))))) (r_nil))))))) (r_wipe (vs := [3, 4]) r_empty)))))) (r_end (r_ret (r_blt (c_all rfl) g_all (by rfl) (r_cons (r_fzL (r_lcV  (j := 2) rfl hN (own := [("thing", 4)]) (us := [4]) (blk_of (by kernel_rfl)) (by decide) (fun s H C cl fp => r_name hN) (fun s H C cl fp => r_ifs0) (fun s H C cl fp => r_cmp (o_eq hu) (r_call F_is_scenario (hr.mono (by omega)) takesF (r_cons (r_var 4) (r_nil))) (r_call F__law_is_scenario (hr.mono (by omega)) takesF (r_cons (r_var 4) (r_nil)))))) (r_nil)))))))
theorem exF {K : PySem.W.Frag} {mg : Str → Option Value} {h : Heap} (KX : K.In h) (G : h.Ns mainGlobals mg) (c : He.SaysD Hd.fa Hd.fn K) : ExcF K mg excs := ExcF.nil
theorem exM {K : PySem.W.Frag} (c : He.SaysD Hd.fa Hd.fn K) : ExcM K excs := ExcM.of trivial
end PP
open PySem PySem.W PySem.Calls PyProof.Rows
theorem PySem.Challenge.cw_jointtables_k01_scenarios_recognized_holds : PySem.Challenge.rw_jointtables_k01_scenarios_recognized.Holds := by
  w_on; o_law
  refine HandSHeadRun.head_any (r := OpenLaw.row PySem.Challenge.rw_jointtables_k01_scenarios_recognized) (q := view (OpenLaw.row PySem.Challenge.rw_jointtables_k01_scenarios_recognized).prog [25]) (H := Hd.hk) (ob := Hd.ob) (M := 6000) (loose := Hd.names) (d := HandSHeadRun.topDef (OpenLaw.row PySem.Challenge.rw_jointtables_k01_scenarios_recognized).prog 25) (kwd := []) Hd.ob_eq
    (by kernel_rfl) (fun s => by kernel_rfl) Hd.run (by kernel_rfl) (by kernel_rfl) (by kernel_rfl) (by rfl) (by first | assumption | decide +kernel) (by decide +kernel) ⟨rfl, rfl, rfl, rfl, rfl, by decide +kernel⟩ ?hw ?hc
  case hw => w_witness2
  case hc =>
    refine PP.walk_ofW (l := PySem.Challenge.rw_jointtables_k01_scenarios_recognized) (n := 63) (k := 16) (x := "script") rfl (by decide) (by kernel_rfl) ⟨rfl, by decide, by decide⟩ ?F
    intro w mg fa h Y G hmg0
    obtain ⟨K, KX, c⟩ := Y
    have hmg : mg ("law" : PySem.Str) = some (.ref fa) := by
      have e : (HandSHeadRun.topDef (OpenLaw.row PySem.Challenge.rw_jointtables_k01_scenarios_recognized).prog 25).name = ("law" : PySem.Str) := by kernel_rfl
      rw [← e]
      exact hmg0
    obtain ⟨fd, hb, hF⟩ := PP.w_law (P := (PySem.Challenge.rw_jointtables_k01_scenarios_recognized).prog) (w := w) KX G c (PP.exF KX G c) (PP.exM c) hmg PP.k01_law
    exact ⟨K, fd, PP.spLaw K, KX, hb, fun H a ns hl _ hS => ⟨a, ns, rfl, hl, hS, fun _ => rfl⟩, fun base _ _ => hF base⟩
