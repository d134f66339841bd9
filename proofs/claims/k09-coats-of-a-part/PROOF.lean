import PyProof.Rows.All
import Wide.All
import OpenK.AllK
import Wide.FinOn
import HandS.ForMost
import HandS.ForExc
import HandS.CallSlots
import HandS.Lambda
import HandS.IsInst
import HandS.Deep
import HandS.TupAny
import HandS.Style
import HandS.Iter
import HandS.Text
import HandS.More
import HandS.SetFor
import HandS.Replace
import HandS.Comp
import HandS.Defaults
import HandS.ExcInit
import HandS.ExcField
import HandS.ClsMeth
import HandS.TryMany
import HandS.EndTab
import KE.KNestM
import KE.KCallOwn
import KE.KFmtOwn
import OpenK.KOps
import HandS.IntHex
import HandS.BoundDict
import HandS.SortInts
import HandS.Small
import KE.KDictSum
import HandS.ExcInitHot
import HandS.CallLocal
import HandS.TupMul
import HandS.Zip
import PyProof.Rows.CallKw2
import HandS.RaiseFrom
import HandS.SuiteRaise
import HandS.FStr
import KE.GoesRaise
import KE.GoesEnum
import HandS.Flow
import KE.KStateDown
import HandS.Head0
import HandS.Head1
import HandS.Head2
import HandS.HeadHook1
import HandS.HeadHook2
import HandS.HeadHook3
import HandS.HeadHook4
import HandS.HeadWalk
import PyProof.InstNe
import PyProof.StrLawsLast
import PyProof.Rows.StrNews2
import KE.KRevSl
import HandS.TupSets
import KE.DatumOrd
import PyProof.Rows.TupAdd
import HandS.Strs
import HandS.SortKw
import HandS.SetKeys
import HandS.Conv
import PyProof.DictMoreH
import PySem.Challenge.RW_limecoat_k09_coats_of_a_part
set_option Elab.async false
set_option linter.all false
set_option maxRecDepth 100000
/-! LD0: data by value, the objects that change by number, readings over them. -/
namespace LC
open PySem PySem.Spec
open PyProof.Rows L2

/-- data: what no longer changes stands by value, the rest by number -/
inductive D where
  | non | bl (b : Bool) | int (i : Int) | str (x : Str) | ty (n : String) | adr (a : Addr) | ref (k : Nat)
  | tup (xs : List D) | lst (xs : List D) | ins (C : Addr) (ns : List Str) (xs : List D)
  | dK (ks : List Key) (xs : List D) | dT (ks : List (List Key)) (xs : List D) | scr (ns : List Int) | tq (ns : List Int) | kt (xs : List D) | bad

/-- an object that may change -/
inductive O where
  | lst (xs : List D)
  | drw
  | ins (C : Addr) (fs : List (Str × D))
  | dK (kvs : List (Key × D))
  | dT (kvs : List (List Key × D))
  | non

/-- where the objects are: those of the outer defs, one's own by number -/
structure Ph where
  hid : List Addr
  own : List Addr
/-- no object that may change -/
def Fz (φ : Ph) (a : Addr) : Prop := a ∉ φ.hid ∧ a ∉ φ.own
def KLst (K : PySem.W.Frag) (a : Addr) (xs : List V) : Prop := ∃ (o : Obj) (its : Array Value) (n : Nat),
      K.lookup a = some o ∧ o.cls = .type "list" ∧ o.dict = none ∧ o.data = .seq its n ∧ its.size ≤ sizeLine ∧ Vals xs its.toList
/-- a list that stays as it is -/
def LsA (K : PySem.W.Frag) (φ : Ph) (H : Hp) (a : Addr) (xs : List V) : Prop := (Fz φ a ∧ (H a = some (.lst xs) ∨ ∃ o, H a = some (.frz o (.lst xs)))) ∨ KLst K a xs
theorem LsA.sql {K : PySem.W.Frag} {φ : Ph} {H : Hp} {a : Addr} {xs : List V} (h : LsA K φ H a xs) : SqL K H a xs := by
  rcases h with ⟨_, h | ⟨o, h⟩⟩ | h
  · exact .inl (.inl h)
  · exact .inl (.inr ⟨o, h⟩)
  · exact .inr h

/-- a tuple that is known to have no dict -/
def TqA (φ : Ph) (H : Hp) (a : Addr) (xs : List V) : Prop := Fz φ a ∧ ∃ o, H a = some (.frz o (.tup xs)) ∧ o.cls = .type "tuple" ∧ o.dict = none

/-- a tuple of the program's top -/
def KTup (K : PySem.W.Frag) (a : Addr) (xs : List V) : Prop := ∃ (o : Obj) (its : Array Value) (n : Nat), K.lookup a = some o ∧ o.cls = .type "tuple" ∧ o.data = .seq its n ∧ its.size ≤ sizeLine ∧ Vals xs its.toList
theorem KTup.sqt {K : PySem.W.Frag} {H : Hp} {a : Addr} {xs : List V} (h : KTup K a xs) : SqT K H a xs := .inr h
instance {K : PySem.W.Frag} {H : Hp} {a : Addr} {xs : List V} : CoeTail (H a = some (.tup xs)) (SqT K H a xs) := ⟨SqT.of⟩

section
variable (K : PySem.W.Frag) (φ : Ph) (H : Hp)
mutual
def RV : D → V → Prop
  | .non, v => v = .non
  | .bl b, v => v = .bl b
  | .int i, v => v = .int i
  | .str x, v => v = .str x
  | .ty n, v => v = .ty n
  | .adr a, v => v = .ref a
  | .ref k, v => ∃ a, φ.own[k]? = some a ∧ v = .ref a
  | .tup ds, v => ∃ p vs, v = .ref p ∧ H p = some (.tup vs) ∧ RVs ds vs
  | .kt ds, v => ∃ p vs, v = .ref p ∧ KTup K p vs ∧ RVs ds vs
  | .lst ds, v => ∃ p vs, v = .ref p ∧ Fz φ p ∧ H p = some (.lst vs) ∧ RVs ds vs
  | .scr ns, v => ∃ p, v = .ref p ∧ LsA K φ H p (ns.map V.int)
  | .tq ns, v => ∃ p, v = .ref p ∧ TqA φ H p (ns.map V.int)
  | .ins C ns ds, v => ∃ p dx vs, v = .ref p ∧ Fz φ p ∧ H p = some (.ins C dx (ns.zip vs)) ∧ ns.length = ds.length ∧ RVs ds vs
  | .dK ks ds, v => ∃ p vs, v = .ref p ∧ Fz φ p ∧ H p = some (.dK (ks.zip vs)) ∧ ks.length = ds.length ∧ RVs ds vs
  | .dT ks ds, v => ∃ p vs, v = .ref p ∧ Fz φ p ∧ H p = some (.dT (ks.zip vs)) ∧ ks.length = ds.length ∧ RVs ds vs
  | .bad, _ => False
def RVs : List D → List V → Prop
  | [], vs => vs = []
  | d :: ds, vs => ∃ v ws, vs = v :: ws ∧ RV d v ∧ RVs ds ws
end
/-- pairs with plain keys -/
def RKV {κ : Type} : List (κ × D) → List (κ × V) → Prop
  | [], l => l = []
  | p :: ps, l => ∃ v r, l = (p.1, v) :: r ∧ RV K φ H p.2 v ∧ RKV ps r
/-- the law's drawing: its list -/
def DrawL (l : List D) : Prop := ∃ (ns : List Int) (i r s : Int), l = [.lst (ns.map D.int), .int i, .int r, .int s] ∧ 0 ≤ i ∧ 0 ≤ r ∧ 0 ≤ s ∧ s < 2147483629
def Trk (a : Addr) : Prop := ∃ u, H a = some u ∧ ∀ ps, u ≠ HO.tbl ps
def RO : O → Addr → Prop
  | .lst xs, a => ∃ vs, H a = some (.lst vs) ∧ RVs K φ H xs vs
  | .drw, a => ∃ l vs, DrawL l ∧ H a = some (.lst vs) ∧ RVs K φ H l vs
  | .ins C fs, a => ∃ dx gs, H a = some (.ins C dx gs) ∧ RKV K φ H fs gs
  | .dK kvs, a => ∃ l, H a = some (.dK l) ∧ RKV K φ H kvs l
  | .dT kvs, a => ∃ l, H a = some (.dT l) ∧ RKV K φ H kvs l
  | .non, a => Trk H a
structure Rel (S : List O) : Prop where
  nd : φ.own.Nodup
  dj : ∀ a ∈ φ.hid, a ∉ φ.own
  hd : ∀ a ∈ φ.hid, Trk H a
  len : φ.own.length = S.length
  ob : ∀ (i : Nat) (o : O), S[i]? = some o → ∃ a, φ.own[i]? = some a ∧ RO K φ H o a
end
/-- numbers stay, what is by value stays -/
structure Ext (K : PySem.W.Frag) (φ φ' : Ph) (H H' : Hp) : Prop where
  hid : φ'.hid = φ.hid
  pre : φ.own <+: φ'.own
  tup : ∀ p vs, H p = some (.tup vs) → H' p = some (.tup vs)
  xd : ∀ p gs, H p = some (.xd gs) → H' p = some (.xd gs)
  fz : ∀ a u, a ∉ φ.own → H a = some u → (∀ ps, u ≠ .tbl ps) → a ∉ φ'.own ∧ H' a = some u
theorem Ext.refl {K : PySem.W.Frag} {φ : Ph} {H : Hp} : Ext K φ φ H H := ⟨rfl, List.prefix_refl _, fun _ _ h => h, fun _ _ h => h, fun _ _ h g _ => ⟨h, g⟩⟩
theorem Ext.trans {K : PySem.W.Frag} {φ φ1 φ2 : Ph} {H H1 H2 : Hp} (a : Ext K φ φ1 H H1) (b : Ext K φ1 φ2 H1 H2) : Ext K φ φ2 H H2 :=
  ⟨b.hid.trans a.hid, a.pre.trans b.pre, fun p vs h => b.tup p vs (a.tup p vs h), fun p gs h => b.xd p gs (a.xd p gs h), fun p u h g n => let ⟨h1, g1⟩ := a.fz p u h g n; b.fz p u h1 g1 n⟩
theorem Ext.get {K : PySem.W.Frag} {φ φ' : Ph} {H H' : Hp} (e : Ext K φ φ' H H') {k : Nat} {a : Addr} (h : φ.own[k]? = some a) : φ'.own[k]? = some a := by
  obtain ⟨t, ht⟩ := e.pre
  rw [← ht, List.getElem?_append_left (List.getElem?_eq_some_iff.mp h).1]; exact h
theorem Ext.frz {K : PySem.W.Frag} {φ φ' : Ph} {H H' : Hp} (e : Ext K φ φ' H H') {a : Addr} {u : HO} (h : Fz φ a) (g : H a = some u) (n : ∀ ps, u ≠ .tbl ps := by intro _ z; cases z) : Fz φ' a ∧ H' a = some u :=
  let ⟨h1, h2⟩ := e.fz a u h.2 g n
  ⟨⟨by rw [e.hid]; exact h.1, h1⟩, h2⟩
theorem LsA.mono {K : PySem.W.Frag} {φ φ' : Ph} {H H' : Hp} (e : Ext K φ φ' H H') {a : Addr} {xs : List V} (h : LsA K φ H a xs) : LsA K φ' H' a xs := by
  rcases h with ⟨f, h | ⟨o, h⟩⟩ | h
  · obtain ⟨f', h'⟩ := e.frz f h
    exact .inl ⟨f', .inl h'⟩
  · obtain ⟨f', h'⟩ := e.frz f h
    exact .inl ⟨f', .inr ⟨o, h'⟩⟩
  · exact .inr h

theorem TqA.mono {K : PySem.W.Frag} {φ φ' : Ph} {H H' : Hp} (e : Ext K φ φ' H H') {a : Addr} {xs : List V} (h : TqA φ H a xs) : TqA φ' H' a xs := by
  obtain ⟨f, o, h1, h2⟩ := h
  obtain ⟨f', h'⟩ := e.frz f h1
  exact ⟨f', o, h', h2⟩
theorem TqA.sqt {K : PySem.W.Frag} {φ : Ph} {H : Hp} {a : Addr} {xs : List V} (h : TqA φ H a xs) : SqT K H a xs := let ⟨_, o, h1, _⟩ := h; .inl (.inr ⟨o, h1⟩)

section
variable {K : PySem.W.Frag} {φ φ' : Ph} {H H' : Hp}
mutual
theorem RV.mono (e : Ext K φ φ' H H') : ∀ {d : D} {v : V}, RV K φ H d v → RV K φ' H' d v
  | .non, _, h => h
  | .bl _, _, h => h
  | .int _, _, h => h
  | .str _, _, h => h
  | .ty _, _, h => h
  | .adr _, _, h => h
  | .ref _, _, ⟨a, h1, h2⟩ => ⟨a, e.get h1, h2⟩
  | .tup _, _, ⟨p, vs, h1, h2, h3⟩ => ⟨p, vs, h1, e.tup _ _ h2, RVs.mono e h3⟩
  | .kt _, _, ⟨p, vs, h1, h2, h3⟩ => ⟨p, vs, h1, h2, RVs.mono e h3⟩
  | .lst _, _, ⟨p, vs, h1, h2, h3, h4⟩ => let ⟨f, g⟩ := e.frz h2 h3; ⟨p, vs, h1, f, g, RVs.mono e h4⟩
  | .scr _, _, ⟨p, h1, h2⟩ => ⟨p, h1, h2.mono e⟩
  | .tq _, _, ⟨p, h1, h2⟩ => ⟨p, h1, h2.mono e⟩
  | .ins _ _ _, _, ⟨p, dx, vs, h1, h2, h3, h4, h5⟩ => let ⟨f, g⟩ := e.frz h2 h3; ⟨p, dx, vs, h1, f, g, h4, RVs.mono e h5⟩
  | .dK _ _, _, ⟨p, vs, h1, h2, h3, h4, h5⟩ => let ⟨f, g⟩ := e.frz h2 h3; ⟨p, vs, h1, f, g, h4, RVs.mono e h5⟩
  | .dT _ _, _, ⟨p, vs, h1, h2, h3, h4, h5⟩ => let ⟨f, g⟩ := e.frz h2 h3; ⟨p, vs, h1, f, g, h4, RVs.mono e h5⟩
  | .bad, _, h => h.elim
theorem RVs.mono (e : Ext K φ φ' H H') : ∀ {ds : List D} {vs : List V}, RVs K φ H ds vs → RVs K φ' H' ds vs
  | [], _, h => h
  | _ :: _, _, ⟨v, ws, h1, h2, h3⟩ => ⟨v, ws, h1, RV.mono e h2, RVs.mono e h3⟩
end
theorem RKV.mono {κ : Type} (e : Ext K φ φ' H H') : ∀ {ds : List (κ × D)} {vs : List (κ × V)}, RKV K φ H ds vs → RKV K φ' H' ds vs
  | [], _, h => h
  | _ :: _, _, ⟨v, ws, h1, h2, h3⟩ => ⟨v, ws, h1, RV.mono e h2, RKV.mono e h3⟩
theorem RVs.len : ∀ {ds : List D} {vs : List V}, RVs K φ H ds vs → vs.length = ds.length
  | [], _, h => by cases h; rfl
  | _ :: _, _, ⟨v, ws, h1, h2, h3⟩ => by subst h1; simp [RVs.len h3]
theorem RVs.app : ∀ {ds es : List D} {vs ws : List V}, RVs K φ H ds vs → RVs K φ H es ws → RVs K φ H (ds ++ es) (vs ++ ws)
  | [], _, _, _, h, g => by cases h; exact g
  | _ :: _, _, _, _, ⟨v, ws, h1, h2, h3⟩, g => by subst h1; exact ⟨v, _, rfl, h2, RVs.app h3 g⟩
theorem RVs.get : ∀ {ds : List D} {vs : List V} {i : Nat} {d : D}, RVs K φ H ds vs → ds[i]? = some d → ∃ v, vs[i]? = some v ∧ RV K φ H d v
  | [], _, _, _, _, e => by simp at e
  | _ :: _, _, 0, _, ⟨v, ws, h1, h2, h3⟩, e => by subst h1; simp at e; subst e; exact ⟨v, rfl, h2⟩
  | _ :: _, _, i + 1, _, ⟨v, ws, h1, h2, h3⟩, e => by subst h1; exact RVs.get (i := i) h3 (by simpa using e)
theorem RVs.set {d : D} {v : V} (r : RV K φ H d v) : ∀ {ds : List D} {vs : List V} (i : Nat), RVs K φ H ds vs → RVs K φ H (ds.set i d) (vs.set i v)
  | [], _, _, h => (by cases h; rfl)
  | _ :: _, _, 0, ⟨v', ws, h1, h2, h3⟩ => by subst h1; exact ⟨v, ws, rfl, r, h3⟩
  | _ :: _, _, i + 1, ⟨v', ws, h1, h2, h3⟩ => by subst h1; exact ⟨v', _, rfl, h2, RVs.set r i h3⟩
theorem RVs.take : ∀ {ds : List D} {vs : List V} (n : Nat), RVs K φ H ds vs → RVs K φ H (ds.take n) (vs.take n)
  | [], _, _, h => by cases h; simp [RVs]
  | _ :: _, _, 0, _ => by simp [RVs]
  | _ :: _, _, n + 1, ⟨v, ws, h1, h2, h3⟩ => by subst h1; exact ⟨v, _, rfl, h2, RVs.take n h3⟩
theorem RVs.drop : ∀ {ds : List D} {vs : List V} (n : Nat), RVs K φ H ds vs → RVs K φ H (ds.drop n) (vs.drop n)
  | [], _, _, h => by cases h; simp [RVs]
  | _ :: _, _, 0, h => h
  | _ :: _, _, n + 1, ⟨v, ws, h1, h2, h3⟩ => by subst h1; exact RVs.drop n h3
theorem RVs.ofInts : ∀ {ns : List Int}, RVs K φ H (ns.map D.int) (ns.map V.int)
  | [] => rfl
  | n :: _ => ⟨.int n, _, rfl, rfl, RVs.ofInts⟩
/-- pairs, split -/
theorem RKV.split {κ : Type} : ∀ {fs : List (κ × D)} {gs : List (κ × V)}, RKV K φ H fs gs → ∃ vs, gs = (fs.map (·.1)).zip vs ∧ RVs K φ H (fs.map (·.2)) vs
  | [], _, h => by cases h; exact ⟨[], rfl, rfl⟩
  | p :: ps, _, ⟨v, r, e, h1, h2⟩ => by
    obtain ⟨vs, e2, h3⟩ := RKV.split h2
    subst e e2
    exact ⟨v :: vs, rfl, v, vs, rfl, h1, h3⟩
theorem RVs.zip {κ : Type} : ∀ {ns : List κ} {ds : List D} {vs : List V}, RVs K φ H ds vs → ns.length = ds.length → RKV K φ H (ns.zip ds) (ns.zip vs)
  | [], [], _, h, _ => by cases h; rfl
  | n :: ns, d :: ds, _, ⟨v, ws, e, h1, h2⟩, hl => by subst e; exact ⟨v, _, rfl, h1, RVs.zip h2 (by simpa using hl)⟩
  | [], _ :: _, _, _, hl => by simp at hl
  | _ :: _, [], _, _, hl => by simp at hl
end

/-- the ground of a body: the numbers and the heap at its entry -/
structure Bs where
  φ0 : Ph
  H0 : Hp
  T : List (Addr × Str)
/-- a state over the ground -/
structure HR (K : PySem.W.Frag) (B : Bs) (φ : Ph) (H : Hp) (S : List O) : Prop where
  ext : Ext K B.φ0 φ B.H0 H
  rel : Rel K φ H S
  tab : LamX.Tabs B.T H
abbrev Sl := List (Option D)
structure EV (K : PySem.W.Frag) (φ : Ph) (H : Hp) (s : Sl) (σ : L2.St) : Prop where
  len : σ.length = s.length
  at' : ∀ (i : Nat) (d : D), s[i]? = some (some d) → ∃ v, σ[i]? = some (some v) ∧ RV K φ H d v
theorem EV.mono {X : Cx} {φ φ' : Ph} {H H' : Hp} {s : Sl} {σ : L2.St} (h : EV X.K φ H s σ) (e : Ext X.K φ φ' H H') : EV X.K φ' H' s σ :=
  ⟨h.len, fun i d q => let ⟨v, a, b⟩ := h.at' i d q; ⟨v, a, b.mono e⟩⟩
theorem HR.mono {X : Cx} {B : Bs} {φ φ' : Ph} {H H' : Hp} {S S' : List O} (h : HR X.K B φ H S) (e : Ext X.K φ φ' H H') (r : Rel X.K φ' H' S') (t : LamX.Tabs B.T H') : HR X.K B φ' H' S' := ⟨h.ext.trans e, r, t⟩

section
variable (K : PySem.W.Frag) (B : Bs)
/-- what is wanted of an outcome -/
def Kont {δ ν : Type} (rel : Ph → Hp → δ → ν → Prop) (φ : Ph) (H : Hp) (Q' : δ → List O → Prop) (Q : ν → Hp → Prop) : Prop :=
  ∀ φ' d S' v H', Ext K φ φ' H H' → HR K B φ' H' S' → rel φ' H' d v → Q' d S' → Q v H'
/-- a reading over data, as a reading of HandS's -/
def UP {δ ν : Type} (rel : Ph → Hp → δ → ν → Prop) (q : Sl → List O → (δ → List O → Prop) → Prop)   : L2.St → Hp → (ν → Hp → Prop) → Prop :=
  fun σ H Q => ∃ φ s S Q', HR K B φ H S ∧ EV K φ H s σ ∧ q s S Q' ∧ Kont K B rel φ H Q' Q
abbrev QE := Sl → List O → (D → List O → Prop) → Prop
abbrev QA := Sl → List O → (List D → List O → Prop) → Prop
abbrev QT := Sl → List O → (Bool → List O → Prop) → Prop
abbrev rD : Ph → Hp → D → V → Prop := fun φ H d v => RV K φ H d v
abbrev rDs : Ph → Hp → List D → List V → Prop := fun φ H d v => RVs K φ H d v
abbrev rB : Ph → Hp → Bool → Bool → Prop := fun _ _ a b => a = b
/-- wished behind a statement; the first n objects stay numbered -/
structure Ed where
  nx : Sl → List O → Prop
  rt : D → List O → Prop
  bk : Sl → List O → Prop := fun _ _ => False
  ct : Sl → List O → Prop := fun _ _ => False
  n : Nat
structure EK0 (φ : Ph) (H : Hp) (D' : Ed) (D : Ends) : Prop where
  hB : B.φ0.own.length ≤ D'.n
  hE : φ.own.length ≤ D'.n
  nx : ∀ φ' H' S' s' σ', Ext K φ φ' H H' → HR K B φ' H' S' → EV K φ' H' s' σ' → D'.nx s' S' → D.nx σ' H'
  rt : ∀ φ' H' S' d v, Ext K φ φ' H H' → HR K B φ' H' S' → RV K φ' H' d v → D'.rt d S' → D.rt v H'
  bk : ∀ φ' H' S' s' σ', Ext K φ φ' H H' → HR K B φ' H' S' → EV K φ' H' s' σ' → D'.bk s' S' → D.bk σ' H'
  ct : ∀ φ' H' S' s' σ', Ext K φ φ' H H' → HR K B φ' H' S' → EV K φ' H' s' σ' → D'.ct s' S' → D.ct σ' H'
/-- since some earlier time -/
def EK (φ : Ph) (H : Hp) (D' : Ed) (D : Ends) : Prop := ∃ φe He, Ext K φe φ He H ∧ EK0 K B φe He D' D
abbrev QS := Ed → Sl → List O → Prop
def US (q : QS) : TS := fun D σ H => ∃ φ s S D', HR K B φ H S ∧ EV K φ H s σ ∧ q D' s S ∧ EK K B φ H D' D
end
abbrev LE (X : Cx) (B : Bs) (e : Expr) (q : QE) : Prop := PE X e (UP X.K B (rD X.K) q)
abbrev LA (X : Cx) (B : Bs) (e : List Expr) (q : QA) : Prop := PA X e (UP X.K B (rDs X.K) q)
abbrev LT (X : Cx) (B : Bs) (e : Expr) (q : QT) : Prop := PT X e (UP X.K B rB q)
abbrev LW (X : Cx) (B : Bs) (e : Expr) (q : QT) : Prop := PW X e (UP X.K B rB q)
abbrev LS (X : Cx) (B : Bs) (e : Stmt) (q : QS) : Prop := PS X e (US X.K B q)
abbrev LSs (X : Cx) (B : Bs) (e : List Stmt) (q : QS) : Prop := PSs X e (US X.K B q)
section
variable {X : Cx} {B : Bs} {φ φ1 : Ph} {H H1 : Hp} {D' : Ed} {D : Ends}
theorem EK.ext (k : EK X.K B φ H D' D) (e : Ext X.K φ φ1 H H1) : EK X.K B φ1 H1 D' D := let ⟨φe, He, x, k0⟩ := k; ⟨φe, He, x.trans e, k0⟩
theorem EK.nx (k : EK X.K B φ H D' D) : ∀ φ' H' S' s' σ', Ext X.K φ φ' H H' → HR X.K B φ' H' S' → EV X.K φ' H' s' σ' → D'.nx s' S' → D.nx σ' H' := let ⟨_, _, x, k0⟩ := k; fun φ' H' S' s' σ' e => k0.nx φ' H' S' s' σ' (x.trans e)
theorem EK.rt (k : EK X.K B φ H D' D) : ∀ φ' H' S' d v, Ext X.K φ φ' H H' → HR X.K B φ' H' S' → RV X.K φ' H' d v → D'.rt d S' → D.rt v H' := let ⟨_, _, x, k0⟩ := k; fun φ' H' S' s' σ' e => k0.rt φ' H' S' s' σ' (x.trans e)
theorem EK.bk (k : EK X.K B φ H D' D) : ∀ φ' H' S' s' σ', Ext X.K φ φ' H H' → HR X.K B φ' H' S' → EV X.K φ' H' s' σ' → D'.bk s' S' → D.bk σ' H' := let ⟨_, _, x, k0⟩ := k; fun φ' H' S' s' σ' e => k0.bk φ' H' S' s' σ' (x.trans e)
theorem EK.ct (k : EK X.K B φ H D' D) : ∀ φ' H' S' s' σ', Ext X.K φ φ' H H' → HR X.K B φ' H' S' → EV X.K φ' H' s' σ' → D'.ct s' S' → D.ct σ' H' := let ⟨_, _, x, k0⟩ := k; fun φ' H' S' s' σ' e => k0.ct φ' H' S' s' σ' (x.trans e)
/-- another wish behind, the same time -/
theorem EK.seq {f : Sl → List O → Prop} {D2 : Ends} (k : EK X.K B φ H D' D) (h : ∀ φ' H' S' s' σ', EK X.K B φ' H' D' D → HR X.K B φ' H' S' → EV X.K φ' H' s' σ' → f s' S' → D2.nx σ' H') (e1 : D2.rt = D.rt) (e2 : D2.bk = D.bk) (e3 : D2.ct = D.ct) : EK X.K B φ H { D' with nx := f } D2 :=
  let ⟨φe, He, x, k0⟩ := k
  ⟨φe, He, x, k0.hB, k0.hE, fun φ' H' S' s' σ' e hr ev q => h φ' H' S' s' σ' ⟨φe, He, e, k0⟩ hr ev q, by rw [e1]; exact k0.rt, by rw [e2]; exact k0.bk, by rw [e3]; exact k0.ct⟩
end
theorem Kont.ext {X : Cx} {B : Bs} {δ ν : Type} {rel : Ph → Hp → δ → ν → Prop} {φ φ1 : Ph} {H H1 : Hp} {Q' : δ → List O → Prop} {Q : ν → Hp → Prop} (k : Kont X.K B rel φ H Q' Q) (e : Ext X.K φ φ1 H H1) : Kont X.K B rel φ1 H1 Q' Q :=
  fun φ' d S' v H' e' hr r q => k φ' d S' v H' (e.trans e') hr r q
theorem PE.imp {X : Cx} {e : Expr} {t t' : TE} (h : PE X e t) (i : ∀ σ H Q, t' σ H Q → t σ H Q) : PE X e t' := ⟨fun pins s σ H Q I w => h.run pins s σ H Q I (i _ _ _ w)⟩
theorem PT.imp {X : Cx} {e : Expr} {t t' : TT} (h : PT X e t) (i : ∀ σ H Q, t' σ H Q → t σ H Q) : PT X e t' := ⟨fun pins s σ H Q I w => h.run pins s σ H Q I (i _ _ _ w)⟩
theorem PW.imp {X : Cx} {e : Expr} {t t' : TT} (h : PW X e t) (i : ∀ σ H Q, t' σ H Q → t σ H Q) : PW X e t' := ⟨fun wh pins s σ H Q I w => h.run wh pins s σ H Q I (i _ _ _ w)⟩
theorem PA.imp {X : Cx} {e : List Expr} {t t' : TA} (h : PA X e t) (i : ∀ σ H Q, t' σ H Q → t σ H Q) : PA X e t' := ⟨fun pos pins s σ H Q I w => h.run pos pins s σ H Q I (i _ _ _ w)⟩
theorem PS.imp {X : Cx} {e : Stmt} {t t' : TS} (h : PS X e t) (i : ∀ D σ H, t' D σ H → t D σ H) : PS X e t' := ⟨fun pins s σ H D I w => h.run pins s σ H D I (i _ _ _ w)⟩
theorem PSs.imp {X : Cx} {e : List Stmt} {t t' : TS} (h : PSs X e t) (i : ∀ D σ H, t' D σ H → t D σ H) : PSs X e t' := ⟨fun pins s σ H D I w => h.run pins s σ H D I (i _ _ _ w)⟩

/-! ### heaps change -/
section
variable {K : PySem.W.Frag} {φ : Ph} {H : Hp} {S : List O} {p : Addr} {o : HO}
/-- one more number -/
def Ph.add (φ : Ph) (p : Addr) : Ph := ⟨φ.hid, φ.own ++ [p]⟩
theorem ext_at {H' : Hp} (at_ : ∀ b u, H b = some u → H' b = some u) : Ext K φ φ H H' := ⟨rfl, List.prefix_refl _, fun q vs h => at_ _ _ h, fun q gs h => at_ _ _ h, fun a u h g _ => ⟨h, at_ _ _ g⟩⟩
/-- a new object: all stays -/
theorem ext_new (hp : H p = none) : Ext K φ φ H (upd H p o) := ext_at fun b u z => by rw [upd_ne (ne_of_none z hp)]; exact z
theorem ext_add (hp : H p = none) : Ext K φ (φ.add p) H (upd H p o) := by
  have e := ext_new (K := K) (φ := φ) (o := o) hp
  refine ⟨rfl, List.prefix_append _ _, e.tup, e.xd, fun a u h g n => ⟨fun z => ?_, (e.fz a u h g n).2⟩⟩
  rcases List.mem_append.mp z with z | z
  · exact h z
  · rw [List.mem_singleton.mp z, hp] at g; cases g
/-- what an object's place says is kept where H keeps the object -/
theorem RO.mono {φ' : Ph} {H' : Hp} (e : Ext K φ φ' H H') {x : O} {a : Addr} (hk : ∀ u, H a = some u → (∀ ps, u ≠ HO.tbl ps) → H' a = some u) (h : RO K φ H x a) : RO K φ' H' x a := by
  cases x with
  | lst xs => obtain ⟨vs, h1, h2⟩ := h; exact ⟨vs, hk _ h1 (fun _ z => by cases z), h2.mono e⟩
  | drw => obtain ⟨l, vs, h0, h1, h2⟩ := h; exact ⟨l, vs, h0, hk _ h1 (fun _ z => by cases z), h2.mono e⟩
  | ins C fs => obtain ⟨dx, gs, h1, h2⟩ := h; exact ⟨dx, gs, hk _ h1 (fun _ z => by cases z), h2.mono e⟩
  | dK l => obtain ⟨m, h1, h2⟩ := h; exact ⟨m, hk _ h1 (fun _ z => by cases z), h2.mono e⟩
  | dT l => obtain ⟨m, h1, h2⟩ := h; exact ⟨m, hk _ h1 (fun _ z => by cases z), h2.mono e⟩
  | non => obtain ⟨u, h, g⟩ := h; exact ⟨u, hk _ h g, g⟩
theorem RO.is_some {x : O} {a : Addr} (h : RO K φ H x a) : Trk H a := by
  cases x with
  | lst xs => obtain ⟨vs, h1, h2⟩ := h; exact ⟨_, h1, fun _ z => by cases z⟩
  | drw => obtain ⟨l, vs, h0, h1, h2⟩ := h; exact ⟨_, h1, fun _ z => by cases z⟩
  | ins C fs => obtain ⟨dx, gs, h1, h2⟩ := h; exact ⟨_, h1, fun _ z => by cases z⟩
  | dK l => obtain ⟨m, h1, h2⟩ := h; exact ⟨_, h1, fun _ z => by cases z⟩
  | dT l => obtain ⟨m, h1, h2⟩ := h; exact ⟨_, h1, fun _ z => by cases z⟩
  | non => exact h
/-- what we change: lists, instances, dicts -/
def Mu : HO → Prop
  | .lst _ => True
  | .ins _ _ _ => True
  | .dK _ => True
  | .dT _ => True
  | _ => False
theorem tab_write {a : Addr} {u : HO} (hu : H a = some u) (m : Mu u) {q : Addr} {n : Str} (h : LamX.TabS H q n) : LamX.TabS (upd H a o) q n := by
  obtain ⟨ps, h1, h2, h3⟩ := h
  have nq : q ≠ a := fun z => by subst z; rw [hu] at h1; cases h1; exact m
  refine ⟨ps, by rw [upd_ne nq]; exact h1, h2, fun pos cv hc => ?_⟩
  have ⟨c, e1, e2⟩ := h3 pos cv hc
  have nc : c ≠ a := fun z => by
    subst z
    rw [hu] at e2
    have e3 : u = LamX.CodeO c n := Option.some.inj e2
    subst e3
    exact m
  exact ⟨c, e1, by rw [upd_ne nc]; exact e2⟩
/-- an object that may be changed -/
def O.mut : O → Bool
  | .non => false
  | _ => true
theorem RO.here {x : O} {a : Addr} (h : RO K φ H x a) (m : x.mut = true) : ∃ u, H a = some u ∧ Mu u := by
  cases x with
  | lst xs => obtain ⟨vs, h1, h2⟩ := h; exact ⟨_, h1, trivial⟩
  | drw => obtain ⟨l, vs, h0, h1, h2⟩ := h; exact ⟨_, h1, trivial⟩
  | ins C fs => obtain ⟨dx, gs, h1, h2⟩ := h; exact ⟨_, h1, trivial⟩
  | dK l => obtain ⟨m, h1, h2⟩ := h; exact ⟨_, h1, trivial⟩
  | dT l => obtain ⟨m, h1, h2⟩ := h; exact ⟨_, h1, trivial⟩
  | non => cases m
/-- all is kept -/
theorem Rel.kept {H' : Hp} (r : Rel K φ H S) (e : Ext K φ φ H H') (hk : ∀ b u, H b = some u → (∀ ps, u ≠ HO.tbl ps) → H' b = some u) : Rel K φ H' S :=
  ⟨r.nd, r.dj, fun a h => let ⟨u, g, z⟩ := r.hd a h; ⟨u, hk _ _ g z, z⟩, r.len, fun i x q => let ⟨a, h1, h2⟩ := r.ob i x q; ⟨a, h1, h2.mono e (hk a)⟩⟩
theorem Rel.own_some (r : Rel K φ H S) {a : Addr} (h : a ∈ φ.own) : Trk H a := by
  obtain ⟨i, hi⟩ := List.getElem?_of_mem h
  have hl : i < S.length := by rw [← r.len]; exact (List.getElem?_eq_some_iff.mp hi).1
  obtain ⟨a', h1, h2⟩ := r.ob i _ (List.getElem?_eq_getElem hl)
  rw [hi] at h1; cases h1
  exact h2.is_some
/-- a new object -/
theorem Rel.push {x : O} (r : Rel K φ H S) (hp : H p = none) (h : RO K (φ.add p) (upd H p o) x p) : Rel K (φ.add p) (upd H p o) (S ++ [x]) := by
  have e : Ext K φ (φ.add p) H (upd H p o) := ext_add hp
  have hk : ∀ b u, H b = some u → upd H p o b = some u := fun b u z => by rw [upd_ne (ne_of_none z hp)]; exact z
  have np : p ∉ φ.own := fun z => by obtain ⟨u, hu, _⟩ := r.own_some z; rw [hp] at hu; cases hu
  refine ⟨?_, fun a ha z => ?_, fun a ha => let ⟨u, g, z⟩ := r.hd a ha; ⟨u, hk _ _ g, z⟩, by simp [Ph.add, r.len], fun i y q => ?_⟩
  · show (φ.own ++ [p]).Nodup
    rw [List.nodup_append]
    refine ⟨r.nd, by simp, fun a ha b hb z => ?_⟩
    rw [List.mem_singleton.mp hb] at z
    exact np (z ▸ ha)
  · rcases List.mem_append.mp z with z | z
    · exact r.dj a ha z
    · obtain ⟨u, g, _⟩ := r.hd a ha
      rw [List.mem_singleton.mp z, hp] at g; cases g
  · by_cases hl : i < S.length
    · rw [List.getElem?_append_left hl] at q
      obtain ⟨a, h1, h2⟩ := r.ob i y q
      exact ⟨a, e.get h1, h2.mono e fun u hu _ => hk _ _ hu⟩
    · rw [List.getElem?_append_right (by omega)] at q
      have h0 : i - S.length = 0 := by
        have := (List.getElem?_eq_some_iff.mp q).1
        simp at this; omega
      rw [h0] at q
      simp at q
      subst q
      have hi : i = φ.own.length := by rw [r.len]; omega
      exact ⟨p, by show (φ.own ++ [p])[i]? = _; rw [hi]; simp, h⟩
/-- an object is written -/
theorem ext_write {a : Addr} {u : HO} (hu : H a = some u) (m : Mu u) (ho : a ∈ φ.own) : Ext K φ φ H (upd H a o) := ⟨rfl, List.prefix_refl _, fun q vs h => by
    have nq : q ≠ a := fun z => by subst z; rw [hu] at h; cases h; exact m
    rw [upd_ne nq]; exact h, fun q gs h => by
    have nq : q ≠ a := fun z => by subst z; rw [hu] at h; cases h; exact m
    rw [upd_ne nq]; exact h, fun b v h g _ => ⟨h, by rw [upd_ne (fun z => h (z ▸ ho) : b ≠ a)]; exact g⟩⟩
theorem Rel.write {x y : O} {k : Nat} {a : Addr} (r : Rel K φ H S) (hx : S[k]? = some x) (m : x.mut = true) (ha : φ.own[k]? = some a) (h : RO K φ (upd H a o) y a) : Rel K φ (upd H a o) (S.set k y) := by
  obtain ⟨a', h1, h2⟩ := r.ob k x hx
  rw [ha] at h1; cases h1
  obtain ⟨u, hu, mu⟩ := h2.here m
  have mo : a ∈ φ.own := List.mem_of_getElem? ha
  have e : Ext K φ φ H (upd H a o) := ext_write hu mu mo
  have hl : k < S.length := (List.getElem?_eq_some_iff.mp hx).1
  refine ⟨r.nd, r.dj, fun b hb => ?_, by simpa using r.len, fun i z q => ?_⟩
  · obtain ⟨v, g, gz⟩ := r.hd b hb
    exact ⟨v, by rw [upd_ne (fun z => r.dj b hb (z ▸ mo) : b ≠ a)]; exact g, gz⟩
  · by_cases hi : i = k
    · subst hi
      rw [List.getElem?_set_self hl] at q
      cases q
      exact ⟨a, ha, h⟩
    · rw [List.getElem?_set_ne (Ne.symm hi)] at q
      obtain ⟨b, h3, h4⟩ := r.ob i z q
      have hb : b ≠ a := fun hz => by
        subst hz
        obtain ⟨l1, g1⟩ := List.getElem?_eq_some_iff.mp h3
        obtain ⟨l2, g2⟩ := List.getElem?_eq_some_iff.mp ha
        exact hi ((List.getElem_inj r.nd).mp (g1.trans g2.symm))
      exact ⟨b, h3, h4.mono e fun v hv _ => by rw [upd_ne hb]; exact hv⟩
end
end LC

set_option Elab.async false
set_option linter.all false
set_option maxRecDepth 100000
set_option maxHeartbeats 5000000
/-! LD1: expressions over data. -/
namespace LC
open PySem PySem.Spec
open PyProof.Rows L2

/-- a where c is true, b where it is not -/
def Br (c : Bool) (a b : Prop) : Prop := match c with
  | true => a
  | false => b
theorem Br.mk {c : Bool} {a b : Prop} (h : c = true → a) (g : c = false → b) : Br c a b := by cases c; exact g rfl; exact h rfl
theorem Br.t {c : Bool} {a b : Prop} (h : Br c a b) (e : c = true) : a := by subst e; exact h
theorem Br.f {c : Bool} {a b : Prop} (h : Br c a b) (e : c = false) : b := by subst e; exact h
theorem lif {c : Bool} {P Q : Prop} (h1 : c = true → P) (h2 : c = false → Q) : Br c P Q := Br.mk h1 h2
theorem lifT {c : Bool} {P Q : Prop} (h : c = true) (p : P) : Br c P Q := by subst h; exact p
theorem lifF {c : Bool} {P Q : Prop} (h : c = false) (q : Q) : Br c P Q := by subst h; exact q
/-- a test of a decided thing -/
theorem brd {p : Prop} [i : Decidable p] {P Q : Prop} (h1 : p → P) (h2 : ¬ p → Q) : Br (decide p) P Q := Br.mk (fun e => h1 (of_decide_eq_true e)) (fun e => h2 (of_decide_eq_false e))
theorem brT {p : Prop} [i : Decidable p] {P Q : Prop} (h : p) (q : P) : Br (decide p) P Q := lifT (decide_eq_true h) q
theorem bnd {p : Prop} [i : Decidable p] {P Q : Prop} (h1 : p → Q) (h2 : ¬ p → P) : Br (!decide p) P Q := Br.mk (fun e => h2 (by simpa using e)) (fun e => h1 (by simpa using e))
/-- a side condition, then the rest -/
structure Need (c q : Prop) : Prop where
  c : c
  q : q

section
variable {X : Cx} {B : Bs} {δ ν : Type} {rel : Ph → Hp → δ → ν → Prop} {φ : Ph} {H : Hp} {S : List O}
theorem Kont.here {Q' : δ → List O → Prop} {Q : ν → Hp → Prop} {d : δ} {v : ν} (k : Kont X.K B rel φ H Q' Q) (hr : HR X.K B φ H S) (r : rel φ H d v) (q : Q' d S) : Q v H := k φ d S v H Ext.refl hr r q
theorem tabs_new {H : Hp} {p : Addr} {o : HO} {T : List (Addr × Str)} (hp : H p = none) (t : LamX.Tabs T H) : LamX.Tabs T (upd H p o) := t.ext fun b u z => by rw [upd_ne (ne_of_none z hp)]; exact z
theorem tabs_write {H : Hp} {a : Addr} {u o : HO} {T : List (Addr × Str)} (hu : H a = some u) (m : Mu u) (t : LamX.Tabs T H) : LamX.Tabs T (upd H a o) := fun p hp => tab_write hu m (t p hp)
theorem HR.new {p : Addr} {o : HO} {x : O} (hr : HR X.K B φ H S) (hp : H p = none) (h : RO X.K (φ.add p) (upd H p o) x p) : HR X.K B (φ.add p) (upd H p o) (S ++ [x]) :=
  hr.mono (ext_add hp) (hr.rel.push hp h) (tabs_new hp hr.tab)
theorem Rel.last {K : PySem.W.Frag} (r : Rel K φ H S) (p : Addr) : (φ.add p).own[S.length]? = some p := by show (φ.own ++ [p])[_]? = _; rw [← r.len]; simp
/-- a new object that may change -/
theorem Kont.new {Q' : D → List O → Prop} {Q : VK} {p : Addr} {o : HO} {x : O} (k : Kont X.K B (rD X.K) φ H Q' Q) (hr : HR X.K B φ H S) (hp : H p = none) (h : RO X.K (φ.add p) (upd H p o) x p) (q : Q' (.ref S.length) (S ++ [x])) : Q (.ref p) (upd H p o) :=
  k _ _ _ _ _ (ext_add hp) (hr.new hp h) (show RV X.K _ _ (.ref S.length) _ from ⟨p, hr.rel.last p, rfl⟩) q
theorem HR.fix {p : Addr} {o : HO} (hr : HR X.K B φ H S) (hp : H p = none) : HR X.K B φ (upd H p o) S :=
  hr.mono (ext_new hp) (hr.rel.kept (ext_new hp) fun b u z _ => by rw [upd_ne (ne_of_none z hp)]; exact z) (tabs_new hp hr.tab)
theorem Rel.new_fz {K : PySem.W.Frag} {p : Addr} (r : Rel K φ H S) (hp : H p = none) : Fz φ p :=
  ⟨fun z => let ⟨u, g, _⟩ := r.hd p z; (nomatch hp.symm.trans g), fun z => let ⟨u, g, _⟩ := r.own_some z; (nomatch hp.symm.trans g)⟩
theorem RV.tup_new {K : PySem.W.Frag} {p : Addr} {ds : List D} {vs : List V} (hp : H p = none) (r : RVs K φ H ds vs) : RV K φ (upd H p (.tup vs)) (.tup ds) (.ref p) :=
  ⟨p, vs, rfl, upd_same, r.mono (ext_new hp)⟩
theorem Kont.tup {Q' : D → List O → Prop} {Q : VK} {p : Addr} {ds : List D} {vs : List V} (k : Kont X.K B (rD X.K) φ H Q' Q) (hr : HR X.K B φ H S) (hp : H p = none) (r : RVs X.K φ H ds vs) (q : Q' (.tup ds) S) : Q (.ref p) (upd H p (.tup vs)) :=
  k _ _ _ _ _ (ext_new hp) (hr.fix hp) (RV.tup_new hp r) q
theorem RV.lst_new {K : PySem.W.Frag} {p : Addr} {ds : List D} {vs : List V} (rl : Rel K φ H S) (hp : H p = none) (r : RVs K φ H ds vs) : RV K φ (upd H p (.lst vs)) (.lst ds) (.ref p) :=
  ⟨p, vs, rfl, rl.new_fz hp, upd_same, r.mono (ext_new hp)⟩
/-- a new list that stays as it is -/
theorem Kont.lst {Q' : D → List O → Prop} {Q : VK} {p : Addr} {ds : List D} {vs : List V} (k : Kont X.K B (rD X.K) φ H Q' Q) (hr : HR X.K B φ H S) (hp : H p = none) (r : RVs X.K φ H ds vs) (q : Q' (.lst ds) S) : Q (.ref p) (upd H p (.lst vs)) :=
  k _ _ _ _ _ (ext_new hp) (hr.fix hp) (RV.lst_new hr.rel hp r) q
theorem Kont.lstM {Q' : D → List O → Prop} {Q : VK} {p : Addr} {ds : List D} {vs : List V} (k : Kont X.K B (rD X.K) φ H Q' Q) (hr : HR X.K B φ H S) (hp : H p = none) (r : RVs X.K φ H ds vs) (q : Q' (.ref S.length) (S ++ [.lst ds])) : Q (.ref p) (upd H p (.lst vs)) :=
  k.new (x := .lst ds) hr hp ⟨vs, upd_same, r.mono (ext_add hp)⟩ q
theorem HR.write {a : Addr} {o : HO} {x y : O} {k : Nat} (hr : HR X.K B φ H S) (hx : S[k]? = some x) (m : x.mut = true) (ha : φ.own[k]? = some a) (h : Ext X.K φ φ H (upd H a o) → RO X.K φ (upd H a o) y a) : Ext X.K φ φ H (upd H a o) ∧ HR X.K B φ (upd H a o) (S.set k y) := by
  obtain ⟨a', h1, h2⟩ := hr.rel.ob k x hx
  rw [ha] at h1; cases h1
  obtain ⟨u, hu, mu⟩ := h2.here m
  have e : Ext X.K φ φ H (upd H a o) := ext_write hu mu (List.mem_of_getElem? ha)
  exact ⟨e, hr.mono e (hr.rel.write hx m ha (h e)) (tabs_write hu mu hr.tab)⟩
/-- an object is written -/
theorem Kont.write {Q' : D → List O → Prop} {Q : VK} {a : Addr} {o : HO} {x y : O} {k' : Nat} {d : D} {v : V} (k : Kont X.K B (rD X.K) φ H Q' Q) (hr : HR X.K B φ H S) (hx : S[k']? = some x) (m : x.mut = true) (ha : φ.own[k']? = some a) (h : Ext X.K φ φ H (upd H a o) → RO X.K φ (upd H a o) y a)
    (rv : ∀ H', Ext X.K φ φ H H' → RV X.K φ H' d v) (q : Q' d (S.set k' y)) : Q v (upd H a o) := by
  obtain ⟨e, hr'⟩ := hr.write hx m ha h
  exact k _ _ _ _ _ e hr' (rv _ e) q
theorem HR.lstO {k : Nat} {xs : List D} (hr : HR X.K B φ H S) (h : S[k]? = some (.lst xs)) : ∃ a vs, φ.own[k]? = some a ∧ H a = some (.lst vs) ∧ RVs X.K φ H xs vs :=
  let ⟨a, h1, vs, h2, h3⟩ := hr.rel.ob k _ h; ⟨a, vs, h1, h2, h3⟩
/-- the list that a value is -/
def lsOf (S : List O) (d : D) : Option (List D) := match d with
  | .lst xs => some xs
  | .ref k => match S[k]? with
    | some (.lst xs) => some xs
    | _ => none
  | _ => none
theorem HR.ls {d : D} {v : V} {xs : List D} (hr : HR X.K B φ H S) (h : lsOf S d = some xs) (r : RV X.K φ H d v) : ∃ a vs, v = .ref a ∧ H a = some (.lst vs) ∧ RVs X.K φ H xs vs := by
  unfold lsOf at h
  split at h
  · cases h
    obtain ⟨p, vs, h1, _, h2, h3⟩ := r
    exact ⟨p, vs, h1, h2, h3⟩
  · rename_i k
    split at h
    · rename_i ys e
      cases h
      obtain ⟨a, vs, h1, h2, h3⟩ := hr.lstO e
      obtain ⟨b, ea, rfl⟩ := r
      rw [h1] at ea; cases ea
      exact ⟨_, vs, rfl, h2, h3⟩
    · cases h
  · cases h
/-- the items of a list or a tuple -/
def itemsOf (S : List O) (d : D) : Option (List D) := match d with
  | .tup xs => some xs
  | .scr ns => some (ns.map D.int)
  | .tq ns => some (ns.map D.int)
  | .kt xs => some xs
  | d => lsOf S d
theorem HR.items {d : D} {v : V} {xs : List D} (hr : HR X.K B φ H S) (h : itemsOf S d = some xs) (r : RV X.K φ H d v) : ∃ p vs, v = .ref p ∧ (SqL X.K H p vs ∨ SqT X.K H p vs) ∧ RVs X.K φ H xs vs := by
  unfold itemsOf at h
  split at h
  · cases h
    obtain ⟨p, vs, rfl, h1, h2⟩ := r
    exact ⟨p, vs, rfl, .inr h1, h2⟩
  · cases h
    obtain ⟨p, rfl, h1⟩ := r
    exact ⟨p, _, rfl, .inl h1.sql, .ofInts⟩
  · cases h
    obtain ⟨p, rfl, h1⟩ := r
    exact ⟨p, _, rfl, .inr h1.sqt, .ofInts⟩
  · cases h
    obtain ⟨p, vs, rfl, h1, h2⟩ := r
    exact ⟨p, vs, rfl, .inr h1.sqt, h2⟩
  · obtain ⟨a, vs, rfl, h1, h2⟩ := hr.ls h r
    exact ⟨a, vs, rfl, .inl (.inl (.inl h1)), h2⟩
end

/-! ### names, constants -/
section
variable {X : Cx} {B : Bs}
def qVar (i : Nat) : QE := fun s S Q => match s[i]? with
  | some (some d) => Q d S
  | _ => False
theorem le_var {e : Expr} {i : Nat} (h : PE X e (tVar i)) : LE X B e (qVar i) := PE.imp h fun σ H Q ⟨φ, s, S, Q', hr, ev, q, k⟩ => by
  unfold qVar at q
  split at q
  · rename_i d e
    obtain ⟨v, h1, h2⟩ := ev.at' i d e
    exact ⟨v, h1, k.here hr h2 q⟩
  · exact q.elim
theorem lv (i : Nat) {x : Str} {pos : Pos} (hN : X.N[i]? = some x := by rfl) (hv : Vis X.env.scope x := by first | exact Or.inl rfl | exact Or.inr (Or.inl rfl) | exact Or.inr (Or.inr rfl)) (hd : (x == ("__debug__" : Str)) = false := by decide)
    (hcd : (x == ("__classdict__" : Str)) = false := by decide) : LE X B (.Name x pos) (qVar i) := le_var (pe_var hN hv hd hcd)
def qC (d : D) : QE := fun _ S Q => Q d S
theorem le_c {e : Expr} {v : V} {d : D} (h : PE X e (tC v)) (r : ∀ φ H, RV X.K φ H d v) : LE X B e (qC d) := PE.imp h fun σ H Q ⟨φ, s, S, Q', hr, ev, q, k⟩ => k.here hr (r _ _) q
theorem le_int {i j pos} : LE X B (.Constant (.int i) j pos) (qC (.int i)) := le_c pe_int fun _ _ => rfl
theorem le_str {i j pos} : LE X B (.Constant (.str i) j pos) (qC (.str i)) := le_c pe_str fun _ _ => rfl
theorem le_bl {i j pos} : LE X B (.Constant (.bool i) j pos) (qC (.bl i)) := le_c pe_bl fun _ _ => rfl
theorem le_non {j pos} : LE X B (.Constant .none j pos) (qC .non) := le_c pe_non fun _ _ => rfl
/-- a module's name that holds an int, a text, an object -/
theorem le_glob {x : Str} {v : V} {d : D} {u : Value} {pos : Pos} (hg : Gl X x) (hm : X.mg x = some u) (r : RelV v u) (rd : ∀ φ H, RV X.K φ H d v) (hd : (x == ("__debug__" : Str)) = false := by decide) : LE X B (.Name x pos) (qC d) := le_c (pe_glob hg hm r hd) rd

/-! ### two places -/
abbrev QO := D → D → List O → (D → List O → Prop) → Prop
def upR (K : PySem.W.Frag) (B : Bs) (ro : QO) : R2 := fun x y H Q => ∃ φ S d e Q', HR K B φ H S ∧ RV K φ H d x ∧ RV K φ H e y ∧ ro d e S Q' ∧ Kont K B (rD K) φ H Q' Q
theorem OpR.imp {f : Value → Value → Sem Value} {r r' : R2} (h : OpR X f r) (i : ∀ x y H Q, r' x y H Q → r x y H Q) : OpR X f r' :=
  fun pins s σ H x y v u Q I rx ry q => h pins s σ H x y v u Q I rx ry (i _ _ _ _ q)
def qOp (ro : QO) (qa qb : QE) : QE := fun s S Q => qa s S fun x S1 => qb s S1 fun y S2 => ro x y S2 Q
theorem up_op {ro : QO} {qa qb : QE} {σ : L2.St} {H : Hp} {Q : VK} (h : UP X.K B (rD X.K) (qOp ro qa qb) σ H Q) : tOp (upR X.K B ro) (UP X.K B (rD X.K) qa) (UP X.K B (rD X.K) qb) σ H Q := by
  obtain ⟨φ, s, S, Q', hr, ev, q, k⟩ := h
  refine ⟨φ, s, S, _, hr, ev, q, fun φ1 d S1 v H1 e1 hr1 r1 q1 => ?_⟩
  refine ⟨φ1, s, S1, _, hr1, ev.mono e1, q1, fun φ2 d2 S2 v2 H2 e2 hr2 r2 q2 => ?_⟩
  exact ⟨φ2, S2, d, d2, Q', hr2, r1.mono e2, r2, q2, k.ext (e1.trans e2)⟩
variable {a b c : Expr} {qa qb qc : QE} {pos : Pos} {ro ro' : QO}
theorem le_op {op : Operator} (ho : OpR X (binaryOp op) (upR X.K B ro)) (ha : LE X B a qa) (hb : LE X B b qb) : LE X B (.BinOp a op b pos) (qOp ro qa qb) := PE.imp (pe_op ho ha hb) fun _ _ _ => up_op
theorem le_cmp {op : CmpOp} (ho : OpR X (compareOp op) (upR X.K B ro)) (ha : LE X B a qa) (hb : LE X B b qb) (hm : behindInMarks op b = false) : LE X B (.Compare a [op] [b] pos) (qOp ro qa qb) := PE.imp (pe_cmpR ho ha hb hm) fun _ _ _ => up_op
def qTest (q : QE) : QT := fun s S Q => q s S fun d S1 => match d with
  | .bl b => Q b S1
  | _ => False
theorem up_test {q : QE} {t : TE} (hi : ∀ σ H Q, UP X.K B (rD X.K) q σ H Q → t σ H Q) {σ : L2.St} {H : Hp} {Q : Bool → Hp → Prop} (h : UP X.K B rB (qTest q) σ H Q) : tTest t σ H Q := by
  obtain ⟨φ, s, S, Q', hr, ev, q, k⟩ := h
  refine hi _ _ _ ⟨φ, s, S, _, hr, ev, q, fun φ1 d S1 v H1 e1 hr1 r1 q1 => ?_⟩
  split at q1
  · rename_i b
    exact ⟨b, r1, k _ _ _ _ _ e1 hr1 rfl q1⟩
  · exact q1.elim
theorem lt_cmp {op : CmpOp} (ho : OpR X (compareOp op) (upR X.K B ro)) (ha : LE X B a qa) (hb : LE X B b qb) (hm : behindInMarks op b = false) : LT X B (.Compare a [op] [b] pos) (qTest (qOp ro qa qb)) := PT.imp (pt_cmpR ho ha hb hm) fun _ _ _ => up_test fun _ _ _ => up_op
def qChain (r r' : QO) (qa qb qc : QE) : QE := fun s S Q => qa s S fun x S1 => qb s S1 fun y S2 => r x y S2 fun z S3 => match z with
  | .bl k => Br k (qc s S3 fun w S4 => r' y w S4 Q) (Q (.bl false) S3)
  | _ => False
theorem up_chain {σ : L2.St} {H : Hp} {Q : VK} (h : UP X.K B (rD X.K) (qChain ro ro' qa qb qc) σ H Q) : tChain (upR X.K B ro) (upR X.K B ro') (UP X.K B (rD X.K) qa) (UP X.K B (rD X.K) qb) (UP X.K B (rD X.K) qc) σ H Q := by
  obtain ⟨φ, s, S, Q', hr, ev, q, k⟩ := h
  refine ⟨φ, s, S, _, hr, ev, q, fun φ1 d S1 v H1 e1 hr1 r1 q1 => ?_⟩
  refine ⟨φ1, s, S1, _, hr1, ev.mono e1, q1, fun φ2 d2 S2 v2 H2 e2 hr2 r2 q2 => ?_⟩
  refine ⟨φ2, S2, d, d2, _, hr2, r1.mono e2, r2, q2, fun φ3 d3 S3 v3 H3 e3 hr3 r3 q3 => ?_⟩
  split at q3
  · rename_i kb
    refine ⟨kb, r3, ?_⟩
    cases kb with
    | false => exact k _ (.bl false) _ _ _ (e1.trans (e2.trans e3)) hr3 rfl (q3.f rfl)
    | true =>
      rw [if_pos rfl]
      refine ⟨φ3, s, S3, _, hr3, ev.mono (e1.trans (e2.trans e3)), q3.t rfl, fun φ4 d4 S4 v4 H4 e4 hr4 r4 q4 => ?_⟩
      exact ⟨φ4, S4, d2, d4, Q', hr4, r2.mono (e3.trans e4), r4, q4, k.ext (e1.trans (e2.trans (e3.trans e4)))⟩
  · exact q3.elim
theorem le_chain {op op' : CmpOp} (ho : OpR X (compareOp op) (upR X.K B ro)) (ho' : OpR X (compareOp op') (upR X.K B ro')) (ha : LE X B a qa) (hb : LE X B b qb) (hc : LE X B c qc)
    (hm : lastMarks [op, op'] [b, c] = false := by with_unfolding_all rfl) : LE X B (.Compare a [op, op'] [b, c] pos) (qChain ro ro' qa qb qc) := PE.imp (pe_chain ho ho' ha hb hc hm) fun _ _ _ => up_chain
theorem lt_chain {op op' : CmpOp} (ho : OpR X (compareOp op) (upR X.K B ro)) (ho' : OpR X (compareOp op') (upR X.K B ro')) (ha : LE X B a qa) (hb : LE X B b qb) (hc : LE X B c qc)
    (hm : lastMarks [op, op'] [b, c] = false := by with_unfolding_all rfl) : LT X B (.Compare a [op, op'] [b, c] pos) (qTest (qChain ro ro' qa qb qc)) := PT.imp (pt_chain ho ho' ha hb hc hm) fun _ _ _ => up_test fun _ _ _ => up_chain

/-! ### whole numbers -/
def oI (C : Int → Int → Prop) (f : Int → Int → Int) : QO := fun d e S Q => match d, e with
  | .int i, .int j => Need (C i j) (Q (.int (f i j)) S)
  | _, _ => False
theorem lift_I {C : Int → Int → Prop} {f : Int → Int → Int} {x y : V} {H : Hp} {Q : VK} (h : upR X.K B (oI C f) x y H Q) : rI C (fun i j => .int (f i j)) x y H Q := by
  obtain ⟨φ, S, d, e, Q', hr, r1, r2, q, k⟩ := h
  unfold oI at q
  split at q
  · exact ⟨_, _, r1, r2, q.c, k.here (d := D.int _) hr rfl q.q⟩
  · exact q.elim
def oI0 (f : Int → Int → Int) : QO := fun d e S Q => match d, e with
  | .int i, .int j => Q (.int (f i j)) S
  | _, _ => False
theorem lift_I0 {f : Int → Int → Int} {x y : V} {H : Hp} {Q : VK} (h : upR X.K B (oI0 f) x y H Q) : rI0 (fun i j => .int (f i j)) x y H Q := by
  obtain ⟨φ, S, d, e, Q', hr, r1, r2, q, k⟩ := h
  unfold oI0 at q
  split at q
  · exact ⟨_, _, r1, r2, k.here (d := D.int _) hr rfl q⟩
  · exact q.elim
theorem oo_sub : OpR X (binaryOp .Sub) (upR X.K B (oI0 fun i j => i - j)) := OpR.imp op_sub fun _ _ _ _ => lift_I0
theorem oo_fdiv : OpR X (binaryOp .FloorDiv) (upR X.K B (oI CDiv fun i j => i / j)) := OpR.imp op_fdiv fun _ _ _ _ => lift_I
theorem oo_mod : OpR X (binaryOp .Mod) (upR X.K B (oI (fun _ j => 0 < j) fun i j => i % j)) := OpR.imp op_mod fun _ _ _ _ => lift_I
theorem oo_pow : OpR X (binaryOp .Pow) (upR X.K B (oI CPow fun i j => i ^ j.toNat)) := OpR.imp op_pow fun _ _ _ _ => lift_I
/-- + of ints, texts, tuples, lists -/
def oAdd : QO := fun d e S Q => match d, e with
  | .int i, .int j => Q (.int (i + j)) S
  | .str i, .str j => Need (i.length + j.length ≤ sizeLine) (Q (.str (i ++ j)) S)
  | .tup xs, .tup ys => Need (xs ≠ [] ∧ xs.length + ys.length ≤ sizeLine) (Q (.tup (xs ++ ys)) S)
  | d, e => match lsOf S d, lsOf S e with
    | some xs, some ys => Need (xs.length + ys.length ≤ sizeLine) (Q (.lst (xs ++ ys)) S)
    | _, _ => False
theorem oo_add : OpR X (binaryOp .Add) (upR X.K B oAdd) := OpR.imp (op_add.or (op_add_str.or (op_catT.or op_cat))) fun x y H Q h => by
  obtain ⟨φ, S, d, e, Q', hr, r1, r2, q, k⟩ := h
  unfold oAdd at q
  split at q
  · exact .inl ⟨_, _, r1, r2, k.here (d := D.int _) hr rfl q⟩
  · exact .inr (.inl ⟨_, _, r1, r2, q.c, k.here (d := D.str _) hr rfl q.q⟩)
  · obtain ⟨p, vs, rfl, h1, h2⟩ := id r1
    obtain ⟨p2, ws, rfl, h3, h4⟩ := id r2
    refine .inr (.inr (.inl ⟨p, p2, vs, ws, rfl, rfl, h1, h3, ?_, by rw [h2.len, h4.len]; exact q.c.2, ?_, ?_⟩))
    · intro z
      have := h2.len
      rw [z] at this
      exact q.c.1 (List.length_eq_zero_iff.mp this.symm)
    · intro z
      have := h4.len
      rw [z] at this
      have q2 := q.q
      rw [List.length_eq_zero_iff.mp this.symm, List.append_nil] at q2
      exact k.here (d := D.tup _) hr r1 q2
    · intro _ p' hp
      exact k.tup hr hp (h2.app h4) q.q
  · split at q
    · rename_i xs ys e1 e2
      obtain ⟨a, vs, rfl, a2, a3⟩ := hr.ls e1 r1
      obtain ⟨b, ws, rfl, b2, b3⟩ := hr.ls e2 r2
      exact .inr (.inr (.inr ⟨a, b, vs, ws, rfl, rfl, a2, b2, by rw [a3.len, b3.len]; exact q.c, fun p hp => k.lst hr hp (a3.app b3) q.q⟩))
    · exact q.elim
/-- * of ints; of a list and an int -/
def oMul : QO := fun d e S Q => match d, e with
  | .int i, .int j => Need (CMul i j) (Q (.int (i * j)) S)
  | d, .int j => match lsOf S d with
    | some xs => Need (0 ≤ j ∧ j < 2 ^ 63 ∧ xs.length * j.toNat ≤ sizeLine) (Q (.lst (List.replicate j.toNat xs).flatten) S)
    | none => False
  | _, _ => False
theorem RVs.rep {K : PySem.W.Frag} {φ : Ph} {H : Hp} {ds : List D} {vs : List V} (r : RVs K φ H ds vs) : ∀ n : Nat, RVs K φ H (List.replicate n ds).flatten (List.replicate n vs).flatten
  | 0 => rfl
  | n + 1 => by rw [List.replicate_succ, List.replicate_succ, List.flatten_cons, List.flatten_cons]; exact r.app (RVs.rep r n)
def oMulM : QO := fun d e S Q => match e with
  | .int j => match lsOf S d with
    | some xs => Need (0 ≤ j ∧ j < 2 ^ 63 ∧ xs.length * j.toNat ≤ sizeLine) (Q (.ref S.length) (S ++ [.lst (List.replicate j.toNat xs).flatten]))
    | none => False
  | _ => False
theorem oo_mulM : OpR X (binaryOp .Mult) (upR X.K B oMulM) := OpR.imp op_rep fun x y H Q ⟨φ, S, d, e, Q', hr, r1, r2, q, k⟩ => by
  unfold oMulM at q
  split at q
  · cases r2
    split at q
    · rename_i xs e1
      obtain ⟨a, vs, rfl, h5, h6⟩ := hr.ls e1 r1
      exact ⟨a, _, vs, rfl, rfl, h5, by have := q.c.1; omega, q.c.2.1, by rw [h6.len]; exact q.c.2.2, fun p hp => k.lstM hr hp (h6.rep _) q.q⟩
    · exact q.elim
  · exact q.elim
def oIB (f : Int → Int → Bool) : QO := fun d e S Q => match d, e with
  | .int i, .int j => Q (.bl (f i j)) S
  | _, _ => False
theorem lift_IB {f : Int → Int → Bool} {x y : V} {H : Hp} {Q : VK} (h : upR X.K B (oIB f) x y H Q) : rI0 (fun i j => .bl (f i j)) x y H Q := by
  obtain ⟨φ, S, d, e, Q', hr, r1, r2, q, k⟩ := h
  unfold oIB at q
  split at q
  · exact ⟨_, _, r1, r2, k.here (d := D.bl _) hr rfl q⟩
  · exact q.elim
theorem oo_lt : OpR X (compareOp .Lt) (upR X.K B (oIB fun i j => decide (i < j))) := OpR.imp op_lt fun _ _ _ _ => lift_IB
theorem oo_le : OpR X (compareOp .LtE) (upR X.K B (oIB fun i j => decide (i ≤ j))) := OpR.imp op_le fun _ _ _ _ => lift_IB
theorem oo_gt : OpR X (compareOp .Gt) (upR X.K B (oIB fun i j => decide (j < i))) := OpR.imp op_gt fun _ _ _ _ => lift_IB
theorem oo_ge : OpR X (compareOp .GtE) (upR X.K B (oIB fun i j => decide (j ≤ i))) := OpR.imp op_ge fun _ _ _ _ => lift_IB
/-- is None -/
def D.isNon : D → Bool
  | .non => true
  | _ => false
theorem RV.isNon {K : PySem.W.Frag} {φ : Ph} {H : Hp} {d : D} {v : V} (r : RV K φ H d v) : decide (v = .non) = d.isNon := by
  cases d with
  | non => cases r; rfl
  | bl _ => cases r; rfl
  | int _ => cases r; rfl
  | str _ => cases r; rfl
  | ty _ => cases r; rfl
  | adr _ => cases r; rfl
  | ref _ => obtain ⟨a, _, rfl⟩ := r; rfl
  | tup _ => obtain ⟨a, _, rfl, _⟩ := r; rfl
  | lst _ => obtain ⟨a, _, rfl, _⟩ := r; rfl
  | ins _ _ _ => obtain ⟨a, _, _, rfl, _⟩ := r; rfl
  | dK _ _ => obtain ⟨a, _, rfl, _⟩ := r; rfl
  | dT _ _ => obtain ⟨a, _, rfl, _⟩ := r; rfl
  | scr _ => obtain ⟨a, rfl, _⟩ := r; rfl
  | tq _ => obtain ⟨a, rfl, _⟩ := r; rfl
  | kt _ => obtain ⟨a, _, rfl, _⟩ := r; rfl
  | bad => exact r.elim
def oIs (neg : Bool) : QO := fun d e S Q => match e with
  | .non => Q (.bl (if neg then !d.isNon else d.isNon)) S
  | _ => False
theorem oo_is : OpR X (compareOp .Is) (upR X.K B (oIs false)) := OpR.imp op_isN fun x y H Q ⟨φ, S, d, e, Q', hr, r1, r2, q, k⟩ => by
  unfold oIs at q
  split at q
  · exact ⟨r2, by rw [r1.isNon]; exact k.here (d := D.bl _) hr rfl q⟩
  · exact q.elim
end
end LC

set_option Elab.async false
set_option linter.all false
set_option maxRecDepth 100000
set_option maxHeartbeats 5000000
/-! LD2: equality, membership, truth, displays, subscripts over data. -/
namespace LC
open PySem PySem.Spec
open PyProof.Rows L2
/-- a thing that is there -/
def Opt {α : Type} (o : Option α) (k : α → Prop) : Prop := match o with
  | some x => k x
  | none => False
theorem optI {α : Type} {o : Option α} {k : α → Prop} {x : α} (h : o = some x) (q : k x) : Opt o k := by subst h; exact q
theorem Opt.get {α : Type} {o : Option α} {k : α → Prop} (h : Opt o k) : ∃ x, o = some x ∧ k x := by
  cases o with
  | none => exact h.elim
  | some x => exact ⟨x, rfl, h⟩

/-! ### == -/
mutual
/-- plain data, n levels deep -/
def D.pl : D → Nat → Prop
  | .non, _ => True
  | .bl _, _ => True
  | .int _, _ => True
  | .str x, _ => PyData.strOk x = true
  | .tup xs, n + 1 => D.pls xs n
  | .lst xs, n + 1 => D.pls xs n
  | _, _ => False
def D.pls : List D → Nat → Prop
  | [], _ => True
  | d :: r, n => D.pl d n ∧ D.pls r n
end
mutual
/-- as == tells of plain data -/
def D.eqd : D → D → Bool
  | .non, .non => true
  | .bl a, .bl b => a == b
  | .bl a, .int j => (if a then 1 else 0) == j
  | .int i, .bl b => i == (if b then 1 else 0)
  | .int i, .int j => i == j
  | .str x, .str y => x == y
  | .tup xs, .tup ys => D.eqds xs ys
  | .lst xs, .lst ys => D.eqds xs ys
  | _, _ => false
def D.eqds : List D → List D → Bool
  | [], [] => true
  | x :: xs, y :: ys => D.eqd x y && D.eqds xs ys
  | _, _ => false
end
mutual
def D.py : D → PyData
  | .bl b => .bool b
  | .int i => .int i
  | .str x => .str x
  | .tup xs => .tuple (D.pys xs)
  | .lst xs => .list (D.pys xs)
  | _ => .none
def D.pys : List D → List PyData
  | [] => []
  | d :: r => D.py d :: D.pys r
end
mutual
theorem D.pl.lay : ∀ {d : D} {n : Nat}, D.pl d n → (D.py d).canLay0 = true ∧ (D.py d).depth ≤ n
  | .non, n, _ => ⟨by simp [D.py, PyData.canLay0], by simp [D.py, PyData.depth]⟩
  | .bl _, n, _ => ⟨by simp [D.py, PyData.canLay0], by simp [D.py, PyData.depth]⟩
  | .int _, n, _ => ⟨by simp [D.py, PyData.canLay0], by simp [D.py, PyData.depth]⟩
  | .str x, n, h => ⟨by have h' : PyData.strOk x = true := h; simp [D.py, PyData.canLay0, h'], by simp [D.py, PyData.depth]⟩
  | .tup xs, n + 1, h => by
    obtain ⟨h1, h2⟩ := D.pls.lay (ds := xs) (n := n) h
    exact ⟨by simpa [D.py, PyData.canLay0] using h1, by simp only [D.py, PyData.depth]; omega⟩
  | .lst xs, n + 1, h => by
    obtain ⟨h1, h2⟩ := D.pls.lay (ds := xs) (n := n) h
    exact ⟨by simpa [D.py, PyData.canLay0] using h1, by simp only [D.py, PyData.depth]; omega⟩
theorem D.pls.lay : ∀ {ds : List D} {n : Nat}, D.pls ds n → PyData.canLayAll0 (D.pys ds) = true ∧ PyData.depthAll (D.pys ds) ≤ n
  | [], n, _ => ⟨by simp [D.pys, PyData.canLayAll0], by simp [D.pys, PyData.depthAll]⟩
  | d :: r, n, h => by
    obtain ⟨h1, h2⟩ := D.pl.lay (d := d) (n := n) h.1
    obtain ⟨h3, h4⟩ := D.pls.lay (ds := r) (n := n) h.2
    exact ⟨by simp [D.pys, PyData.canLayAll0, h1, h3], by simp only [D.pys, PyData.depthAll]; omega⟩
end
theorem D.pl.shaped {d : D} {n : Nat} (h : D.pl d n) (hn : n ≤ 64 := by decide) : SeqAt.shaped (D.py d) = true := by
  obtain ⟨h1, h2⟩ := h.lay
  unfold SeqAt.shaped
  rw [h1, Bool.true_and]
  exact decide_eq_true (Nat.le_trans h2 hn)
mutual
theorem D.pl.eqv : ∀ {d e : D} {n m : Nat}, D.pl d n → D.pl e m → PyData.eqv (D.py d) (D.py e) = D.eqd d e
  | d, e, n, m, h, g => by
    cases d with
    | tup xs =>
      cases n with
      | zero => exact h.elim
      | succ n =>
      cases e with
      | tup ys =>
        cases m with
        | zero => exact g.elim
        | succ m => simp only [D.py, PyData.eqv, D.eqd]; exact D.pls.eqv (ds := xs) (es := ys) (n := n) (m := m) h g
      | lst ys => simp [D.py, PyData.eqv, D.eqd]
      | non => simp [D.py, PyData.eqv, D.eqd]
      | bl _ => simp [D.py, PyData.eqv, D.eqd]
      | int _ => simp [D.py, PyData.eqv, D.eqd]
      | str _ => simp [D.py, PyData.eqv, D.eqd]
      | _ => exact g.elim
    | lst xs =>
      cases n with
      | zero => exact h.elim
      | succ n =>
      cases e with
      | lst ys =>
        cases m with
        | zero => exact g.elim
        | succ m => simp only [D.py, PyData.eqv, D.eqd]; exact D.pls.eqv (ds := xs) (es := ys) (n := n) (m := m) h g
      | tup ys => simp [D.py, PyData.eqv, D.eqd]
      | non => simp [D.py, PyData.eqv, D.eqd]
      | bl _ => simp [D.py, PyData.eqv, D.eqd]
      | int _ => simp [D.py, PyData.eqv, D.eqd]
      | str _ => simp [D.py, PyData.eqv, D.eqd]
      | _ => exact g.elim
    | non => cases e <;> first | exact g.elim | simp [D.py, PyData.eqv, D.eqd]
    | bl _ => cases e <;> first | exact g.elim | simp [D.py, PyData.eqv, D.eqd]
    | int _ => cases e <;> first | exact g.elim | simp [D.py, PyData.eqv, D.eqd]
    | str _ => cases e <;> first | exact g.elim | simp [D.py, PyData.eqv, D.eqd]
    | _ => exact h.elim
theorem D.pls.eqv : ∀ {ds es : List D} {n m : Nat}, D.pls ds n → D.pls es m → PyData.eqvAll (D.pys ds) (D.pys es) = D.eqds ds es
  | [], [], _, _, _, _ => by simp [D.pys, PyData.eqvAll, D.eqds]
  | d :: r, e :: t, n, m, h, g => by simp only [D.pys, PyData.eqvAll, D.eqds]; rw [D.pl.eqv (d := d) (e := e) h.1 g.1, D.pls.eqv (ds := r) (es := t) h.2 g.2]
  | [], _ :: _, _, _, _, _ => by simp [D.pys, PyData.eqvAll, D.eqds]
  | _ :: _, [], _, _, _, _ => by simp [D.pys, PyData.eqvAll, D.eqds]
end
mutual
theorem D.eqd_self : ∀ {d : D} {n : Nat}, D.pl d n → D.eqd d d = true
  | .non, _, _ => rfl
  | .bl _, _, _ => by simp [D.eqd]
  | .int _, _, _ => by simp [D.eqd]
  | .str _, _, _ => by simp [D.eqd]
  | .tup xs, n + 1, h => by simp only [D.eqd]; exact D.eqds_self (ds := xs) (n := n) h
  | .lst xs, n + 1, h => by simp only [D.eqd]; exact D.eqds_self (ds := xs) (n := n) h
theorem D.eqds_self : ∀ {ds : List D} {n : Nat}, D.pls ds n → D.eqds ds ds = true
  | [], _, _ => rfl
  | d :: r, n, h => by simp only [D.eqds]; rw [D.eqd_self h.1, D.eqds_self h.2]; rfl
end
theorem D.eqds_ints : ∀ ns ms : List Int, D.eqds (ns.map D.int) (ms.map D.int) = decide (ns = ms)
  | [], [] => rfl
  | n :: r, m :: t => by
    simp only [List.map_cons, D.eqds, D.eqd]; rw [D.eqds_ints r t, Bool.eq_iff_iff]
    simp
  | [], _ :: _ => rfl
  | _ :: _, [] => rfl
theorem D.pls_map {α : Type} {f : α → D} {n : Nat} {l : List α} (h : ∀ a ∈ l, D.pl (f a) n) : D.pls (l.map f) n := by
  induction l with
  | nil => trivial
  | cons a r ih => exact ⟨h a List.mem_cons_self, ih fun b hb => h b (List.mem_cons_of_mem _ hb)⟩
theorem D.pls_ints {n : Nat} (ns : List Int) : D.pls (ns.map D.int) n := D.pls_map fun _ _ => trivial
/-- a list that may change, as it is now -/
def D.see (S : List O) (d : D) : D := match d with
  | .ref k => match S[k]? with
    | some (.lst xs) => .lst xs
    | _ => .bad
  | .scr ns => .lst (ns.map D.int)
  | .tq ns => .tup (ns.map D.int)
  | .kt xs => .tup xs
  | d => d
section
variable {X : Cx} {B : Bs} {φ : Ph} {H : Hp} {S : List O}
mutual
theorem D.pl.dp {K : PySem.W.Frag} : ∀ {d : D} {n : Nat} {v : V}, D.pl d n → RV K φ H d v → Dp K H v (D.py d)
  | .non, _, _, _, r => by cases r; exact .non
  | .bl b, _, _, _, r => by cases r; exact .bl _
  | .int i, _, _, _, r => by cases r; exact .int _
  | .str x, _, _, _, r => by cases r; exact .str _
  | .tup xs, n + 1, _, h, ⟨p, vs, e, h1, h2⟩ => by subst e; exact .tup h1 (D.pls.dp (ds := xs) (n := n) h h2)
  | .lst xs, n + 1, _, h, ⟨p, vs, e, _, h1, h2⟩ => by subst e; exact .lst (.inl (.inl h1)) (D.pls.dp (ds := xs) (n := n) h h2)
theorem D.pls.dp {K : PySem.W.Frag} : ∀ {ds : List D} {n : Nat} {vs : List V}, D.pls ds n → RVs K φ H ds vs → DpAll K H vs (D.pys ds)
  | [], _, _, _, r => by cases r; exact .nil
  | d :: ds, n, _, h, ⟨v, ws, e, h3, h4⟩ => by subst e; exact .cons (D.pl.dp h.1 h3) (D.pls.dp h.2 h4)
end
theorem see_dp (hr : HR X.K B φ H S) {d : D} {n : Nat} {v : V} (h : D.pl (D.see S d) n) (r : RV X.K φ H d v) : Dp X.K H v (D.py (D.see S d)) := by
  cases d with
  | ref k =>
    simp only [D.see] at h ⊢
    split at h
    · rename_i xs e
      obtain ⟨a, vs, h1, h2, h3⟩ := hr.lstO e
      obtain ⟨b, ea, rfl⟩ := r
      rw [h1] at ea; cases ea
      cases n with
      | zero => exact h.elim
      | succ n => exact .lst (.inl (.inl h2)) (D.pls.dp (ds := xs) (n := n) h h3)
    · exact h.elim
  | scr ns =>
    obtain ⟨p, rfl, h1⟩ := r
    exact .lst h1.sql (D.pls.dp (ds := ns.map D.int) (n := 0) (D.pls_ints ns) (.ofInts (φ := φ)))
  | tq ns =>
    obtain ⟨p, rfl, h1⟩ := r
    exact .tup h1.sqt (D.pls.dp (ds := ns.map D.int) (n := 0) (D.pls_ints ns) (.ofInts (φ := φ)))
  | kt xs =>
    obtain ⟨p, vs, rfl, h1, h2⟩ := r
    cases n with
    | zero => exact h.elim
    | succ n => exact .tup h1.sqt (D.pls.dp (ds := xs) (n := n) h h2)
  | _ => exact D.pl.dp (d := _) h r
/-- scalars -/
def D.scal : D → D → Bool
  | .non, .non => true
  | .non, .int _ => true
  | .int _, .non => true
  | .non, .bl _ => true
  | .bl _, .non => true
  | .non, .str _ => true
  | .str _, .non => true
  | .int _, .int _ => true
  | .bl _, .bl _ => true
  | .str _, .str _ => true
  | .int _, .str _ => true
  | .str _, .int _ => true
  | .bl _, .str _ => true
  | .str _, .bl _ => true
  | _, _ => false
def D.seq : D → D → Bool
  | .non, .non => true
  | .int i, .int j => decide (i = j)
  | .bl i, .bl j => decide (i = j)
  | .str i, .str j => decide (i = j)
  | _, _ => false
theorem D.scal_ok {K : PySem.W.Frag} {φ : Ph} {H : Hp} {d e : D} {x y : V} (h : D.scal d e = true) (r1 : RV K φ H d x) (r2 : RV K φ H e y) : L2.scal x y = true ∧ decide (x = y) = D.seq d e := by
  unfold D.scal at h
  split at h <;> first | (cases h; done) | (cases r1; cases r2; exact ⟨rfl, by simp [D.seq]⟩)
/-- ==, != -/
def oEq (neg : Bool) : QO := fun d e S Q => Br (D.scal d e) (Q (.bl (if neg then !D.seq d e else D.seq d e)) S)
  (Need (D.pl (D.see S d) 40 ∧ D.pl (D.see S e) 40) (Q (.bl (if neg then !D.eqd (D.see S d) (D.see S e) else D.eqd (D.see S d) (D.see S e))) S))
theorem oo_eq (hu : X.A.units + 64 < cLine) : OpR X (compareOp .Eq) (upR X.K B (oEq false)) := OpR.imp (op_eq.or (op_eqD hu)) fun x y H Q ⟨φ, S, d, e, Q', hr, r1, r2, q, k⟩ => by
  cases h : D.scal d e with
  | true =>
    have q := q.t h
    obtain ⟨h1, h2⟩ := D.scal_ok h r1 r2
    exact .inl ⟨h1, by rw [h2]; exact k.here (d := D.bl _) hr rfl q⟩
  | false =>
    obtain ⟨⟨h1, h2⟩, q⟩ := q.f h
    exact .inr ⟨_, _, see_dp hr h1 r1, see_dp hr h2 r2, h1.shaped, h2.shaped, by rw [h1.eqv h2]; exact k.here (d := D.bl _) hr rfl q⟩
theorem oo_ne (hu : X.A.units + 64 < cLine) : OpR X (compareOp .NotEq) (upR X.K B (oEq true)) := OpR.imp (op_ne.or (op_neD hu)) fun x y H Q ⟨φ, S, d, e, Q', hr, r1, r2, q, k⟩ => by
  cases h : D.scal d e with
  | true =>
    have q := q.t h
    obtain ⟨h1, h2⟩ := D.scal_ok h r1 r2
    exact .inl ⟨h1, by rw [h2]; exact k.here (d := D.bl _) hr rfl q⟩
  | false =>
    obtain ⟨⟨h1, h2⟩, q⟩ := q.f h
    exact .inr ⟨_, _, see_dp hr h1 r1, see_dp hr h2 r2, h1.shaped, h2.shaped, by rw [h1.eqv h2]; exact k.here (d := D.bl _) hr rfl q⟩

/-! ### in -/
/-- flat data -/
def D.flat : D → Bool
  | .non => true
  | .bl _ => true
  | .int _ => true
  | .str _ => true
  | _ => false
def D.feq : D → D → Bool
  | .non, .non => true
  | .bl a, .bl b => a == b
  | .bl p, .int z => (if p then 1 else 0) == z
  | .int z, .bl p => z == (if p then 1 else 0)
  | .int a, .int b => a == b
  | .str a, .str b => a == b
  | _, _ => false
theorem D.flat_ok {K : PySem.W.Frag} {φ : Ph} {H : Hp} {d : D} {x : V} (h : D.flat d = true) (r : RV K φ H d x) : flatV x = true := by
  cases d <;> first | (cases h; done) | (cases r; rfl)
theorem D.feq_ok {K : PySem.W.Frag} {φ : Ph} {H : Hp} {d e : D} {x y : V} (h : D.flat d = true) (h' : D.flat e = true) (r : RV K φ H d x) (r' : RV K φ H e y) : eqV x y = D.feq d e := by
  cases d <;> first | (cases h; done) | (cases e <;> first | (cases h'; done) | (cases r; cases r'; rfl))
theorem flats_ok {K : PySem.W.Frag} {φ : Ph} {H : Hp} : ∀ {ds : List D} {vs : List V}, ds.all D.flat = true → RVs K φ H ds vs → vs.all flatV = true
  | [], _, _, r => (by cases r; rfl)
  | d :: ds, _, h, ⟨v, ws, e, r1, r2⟩ => by
    subst e
    rw [List.all_cons] at h
    rw [Bool.and_eq_true] at h
    rw [List.all_cons, D.flat_ok h.1 r1, flats_ok h.2 r2]; rfl
theorem inV_ok {K : PySem.W.Frag} {φ : Ph} {H : Hp} {d : D} {x : V} (hf : D.flat d = true) (r : RV K φ H d x) : ∀ {ds : List D} {vs : List V}, ds.all D.flat = true → RVs K φ H ds vs → inV x vs = ds.any fun e => D.feq e d
  | [], _, _, r2 => by cases r2; rfl
  | e :: ds, _, h, ⟨v, ws, ee, r1, r2⟩ => by
    subst ee
    rw [List.all_cons] at h
    rw [Bool.and_eq_true] at h
    have ih := inV_ok hf r h.2 r2
    unfold inV at ih ⊢
    rw [List.any_cons, List.any_cons, ih, D.feq_ok h.1 hf r1 r]
/-- in a list, a tuple of flat data; a sign in a text -/
def oIn (neg : Bool) : QO := fun d e S Q => match e with
  | .str z => match d with
    | .str ⟨⟨[c]⟩⟩ => Q (.bl (if neg then !decide (c ∈ z.cps.toList) else decide (c ∈ z.cps.toList))) S
    | _ => False
  | e => Opt (itemsOf S e) fun xs => Need (D.flat d = true ∧ xs.all D.flat = true) (Q (.bl (if neg then !(xs.any fun y => D.feq y d) else xs.any fun y => D.feq y d)) S)
theorem lift_in {neg : Bool} {x y : V} {H : Hp} {Q : VK} (h : upR X.K B (oIn neg) x y H Q) : rIn X.K neg x y H Q ∨ ∃ (c : Nat) (z : Str), x = .str ⟨#[c]⟩ ∧ y = .str z ∧ Q (.bl (if neg then !decide (c ∈ z.cps.toList) else decide (c ∈ z.cps.toList))) H := by
  obtain ⟨φ, S, d, e, Q', hr, r1, r2, q, k⟩ := h
  unfold oIn at q
  split at q
  · split at q
    · exact .inr ⟨_, _, r1, r2, k.here (d := D.bl _) hr rfl q⟩
    · exact q.elim
  · obtain ⟨xs, h1, ⟨h2, h3⟩, q⟩ := q.get
    obtain ⟨p, vs, rfl, h4, h5⟩ := hr.items h1 r2
    exact .inl ⟨p, vs, rfl, h4, D.flat_ok h2 r1, flats_ok h3 h5, by rw [inV_ok h2 r1 h3 h5]; exact k.here (d := D.bl _) hr rfl q⟩
theorem oo_in : OpR X (compareOp .In) (upR X.K B (oIn false)) := OpR.imp (op_in_seq.or op_in_sign) fun _ _ _ _ => lift_in
theorem oo_notin : OpR X (compareOp .NotIn) (upR X.K B (oIn true)) := OpR.imp (op_notIn_seq.or op_notIn_sign) fun _ _ _ _ => lift_in
/-- in a list of plain data of any depth -/
def oInD (neg : Bool) : QO := fun d e S Q => Opt (lsOf S e) fun xs => Need (D.pl d 39 ∧ D.pls xs 39) (Q (.bl (if neg then !(xs.any fun y => D.eqd y d) else xs.any fun y => D.eqd y d)) S)
theorem any_py {d : D} {n : Nat} (h : D.pl d n) : ∀ {xs : List D}, D.pls xs n → ((D.pys xs).any fun z => PyData.eqv z (D.py d)) = xs.any fun y => D.eqd y d
  | [], _ => rfl
  | x :: xs, g => by
    show (PyData.eqv (D.py x) (D.py d) || (D.pys xs).any _) = _
    rw [D.pl.eqv g.1 h, any_py h g.2]; rfl
theorem lift_inD {neg : Bool} {x y : V} {H : Hp} {Q : VK} (h : upR X.K B (oInD neg) x y H Q) : ∃ d ds, Dp X.K H x d ∧ Dp X.K H y (.list ds) ∧ SeqAt.shaped d = true ∧ SeqAt.shaped (.list ds) = true ∧ Q (.bl (if neg then !(ds.any fun z => PyData.eqv z d) else ds.any fun z => PyData.eqv z d)) H := by
  obtain ⟨φ, S, d, e, Q', hr, r1, r2, q, k⟩ := h
  obtain ⟨xs, h1, ⟨h2, h3⟩, q⟩ := Opt.get q
  obtain ⟨p, vs, rfl, h4, h5⟩ := hr.ls h1 r2
  refine ⟨D.py d, D.pys xs, h2.dp r1, .lst (.inl (.inl h4)) (h3.dp h5), h2.shaped, D.pl.shaped (d := .lst xs) (n := 40) h3, ?_⟩
  rw [any_py h2 h3]
  exact k.here (d := D.bl _) hr rfl q
theorem oo_inD (hu : X.A.units + 65 < cLine) : OpR X (compareOp .In) (upR X.K B (oInD false)) := OpR.imp (op_inD hu) fun _ _ _ _ => lift_inD
end

/-! ### tests -/
section
variable {X : Cx} {B : Bs} {a b c : Expr} {qa qb qc : QE} {ta tb : QT} {pos : Pos} {rest : List Expr}
/-- truth -/
def qTruth (q : QE) : QT := fun s S Q => q s S fun d S1 => match d with
  | .bl b => Q b S1
  | .non => Q false S1
  | .int i => Q (i != 0) S1
  | .str x => Need (x.length ≤ sizeLine) (Q ((x.length : Int) != 0) S1)
  | d => Opt (itemsOf S1 d) fun xs => Q (!xs.isEmpty) S1
theorem RVs.isEmpty {K : PySem.W.Frag} {φ : Ph} {H : Hp} {ds : List D} {vs : List V} (r : RVs K φ H ds vs) : vs.isEmpty = ds.isEmpty := by
  cases ds with
  | nil => cases r; rfl
  | cons d ds => obtain ⟨v, ws, rfl, _⟩ := r; rfl
theorem lt_truth (ha : LE X B a qa) (he : ∀ whole, isTrue a X.env whole = (do let v ← whole; standAt a.pos; holding [v] (truthy v)) := by intro _; rfl) : LT X B a (qTruth qa) := PT.imp (pt_truth ha he) fun σ H Q ⟨φ, s, S, Q', hr, ev, q, k⟩ => by
  refine ⟨φ, s, S, _, hr, ev, q, fun φ1 d S1 v H1 e1 hr1 r1 q1 => ?_⟩
  split at q1
  · cases r1; exact ⟨_, rfl, k _ _ _ _ _ e1 hr1 rfl q1⟩
  · cases r1; exact ⟨_, rfl, k _ _ _ _ _ e1 hr1 rfl q1⟩
  · cases r1; exact ⟨_, rfl, k _ _ _ _ _ e1 hr1 rfl q1⟩
  · cases r1; exact ⟨_, ⟨q1.c, rfl⟩, k _ _ _ _ _ e1 hr1 rfl q1.q⟩
  · obtain ⟨xs, h0, q1⟩ := q1.get
    obtain ⟨p, vs, rfl, h1, h2⟩ := hr1.items h0 r1
    rcases h1 with h1 | h1
    · exact ⟨_, .inl ⟨vs, h1, rfl⟩, k _ _ _ _ _ e1 hr1 (by rw [h2.isEmpty]) q1⟩
    · exact ⟨_, .inr (.inl ⟨vs, h1, rfl⟩), k _ _ _ _ _ e1 hr1 (by rw [h2.isEmpty]) q1⟩
def qNot (t : QT) : QT := fun s S Q => t s S fun c S1 => Q (!c) S1
theorem lt_not (ha : LT X B a ta) : LT X B (.UnaryOp .Not a pos) (qNot ta) := PT.imp (pt_not ha) fun σ H Q ⟨φ, s, S, Q', hr, ev, q, k⟩ =>
  ⟨φ, s, S, _, hr, ev, q, fun φ1 d S1 v H1 e1 hr1 r1 q1 => k _ _ _ _ _ e1 hr1 (by rw [r1]) q1⟩
def qAnd (t u : QT) : QT := fun s S Q => t s S fun c S1 => Br c (u s S1 Q) (Q false S1)
def qOr (t u : QT) : QT := fun s S Q => t s S fun c S1 => Br c (Q true S1) (u s S1 Q)
theorem lw_and (ha : LT X B a ta) (hb : LW X B (.BoolOp .And (b :: rest) pos) tb) : LW X B (.BoolOp .And (a :: b :: rest) pos) (qAnd ta tb) := PW.imp (pw_and ha hb) fun σ H Q ⟨φ, s, S, Q', hr, ev, q, k⟩ =>
  ⟨φ, s, S, _, hr, ev, q, fun φ1 d S1 v H1 e1 hr1 r1 q1 => by
    cases r1
    cases d with
    | true => exact ⟨φ1, s, S1, Q', hr1, ev.mono e1, q1.t rfl, k.ext e1⟩
    | false => exact k _ _ _ _ _ e1 hr1 rfl (q1.f rfl)⟩
theorem lw_or (ha : LT X B a ta) (hb : LW X B (.BoolOp .Or (b :: rest) pos) tb) : LW X B (.BoolOp .Or (a :: b :: rest) pos) (qOr ta tb) := PW.imp (pw_or ha hb) fun σ H Q ⟨φ, s, S, Q', hr, ev, q, k⟩ =>
  ⟨φ, s, S, _, hr, ev, q, fun φ1 d S1 v H1 e1 hr1 r1 q1 => by
    cases r1
    cases d with
    | false => exact ⟨φ1, s, S1, Q', hr1, ev.mono e1, q1.f rfl, k.ext e1⟩
    | true => exact k _ _ _ _ _ e1 hr1 rfl (q1.t rfl)⟩
theorem lw_and1 (ha : LT X B a ta) : LW X B (.BoolOp .And [a] pos) ta := pw_and1 ha
theorem lw_or1 (ha : LT X B a ta) : LW X B (.BoolOp .Or [a] pos) ta := pw_or1 ha
theorem LW.t {q : QT} (h : LW X B a q) : LT X B a q := PW.pt h
/-- values of bools -/
def qAndV (qa qb : QE) : QE := fun s S Q => qa s S fun d S1 => match d with
  | .bl c => Br c (qb s S1 Q) (Q (.bl false) S1)
  | _ => False
def qNotV (qa : QE) : QE := fun s S Q => qa s S fun d S1 => match d with
  | .bl c => Q (.bl (!c)) S1
  | _ => False
theorem le_one {op} (h : LE X B a qa) : LE X B (.BoolOp op [a] pos) qa := pe_one h
theorem le_and (ha : LE X B a qa) (hb : LE X B (.BoolOp .And (b :: rest) pos) qb) : LE X B (.BoolOp .And (a :: b :: rest) pos) (qAndV qa qb) := PE.imp (pe_and ha hb) fun σ H Q ⟨φ, s, S, Q', hr, ev, q, k⟩ =>
  ⟨φ, s, S, _, hr, ev, q, fun φ1 d S1 v H1 e1 hr1 r1 q1 => by
    split at q1
    · rename_i c
      cases r1
      refine ⟨c, rfl, ?_⟩
      cases c with
      | true => exact ⟨φ1, s, S1, Q', hr1, ev.mono e1, q1.t rfl, k.ext e1⟩
      | false => exact k _ (.bl false) _ _ _ e1 hr1 rfl (q1.f rfl)
    · exact q1.elim⟩
theorem le_not (ha : LE X B a qa) : LE X B (.UnaryOp .Not a pos) (qNotV qa) := PE.imp (pe_not ha) fun σ H Q ⟨φ, s, S, Q', hr, ev, q, k⟩ =>
  ⟨φ, s, S, _, hr, ev, q, fun φ1 d S1 v H1 e1 hr1 r1 q1 => by
    split at q1
    · cases r1; exact ⟨_, rfl, k _ (.bl _) _ _ _ e1 hr1 rfl q1⟩
    · exact q1.elim⟩
def qIf (t : QT) (qa qb : QE) : QE := fun s S Q => t s S fun c S1 => Br c (qa s S1 Q) (qb s S1 Q)
theorem le_if (hc : LT X B c ta) (ha : LE X B a qa) (hb : LE X B b qb) : LE X B (.IfExp c a b pos) (qIf ta qa qb) := PE.imp (pe_ifExp hc ha hb) fun σ H Q ⟨φ, s, S, Q', hr, ev, q, k⟩ =>
  ⟨φ, s, S, _, hr, ev, q, fun φ1 d S1 v H1 e1 hr1 r1 q1 => by
    cases r1
    cases d with
    | false => exact ⟨φ1, s, S1, Q', hr1, ev.mono e1, q1.f rfl, k.ext e1⟩
    | true => exact ⟨φ1, s, S1, Q', hr1, ev.mono e1, q1.t rfl, k.ext e1⟩⟩
/-- - a -/
def qNeg (qa : QE) : QE := fun s S Q => qa s S fun d S1 => match d with
  | .int i => Q (.int (-i)) S1
  | _ => False
theorem le_neg (ha : LE X B a qa) : LE X B (.UnaryOp .USub a pos) (qNeg qa) := PE.imp (pe_un un_neg ha) fun σ H Q ⟨φ, s, S, Q', hr, ev, q, k⟩ =>
  ⟨φ, s, S, _, hr, ev, q, fun φ1 d S1 v H1 e1 hr1 r1 q1 => by
    split at q1
    · cases r1; exact ⟨_, rfl, k _ (.int _) _ _ _ e1 hr1 rfl q1⟩
    · exact q1.elim⟩
end

/-! ### argument lists, displays -/
def lenLe {α : Type} : Nat → List α → Bool
  | _, [] => true
  | 0, _ :: _ => false
  | n + 1, _ :: r => lenLe n r
theorem lenLe_ok {α : Type} : ∀ {n : Nat} {l : List α}, lenLe n l = true → l.length ≤ n
  | _, [], _ => Nat.zero_le _
  | 0, _ :: _, h => by cases h
  | n + 1, _ :: r, h => Nat.succ_le_succ (lenLe_ok (n := n) (l := r) h)
theorem lenLe_line {α : Type} {l : List α} (h : lenLe 1000 l = true) : l.length ≤ sizeLine := Nat.le_trans (lenLe_ok h) (by decide)
section
variable {X : Cx} {B : Bs} {e : Expr} {es : List Expr} {qe : QE} {q : QA} {pos : Pos}
def qNil : QA := fun _ S Q => Q [] S
def qCons (qe : QE) (qr : QA) : QA := fun s S Q => qe s S fun d S1 => qr s S1 fun ds S2 => Q (d :: ds) S2
theorem la_nil : LA X B [] qNil := PA.imp pa_nil fun σ H Q ⟨φ, s, S, Q', hr, ev, q, k⟩ => k _ [] _ _ _ Ext.refl hr rfl q
theorem la_cons (ha : LE X B e qe) (hr : LA X B es q) (hs : starEach (e :: es) X.env = (false, eval e X.env) :: starEach es X.env := by rfl) : LA X B (e :: es) (qCons qe q) := PA.imp (pa_cons ha hr hs) fun σ H Q ⟨φ, s, S, Q', hr, ev, q, k⟩ =>
  ⟨φ, s, S, _, hr, ev, q, fun φ1 d S1 v H1 e1 hr1 r1 q1 => ⟨φ1, s, S1, _, hr1, ev.mono e1, q1, fun φ2 ds S2 vs H2 e2 hr2 r2 q2 =>
    k _ (d :: ds) _ _ _ (e1.trans e2) hr2 ⟨v, vs, rfl, r1.mono e2, r2⟩ q2⟩⟩
def qTup (q : QA) : QE := fun s S Q => q s S fun ds S1 => Br (lenLe 1000 ds) (Q (.tup ds) S1) False
def qLst (q : QA) : QE := fun s S Q => q s S fun ds S1 => Br (lenLe 1000 ds) (Q (.lst ds) S1) False
def qLstM (q : QA) : QE := fun s S Q => q s S fun ds S1 => Br (lenLe 1000 ds) (Q (.ref S1.length) (S1 ++ [.lst ds])) False
theorem Br.get {c : Bool} {p : Prop} (h : Br c p False) : c = true ∧ p := by cases c with
  | true => exact ⟨rfl, h⟩
  | false => exact h.elim
theorem le_tup {x1} (h : LA X B es q) : LE X B (.Tuple es x1 pos) (qTup q) := PE.imp (pe_tup h) fun σ H Q ⟨φ, s, S, Q', hr, ev, q, k⟩ =>
  ⟨φ, s, S, _, hr, ev, q, fun φ1 ds S1 vs H1 e1 hr1 r1 q1 => ⟨by rw [r1.len]; exact lenLe_line q1.get.1, fun p hp => (k.ext e1).tup hr1 hp r1 q1.get.2⟩⟩
theorem le_lst (h : LA X B es q) : LE X B (.List es pos) (qLst q) := PE.imp (pe_lst h) fun σ H Q ⟨φ, s, S, Q', hr, ev, q, k⟩ =>
  ⟨φ, s, S, _, hr, ev, q, fun φ1 ds S1 vs H1 e1 hr1 r1 q1 => ⟨by rw [r1.len]; exact lenLe_line q1.get.1, fun p hp => (k.ext e1).lst hr1 hp r1 q1.get.2⟩⟩
theorem le_lstM (h : LA X B es q) : LE X B (.List es pos) (qLstM q) := PE.imp (pe_lst h) fun σ H Q ⟨φ, s, S, Q', hr, ev, q, k⟩ =>
  ⟨φ, s, S, _, hr, ev, q, fun φ1 ds S1 vs H1 e1 hr1 r1 q1 => ⟨by rw [r1.len]; exact lenLe_line q1.get.1, fun p hp => (k.ext e1).lstM hr1 hp r1 q1.get.2⟩⟩
end

/-! ### subscripts -/
section
variable {X : Cx} {B : Bs} {a b : Expr} {qa qb : QE} {pos : Pos}
theorem IxR.imp {r r' : R2} (h : IxR X r) (i : ∀ x y H Q, r' x y H Q → r x y H Q) : IxR X r' :=
  fun value slice pins s σ H x y v u Q I rx ry q hs => h value slice pins s σ H x y v u Q I rx ry (i _ _ _ _ q) hs
theorem RVs.atI {K : PySem.W.Frag} {φ : Ph} {H : Hp} {ds : List D} {vs : List V} {i : Int} {d : D} (r : RVs K φ H ds vs) (h : L2.atI ds i = some d) : ∃ v, L2.atI vs i = some v ∧ RV K φ H d v := by
  unfold L2.atI at h ⊢
  rw [r.len]
  cases e : ixN ds.length i with
  | none => (rw [e] at h; cases h)
  | some j =>
    rw [e] at h
    obtain ⟨v, h1, h2⟩ := r.get (show ds[j]? = some d from h)
    exact ⟨v, h1, h2⟩
/-- a[i] of a list, a tuple, a text -/
def oIx : QO := fun d e S Q => match e with
  | .int i => match d with
    | .str z => Need (z.length ≤ sizeLine) (Opt (L2.atI z.cps.toList i) fun c => Q (.str ⟨#[c]⟩) S)
    | d => Opt (itemsOf S d) fun xs => Opt (L2.atI xs i) fun v => Q v S
  | _ => False
theorem ox_seq : IxR X (upR X.K B oIx) := IxR.imp ix_seq fun x y H Q ⟨φ, S, d, e, Q', hr, r1, r2, q, k⟩ => by
  unfold oIx at q
  split at q
  · cases r2
    split at q
    · cases r1
      obtain ⟨h1, q⟩ := q
      obtain ⟨c, h2, q⟩ := q.get
      exact .inr (.inr ⟨_, _, c, rfl, rfl, h1, h2, k.here (d := D.str _) hr rfl q⟩)
    · obtain ⟨xs, h1, q⟩ := q.get
      obtain ⟨v, h2, q⟩ := q.get
      obtain ⟨p, vs, rfl, h3, h4⟩ := hr.items h1 r1
      obtain ⟨w', h5, h6⟩ := h4.atI h2
      rcases h3 with h3 | h3
      · exact .inl ⟨p, vs, _, w', rfl, rfl, h3, h5, k.here hr h6 q⟩
      · exact .inr (.inl ⟨p, vs, _, w', rfl, rfl, h3, h5, k.here hr h6 q⟩)
  · exact q.elim
theorem le_ix {ro : QO} (hr : IxR X (upR X.K B ro)) (ha : LE X B a qa) (hb : LE X B b qb) (hs : PlainIx b := by intro _ _; rfl) : LE X B (.Subscript a b pos) (qOp ro qa qb) := PE.imp (pe_ix hr ha hb hs) fun _ _ _ => up_op
/-- slices -/
def cutD (xs : List D) (lo hi : Option Int) : List D := (xs.drop (HT.sIx xs.length 0 lo)).take (HT.sIx xs.length xs.length hi - HT.sIx xs.length 0 lo)
theorem RVs.cut {K : PySem.W.Frag} {φ : Ph} {H : Hp} {ds : List D} {vs : List V} (lo hi : Option Int) (r : RVs K φ H ds vs) : RVs K φ H (cutD ds lo hi) (cutV vs lo hi) := by
  unfold cutD cutV
  rw [r.len]
  exact (r.drop _).take _
abbrev QP := Sl → List O → (Option Int → List O → Prop) → Prop
abbrev rP : Ph → Hp → Option Int → Option Int → Prop := fun _ _ a b => a = b
abbrev LP (X : Cx) (B : Bs) (e : Option Expr) (q : QP) : Prop := PO X e (UP X.K B rP q)
theorem PO.imp {e : Option Expr} {t t' : TO} (h : PO X e t) (i : ∀ σ H Q, t' σ H Q → t σ H Q) : PO X e t' := ⟨fun pins s σ H Q I w => h.run pins s σ H Q I (i _ _ _ w)⟩
def qNoP : QP := fun _ S Q => Q none S
def qSomeP (q : QE) : QP := fun s S Q => q s S fun d S1 => match d with
  | .int i => Q (some i) S1
  | _ => False
theorem lp_none : LP X B none qNoP := PO.imp po_none fun σ H Q ⟨φ, s, S, Q', hr, ev, q, k⟩ => k.here hr rfl q
theorem lp_some (h : LE X B a qa) : LP X B (some a) (qSomeP qa) := PO.imp (po_some h) fun σ H Q ⟨φ, s, S, Q', hr, ev, q, k⟩ =>
  ⟨φ, s, S, _, hr, ev, q, fun φ1 d S1 v H1 e1 hr1 r1 q1 => by
    split at q1
    · cases r1; exact ⟨_, rfl, k _ _ _ _ _ e1 hr1 rfl q1⟩
    · exact q1.elim⟩
def oSl (d : D) (lo hi : Option Int) (S : List O) (Q : D → List O → Prop) : Prop := match d with
  | .str z => Need (z.length ≤ sizeLine) (Q (.str (cutS z lo hi)) S)
  | .tup xs => Q (.tup (cutD xs lo hi)) S
  | .scr ns => Q (.lst (cutD (ns.map D.int) lo hi)) S
  | d => Opt (lsOf S d) fun xs => Q (.lst (cutD xs lo hi)) S
def qSl (qa : QE) (ql qh : QP) : QE := fun s S Q => qa s S fun d S1 => ql s S1 fun lo S2 => qh s S2 fun hi S3 => oSl d lo hi S3 Q
def upSl (K : PySem.W.Frag) (B : Bs) : V → Option Int → Option Int → Hp → VK → Prop := fun x lo hi H Q => ∃ φ S d Q', HR K B φ H S ∧ RV K φ H d x ∧ oSl d lo hi S Q' ∧ Kont K B (rD K) φ H Q' Q
theorem SlR.imp {r r' : V → Option Int → Option Int → Hp → VK → Prop} (h : SlR X r) (i : ∀ x lo hi H Q, r' x lo hi H Q → r x lo hi H Q) : SlR X r' :=
  fun pins s σ H x v vl vu lo hi sl Q I rx hs pl pu q => h pins s σ H x v vl vu lo hi sl Q I rx hs pl pu (i _ _ _ _ _ q)
theorem cutD_whole (xs : List D) (lo hi : Option Int) (h : HT.sIx xs.length 0 lo = 0 ∧ HT.sIx xs.length xs.length hi = xs.length) : cutD xs lo hi = xs := by
  unfold cutD
  rw [h.1, h.2]
  simp
end
section
variable {X : Cx} {B : Bs} {a b e : Expr} {es : List Expr} {qa qb qe : QE} {pos p2 : Pos} {lo hi : Option Expr} {ql qh : QP} {q : QA}
theorem sl_any : SlR X (upSl X.K B) := SlR.imp (sl_list.or (sl_tupA.or sl_str)) fun x lo hi H Q ⟨φ, S, d, Q', hr, r, q, k⟩ => by
  unfold oSl at q
  split at q
  · cases r
    exact .inr (.inr ⟨_, rfl, q.c, k.here (d := D.str _) hr rfl q.q⟩)
  · rename_i xs
    obtain ⟨p, vs, rfl, h1, h2⟩ := r
    refine .inr (.inl ⟨p, vs, rfl, h1, fun hw => ?_, fun hw p' hp => k.tup hr hp (h2.cut lo hi) q⟩)
    rw [h2.len] at hw
    rw [cutD_whole xs lo hi hw] at q
    exact k.here (d := D.tup xs) hr (show RV _ _ _ _ _ from ⟨p, vs, rfl, h1, h2⟩) q
  · obtain ⟨p, rfl, h1⟩ := r
    exact .inl ⟨p, _, rfl, h1.sql, fun p hp => k.lst hr hp (RVs.ofInts.cut lo hi) q⟩
  · obtain ⟨xs, h0, q⟩ := q.get
    obtain ⟨a', vs, rfl, h1, h2⟩ := hr.ls h0 r
    exact .inl ⟨a', vs, rfl, .inl (.inl h1), fun p hp => k.lst hr hp (h2.cut lo hi) q⟩
theorem le_slice (ha : LE X B e qa) (hl : LP X B lo ql) (hu : LP X B hi qh) : LE X B (.Subscript e (.Slice lo hi none p2) pos) (qSl qa ql qh) := PE.imp (pe_slice sl_any ha hl hu) fun σ H Q ⟨φ, s, S, Q', hr, ev, q, k⟩ =>
  ⟨φ, s, S, _, hr, ev, q, fun φ1 d S1 v H1 e1 hr1 r1 q1 => ⟨φ1, s, S1, _, hr1, ev.mono e1, q1, fun φ2 lo' S2 lo2 H2 e2 hr2 r2 q2 => ⟨φ2, s, S2, _, hr2, ev.mono (e1.trans e2), q2, fun φ3 hi' S3 hi2 H3 e3 hr3 r3 q3 => by
    cases r2
    cases r3
    exact ⟨φ3, S3, d, Q', hr3, r1.mono (e2.trans e3), q3, k.ext (e1.trans (e2.trans e3))⟩⟩⟩⟩
end
end LC

set_option Elab.async false
set_option linter.all false
set_option maxRecDepth 100000
set_option maxHeartbeats 5000000
/-! LD3: calls of built-ins, methods of built-in types. -/
namespace LC
open PySem PySem.Spec
open PyProof.Rows L2

section
variable {X : Cx} {B : Bs} {a b e : Expr} {es : List Expr} {qa qb qe : QE} {pos p2 : Pos} {q : QA}
/-! ### calls of built-ins -/
abbrev QC := List D → List O → (D → List O → Prop) → Prop
def upC (K : PySem.W.Frag) (B : Bs) (rc : QC) : List V → Hp → VK → Prop := fun vs H Q => ∃ φ S ds Q', HR K B φ H S ∧ RVs K φ H ds vs ∧ rc ds S Q' ∧ Kont K B (rD K) φ H Q' Q
theorem CallR.imp {f : Value} {r r' : List V → Hp → VK → Prop} (h : CallR X f r) (i : ∀ x H Q, r' x H Q → r x H Q) : CallR X f r' :=
  fun pins s σ H x v Q I rx q => h pins s σ H x v Q I rx (i _ _ _ q)
def qCB (rc : QC) (q : QA) : QE := fun s S Q => q s S fun ds S1 => rc ds S1 Q
theorem up_cb {rc : QC} {q : QA} {σ : L2.St} {H : Hp} {Q : VK} (h : UP X.K B (rD X.K) (qCB rc q) σ H Q) : tCB (upC X.K B rc) (UP X.K B (rDs X.K) q) σ H Q := by
  obtain ⟨φ, s, S, Q', hr, ev, q, k⟩ := h
  exact ⟨φ, s, S, _, hr, ev, q, fun φ1 d S1 v H1 e1 hr1 r1 q1 => ⟨φ1, S1, d, Q', hr1, r1, q1, k.ext e1⟩⟩
theorem le_callB {x : Str} {p : Pos} {id : String} {rc : QC} (hc : CallR X (.builtin id) (upC X.K B rc)) (hg : Gl X x) (hm : X.mg x = none) (hv : bootBuiltins x = some (.builtin id)) (ha : LA X B (e :: es) q) (hn : x ≠ "__name__" := by decide) (hdb : (x == ("__debug__" : Str)) = false := by decide)
    (he : starEach (e :: es) X.env = (false, eval e X.env) :: starEach es X.env := by rfl) (hpl : (backTo pos (starEach es X.env)).any (·.1) = false := by rfl) : LE X B (.Call (.Name x p) (e :: es) [] pos) (qCB rc q) :=
  PE.imp (pe_callB hc hg hm hv ha hn hdb he hpl) fun _ _ _ => up_cb
theorem le_callTy {x : Str} {p : Pos} {T : String} {rc : QC} (hc : CallR X (.type T) (upC X.K B rc)) (hg : Gl X x) (hm : X.mg x = none) (hv : bootBuiltins x = some (.type T)) (ha : LA X B (e :: es) q) (hn : x ≠ "__name__" := by decide) (hdb : (x == ("__debug__" : Str)) = false := by decide)
    (he : starEach (e :: es) X.env = (false, eval e X.env) :: starEach es X.env := by rfl) (hpl : (backTo pos (starEach es X.env)).any (·.1) = false := by rfl) : LE X B (.Call (.Name x p) (e :: es) [] pos) (qCB rc q) :=
  PE.imp (pe_callTy hc hg hm hv ha hn hdb he hpl) fun _ _ _ => up_cb
/-- a built-in's name as a value -/
theorem le_ty {x : Str} {p : Pos} {T : String} (hg : Gl X x) (hm : X.mg x = none) (hv : bootBuiltins x = some (.type T)) (hn : x ≠ "__name__" := by decide) (hd : (x == ("__debug__" : Str)) = false := by decide) : LE X B (.Name x p) (qC (.ty T)) :=
  le_c (pe_bltn (v := .ty T) hg hm hv rfl hn hd) fun _ _ => rfl
/-- len -/
def rcLen : QC := fun ds S Q => match ds with
  | [.str z] => Need (z.length ≤ sizeLine) (Q (.int z.length) S)
  | [d] => Opt (itemsOf S d) fun xs => Q (.int xs.length) S
  | _ => False
theorem cc_len : CallR X (.builtin "len") (upC X.K B rcLen) := CallR.imp (call_len_str.or call_len_seq) fun x H Q ⟨φ, S, ds, Q', hr, r, q, k⟩ => by
  unfold rcLen at q
  split at q
  · obtain ⟨v, w', rfl, r1, r2⟩ := r
    cases r1; cases r2
    exact .inl ⟨_, rfl, q.c, k.here (d := D.int _) hr rfl q.q⟩
  · obtain ⟨v, w', rfl, r1, r2⟩ := r
    cases r2
    obtain ⟨xs, h1, q⟩ := q.get
    obtain ⟨p, vs, rfl, h2, h3⟩ := hr.items h1 r1
    exact .inr ⟨p, vs, rfl, h2, by rw [h3.len]; exact k.here (d := D.int _) hr rfl q⟩
  · exact q.elim
/-- the bools of a list -/
def asBs : List D → Option (List Bool)
  | [] => some []
  | .bl b :: r => (asBs r).map (b :: ·)
  | _ => none
theorem asBs_ok {K : PySem.W.Frag} {φ : Ph} {H : Hp} : ∀ {ds : List D} {vs : List V} {bs : List Bool}, asBs ds = some bs → RVs K φ H ds vs → vs = bs.map V.bl
  | [], _, _, h, r => by cases h; cases r; rfl
  | d :: ds, _, bs, h, ⟨v, ws, e, r1, r2⟩ => by
    subst e
    cases d <;> first | (cases h; done) | skip
    cases e2 : asBs ds with
    | none => simp [asBs, e2] at h
    | some cs =>
      simp [asBs, e2] at h
      subst h
      cases r1
      rw [asBs_ok e2 r2]; rfl
theorem asBs_map {α : Type} (f : α → Bool) (l : List α) : asBs (l.map fun x => D.bl (f x)) = some (l.map f) := by
  induction l with
  | nil => rfl
  | cons x r ih => simp [asBs, ih]
def rcAll (any : Bool) : QC := fun ds S Q => match ds with
  | [d] => Opt (lsOf S d) fun xs => Opt (asBs xs) fun bs => Q (.bl (if any then bs.any id else bs.all id)) S
  | _ => False
theorem lift_all {any : Bool} {x : List V} {H : Hp} {Q : VK} (h : upC X.K B (rcAll any) x H Q) : ∃ (a : Addr) (bs : List Bool), x = [V.ref a] ∧ SqL X.K H a (bs.map V.bl) ∧ Q (.bl (if any then bs.any id else bs.all id)) H := by
  obtain ⟨φ, S, ds, Q', hr, r, q, k⟩ := h
  unfold rcAll at q
  split at q
  · obtain ⟨v, w', rfl, r1, r2⟩ := r
    cases r2
    obtain ⟨xs, h1, q⟩ := q.get
    obtain ⟨bs, h2, q⟩ := q.get
    obtain ⟨a', vs, rfl, h3, h4⟩ := hr.ls h1 r1
    rw [asBs_ok h2 h4] at h3
    exact ⟨a', bs, rfl, .inl (.inl h3), k.here (d := D.bl _) hr rfl q⟩
  · exact q.elim
theorem cc_all (hc : X.calm = true) : CallR X (.builtin "all") (upC X.K B (rcAll false)) := CallR.imp (cr_all hc) fun _ _ _ => lift_all
/-- list(..), tuple(..) of a list, a tuple -/
def rcList : QC := fun ds S Q => match ds with
  | [d] => Opt (itemsOf S d) fun xs => Q (.lst xs) S
  | _ => False
theorem cc_list : CallR X (.type "list") (upC X.K B rcList) := CallR.imp call_list_of fun x H Q ⟨φ, S, ds, Q', hr, r, q, k⟩ => by
  unfold rcList at q
  split at q
  · obtain ⟨v, w', rfl, r1, r2⟩ := r
    cases r2
    obtain ⟨xs, h1, q⟩ := q.get
    obtain ⟨p, vs, rfl, h2, h3⟩ := hr.items h1 r1
    exact ⟨p, vs, rfl, h2, fun l hl => k.lst hr hl h3 q⟩
  · exact q.elim
def rcListM : QC := fun ds S Q => match ds with
  | [d] => Opt (itemsOf S d) fun xs => Q (.ref S.length) (S ++ [.lst xs])
  | _ => False
theorem cc_listM : CallR X (.type "list") (upC X.K B rcListM) := CallR.imp call_list_of fun x H Q ⟨φ, S, ds, Q', hr, r, q, k⟩ => by
  unfold rcListM at q
  split at q
  · obtain ⟨v, w', rfl, r1, r2⟩ := r
    cases r2
    obtain ⟨xs, h1, q⟩ := q.get
    obtain ⟨p, vs, rfl, h2, h3⟩ := hr.items h1 r1
    exact ⟨p, vs, rfl, h2, fun l hl => k.lstM hr hl h3 q⟩
  · exact q.elim
def rcTuple : QC := fun ds S Q => match ds with
  | [.tup xs] => Q (.tup xs) S
  | [.kt xs] => Q (.kt xs) S
  | [.tq ns] => Q (.tq ns) S
  | [.scr ns] => Q (.tup (ns.map D.int)) S
  | [d] => Opt (lsOf S d) fun xs => Q (.tup xs) S
  | _ => False
theorem cc_tuple : CallR X (.type "tuple") (upC X.K B rcTuple) := CallR.imp call_tuple_of fun x H Q ⟨φ, S, ds, Q', hr, r, q, k⟩ => by
  unfold rcTuple at q
  split at q
  · obtain ⟨v, w', rfl, r1, r2⟩ := r
    cases r2
    obtain ⟨p, vs, rfl, h1, h2⟩ := id r1
    exact ⟨p, vs, rfl, .inr ⟨SqT.of h1, k.here hr r1 q⟩⟩
  · obtain ⟨v, w', rfl, r1, r2⟩ := r
    cases r2
    obtain ⟨p, vs, rfl, h1, h2⟩ := id r1
    exact ⟨p, vs, rfl, .inr ⟨h1.sqt, k.here hr r1 q⟩⟩
  · obtain ⟨v, w', rfl, r1, r2⟩ := r
    cases r2
    obtain ⟨p, rfl, h1⟩ := id r1
    exact ⟨p, _, rfl, .inr ⟨h1.sqt, k.here hr r1 q⟩⟩
  · obtain ⟨v, w', rfl, r1, r2⟩ := r
    cases r2
    obtain ⟨p, rfl, h1⟩ := id r1
    exact ⟨p, _, rfl, .inl ⟨h1.sql, fun l hl => k.tup hr hl .ofInts q⟩⟩
  · obtain ⟨v, w', rfl, r1, r2⟩ := r
    cases r2
    obtain ⟨xs, h1, q⟩ := q.get
    obtain ⟨p, vs, rfl, h2, h3⟩ := hr.ls h1 r1
    exact ⟨p, vs, rfl, .inl ⟨.inl (.inl h2), fun l hl => k.tup hr hl h3 q⟩⟩
  · exact q.elim
/-- min, max of two numbers -/
def rcMax2 (mx : Bool) : QC := fun ds S Q => match ds with
  | [.int i, .int j] => Q (.int (if mx then (if j > i then j else i) else (if j < i then j else i))) S
  | _ => False
theorem cc_max2 (hc : X.calm = true) : CallR X (.builtin "max") (upC X.K B (rcMax2 true)) := CallR.imp (call_max2 hc) fun x H Q ⟨φ, S, ds, Q', hr, r, q, k⟩ => by
  unfold rcMax2 at q
  split at q
  · obtain ⟨v, w', rfl, r1, v2, w2, rfl, r2, r3⟩ := r
    cases r1; cases r2; cases r3
    exact ⟨_, _, rfl, k.here (d := D.int _) hr rfl q⟩
  · exact q.elim
theorem cc_min2 (hc : X.calm = true) : CallR X (.builtin "min") (upC X.K B (rcMax2 false)) := CallR.imp (call_min2 hc) fun x H Q ⟨φ, S, ds, Q', hr, r, q, k⟩ => by
  unfold rcMax2 at q
  split at q
  · obtain ⟨v, w', rfl, r1, v2, w2, rfl, r2, r3⟩ := r
    cases r1; cases r2; cases r3
    exact ⟨_, _, rfl, k.here (d := D.int _) hr rfl q⟩
  · exact q.elim
/-- sum of whole numbers -/
def asIs : List D → Option (List Int)
  | [] => some []
  | .int b :: r => (asIs r).map (b :: ·)
  | _ => none
theorem asIs_ok {K : PySem.W.Frag} {φ : Ph} {H : Hp} : ∀ {ds : List D} {vs : List V} {bs : List Int}, asIs ds = some bs → RVs K φ H ds vs → vs = bs.map V.int
  | [], _, _, h, r => by cases h; cases r; rfl
  | d :: ds, _, bs, h, ⟨v, ws, e, r1, r2⟩ => by
    subst e
    cases d <;> first | (cases h; done) | skip
    cases e2 : asIs ds with
    | none => simp [asIs, e2] at h
    | some cs =>
      simp [asIs, e2] at h
      subst h
      cases r1
      rw [asIs_ok e2 r2]; rfl
theorem asIs_map {α : Type} (f : α → Int) (l : List α) : asIs (l.map fun x => D.int (f x)) = some (l.map f) := by
  induction l with
  | nil => rfl
  | cons x r ih => simp [asIs, ih]
theorem asIs_ints (l : List Int) : asIs (l.map D.int) = some l := by
  induction l with
  | nil => rfl
  | cons x r ih => simp [asIs, ih]
/-! ### isinstance -/
/-- what the written part says of an own class for isinstance -/
structure IsC (K : PySem.W.Frag) (C : Addr) : Prop where
  cl : Cls K C
  ha : PySem.W.findIn K (.ref C) "__class__" =
    some (some (.builtin "object.__class__"))
  hn : PySem.W.specialIn K (.builtin "object.__class__") "__get__" =
    some (some (.builtin "getset_descriptor.__get__"))
  htk : PySem.W.takesIn K (.builtin "object.__class__") =
    some true
  hm : PySem.W.mroIn K C (.type "object") =
    some true
def tyOf (S : List O) : D → Option Value
  | .non => some (.type "NoneType")
  | .bl _ => some (.type "bool")
  | .int _ => some (.type "int")
  | .str _ => some (.type "str")
  | .tup _ => some (.type "tuple")
  | .lst _ => some (.type "list")
  | .scr _ => some (.type "list")
  | .tq _ => some (.type "tuple")
  | .kt _ => some (.type "tuple")
  | .dK _ _ => some (.type "dict")
  | .dT _ _ => some (.type "dict")
  | .ins C _ _ => some (.ref C)
  | .ref k => match S[k]? with
    | some (.lst _) => some (.type "list")
    | some .drw => some (.type "list")
    | some (.dK _) => some (.type "dict")
    | some (.dT _) => some (.type "dict")
    | some (.ins C _) => some (.ref C)
    | _ => none
  | _ => none
theorem tyOf_ok {φ : Ph} {H : Hp} {S : List O} {d : D} {v : V} {t : Value} (hr : HR X.K B φ H S) (h : tyOf S d = some t) (hc : ∀ C, t = .ref C → IsC X.K C) (r : RV X.K φ H d v) : TyX X.K H v t := by
  cases d with
  | non => cases h; cases r; exact .base .non
  | bl _ => cases h; cases r; exact .base (.bl _)
  | int _ => cases h; cases r; exact .base (.int _)
  | str _ => cases h; cases r; exact .base (.str _)
  | tup xs =>
    cases h
    obtain ⟨p, vs, rfl, h1, h2⟩ := r
    exact .base (.tup h1)
  | lst xs => cases h; obtain ⟨p, vs, rfl, _, h1, h2⟩ := r; exact .base (.lst h1)
  | scr ns =>
    cases h
    obtain ⟨p, rfl, h1⟩ := r
    rcases h1 with ⟨_, h1 | ⟨o, h1⟩⟩ | ⟨o, its, n, h1, h3, _⟩
    · exact .base (.lst h1)
    · exact .base (.frz h1)
    · exact .kList h1 h3
  | tq ns => cases h; obtain ⟨p, rfl, _, o, h1, _⟩ := r; exact .fTuple h1
  | kt xs => cases h; obtain ⟨p, vs, rfl, ⟨o, its, n, h1, h3, _⟩, _⟩ := r; exact .kTuple h1 h3
  | dK ks xs => cases h; obtain ⟨p, vs, rfl, _, h1, _⟩ := r; exact .base (.dK h1)
  | dT ks xs => cases h; obtain ⟨p, vs, rfl, _, h1, _⟩ := r; exact .base (.dT h1)
  | ins C ns xs =>
    cases h
    obtain ⟨p, dx, vs, rfl, _, h1, _⟩ := r
    have c := hc C rfl
    exact .base (.ins h1 c.cl c.ha c.hn c.htk c.hm)
  | ref k =>
    obtain ⟨a, ea, rfl⟩ := r
    simp only [tyOf] at h
    cases e : S[k]? with
    | none => rw [e] at h; cases h
    | some o =>
      rw [e] at h
      obtain ⟨b, eb, ho⟩ := hr.rel.ob k _ e
      rw [ea] at eb; cases eb
      cases o with
      | lst xs => cases h; obtain ⟨vs, h1, h2⟩ := ho; exact .base (.lst h1)
      | drw => cases h; obtain ⟨l, vs, _, h1, h2⟩ := ho; exact .base (.lst h1)
      | dK l => cases h; obtain ⟨vs, h1, h2⟩ := ho; exact .base (.dK h1)
      | dT l => cases h; obtain ⟨vs, h1, h2⟩ := ho; exact .base (.dT h1)
      | ins C fs =>
        cases h
        obtain ⟨dx, gs, h1, h2⟩ := ho
        have c := hc C rfl
        exact .base (.ins h1 c.cl c.ha c.hn c.htk c.hm)
      | non => cases h
  | ty _ => cases h
  | adr _ => cases h
  | bad => cases h
def clsOf : D → Option Value
  | .ty n => some (.type n)
  | .adr C => some (.ref C)
  | _ => none
theorem clsOf_ok {K : PySem.W.Frag} {φ : Ph} {H : Hp} : ∀ {c : D} {v : V} {u : Value}, clsOf c = some u → RV K φ H c v → ClsV v u
  | .ty n, _, _, h, r => by cases h; cases r; exact .ty n
  | .adr C, _, _, h, r => by cases h; cases r; exact .own C
inductive rcIsi (K : PySem.W.Frag) : List D → List O → (D → List O → Prop) → Prop
  | mk {d c : D} {S : List O} {Q : D → List O → Prop} {t u : Value} {b : Bool} (h1 : tyOf S d = some t) (h2 : clsOf c = some u) (h3 : ∀ C, t = .ref C → IsC K C) (h4 : PySem.W.kitOne K t u = some b) (q : Q (.bl b) S) : rcIsi K [d, c] S Q
theorem cc_isi : CallR X (.builtin "isinstance") (upC X.K B (rcIsi X.K)) := CallR.imp call_isi fun x H Q ⟨φ, S, ds, Q', hr, r, q, k⟩ => by
  obtain ⟨h1, h2, h3, h4, q⟩ := q
  obtain ⟨v, w', rfl, r1, v2, w2, rfl, r2, r3⟩ := r
  cases r3
  exact ⟨v, v2, _, _, _, rfl, clsOf_ok h2 r2, tyOf_ok hr h1 h3 r1, h4, k.here (d := D.bl _) hr rfl q⟩

/-! ### methods -/
abbrev QM := D → List D → List O → (D → List O → Prop) → Prop
def upM (K : PySem.W.Frag) (B : Bs) (rm : QM) : V → List V → Hp → VK → Prop := fun x vs H Q => ∃ φ S d ds Q', HR K B φ H S ∧ RV K φ H d x ∧ RVs K φ H ds vs ∧ rm d ds S Q' ∧ Kont K B (rD K) φ H Q' Q
theorem MtR.imp {id : String} {r r' : V → List V → Hp → VK → Prop} (h : MtR X id r) (i : ∀ x xs H Q, r' x xs H Q → r x xs H Q) : MtR X id r' :=
  fun pins s σ H x xs v us Q I rx rs q => h pins s σ H x xs v us Q I rx rs (i _ _ _ _ q)
/-- a value of the built-in type T -/
def tyM (T : String) (d : D) (S : List O) : Prop := match d with
  | .str _ => T = "str"
  | .int _ => T = "int"
  | .lst _ => T = "list"
  | .scr _ => T = "list"
  | .dK _ _ => T = "dict"
  | .dT _ _ => T = "dict"
  | .ref k => match S[k]? with
    | some (.lst _) => T = "list"
    | some .drw => T = "list"
    | some (.dK _) => T = "dict"
    | some (.dT _) => T = "dict"
    | _ => False
  | _ => False
theorem tyM_ok {T : String} {φ : Ph} {H : Hp} {S : List O} {d : D} {v : V} (hr : HR X.K B φ H S) (h : tyM T d S) (r : RV X.K φ H d v) : tyV X.K T v H := by
  cases d with
  | str x => cases r; exact h
  | int x => cases r; exact h
  | lst xs => obtain ⟨p, vs, rfl, _, h1, _⟩ := r; exact .inl ⟨h, vs, .inl (.inl h1)⟩
  | scr ns => obtain ⟨p, rfl, h1⟩ := r; exact .inl ⟨h, _, h1.sql⟩
  | dK ks xs => obtain ⟨p, vs, rfl, _, h1, _⟩ := r; exact .inr (.inr (.inl ⟨h, .inl ⟨_, h1⟩⟩))
  | dT ks xs => obtain ⟨p, vs, rfl, _, h1, _⟩ := r; exact .inr (.inr (.inl ⟨h, .inr ⟨_, h1⟩⟩))
  | ref k =>
    obtain ⟨a, ea, rfl⟩ := r
    simp only [tyM] at h
    cases e : S[k]? with
    | none => rw [e] at h; exact h.elim
    | some o =>
      rw [e] at h
      obtain ⟨b, eb, ho⟩ := hr.rel.ob k _ e
      rw [ea] at eb; cases eb
      cases o with
      | lst xs => obtain ⟨vs, h1, h2⟩ := ho; exact .inl ⟨h, vs, .inl (.inl h1)⟩
      | drw => obtain ⟨l, vs, _, h1, h2⟩ := ho; exact .inl ⟨h, vs, .inl (.inl h1)⟩
      | dK l => obtain ⟨vs, h1, h2⟩ := ho; exact .inr (.inr (.inl ⟨h, .inl ⟨vs, h1⟩⟩))
      | dT l => obtain ⟨vs, h1, h2⟩ := ho; exact .inr (.inr (.inl ⟨h, .inr ⟨vs, h1⟩⟩))
      | ins C fs => exact h.elim
      | non => exact h.elim
  | _ => exact h.elim
def qBM (T : String) (rm : QM) (qo : QE) (q : QA) : QE := fun s S Q => qo s S fun d S1 => Need (tyM T d S1) (q s S1 fun ds S2 => rm d ds S2 Q)
theorem le_bm {T id : String} {rm : QM} {o : Expr} {qo : QE} {name : Str} {apos cpos : Pos} (pa : PlainAttrs T) (slot : Slot T name id) (hty : typeOf (.builtin id) = pure (.type "method_descriptor")) (hm : MtR X id (upM X.K B rm)) (ho : LE X B o qo) (ha : LA X B (e :: es) q)
    (hB0 :
      attributeBase o name X.env (eval o X.env) = eval o X.env := by rfl)
    (hF0 : ((backTo cpos (starEach (e :: es) X.env)).all (fun x => !x.1) && (backToKw cpos (keywordEach [] X.env)).all (fun x => x.1.isSome)  &&
      decide ((e :: es).length + ([] : List Keyword).length + (if ([] : List Keyword).isEmpty then 0 else 1) < 30)) = true := by rfl)
    (hL0 : (apos.endLine == cpos.line) = true := by rfl)
    (hs : starEach (e :: es) X.env = (false, eval e X.env) :: starEach es X.env := by rfl) (hP0 : (backTo cpos (starEach es X.env)).any (·.1) = false := by rfl) :
    LE X B (.Call (.Attribute o name apos) (e :: es) [] cpos) (qBM T rm qo q) := PE.imp (pe_bm pa slot hty hm ho ha hB0 hF0 hL0 hs hP0) fun σ H Q ⟨φ, s, S, Q', hr, ev, q, k⟩ =>
  ⟨φ, s, S, _, hr, ev, q, fun φ1 d S1 v H1 e1 hr1 r1 q1 => ⟨tyM_ok hr1 q1.c r1, ⟨φ1, s, S1, _, hr1, ev.mono e1, q1.q, fun φ2 ds S2 vs H2 e2 hr2 r2 q2 => ⟨φ2, S2, d, ds, Q', hr2, r1.mono e2, r2, q2, k.ext (e1.trans e2)⟩⟩⟩⟩
/-- a list of one's own -/
def lsM (S : List O) (d : D) : Option (Nat × List D) := match d with
  | .ref k => match S[k]? with
    | some (.lst xs) => some (k, xs)
    | _ => none
  | _ => none
theorem HR.lsW {φ : Ph} {H : Hp} {S : List O} {d : D} {k : Nat} {xs : List D} (hr : HR X.K B φ H S) (h : lsM S d = some (k, xs)) {v : V} (r : RV X.K φ H d v) : d = .ref k ∧ S[k]? = some (.lst xs) ∧ ∃ a vs, v = .ref a ∧ φ.own[k]? = some a ∧ H a = some (.lst vs) ∧ RVs X.K φ H xs vs := by
  unfold lsM at h
  split at h
  · split at h
    · rename_i ys e
      cases h
      obtain ⟨a, ea, rfl⟩ := r
      obtain ⟨b, vs, eb, h1, h2⟩ := hr.lstO e
      rw [ea] at eb; cases eb
      exact ⟨rfl, e, a, vs, rfl, ea, h1, h2⟩
    · cases h
  · cases h
/-- append -/
def rmAppend : QM := fun d ds S Q => match ds with
  | [x] => Opt (lsM S d) fun p => Need (p.2.length < sizeLine) (Q .non (S.set p.1 (.lst (p.2 ++ [x]))))
  | _ => False
theorem mm_append : MtR X "list.append" (upM X.K B rmAppend) := MtR.imp mt_append fun x xs H Q ⟨φ, S, d, ds, Q', hr, r, rs, q, k⟩ => by
  unfold rmAppend at q
  split at q
  · obtain ⟨v, w', rfl, r1, r2⟩ := rs
    cases r2
    obtain ⟨⟨kk, ys⟩, h1, h2, q2⟩ := q.get; clear q
    obtain ⟨rfl, hS, a, vs, rfl, ea, h3, h4⟩ := hr.lsW h1 r
    exact ⟨a, vs, v, rfl, rfl, h3, by rw [h4.len]; exact h2, k.write (x := O.lst ys) (y := O.lst _) (d := D.non) hr hS rfl ea (fun e => ⟨_, upd_same, (RVs.app (es := [_]) (ws := [v]) h4 ⟨v, [], rfl, r1, rfl⟩).mono e⟩) (fun _ _ => rfl) q2⟩
  · exact q.elim
/-- insert -/
def rmInsert : QM := fun d ds S Q => match ds with
  | [.int i, x] => Opt (lsM S d) fun p => Need (p.2.length < sizeLine ∧ 0 ≤ i ∧ i < 2 ^ 63) (Q .non (S.set p.1 (.lst (p.2.take i.toNat ++ [x] ++ p.2.drop i.toNat))))
  | _ => False
theorem mm_insert : MtR X "list.insert" (upM X.K B rmInsert) := MtR.imp mt_insert fun x xs H Q ⟨φ, S, d, ds, Q', hr, r, rs, q, k⟩ => by
  unfold rmInsert at q
  split at q
  · obtain ⟨v1, w1, rfl, r1, v, w', rfl, r2, r3⟩ := rs
    cases r3
    cases r1
    obtain ⟨⟨kk, ys⟩, h1, ⟨h2, h0, hb⟩, q2⟩ := q.get; clear q
    obtain ⟨rfl, hS, a, vs, rfl, ea, h3, h4⟩ := hr.lsW h1 r
    refine ⟨a, vs, _, v, rfl, rfl, h3, by rw [h4.len]; exact h2, h0, hb, ?_⟩
    exact k.write (x := O.lst ys) (y := O.lst _) (d := D.non) hr hS rfl ea (fun e => ⟨_, upd_same, (((h4.take _).app (es := [_]) (ws := [v]) ⟨v, [], rfl, r2, rfl⟩).app (h4.drop _)).mono e⟩) (fun _ _ => rfl) q2
  · exact q.elim
theorem RVs.ofStrs {K : PySem.W.Frag} {φ : Ph} {H : Hp} : ∀ {ns : List Str}, RVs K φ H (ns.map D.str) (ns.map V.str)
  | [] => rfl
  | n :: _ => ⟨.str n, _, rfl, rfl, RVs.ofStrs⟩
def rmSplit : QM := fun d ds S Q => match d, ds with
  | .str a, [.str b] => Need ((b.length == 0) = false ∧ a.length + 2 ≤ sizeLine) (Q (.lst ((Txt.split a b).map D.str)) S)
  | _, _ => False
theorem mm_split : MtR X "str.split" (upM X.K B rmSplit) := MtR.imp mt_split fun x xs H Q ⟨φ, S, d, ds, Q', hr, r, rs, q, k⟩ => by
  unfold rmSplit at q
  split at q
  · obtain ⟨v, w', rfl, r1, r2⟩ := rs
    cases r2; cases r1; cases r
    exact ⟨_, _, rfl, rfl, q.c.1, q.c.2, fun p hp => k.lst hr hp .ofStrs q.q⟩
  · exact q.elim
end
end LC

set_option Elab.async false
set_option linter.all false
set_option maxRecDepth 100000
set_option maxHeartbeats 5000000
/-! LD4: statements, targets, calls of own defs, fields, instances. -/
namespace LC
open PySem PySem.Spec
open PyProof.Rows L2

/-! ### statements -/
section
variable {X : Cx} {B : Bs} {st : Stmt} {rest body : List Stmt} {qs qt : QS} {e : Expr} {qe : QE} {pos : Pos}
theorem EV.set {φ : Ph} {H : Hp} {s : Sl} {σ : L2.St} {i : Nat} {d : D} {v : V} (ev : EV X.K φ H s σ) (r : RV X.K φ H d v) : EV X.K φ H (s.set i (some d)) (σ.set i (some v)) := by
  refine ⟨by simp [ev.len], fun j x q => ?_⟩
  by_cases hj : j = i
  · subst hj
    have hl : j < s.length := by
      have := (List.getElem?_eq_some_iff.mp q).1
      simpa using this
    rw [List.getElem?_set_self hl] at q
    cases q
    exact ⟨v, by rw [List.getElem?_set_self (by rw [ev.len]; exact hl)], r⟩
  · rw [List.getElem?_set_ne (Ne.symm hj)] at q
    obtain ⟨u, h1, h2⟩ := ev.at' j x q
    exact ⟨u, by rw [List.getElem?_set_ne (Ne.symm hj)]; exact h1, h2⟩
theorem EV.wipe {φ : Ph} {H : Hp} {s : Sl} {σ : L2.St} {i : Nat} (ev : EV X.K φ H s σ) : EV X.K φ H (s.set i none) (σ.set i none) := by
  refine ⟨by simp [ev.len], fun j x q => ?_⟩
  by_cases hj : j = i
  · subst hj
    have hl : j < s.length := by
      have := (List.getElem?_eq_some_iff.mp q).1
      simpa using this
    rw [List.getElem?_set_self hl] at q
    cases q
  · rw [List.getElem?_set_ne (Ne.symm hj)] at q
    obtain ⟨u, h1, h2⟩ := ev.at' j x q
    exact ⟨u, by rw [List.getElem?_set_ne (Ne.symm hj)]; exact h1, h2⟩
def qNext : QS := fun D s S => D.nx s S
def qSeq (a b : QS) : QS := fun D s S => a { D with nx := b D } s S
theorem lss_nil : LSs X B [] qNext := PSs.imp pss_nil fun D σ H ⟨φ, s, S, D', hr, ev, q, ek⟩ => ek.nx _ _ _ _ _ Ext.refl hr ev q
theorem lss_cons (h1 : LS X B st qs) (h2 : LSs X B rest qt) : LSs X B (st :: rest) (qSeq qs qt) := PSs.imp (pss_cons h1 h2) fun D σ H ⟨φ, s, S, D', hr, ev, q, ek⟩ =>
  ⟨φ, s, S, { D' with nx := qt D' }, hr, ev, q, ek.seq (fun φ' H' S' s' σ' ek' hr' ev' q' => ⟨φ', s', S', D', hr', ev', q', ek'⟩) rfl rfl rfl⟩
/-- dead slots are forgotten -/
def wipeD (s : Sl) : List Nat → Sl
  | [] => s
  | v :: vs => (wipeD s vs).set v none
theorem EV.forget {φ : Ph} {H : Hp} {s : Sl} {σ : L2.St} {i : Nat} (ev : EV X.K φ H s σ) : EV X.K φ H (s.set i none) σ := by
  refine ⟨by simp [ev.len], fun j x q => ?_⟩
  by_cases hj : j = i
  · subst hj
    have hl : j < s.length := by
      have := (List.getElem?_eq_some_iff.mp q).1
      simpa using this
    rw [List.getElem?_set_self hl] at q
    cases q
  · rw [List.getElem?_set_ne (Ne.symm hj)] at q
    exact ev.at' j x q
theorem EV.forgets {φ : Ph} {H : Hp} {s : Sl} {σ : L2.St} (ev : EV X.K φ H s σ) : ∀ {vs : List Nat}, EV X.K φ H (wipeD s vs) σ
  | [] => ev
  | _ :: _ => (EV.forgets ev).forget
def qSeqW (vs : List Nat) (a b : QS) : QS := fun D s S => a { D with nx := fun s' S' => b D (wipeD s' vs) S' } s S
theorem lss_consW (vs : List Nat) (h1 : LS X B st qs) (h2 : LSs X B rest qt) : LSs X B (st :: rest) (qSeqW vs qs qt) := PSs.imp (pss_cons h1 h2) fun D σ H ⟨φ, s, S, D', hr, ev, q, ek⟩ =>
  ⟨φ, s, S, { D' with nx := fun s' S' => qt D' (wipeD s' vs) S' }, hr, ev, q, ek.seq (fun φ' H' S' s' σ' ek' hr' ev' q' => ⟨φ', _, S', D', hr', ev'.forgets, q', ek'⟩) rfl rfl rfl⟩
def qDrop (qe : QE) : QS := fun D s S => qe s S fun _ S1 => D.nx s S1
theorem ls_expr (he : LE X B e qe) (hs : swapsWith e none pos.line X.env = pure false := by rfl) : LS X B (.Expr e pos) (qDrop qe) := PS.imp (ps_expr he hs) fun D σ H ⟨φ, s, S, D', hr, ev, q, ek⟩ =>
  ⟨φ, s, S, _, hr, ev, q, fun φ1 d S1 v H1 e1 hr1 r1 q1 => ek.nx _ _ _ _ _ e1 hr1 (ev.mono e1) q1⟩
def qRet (qe : QE) : QS := fun D s S => qe s S D.rt
theorem ls_ret (he : LE X B e qe) : LS X B (.Return (some e) pos) (qRet qe) := PS.imp (ps_ret he) fun D σ H ⟨φ, s, S, D', hr, ev, q, ek⟩ =>
  ⟨φ, s, S, _, hr, ev, q, fun φ1 d S1 v H1 e1 hr1 r1 q1 => ek.rt _ _ _ _ _ e1 hr1 r1 q1⟩
def qIfS (t : QT) (a b : QS) : QS := fun D s S => t s S fun c S1 => Br c (a D s S1) (b D s S1)
theorem ls_if {c : Expr} {a b : List Stmt} {t : QT} {qa qb : QS} (hc : LT X B c t) (ha : LSs X B a qa) (hb : LSs X B b qb) : LS X B (.If c a b pos) (qIfS t qa qb) := PS.imp (ps_if hc ha hb) fun D σ H ⟨φ, s, S, D', hr, ev, q, ek⟩ =>
  ⟨φ, s, S, _, hr, ev, q, fun φ1 d S1 v H1 e1 hr1 r1 q1 => by
    cases r1
    cases d with
    | true => exact ⟨φ1, s, S1, D', hr1, ev.mono e1, q1.t rfl, ek.ext e1⟩
    | false => exact ⟨φ1, s, S1, D', hr1, ev.mono e1, q1.f rfl, ek.ext e1⟩⟩

/-! ### targets -/
abbrev QG := D → Sl → List O → (Sl → List O → Prop) → Prop
def KontG (K : PySem.W.Frag) (B : Bs) (φ : Ph) (H : Hp) (Q' : Sl → List O → Prop) (Q : L2.St → Hp → Prop) : Prop :=
  ∀ φ' s' S' σ' H', Ext K φ φ' H H' → HR K B φ' H' S' → EV K φ' H' s' σ' → Q' s' S' → Q σ' H'
def UG (K : PySem.W.Frag) (B : Bs) (g : QG) : TG := fun v σ H Q => ∃ φ d s S Q', HR K B φ H S ∧ EV K φ H s σ ∧ RV K φ H d v ∧ g d s S Q' ∧ KontG K B φ H Q' Q
abbrev LG (X : Cx) (B : Bs) (e : Expr) (g : QG) : Prop := PG X e (UG X.K B g)
theorem PG.imp {e : Expr} {t t' : TG} (h : PG X e t) (i : ∀ v σ H Q, t' v σ H Q → t v σ H Q) : PG X e t' := ⟨fun pins s σ H v u Q I r w => h.run pins s σ H v u Q I r (i _ _ _ _ w)⟩
def qgName (i : Nat) : QG := fun d s S Q => Q (s.set i (some d)) S
theorem lg_name {i : Nat} {x : Str} (hN : X.N.Nodup) (hi : X.N[i]? = some x) (hx : Loc X.env.scope x := by first | exact .inl rfl | exact .inr rfl) (hf : X.fn x = true ∨ X.env.scope.names.lookup x = some .local := by first | exact .inl rfl | exact .inr rfl | assumption) : LG X B (.Name x pos) (qgName i) :=
  PG.imp (pg_name hN hi hx hf) fun v σ H Q ⟨φ, d, s, S, Q', hr, ev, r, q, k⟩ => k _ _ _ _ _ Ext.refl hr (ev.set r) q
/-- target = e -/
def qAsg (qe : QE) (g : QG) : QS := fun D s S => qe s S fun d S1 => g d s S1 D.nx
theorem up_asg {g : QG} {D : Ends} {σ : L2.St} {H : Hp} (h : US X.K B (qAsg qe g) D σ H) : tAsg (UP X.K B (rD X.K) qe) (UG X.K B g) D σ H := by
  obtain ⟨φ, s, S, D', hr, ev, q, ek⟩ := h
  exact ⟨φ, s, S, _, hr, ev, q, fun φ1 d S1 v H1 e1 hr1 r1 q1 => ⟨φ1, d, s, S1, D'.nx, hr1, ev.mono e1, r1, q1, fun φ2 s2 S2 σ2 H2 e2 hr2 ev2 q2 => ek.nx _ _ _ _ _ (e1.trans e2) hr2 ev2 q2⟩⟩
theorem ls_asg {tg : Expr} {g : QG} (he : LE X B e qe) (hg : LG X B tg g) (hs : swapsWithSole [tg] e pos.line X.env = pure false := by rfl) (hw : swappedStores [tg] e X.env = pure none := by rfl)
    (h1 : (assignEach [tg] X.env).map (·.2) = [assign tg X.env] := by rfl) : LS X B (.Assign [tg] e pos) (qAsg qe g) := PS.imp (ps_asg he hg hs hw h1) fun _ _ _ => up_asg
def qSet (i : Nat) (qe : QE) : QS := fun D s S => qe s S fun d S1 => D.nx (s.set i (some d)) S1
theorem ls_set (i : Nat) {x : Str} {pos' : Pos} (he : LE X B e qe) (hN : X.N.Nodup) (hi : X.N[i]? = some x := by rfl) (hx : Loc X.env.scope x := by first | exact .inl rfl | exact .inr rfl) (hs : swapsWith e (some (.Name x pos')) pos.line X.env = pure false := by rfl) (hf : X.fn x = true ∨ X.env.scope.names.lookup x = some .local := by first | exact .inl rfl | exact .inr rfl | assumption) :
    LS X B (.Assign [.Name x pos'] e pos) (qSet i qe) := PS.imp (ps_set hN hi hx he hs hf) fun D σ H ⟨φ, s, S, D', hr, ev, q, ek⟩ =>
  ⟨φ, s, S, _, hr, ev, q, fun φ1 d S1 v H1 e1 hr1 r1 q1 => ek.nx _ _ _ _ _ e1 hr1 ((ev.mono e1).set r1) q1⟩
/-- o[i] = .. -/
abbrev QSt := D → D → D → List O → (List O → Prop) → Prop
def upSet (K : PySem.W.Frag) (B : Bs) (t : QSt) : TSet := fun o i v H Q => ∃ φ S do' di dv Q', HR K B φ H S ∧ RV K φ H do' o ∧ RV K φ H di i ∧ RV K φ H dv v ∧ t do' di dv S Q' ∧ ∀ φ' S' H', Ext K φ φ' H H' → HR K B φ' H' S' → Q' S' → Q H'
theorem PSet.imp {t t' : TSet} (h : PSet X t) (i : ∀ o j v H Q, t' o j v H Q → t o j v H Q) : PSet X t' := fun pins s σ H o j v ov iv u Q I r1 r2 r3 w => h pins s σ H o j v ov iv u Q I r1 r2 r3 (i _ _ _ _ _ w)
def qgSub (qo qi : QE) (t : QSt) : QG := fun d s S Q => qo s S fun o S1 => qi s S1 fun i S2 => t o i d S2 fun S3 => Q s S3
theorem lg_sub {o i : Expr} {qo qi : QE} {t : QSt} (ho : LE X B o qo) (hi : LE X B i qi) (hs : PSet X (upSet X.K B t))
    (ha : ∀ v,
      assign (.Subscript o i pos) X.env v = (do
      let v1 ← holding [v] (eval o X.env); let v2 ← holding [v, v1] (eval i X.env)
      standAt pos
      holding [v, v1, v2] (setItem v1 v2 v)
      release [v, v1, v2] []) := by intro _; rfl) : LG X B (.Subscript o i pos) (qgSub qo qi t) := PG.imp (pg_sub ho hi hs ha) fun v σ H Q ⟨φ, d, s, S, Q', hr, ev, r, q, k⟩ =>
  ⟨φ, s, S, _, hr, ev, q, fun φ1 d1 S1 v1 H1 e1 hr1 r1 q1 => ⟨φ1, s, S1, _, hr1, ev.mono e1, q1, fun φ2 d2 S2 v2 H2 e2 hr2 r2 q2 =>
    ⟨φ2, S2, d1, d2, d, _, hr2, r1.mono e2, r2, r.mono (e1.trans e2), q2, fun φ3 S3 H3 e3 hr3 q3 => k _ _ _ _ _ (e1.trans (e2.trans e3)) hr3 (ev.mono (e1.trans (e2.trans e3))) q3⟩⟩⟩
def otList : QSt := fun o i d S Q => match i with
  | .int z => Opt (lsM S o) fun p => Opt (ixN p.2.length z) fun j => Q (S.set p.1 (.lst (p.2.set j d)))
  | _ => False
theorem st_list : PSet X (upSet X.K B otList) := PSet.imp set_list fun o i v H Q ⟨φ, S, d1, d2, d3, Q', hr, r1, r2, r3, q, k⟩ => by
  unfold otList at q
  split at q
  · cases r2
    obtain ⟨⟨kk, xs⟩, h1, q1⟩ := q.get; clear q
    obtain ⟨j, h2, q2⟩ := q1.get; clear q1
    obtain ⟨rfl, hS, a, vs, rfl, ea, h3, h4⟩ := hr.lsW h1 r1
    obtain ⟨e, hr'⟩ := hr.write (o := .lst (vs.set j v)) (x := O.lst xs) (y := O.lst (xs.set j d3)) hS rfl ea fun e => ⟨_, upd_same, (RVs.set r3 j h4).mono e⟩
    exact ⟨a, vs, _, j, rfl, rfl, h3, by rw [h4.len]; exact h2, k _ _ _ e hr' q2⟩
  · exact q.elim
end

/-! ### own defs: promises over data -/
abbrev EDt := Addr → List (Str × D) → List O → Prop
abbrev SpD := List D → List O → (D → List O → Prop) → EDt → Prop
/-- an exception of the class at C with its fields -/
def XRel (K : PySem.W.Frag) (φ : Ph) (H : Hp) (C : Addr) (fs : List (Str × D)) (cls : Value) (d : Option Addr) : Prop := cls = .ref C ∧ ∃ dx gs, d = some dx ∧ H dx = some (.xd gs) ∧ RKV K φ H fs gs
def upF (K : PySem.W.Frag) (sp : SpD) : Sp := fun vs H Q E => ∃ φ ds S Q' E' T, Rel K φ H S ∧ RVs K φ H ds vs ∧ LamX.Tabs T H ∧ sp ds S Q' E' ∧ (∀ φ' d S' v H', Ext K φ φ' H H' → Rel K φ' H' S' → LamX.Tabs T H' → RV K φ' H' d v → Q' d S' → Q v H') ∧
  (∀ φ' C fs S' cls d H', Ext K φ φ' H H' → Rel K φ' H' S' → LamX.Tabs T H' → XRel K φ' H' C fs cls d → E' C fs S' → E cls d H')
/-- the wish about exceptions, with slots -/
abbrev WD := Addr → List (Str × D) → Sl → List O → Prop
def WL (K : PySem.W.Frag) (B : Bs) (W' : WD) (W : WX) : Prop := ∀ φ' C fs s S' cls d σ H', HR K B φ' H' S' → EV K φ' H' s σ → XRel K φ' H' C fs cls d → W' C fs s S' → W cls d σ H'
def W0 : WD := fun _ _ _ _ => False
theorem WL0 {X : Cx} {B : Bs} {W : WX} : WL X.K B W0 W := fun _ _ _ _ _ _ _ _ _ _ _ _ h => h.elim
section
variable {X : Cx} {B : Bs} {k : Nat} {f C : Addr} {fd : FuncData} {ps : List Str} {sp : SpD} {dds : List D} {dvs : List V} {ds : List Value} {W : WX} {W' : WD} {x m : Str} {p pos apos : Pos} {e o : Expr} {es : List Expr} {q : QA} {qo : QE}
def qCall (sp : SpD) (dds : List D) (W' : WD) (q : QA) : QE := fun s S Q => q s S fun ds S1 => sp (ds ++ dds) S1 Q fun C fs S' => W' C fs s S'
/-- data that stand for values anywhere -/
def RVc (K : PySem.W.Frag) (ds : List D) (vs : List V) : Prop := ∀ φ H, RVs K φ H ds vs
theorem RVc.nil {K : PySem.W.Frag} : RVc K [] [] := fun _ _ => rfl
theorem upF_at {φ : Ph} {H : Hp} {S : List O} {s : Sl} {σ : L2.St} {ds : List D} {vs : List V} {Q' : D → List O → Prop} {Q : VK} (hr : HR X.K B φ H S) (ev : EV X.K φ H s σ) (r : RVs X.K φ H ds vs) (wl : WL X.K B W' W)
    (h : sp ds S Q' fun C fs S' => W' C fs s S') (k : Kont X.K B (rD X.K) φ H Q' Q) : upF X.K sp vs H Q (WE W σ) :=
  ⟨φ, ds, S, Q', _, B.T, hr.rel, r, hr.tab, h, fun φ' d S' v H' e1 r1 t1 rv q => k _ _ _ _ _ e1 (hr.mono e1 r1 t1) rv q, fun φ' C fs S' cls d H' e1 r1 t1 xr q => wl _ _ _ _ _ _ _ _ _ (hr.mono e1 r1 t1) (ev.mono e1) xr q⟩
theorem le_call (F : FnOk X.prog X.w X.K X.mg X.base (L2.CX X.prog X.w) k f fd ps (upF X.K sp)) (hr : Room k X.A) (hg : Gl X x) (hm : X.mg x = some (.ref f)) (hk : PySem.W.keepIn X.K (.ref f) = true) (hb : Binds X.K fd ps ds) (hd : Vals dvs ds) (hdd : RVc X.K dds dvs) (tk : Takes X W) (wl : WL X.K B W' W)
    (ha : LA X B (e :: es) q) (hdb : (x == ("__debug__" : Str)) = false := by decide) (he : starEach (e :: es) X.env = (false, eval e X.env) :: starEach es X.env := by rfl) (hpl : (backTo pos (starEach es X.env)).any (·.1) = false := by rfl) :
    LE X B (.Call (.Name x p) (e :: es) [] pos) (qCall sp dds W' q) := PE.imp (pe_callSD F hr hg hm hk hb hd (E := WE W) (fun σ => passAt tk σ) ha hdb he hpl) fun σ H Q ⟨φ, s, S, Q', hr, ev, q, k⟩ =>
  ⟨φ, s, S, _, hr, ev, q, fun φ1 ds S1 vs H1 e1 hr1 r1 q1 => upF_at hr1 (ev.mono e1) (r1.app (hdd _ _)) wl q1 (k.ext e1)⟩
theorem RKV.lookup {K : PySem.W.Frag} {φ : Ph} {H : Hp} {m : Str} : ∀ {fs : List (Str × D)} {gs : List (Str × V)}, RKV K φ H fs gs → (match fs.lookup m with | some d => ∃ v, gs.lookup m = some v ∧ RV K φ H d v | none => gs.lookup m = none)
  | [], _, h => by cases h; rfl
  | (n, d) :: fs, _, ⟨v, r, e, h1, h2⟩ => by
    subst e
    have ih := RKV.lookup (m := m) h2
    by_cases hm : m = n
    · subst hm
      simp [List.lookup]
      exact h1
    · have hb : (m == n) = false := by simpa using hm
      simp only [List.lookup, hb]
      exact ih
theorem RKV.lookup_none {K : PySem.W.Frag} {φ : Ph} {H : Hp} {m : Str} {fs : List (Str × D)} {gs : List (Str × V)} (r : RKV K φ H fs gs) (h : fs.lookup m = none) : gs.lookup m = none := by
  have := RKV.lookup (m := m) r
  rw [h] at this
  exact this
theorem RKV.lookup_some {K : PySem.W.Frag} {φ : Ph} {H : Hp} {m : Str} {d : D} {fs : List (Str × D)} {gs : List (Str × V)} (r : RKV K φ H fs gs) (h : fs.lookup m = some d) : ∃ v, gs.lookup m = some v ∧ RV K φ H d v := by
  have := RKV.lookup (m := m) r
  rw [h] at this
  exact this
theorem RKV.len {κ : Type} {K : PySem.W.Frag} {φ : Ph} {H : Hp} : ∀ {fs : List (κ × D)} {gs : List (κ × V)}, RKV K φ H fs gs → gs.length = fs.length
  | [], _, h => by cases h; rfl
  | (n, d) :: fs, _, ⟨v, r, e, h1, h2⟩ => by subst e; simp [RKV.len h2]
/-- an instance: its class, its fields -/
def insOf (S : List O) (d : D) : Option (Addr × List (Str × D)) := match d with
  | .ins C ns xs => some (C, ns.zip xs)
  | .ref k => match S[k]? with
    | some (.ins C fs) => some (C, fs)
    | _ => none
  | _ => none
theorem HR.ins {φ : Ph} {H : Hp} {S : List O} {d : D} {C : Addr} {fs : List (Str × D)} (hr : HR X.K B φ H S) (h : insOf S d = some (C, fs)) {v : V} (r : RV X.K φ H d v) : ∃ a dx gs, v = .ref a ∧ H a = some (.ins C dx gs) ∧ RKV X.K φ H fs gs := by
  unfold insOf at h
  split at h
  · cases h
    obtain ⟨p, dx, vs, rfl, _, h1, h2, h3⟩ := r
    exact ⟨p, dx, _, rfl, h1, h3.zip h2⟩
  · split at h
    · rename_i e
      cases h
      obtain ⟨a, ea, rfl⟩ := r
      obtain ⟨b, eb, dx, gs, h1, h2⟩ := hr.rel.ob _ _ e
      rw [ea] at eb; cases eb
      exact ⟨a, dx, gs, rfl, h1, h2⟩
    · cases h
  · cases h
/-- an instance of one's own -/
def insM (S : List O) (d : D) : Option (Nat × Addr × List (Str × D)) := match d with
  | .ref k => match S[k]? with
    | some (.ins C fs) => some (k, C, fs)
    | _ => none
  | _ => none
theorem HR.insW {φ : Ph} {H : Hp} {S : List O} {d : D} {k : Nat} {C : Addr} {fs : List (Str × D)} (hr : HR X.K B φ H S) (h : insM S d = some (k, C, fs)) {v : V} (r : RV X.K φ H d v) : d = .ref k ∧ S[k]? = some (.ins C fs) ∧ ∃ a dx gs, v = .ref a ∧ φ.own[k]? = some a ∧ H a = some (.ins C dx gs) ∧ RKV X.K φ H fs gs := by
  unfold insM at h
  split at h
  · split at h
    · rename_i e
      cases h
      obtain ⟨a, ea, rfl⟩ := r
      obtain ⟨b, eb, dx, gs, h1, h2⟩ := hr.rel.ob _ _ e
      rw [ea] at eb; cases eb
      exact ⟨rfl, e, a, dx, gs, rfl, ea, h1, h2⟩
    · cases h
  · cases h
/-- o.m(..) of an instance -/
def qMeth (C : Addr) (m : Str) (sp : SpD) (dds : List D) (W' : WD) (qo : QE) (q : QA) : QE := fun s S Q => qo s S fun d S1 => Opt (insOf S1 d) fun p => Need (p.1 = C ∧ p.2.lookup m = none) (q s S1 fun ds S2 => sp (d :: (ds ++ dds)) S2 Q fun C fs S' => W' C fs s S')
theorem up_meth {σ : L2.St} {H : Hp} {Q : VK} (hdd : RVc X.K dds dvs) (wl : WL X.K B W' W) (h : UP X.K B (rD X.K) (qMeth C m sp dds W' qo q) σ H Q) : UP X.K B (rD X.K) qo σ H fun x H1 => ∃ a dx fs, x = .ref a ∧ H1 a = some (.ins C dx fs) ∧ fs.lookup m = none ∧
    UP X.K B (rDs X.K) q σ H1 fun vs H2 => upF X.K sp (x :: (vs ++ dvs)) H2 Q (WE W σ) := by
  obtain ⟨φ, s, S, Q', hr, ev, q, k⟩ := h
  refine ⟨φ, s, S, _, hr, ev, q, fun φ1 d S1 v H1 e1 hr1 r1 q1 => ?_⟩
  obtain ⟨⟨C', fs⟩, h1, ⟨h2, h3⟩, q2⟩ := Opt.get q1; clear q1
  have h2' : C' = C := h2
  subst h2'
  obtain ⟨a, dx, gs, rfl, h4, h5⟩ := hr1.ins h1 r1
  refine ⟨a, dx, gs, rfl, h4, h5.lookup_none h3, φ1, s, S1, _, hr1, ev.mono e1, q2, fun φ2 ds S2 vs H2 e2 hr2 r2 q2 => ?_⟩
  exact upF_at hr2 (ev.mono (e1.trans e2)) (show RVs X.K φ2 H2 (d :: (ds ++ dds)) (V.ref a :: (vs ++ dvs)) from ⟨_, _, rfl, r1.mono e2, r2.app (hdd _ _)⟩) wl q2 (k.ext (e1.trans e2))
end

/-! ### methods, instances -/
/-- a call of a method is read as such here -/
def McAt (X : Cx) (o : Expr) (m : Str) (es : List Expr) (apos pos : Pos) : Prop := ∃ pl : Sem Bool, eval (.Call (.Attribute o m apos) es [] pos) X.env = (do let ov ← eval o X.env; standAt apos.atName; let (f, first) ← holding [ov] (getMethod ov m pl); callWith pos f first (backTo pos (starEach es X.env)) (backToKw pos (keywordEach [] X.env)))
section
variable {X : Cx} {B : Bs} {k : Nat} {f C : Addr} {fd : FuncData} {ps : List Str} {sp : Sp} {spd : SpD} {dds : List D} {dvs : List V} {ds : List Value} {W : WX} {W' : WD} {x m : Str} {p pos apos : Pos} {e o : Expr} {es : List Expr} {q : QA} {qo : QE}
/-- o.m(..), with a wish at the slots -/
def tMtE (C : Addr) (m : Str) (sp : Sp) (dvs : List V) (E : L2.St → XK) (ta : TE) (t : TA) : TE := fun σ H Q => ta σ H fun y G => ∃ aa dd gs, y = .ref aa ∧ G aa = some (.ins C dd gs) ∧ gs.lookup m = none ∧ t σ G fun vs H2 => sp (y :: (vs ++ dvs)) H2 Q (E σ)
theorem pe_mtE {ta : TE} {t : TA} {E : L2.St → XK} (ho : PE X o ta) (c : Cls X.K C) (hm : Meth X.K C m f) (F : FnOk X.prog X.w X.K X.mg X.base (L2.CX X.prog X.w) k f fd ps sp) (rm : Room k X.A) (bd : Binds X.K fd ps ds) (vd : Vals dvs ds)
    (px : ∀ σ, PassesAt (L2.CX X.prog X.w) X σ (E σ)) (ha : PA X (e :: es) t) (mc : McAt X o m (e :: es) apos pos) (st : starEach (e :: es) X.env = (false, eval e X.env) :: starEach es X.env) (pn : (backTo pos (starEach es X.env)).any (·.1) = false) : PE X (.Call (.Attribute o m apos) (e :: es) [] pos) (tMtE C m sp dvs E ta t) := ⟨fun pins s σ H Q I h => by
  obtain ⟨pl, mc⟩ := mc
  refine PySem.W.methodCall_KW (pl := pl) (thn (ho.run pins s σ H _ I h) fun w0 s1 z => ?_) mc
  obtain ⟨y, G, J, ry, aa, dd, gs, ey, ea, lk, q⟩ := z
  subst ey
  have ew : w0 = Value.ref aa := ry
  subst ew
  refine getmeth_ok J ea c hm lk (PySem.W.callWith_K (first := [.ref aa]) (h₀ := X.base) J.ok.mod.kin hm.kp (thn (ha.run pos pins s1 σ G _ J q) fun us s2 z2 => ?_) st pn)
  obtain ⟨vs, H2, J2, r, q2⟩ := z2
  exact ⟨J2.kIn, run_fnSD (us := .ref aa :: us) (vs := .ref aa :: vs) F rm bd vd (px σ) J2 (.cons rfl r) q2⟩⟩
theorem le_meth (ho : LE X B o qo) (c : Cls X.K C) (hm : Meth X.K C m f) (F : FnOk X.prog X.w X.K X.mg X.base (L2.CX X.prog X.w) k f fd ps (upF X.K spd)) (rm : Room k X.A) (bd : Binds X.K fd ps ds) (vd : Vals dvs ds) (hdd : RVc X.K dds dvs) (tk : Takes X W) (wl : WL X.K B W' W) (ha : LA X B (e :: es) q)
    (mc : McAt X o m (e :: es) apos pos := by exact ⟨_, rfl⟩) (st : starEach (e :: es) X.env = (false, eval e X.env) :: starEach es X.env := by rfl) (pn : (backTo pos (starEach es X.env)).any (·.1) = false := by rfl) : LE X B (.Call (.Attribute o m apos) (e :: es) [] pos) (qMeth C m spd dds W' qo q) :=
  PE.imp (pe_mtE ho c hm F rm bd vd (E := WE W) (fun σ => passAt tk σ) ha mc st pn) fun _ _ _ => up_meth hdd wl
/-- C(..): a new instance, then its __init__ -/
theorem run_mk {fI : Addr} {E : L2.St → XK} {pins : List (Addr × Obj)} {σ : L2.St} {H : Hp} {s : Shared} {Q : VK} {us : List Value} {vs : List V} (M : Mk X.K C fI) (F : FnOk X.prog X.w X.K X.mg X.base (L2.CX X.prog X.w) k fI fd ps sp) (rm : Room (k + 1) X.A) (bd : Binds X.K fd ps ds) (vd : Vals dvs ds)
    (px : PassesAt (L2.CX X.prog X.w) X σ (E σ)) (I : Inv X pins σ H s) (r : Vals vs us) (h : ∀ y dy, H y = none → H dy = none → dy ≠ y → sp (.ref y :: (vs ++ dvs)) (upd (upd H dy (.own y)) y (.ins C dy [])) (fun v H2 => v = .non ∧ Q (.ref y) H2) (E σ)) :
    wpAny (model X.prog X.w) X.A (call (.ref C) us) (EP X pins σ Q) X.xe s := by
  have w := h (s.heap.objs.size + 1) s.heap.objs.size (I.hok.fresh (Nat.le_succ _)) (I.hok.fresh (Nat.le_refl _)) (Nat.ne_of_lt (Nat.lt_succ_self _))
  have J := Inv.made (C := C) I
  have r2 : Vals (V.ref (s.heap.objs.size + 1) :: (vs ++ dvs)) (Value.ref (s.heap.objs.size + 1) :: (us ++ ds)) := .cons rfl (r.append vd)
  have hl : (Value.ref (s.heap.objs.size + 1) :: us ++ ds).length = ps.length := (r2.length.symm.trans (F.len _ _ _ _ w))
  refine wpAny_call (make_map (f := fI) I.kIn M.makes M.init (beq_iff_eq.mp M.fn) (codeAny_mono (F.run _ X.stack _ _ ⟨Value.ref (s.heap.objs.size + 1) :: us, []⟩ (Value.ref (s.heap.objs.size + 1) :: (us ++ ds)) _ _ (E σ) (rm.make C us []) (J.env0.make C us []) (bd _ (Value.ref (s.heap.objs.size + 1) :: us) J.kIn hl) r2 w) fun fl s' z => ?_))
  match fl, z with
  | .error ex, z => exact px pins _ _ ex s' J z
  | .ok (.ret u), z =>
    obtain ⟨v, H', J3, rv, ev, q3⟩ := J.after z
    subst ev
    exact ⟨rv, ⟨V.ref (s.heap.objs.size + 1), H', J3, rfl, q3⟩⟩
  | .ok .next, z => exact False.elim z
  | .ok .brk, z => exact False.elim z
  | .ok .cont, z => exact False.elim z
/-! ### fields -/
/-- where the class is known -/
def qFldC (C : Addr) (qo : QE) (m : Str) : QE := fun s S Q => qo s S fun d S1 => Opt (insOf S1 d) fun p => Need (p.1 = C) (Opt (p.2.lookup m) fun v => Q v S1)
theorem le_fldC {C : Addr} (c : Cls X.K C) (na : NoAttr X.K C m) (he : LE X B o qo) (hb : attributeBase o m X.env (eval o X.env) = eval o X.env := by rfl) : LE X B (.Attribute o m pos) (qFldC C qo m) := PE.imp (pe_fld he hb) fun σ H Q ⟨φ, s, S, Q', hr, ev, q, k⟩ =>
  ⟨φ, s, S, _, hr, ev, q, fun φ1 d S1 v H1 e1 hr1 r1 q1 => by
    obtain ⟨⟨C', fs⟩, h1, h2, q2⟩ := Opt.get q1
    have h2' : C' = C := h2
    subst h2'
    obtain ⟨dv, h4, q3⟩ := q2.get
    obtain ⟨a, dx, gs, rfl, h5, h6⟩ := hr1.ins h1 r1
    obtain ⟨u, h7, h8⟩ := h6.lookup_some h4
    exact ⟨a, _, dx, gs, u, rfl, h5, c, na, h7, k _ _ _ _ _ e1 hr1 h8 q3⟩⟩
def putD (f : Str) (v : D) : List (Str × D) → List (Str × D)
  | [] => [(f, v)]
  | (g, x) :: r => if g = f then (g, v) :: r else (g, x) :: putD f v r
theorem RKV.put {K : PySem.W.Frag} {φ : Ph} {H : Hp} {f : Str} {d : D} {v : V} (r : RV K φ H d v) : ∀ {fs : List (Str × D)} {gs : List (Str × V)}, RKV K φ H fs gs → RKV K φ H (putD f d fs) (putF f v gs)
  | [], _, h => by cases h; exact ⟨v, [], rfl, r, rfl⟩
  | (g, x) :: fs, _, ⟨u, gs, e, h1, h2⟩ => by
    subst e
    show RKV K φ H (if g = f then (g, d) :: fs else (g, x) :: putD f d fs) (if g = f then (g, v) :: gs else (g, u) :: putF f v gs)
    by_cases hg : g = f
    · rw [if_pos hg, if_pos hg]; exact ⟨v, gs, rfl, r, h2⟩
    · rw [if_neg hg, if_neg hg]; exact ⟨u, _, rfl, h1, RKV.put r h2⟩
def qsFld (C : Addr) (qo qv : QE) (m : Str) : QS := fun D s S => qv s S fun dv S1 => qo s S1 fun d S2 => Opt (insM S2 d) fun p => Need (p.2.1 = C) (Br (lenLe 900 p.2.2) (D.nx s (S2.set p.1 (.ins C (putD m dv p.2.2)))) False)
theorem ls_fldC {C : Addr} {value : Expr} {qv : QE} {pos' : Pos} (c : Cls X.K C) (na : NoAttr X.K C m) (ho : LE X B o qo) (hv : LE X B value qv) (hs : swapsWith value (some (.Attribute o m pos')) pos.line X.env = pure false := by rfl) : LS X B (.Assign [.Attribute o m pos'] value pos) (qsFld C qo qv m) :=
  PS.imp (ps_fld ho hv hs) fun D σ H ⟨φ, s, S, D', hr, ev, q, ek⟩ =>
    ⟨φ, s, S, _, hr, ev, q, fun φ1 d1 S1 v1 H1 e1 hr1 r1 q1 => ⟨φ1, s, S1, _, hr1, ev.mono e1, q1, fun φ2 d2 S2 v2 H2 e2 hr2 r2 q2 => by
      obtain ⟨⟨kk, C', fs⟩, h1, h2, q3⟩ := Opt.get q2; clear q2
      obtain ⟨h3, q3⟩ := Br.get q3
      have h2' : C' = C := h2
      subst h2'
      obtain ⟨rfl, hS, a, dx, gs, rfl, ea, h5, h6⟩ := hr2.insW h1 r2
      obtain ⟨e3, hr3⟩ := hr2.write (o := .ins C' dx (putF m v1 gs)) (x := O.ins C' fs) (y := O.ins C' (putD m d1 fs)) hS rfl ea fun e3 => ⟨dx, _, upd_same, (RKV.put (r1.mono e2) h6).mono e3⟩
      exact ⟨a, C', dx, gs, rfl, h5, c, na, by rw [h6.len]; exact Nat.lt_of_le_of_lt (lenLe_ok h3) (by decide), ek.nx _ _ _ _ _ (e1.trans (e2.trans e3)) hr3 (ev.mono (e1.trans (e2.trans e3))) q3⟩⟩⟩
end
end LC

set_option Elab.async false
set_option linter.all false
set_option maxRecDepth 100000
set_option maxHeartbeats 5000000
/-! LD5: what is dropped, what no longer changes, loops. -/
namespace LC
open PySem PySem.Spec
open PyProof.Rows L2

/-! ### data that speak of numbers below n alone -/
mutual
def D.lt (n : Nat) : D → Prop
  | .ref k => k < n
  | .tup xs => D.lts n xs
  | .kt xs => D.lts n xs
  | .lst xs => D.lts n xs
  | .ins _ _ xs => D.lts n xs
  | .dK _ xs => D.lts n xs
  | .dT _ xs => D.lts n xs
  | _ => True
def D.lts (n : Nat) : List D → Prop
  | [] => True
  | d :: r => D.lt n d ∧ D.lts n r
end
theorem D.lts_mem {n : Nat} {ds : List D} : D.lts n ds ↔ ∀ d ∈ ds, D.lt n d := by
  induction ds with
  | nil => exact ⟨fun _ d h => absurd h (List.not_mem_nil), fun _ => trivial⟩
  | cons d r ih =>
    constructor
    · rintro ⟨h1, h2⟩ x hx
      rcases (List.mem_cons).mp hx with rfl | hx
      · exact h1
      · exact ih.mp h2 x hx
    · intro h
      exact ⟨h d List.mem_cons_self, ih.mpr fun x hx => h x (List.mem_cons_of_mem _ hx)⟩
theorem D.lts_map {α : Type} {f : α → D} {n : Nat} {l : List α} (h : ∀ a ∈ l, D.lt n (f a)) : D.lts n (l.map f) := D.lts_mem.mpr fun d hd => by
  obtain ⟨a, ha, rfl⟩ := List.mem_map.mp hd
  exact h a ha
theorem D.lts_ints {n : Nat} (ns : List Int) : D.lts n (ns.map D.int) := D.lts_map fun _ _ => trivial
theorem D.lts_app {n : Nat} {ds es : List D} (h : D.lts n ds) (g : D.lts n es) : D.lts n (ds ++ es) := by
  rw [D.lts_mem] at h g ⊢
  intro d hd
  rcases List.mem_append.mp hd with hd | hd
  · exact h d hd
  · exact g d hd
mutual
theorem D.lt.mono {n m : Nat} (hm : n ≤ m) : ∀ {d : D}, D.lt n d → D.lt m d
  | .ref _, h => Nat.lt_of_lt_of_le h hm
  | .tup _, h => D.lts.mono hm h
  | .kt _, h => D.lts.mono hm h
  | .lst _, h => D.lts.mono hm h
  | .ins _ _ _, h => D.lts.mono hm h
  | .dK _ _, h => D.lts.mono hm h
  | .dT _ _, h => D.lts.mono hm h
  | .non, _ => trivial
  | .bl _, _ => trivial
  | .int _, _ => trivial
  | .str _, _ => trivial
  | .ty _, _ => trivial
  | .adr _, _ => trivial
  | .scr _, _ => trivial
  | .tq _, _ => trivial
  | .bad, _ => trivial
theorem D.lts.mono {n m : Nat} (hm : n ≤ m) : ∀ {d : List D}, D.lts n d → D.lts m d
  | [], _ => trivial
  | _ :: _, h => ⟨D.lt.mono hm h.1, D.lts.mono hm h.2⟩
end
/-! ### what is numbered m and above, by value -/
section
variable (m : Nat) (S : List O)
mutual
def Rs : D → D → Prop
  | .ref k, d => d = .ref k ∧ k < m
  | .tup ys, d => ∃ xs, d = .tup xs ∧ RsL ys xs
  | .kt ys, d => ∃ xs, d = .kt xs ∧ RsL ys xs
  | .lst ys, d => (∃ xs, d = .lst xs ∧ RsL ys xs) ∨ ∃ k xs, d = .ref k ∧ m ≤ k ∧ S[k]? = some (.lst xs) ∧ RsL ys xs
  | .ins C ns ys, d => (∃ xs, d = .ins C ns xs ∧ RsL ys xs) ∨ ∃ k fs, d = .ref k ∧ m ≤ k ∧ S[k]? = some (.ins C fs) ∧ ns = fs.map (·.1) ∧ RsL ys (fs.map (·.2))
  | .dK ks ys, d => (∃ xs, d = .dK ks xs ∧ RsL ys xs) ∨ ∃ k fs, d = .ref k ∧ m ≤ k ∧ S[k]? = some (.dK fs) ∧ ks = fs.map (·.1) ∧ RsL ys (fs.map (·.2))
  | .dT ks ys, d => (∃ xs, d = .dT ks xs ∧ RsL ys xs) ∨ ∃ k fs, d = .ref k ∧ m ≤ k ∧ S[k]? = some (.dT fs) ∧ ks = fs.map (·.1) ∧ RsL ys (fs.map (·.2))
  | .non, d => d = .non
  | .bl b, d => d = .bl b
  | .int i, d => d = .int i
  | .str x, d => d = .str x
  | .ty x, d => d = .ty x
  | .adr x, d => d = .adr x
  | .scr x, d => d = .scr x
  | .tq x, d => d = .tq x
  | .bad, d => d = .bad
def RsL : List D → List D → Prop
  | [], xs => xs = []
  | y :: ys, xs => ∃ x r, xs = x :: r ∧ Rs y x ∧ RsL ys r
end
end
mutual
theorem Rs.same {m : Nat} {S : List O} : ∀ {d : D}, D.lt m d → Rs m S d d
  | .ref k, h => ⟨rfl, h⟩
  | .tup xs, h => ⟨xs, rfl, RsL.same h⟩
  | .kt xs, h => ⟨xs, rfl, RsL.same h⟩
  | .lst xs, h => .inl ⟨xs, rfl, RsL.same h⟩
  | .ins _ _ xs, h => .inl ⟨xs, rfl, RsL.same h⟩
  | .dK _ xs, h => .inl ⟨xs, rfl, RsL.same h⟩
  | .dT _ xs, h => .inl ⟨xs, rfl, RsL.same h⟩
  | .non, _ => rfl
  | .bl _, _ => rfl
  | .int _, _ => rfl
  | .str _, _ => rfl
  | .ty _, _ => rfl
  | .adr _, _ => rfl
  | .scr _, _ => rfl
  | .tq _, _ => rfl
  | .bad, _ => rfl
theorem RsL.same {m : Nat} {S : List O} : ∀ {ds : List D}, D.lts m ds → RsL m S ds ds
  | [], _ => rfl
  | d :: r, h => ⟨d, r, rfl, Rs.same h.1, RsL.same h.2⟩
end
theorem Rs.ofL {m : Nat} {S : List O} {k : Nat} {xs ys : List D} (hm : m ≤ k) (h : S[k]? = some (.lst xs)) (r : RsL m S ys xs) : Rs m S (.lst ys) (.ref k) := .inr ⟨k, xs, rfl, hm, h, r⟩
/-- a list that was one's own, handed on as it is -/
theorem Rs.ofL' {m : Nat} {S : List O} {k : Nat} {xs : List D} (hm : m ≤ k) (h : S[k]? = some (.lst xs)) (r : D.lts m xs) : Rs m S (.lst xs) (.ref k) := Rs.ofL hm h (RsL.same r)
/-- the first m numbers -/
def Ph.cut (φ : Ph) (m : Nat) : Ph := ⟨φ.hid, φ.own.take m⟩
theorem Fz.cut {φ : Ph} {m : Nat} {a : Addr} (h : Fz φ a) : Fz (φ.cut m) a := ⟨h.1, fun z => h.2 (List.mem_of_mem_take z)⟩
section
variable {K : PySem.W.Frag} {φ : Ph} {H : Hp} {S : List O}
theorem LsA.cut {m : Nat} {a : Addr} {xs : List V} (h : LsA K φ H a xs) : LsA K (φ.cut m) H a xs := h.imp (fun ⟨f, g⟩ => ⟨f.cut, g⟩) id
/-- from the m-th on: no number of the first -/
theorem Rel.above (r : Rel K φ H S) {m k : Nat} {a : Addr} (hm : m ≤ k) (h : φ.own[k]? = some a) : Fz (φ.cut m) a := by
  refine ⟨fun z => r.dj a z (List.mem_of_getElem? h), fun z => ?_⟩
  obtain ⟨j, hj⟩ := List.getElem?_of_mem z
  have hjm : j < m := by
    have := (List.getElem?_eq_some_iff.mp hj).1
    simp only [Ph.cut, List.length_take] at this; omega
  have hj' : φ.own[j]? = some a := by
    have : (φ.own.take m)[j]? = some a := hj
    rwa [List.getElem?_take_of_lt hjm] at this
  obtain ⟨l1, g1⟩ := List.getElem?_eq_some_iff.mp hj'
  obtain ⟨l2, g2⟩ := List.getElem?_eq_some_iff.mp h
  have := (List.getElem_inj r.nd).mp (g1.trans g2.symm)
  omega
mutual
theorem Rs.rv {m : Nat} (r : Rel K φ H S) : ∀ {d' d : D} {v : V}, Rs m S d' d → RV K φ H d v → RV K (φ.cut m) H d' v
  | .ref k, _, _, ⟨e, hk⟩, h => by
    subst e
    obtain ⟨a, h1, h2⟩ := h
    exact ⟨a, by show (φ.own.take m)[k]? = _; rw [List.getElem?_take_of_lt hk]; exact h1, h2⟩
  | .tup ys, _, _, ⟨xs, e, q⟩, h => by
    subst e
    obtain ⟨p, vs, h1, h2, h3⟩ := h
    exact ⟨p, vs, h1, h2, RsL.rv r q h3⟩
  | .kt ys, _, _, ⟨xs, e, q⟩, h => by
    subst e
    obtain ⟨p, vs, h1, h2, h3⟩ := h
    exact ⟨p, vs, h1, h2, RsL.rv r q h3⟩
  | .lst ys, _, _, q, h => by
    rcases q with ⟨xs, e, q⟩ | ⟨k, xs, e, hk, hS, q⟩
    · subst e
      obtain ⟨p, vs, h1, h2, h3, h4⟩ := h
      exact ⟨p, vs, h1, h2.cut, h3, RsL.rv r q h4⟩
    · subst e
      obtain ⟨a, h1, h2⟩ := h
      obtain ⟨b, g1, vs, g2, g3⟩ := r.ob k _ hS
      rw [h1] at g1; cases g1
      exact ⟨a, vs, h2, r.above hk h1, g2, RsL.rv r q g3⟩
  | .ins C ns ys, _, _, q, h => by
    rcases q with ⟨xs, e, q⟩ | ⟨k, fs, e, hk, hS, en, q⟩
    · subst e
      obtain ⟨p, dx, vs, h1, h2, h3, h4, h5⟩ := h
      exact ⟨p, dx, vs, h1, h2.cut, h3, h4.trans (RsL.len q), RsL.rv r q h5⟩
    · subst e en
      obtain ⟨a, h1, h2⟩ := h
      obtain ⟨b, g1, dx, gs, g2, g3⟩ := r.ob k _ hS
      rw [h1] at g1; cases g1
      obtain ⟨vs, e1, g4⟩ := g3.split
      subst e1
      exact ⟨a, dx, vs, h2, r.above hk h1, g2, by rw [← RsL.len q]; simp, RsL.rv r q g4⟩
  | .dK ns ys, _, _, q, h => by
    rcases q with ⟨xs, e, q⟩ | ⟨k, fs, e, hk, hS, en, q⟩
    · subst e
      obtain ⟨p, vs, h1, h2, h3, h4, h5⟩ := h
      exact ⟨p, vs, h1, h2.cut, h3, h4.trans (RsL.len q), RsL.rv r q h5⟩
    · subst e en
      obtain ⟨a, h1, h2⟩ := h
      obtain ⟨b, g1, gs, g2, g3⟩ := r.ob k _ hS
      rw [h1] at g1; cases g1
      obtain ⟨vs, e1, g4⟩ := g3.split
      subst e1
      exact ⟨a, vs, h2, r.above hk h1, g2, by rw [← RsL.len q]; simp, RsL.rv r q g4⟩
  | .dT ns ys, _, _, q, h => by
    rcases q with ⟨xs, e, q⟩ | ⟨k, fs, e, hk, hS, en, q⟩
    · subst e
      obtain ⟨p, vs, h1, h2, h3, h4, h5⟩ := h
      exact ⟨p, vs, h1, h2.cut, h3, h4.trans (RsL.len q), RsL.rv r q h5⟩
    · subst e en
      obtain ⟨a, h1, h2⟩ := h
      obtain ⟨b, g1, gs, g2, g3⟩ := r.ob k _ hS
      rw [h1] at g1; cases g1
      obtain ⟨vs, e1, g4⟩ := g3.split
      subst e1
      exact ⟨a, vs, h2, r.above hk h1, g2, by rw [← RsL.len q]; simp, RsL.rv r q g4⟩
  | .non, _, _, e, h => by cases e; exact h
  | .bl _, _, _, e, h => by cases e; exact h
  | .int _, _, _, e, h => by cases e; exact h
  | .str _, _, _, e, h => by cases e; exact h
  | .ty _, _, _, e, h => by cases e; exact h
  | .adr _, _, _, e, h => by cases e; exact h
  | .scr _, _, _, e, h => by cases e; obtain ⟨p, h1, h2⟩ := h; exact ⟨p, h1, h2.cut⟩
  | .tq _, _, _, e, h => by cases e; obtain ⟨p, h1, h2⟩ := h; exact ⟨p, h1, h2.1.cut, h2.2⟩
  | .bad, _, _, e, h => by cases e; exact h
theorem RsL.rv {m : Nat} (r : Rel K φ H S) : ∀ {ys xs : List D} {vs : List V}, RsL m S ys xs → RVs K φ H xs vs → RVs K (φ.cut m) H ys vs
  | [], _, _, e, h => by cases e; exact h
  | y :: ys, _, _, ⟨x, t, e, q1, q2⟩, h => by
    subst e
    obtain ⟨v, ws, e2, h1, h2⟩ := h
    exact ⟨v, ws, e2, Rs.rv r q1 h1, RsL.rv r q2 h2⟩
theorem RsL.len {m : Nat} {S : List O} : ∀ {ys xs : List D}, RsL m S ys xs → xs.length = ys.length
  | [], _, e => by cases e; rfl
  | y :: ys, _, ⟨x, t, e, q1, q2⟩ => by subst e; simp [RsL.len q2]
end
/-- as an object -/
def RsO (m : Nat) (S : List O) : O → O → Prop
  | .lst ys, .lst xs => RsL m S ys xs
  | .drw, .drw => True
  | .drw, .lst xs => ∃ l, RsL m S l xs ∧ DrawL l
  | .ins C fs', .ins C2 fs => C = C2 ∧ fs'.map (·.1) = fs.map (·.1) ∧ RsL m S (fs'.map (·.2)) (fs.map (·.2))
  | .dK fs', .dK fs => fs'.map (·.1) = fs.map (·.1) ∧ RsL m S (fs'.map (·.2)) (fs.map (·.2))
  | .dT fs', .dT fs => fs'.map (·.1) = fs.map (·.1) ∧ RsL m S (fs'.map (·.2)) (fs.map (·.2))
  | .non, _ => True
  | _, _ => False
def RsS (m : Nat) (S : List O) : List O → List O → Prop
  | [], l => l = []
  | o' :: r, l => ∃ o t, l = o :: t ∧ RsO m S o' o ∧ RsS m S r t
theorem RKV.join {κ : Type} : ∀ {fs : List (κ × D)} {vs : List V}, RVs K φ H (fs.map (·.2)) vs → RKV K φ H fs ((fs.map (·.1)).zip vs)
  | [], _, h => by cases h; rfl
  | p :: fs, _, ⟨v, ws, e, h1, h2⟩ => by subst e; exact ⟨v, _, rfl, h1, RKV.join h2⟩
theorem RsO.ro {m : Nat} (r : Rel K φ H S) {o' o : O} {a : Addr} (q : RsO m S o' o) (h : RO K φ H o a) : RO K (φ.cut m) H o' a := by
  cases o' with
  | lst ys => cases o <;> first | exact q.elim | (obtain ⟨vs, h1, h2⟩ := h; exact ⟨vs, h1, RsL.rv r q h2⟩)
  | drw =>
    cases o <;> first | exact q.elim | skip
    · obtain ⟨l, q1, q2⟩ := q
      obtain ⟨vs, h1, h2⟩ := h
      exact ⟨l, vs, q2, h1, RsL.rv r q1 h2⟩
    · obtain ⟨l, vs, h0, h1, h2⟩ := h
      refine ⟨l, vs, h0, h1, ?_⟩
      obtain ⟨ns, i, z, s, rfl, _⟩ := h0
      have lt : D.lts m [D.lst (ns.map D.int), D.int i, D.int z, D.int s] := ⟨D.lts_ints ns, trivial, trivial, trivial, trivial⟩
      exact RsL.rv r (RsL.same lt) h2
  | ins C fs' =>
    cases o <;> first | exact q.elim | skip
    obtain ⟨rfl, e, q⟩ := q
    obtain ⟨dx, gs, h1, h2⟩ := h
    obtain ⟨vs, e2, h3⟩ := h2.split
    subst e2
    exact ⟨dx, _, h1, by rw [← e]; exact RKV.join (RsL.rv r q h3)⟩
  | dK fs' =>
    cases o <;> first | exact q.elim | skip
    obtain ⟨e, q⟩ := q
    obtain ⟨gs, h1, h2⟩ := h
    obtain ⟨vs, e2, h3⟩ := h2.split
    subst e2
    exact ⟨_, h1, by rw [← e]; exact RKV.join (RsL.rv r q h3)⟩
  | dT fs' =>
    cases o <;> first | exact q.elim | skip
    obtain ⟨e, q⟩ := q
    obtain ⟨gs, h1, h2⟩ := h
    obtain ⟨vs, e2, h3⟩ := h2.split
    subst e2
    exact ⟨_, h1, by rw [← e]; exact RKV.join (RsL.rv r q h3)⟩
  | non => exact h.is_some
theorem RsS.len {m : Nat} : ∀ {l' l : List O}, RsS m S l' l → l'.length = l.length
  | [], _, e => by cases e; rfl
  | _ :: _, _, ⟨o, t, e, _, q⟩ => by subst e; simp [RsS.len q]
theorem RsS.get {m : Nat} : ∀ {l' l : List O} {i : Nat} {o' : O}, RsS m S l' l → l'[i]? = some o' → ∃ o, l[i]? = some o ∧ RsO m S o' o
  | [], _, _, _, _, h => by simp at h
  | x :: r, _, 0, _, ⟨o, t, e, q1, q2⟩, h => by subst e; simp at h; subst h; exact ⟨o, rfl, q1⟩
  | x :: r, _, i + 1, _, ⟨o, t, e, q1, q2⟩, h => by subst e; exact RsS.get (i := i) q2 (by simpa using h)
theorem Rel.cut {m : Nat} {S2 : List O} (r : Rel K φ H S) (hm : m ≤ S.length) (q : RsS m S S2 (S.take m)) : Rel K (φ.cut m) H S2 := by
  refine ⟨(List.take_sublist m φ.own).nodup r.nd, fun a ha z => r.dj a ha (List.mem_of_mem_take z), r.hd, ?_, fun i o h => ?_⟩
  · rw [q.len]; simp only [Ph.cut, List.length_take, r.len]
  · obtain ⟨o1, h1, h2⟩ := q.get h
    have hi : i < m := by
      have := (List.getElem?_eq_some_iff.mp h1).1
      rw [List.length_take] at this; omega
    rw [List.getElem?_take_of_lt hi] at h1
    obtain ⟨a, g1, g2⟩ := r.ob i o1 h1
    exact ⟨a, by show (φ.own.take m)[i]? = _; rw [List.getElem?_take_of_lt hi]; exact g1, RsO.ro r h2 g2⟩
theorem Ext.cut {φ' : Ph} {H' : Hp} {m : Nat} (e : Ext K φ φ' H H') (hm : φ.own.length ≤ m) : Ext K φ (φ'.cut m) H H' := ⟨e.hid, by
  obtain ⟨t, ht⟩ := e.pre
  show φ.own <+: φ'.own.take m
  rw [← ht, List.take_append, List.take_of_length_le hm]
  exact List.prefix_append _ _, e.tup, e.xd, fun a u h g n => let ⟨h1, g1⟩ := e.fz a u h g n; ⟨fun z => h1 (List.mem_of_mem_take z), g1⟩⟩
mutual
theorem RV.lt : ∀ {d : D} {v : V}, RV K φ H d v → D.lt φ.own.length d
  | .non, _, _ => trivial
  | .bl _, _, _ => trivial
  | .int _, _, _ => trivial
  | .str _, _, _ => trivial
  | .ty _, _, _ => trivial
  | .adr _, _, _ => trivial
  | .scr _, _, _ => trivial
  | .tq _, _, _ => trivial
  | .ref k, _, ⟨a, h1, h2⟩ => (List.getElem?_eq_some_iff.mp h1).1
  | .tup _, _, ⟨p, vs, h1, h2, h3⟩ => RVs.lt h3
  | .kt _, _, ⟨p, vs, h1, h2, h3⟩ => RVs.lt h3
  | .lst _, _, ⟨p, vs, h1, h2, h3, h4⟩ => RVs.lt h4
  | .ins _ _ _, _, ⟨p, dx, vs, h1, h2, h3, h4, h5⟩ => RVs.lt h5
  | .dK _ _, _, ⟨p, vs, h1, h2, h3, h4, h5⟩ => RVs.lt h5
  | .dT _ _, _, ⟨p, vs, h1, h2, h3, h4, h5⟩ => RVs.lt h5
  | .bad, _, h => h.elim
theorem RVs.lt : ∀ {ds : List D} {vs : List V}, RVs K φ H ds vs → D.lts φ.own.length ds
  | [], _, h => trivial
  | _ :: _, _, ⟨v, ws, h1, h2, h3⟩ => ⟨RV.lt h2, RVs.lt h3⟩
end
end

/-! ### dropping what was made behind the n-th -/
def RsSl (m : Nat) (S : List O) : Sl → Sl → Prop
  | [], l => l = []
  | none :: r, l => ∃ x t, l = x :: t ∧ RsSl m S r t
  | some d' :: r, l => ∃ d t, l = some d :: t ∧ Rs m S d' d ∧ RsSl m S r t
theorem RsSl.ev {X : Cx} {φ : Ph} {H : Hp} {S : List O} {m : Nat} (r : Rel X.K φ H S) : ∀ {s t : Sl} {σ : L2.St}, RsSl m S s t → EV X.K φ H t σ → EV X.K (φ.cut m) H s σ
  | [], t, σ, e, ev => by cases e; exact ⟨ev.len, fun i d h => by simp at h⟩
  | none :: s, _, σ, ⟨y, t, e, q⟩, ev => by
    subst e
    cases σ with
    | nil => have := ev.len; simp at this
    | cons x σ =>
      have ih := RsSl.ev (σ := σ) r q ⟨by have := ev.len; simpa using this, fun i d q => ev.at' (i + 1) d (by simpa using q)⟩
      refine ⟨by have := ih.len; simp [this], fun i d q => ?_⟩
      cases i with
      | zero => simp at q
      | succ i => exact ih.at' i d (by simpa using q)
  | some d' :: s, _, σ, ⟨d, t, e, q1, q⟩, ev => by
    subst e
    cases σ with
    | nil => have := ev.len; simp at this
    | cons x σ =>
      have ih := RsSl.ev (σ := σ) r q ⟨by have := ev.len; simpa using this, fun i d q => ev.at' (i + 1) d (by simpa using q)⟩
      refine ⟨by have := ih.len; simp [this], fun i z q => ?_⟩
      cases i with
      | zero =>
        have q' : d' = z := by simpa using q
        subst q'
        obtain ⟨v, e1, e2⟩ := ev.at' 0 d (by simp)
        exact ⟨v, e1, Rs.rv r q1 e2⟩
      | succ i => exact ih.at' i z (by simpa using q)
/-- P holds, or holds where all behind the m-th object is dropped -/
def Wk (n : Nat) (P : Sl → List O → Prop) (s : Sl) (S : List O) : Prop := P s S ∨ ∃ m s2 S2, n ≤ m ∧ m ≤ S.length ∧ RsSl m S s2 s ∧ RsS m S S2 (S.take m) ∧ P s2 S2
section
variable {X : Cx} {B : Bs}
theorem HR.cut {φ φ' : Ph} {H H' : Hp} {S S' S2 : List O} {m : Nat} (hr : HR X.K B φ H S) (e : Ext X.K φ φ' H H') (hr' : HR X.K B φ' H' S') (hm : S.length ≤ m) (hl : m ≤ S'.length) (l : RsS m S' S2 (S'.take m)) : Ext X.K φ (φ'.cut m) H H' ∧ HR X.K B (φ'.cut m) H' S2 := by
  have e2 : Ext X.K φ (φ'.cut m) H H' := e.cut (by rw [hr.rel.len]; exact hm)
  exact ⟨e2, hr.ext.trans e2, hr'.rel.cut hl l, hr'.tab⟩
theorem Wk.at {φ φ' : Ph} {H H' : Hp} {S S' : List O} {P : Sl → List O → Prop} {s : Sl} {σ : L2.St} (hr : HR X.K B φ H S) (e : Ext X.K φ φ' H H') (hr' : HR X.K B φ' H' S') (ev : EV X.K φ' H' s σ) (w : Wk S.length P s S') :
    ∃ φ2 s2 S2, Ext X.K φ φ2 H H' ∧ HR X.K B φ2 H' S2 ∧ EV X.K φ2 H' s2 σ ∧ P s2 S2 := by
  rcases w with w | ⟨m, s2, S2, h1, h2, h3, h4, h5⟩
  · exact ⟨φ', s, S', e, hr', ev, w⟩
  · obtain ⟨e2, hr2⟩ := hr.cut e hr' h1 h2 h4
    exact ⟨_, s2, _, e2, hr2, h3.ev hr'.rel ev, h5⟩
/-- the rest, from the m-th object on by value -/
def qFz (b : QS) : QS := fun D s S => ∃ m s2 S2, D.n ≤ m ∧ m ≤ S.length ∧ RsSl m S s2 s ∧ RsS m S S2 (S.take m) ∧ b D s2 S2
theorem lss_fz {ss : List Stmt} {q : QS} (h : LSs X B ss q) : LSs X B ss (qFz q) := PSs.imp h fun D σ H ⟨φ, s, S, D', hr, ev, ⟨m, s2, S2, h1, h2, h3, h4, q⟩, ⟨φe, He, x, k0⟩⟩ => by
  have e : Ext X.K φe (φ.cut m) He H := x.cut (Nat.le_trans k0.hE h1)
  have eB : Ext X.K B.φ0 (φ.cut m) B.H0 H := hr.ext.cut (Nat.le_trans k0.hB h1)
  exact ⟨φ.cut m, s2, S2, D', ⟨eB, hr.rel.cut h2 h4, hr.tab⟩, h3.ev hr.rel ev, q, φe, He, e, k0⟩
/-! ### what is walked -/
/-- J yields the values xs while keep stands -/
def ItOk (K : PySem.W.Frag) (B : Bs) (φ1 : Ph) (H1 : Hp) (xs : List D) (keep : List O → Prop) (J : It) : Prop := ∀ (i : Nat) (φ : Ph) (H : Hp) (S : List O), Ext K φ1 φ H1 H → HR K B φ H S → keep S →
  (i < xs.length → J.go i H) ∧ (i = xs.length → J.stop i H) ∧ ∀ x H' d, J.yld i H x H' → xs[i]? = some d → ∃ φ', Ext K φ φ' H H' ∧ HR K B φ' H' S ∧ RV K φ' H' d x
abbrev QI := Sl → List O → (List D → (List O → Prop) → List O → Prop) → Prop
def UI (K : PySem.W.Frag) (B : Bs) (q : QI) : TI := fun σ H R => ∃ φ s S R', HR K B φ H S ∧ EV K φ H s σ ∧ q s S R' ∧
  ∀ φ' xs keep S' J H', Ext K φ φ' H H' → HR K B φ' H' S' → ItOk K B φ' H' xs keep J → R' xs keep S' → R J H'
abbrev LI (X : Cx) (B : Bs) (tg iter : Expr) (q : QI) : Prop := PI X tg iter (UI X.K B q)
theorem PI.imp {tg iter : Expr} {t t' : TI} (h : PI X tg iter t) (i : ∀ σ H R, t' σ H R → t σ H R) : PI X tg iter t' := ⟨fun pins s σ H R I w => h.run pins s σ H R I (i _ _ _ w)⟩
variable {tg e : Expr} {qe : QE} {qa : QA} {p pos : Pos}
/-- a list -/
def qiList (qe : QE) : QI := fun s S R => qe s S fun d S1 => match d with
  | .tup _ => False
  | .tq _ => False
  | .kt _ => False
  | d => Opt (itemsOf S1 d) fun xs => R xs (fun S' => itemsOf S' d = some xs) S1
theorem li_list (he : LE X B e qe) : LI X B tg e (qiList qe) := PI.imp (pi_list he) fun σ H R ⟨φ, s, S, R', hr, ev, q, k⟩ =>
  ⟨φ, s, S, _, hr, ev, q, fun φ1 d S1 v H1 e1 hr1 r1 q1 => by
    split at q1
    · exact q1.elim
    · exact q1.elim
    · exact q1.elim
    · rename_i hd hdq hdk
      obtain ⟨xs, h1, q1⟩ := q1.get
      have at_ : ∀ (φ2 : Ph) (H2 : Hp) (S2 : List O) (p : Addr), RV X.K φ2 H2 d (.ref p) → HR X.K B φ2 H2 S2 → itemsOf S2 d = some xs → ∃ vs, SqL X.K H2 p vs ∧ RVs X.K φ2 H2 xs vs := fun φ2 H2 S2 p r2 hr2 hk => by
        unfold itemsOf at hk
        split at hk
        · exact absurd rfl (hd _)
        · cases hk
          obtain ⟨p', e, h1⟩ := r2
          cases e
          exact ⟨_, h1.sql, .ofInts⟩
        · exact absurd rfl (hdq _)
        · exact absurd rfl (hdk _)
        · obtain ⟨a, vs, e, h1, h2⟩ := hr2.ls hk r2
          cases e
          exact ⟨vs, .inl (.inl h1), h2⟩
      obtain ⟨p, vs0, rfl, _, _⟩ := hr1.items h1 r1
      obtain ⟨vs, h3, h4⟩ := at_ φ1 H1 S1 p r1 hr1 h1
      refine ⟨p, rfl, ⟨vs, h3⟩, k _ _ _ _ _ _ e1 hr1 (fun i φ2 H2 S2 e2 hr2 hk => ?_) q1⟩
      obtain ⟨ws, h5, h6⟩ := at_ φ2 H2 S2 p (r1.mono e2) hr2 hk
      refine ⟨fun hi => ⟨ws, ws[i]'(by rw [h6.len]; exact hi), h5, by simp [h6.len, hi]⟩, fun hi => ⟨ws, h5, by rw [h6.len, hi]; exact Nat.le_refl _⟩, fun x H' d' y hd => ?_⟩
      obtain ⟨rfl, y⟩ := y
      obtain ⟨v, g1, g2⟩ := h6.get hd
      have := y ws h5
      rw [g1] at this; cases this
      exact ⟨φ2, Ext.refl, hr2, g2⟩⟩
def qiTup (qe : QE) : QI := fun s S R => qe s S fun d S1 => match d with
  | .tup xs => R xs (fun _ => True) S1
  | .tq ns => R (ns.map D.int) (fun _ => True) S1
  | .kt xs => R xs (fun _ => True) S1
  | _ => False
theorem li_tup (he : LE X B e qe) : LI X B tg e (qiTup qe) := PI.imp (pi_tup he) fun σ H R ⟨φ, s, S, R', hr, ev, q, k⟩ =>
  ⟨φ, s, S, _, hr, ev, q, fun φ1 d S1 v H1 e1 hr1 r1 q1 => by
    have h0 : ∃ xs a vs, v = .ref a ∧ (∀ φ2 H2, Ext X.K φ1 φ2 H1 H2 → SqT X.K H2 a vs) ∧ RVs X.K φ1 H1 xs vs ∧ R' xs (fun _ => True) S1 := by
      split at q1
      · obtain ⟨a, vs, rfl, h3, h4⟩ := r1
        exact ⟨_, a, vs, rfl, fun _ _ e => SqT.of (e.tup _ _ h3), h4, q1⟩
      · obtain ⟨a, rfl, h3⟩ := r1
        exact ⟨_, a, _, rfl, fun _ _ e => (h3.mono e).sqt, .ofInts, q1⟩
      · obtain ⟨a, vs, rfl, h3, h4⟩ := r1
        exact ⟨_, a, vs, rfl, fun _ _ _ => h3.sqt, h4, q1⟩
      · exact q1.elim
    obtain ⟨xs, a, vs, rfl, h3, h4, q1⟩ := h0
    refine ⟨a, rfl, ⟨vs, h3 _ _ Ext.refl⟩, k _ _ _ _ _ _ e1 hr1 (fun i φ2 H2 S2 e2 hr2 hk => ?_) q1⟩
    have h5 := h3 _ _ e2
    have h6 := h4.mono e2
    refine ⟨fun hi => ⟨vs, vs[i]'(by rw [h6.len]; exact hi), h5, by simp [h6.len, hi]⟩, fun hi => ⟨vs, h5, by rw [h6.len, hi]; exact Nat.le_refl _⟩, fun x H' d y hd => ?_⟩
    obtain ⟨rfl, y⟩ := y
    obtain ⟨v, g1, g2⟩ := h6.get hd
    have := y vs h5
    rw [g1] at this; cases this
    exact ⟨φ2, Ext.refl, hr2, g2⟩⟩
/-- lo, lo + 1, .. -/
def rngD (lo : Int) (n : Nat) : List D := (List.range n).map fun i => D.int (lo + (i : Nat))
theorem rngD_get {lo : Int} {n i : Nat} {d : D} (h : (rngD lo n)[i]? = some d) : i < n ∧ d = .int (lo + i) := by
  unfold rngD at h
  rw [List.getElem?_map] at h
  by_cases hi : i < n
  · rw [List.getElem?_range hi] at h
    simp at h
    exact ⟨hi, h.symm⟩
  · rw [List.getElem?_eq_none (by simpa using hi)] at h; cases h
theorem rngD_len {lo : Int} {n : Nat} : (rngD lo n).length = n := by unfold rngD; simp
theorem itOk_rng {φ1 : Ph} {H1 : Hp} (lo : Int) (n : Nat) : ItOk X.K B φ1 H1 (rngD lo n) (fun _ => True) (Itr lo n) := fun i φ H S e hr _ =>
  ⟨fun hi => by rw [rngD_len] at hi; exact hi, fun hi => by rw [rngD_len] at hi; exact Nat.le_of_eq hi.symm, fun x H' d y hd => by
    obtain ⟨rfl, rfl⟩ := y
    obtain ⟨_, rfl⟩ := rngD_get hd
    exact ⟨φ, Ext.refl, hr, rfl⟩⟩
def qiRng1 (qa : QA) : QI := fun s S R => qa s S fun ds S1 => match ds with
  | [.int j] => -(2 ^ 62) ≤ j ∧ j < 2 ^ 62 ∧ R (rngD 0 j.toNat) (fun _ => True) S1
  | _ => False
def qiRng2 (qa : QA) : QI := fun s S R => qa s S fun ds S1 => match ds with
  | [.int i, .int j] => (-(2 ^ 62) ≤ i ∧ i < 2 ^ 62 ∧ -(2 ^ 62) ≤ j ∧ j < 2 ^ 62) ∧ R (rngD i (j - i).toNat) (fun _ => True) S1
  | _ => False
theorem li_rng1 {a : Expr} (hg : Gl X "range") (hm : X.mg "range" = none) (ha : LA X B [a] qa) (hs : starEach [a] X.env = [(false, eval a X.env)] := by rfl) : LI X B tg (.Call (.Name "range" p) [a] [] pos) (qiRng1 qa) := PI.imp (pi_range1 hg hm ha hs) fun σ H R ⟨φ, s, S, R', hr, ev, q, k⟩ =>
  ⟨φ, s, S, _, hr, ev, q, fun φ1 d S1 v H1 e1 hr1 r1 q1 => by
    split at q1
    · obtain ⟨v1, ws, rfl, r1, r2⟩ := r1
      cases r1; cases r2
      exact ⟨_, rfl, q1.1, q1.2.1, k _ _ _ _ _ _ e1 hr1 (itOk_rng 0 _) q1.2.2⟩
    · exact q1.elim⟩
theorem li_rng2 {a b : Expr} (hg : Gl X "range") (hm : X.mg "range" = none) (ha : LA X B [a, b] qa) (hs : starEach [a, b] X.env = [(false, eval a X.env), (false, eval b X.env)] := by rfl) (hs2 : starEach [b] X.env = [(false, eval b X.env)] := by rfl) :
    LI X B tg (.Call (.Name "range" p) [a, b] [] pos) (qiRng2 qa) := PI.imp (pi_range2 hg hm ha hs hs2) fun σ H R ⟨φ, s, S, R', hr, ev, q, k⟩ =>
  ⟨φ, s, S, _, hr, ev, q, fun φ1 d S1 v H1 e1 hr1 r1 q1 => by
    split at q1
    · obtain ⟨v1, ws, rfl, r1, v2, w2, rfl, r2, r3⟩ := r1
      cases r1; cases r2; cases r3
      exact ⟨_, _, rfl, q1.1, k _ _ _ _ _ _ e1 hr1 (itOk_rng _ _) q1.2⟩
    · exact q1.elim⟩

/-! ### for -/
inductive forBody (g : QG) (qb : QS) (D : Ed) (s : Sl) (xs : List LC.D) (keep : List O → Prop) (S1 : List O) : Prop
  | mk (P : Nat → Sl → List O → Prop) (h0 : P 0 s S1) (hk : ∀ i s' S', i ≤ xs.length → P i s' S' → keep S')
    (st : ∀ i x s' S', xs[i]? = some x → P i s' S' → g x s' S' fun s2 S2 => qb { nx := Wk S1.length (P (i + 1)), ct := Wk S1.length (P (i + 1)), bk := D.nx, rt := D.rt, n := S1.length } s2 S2)
    (he : ∀ s' S', P xs.length s' S' → D.nx s' S')
def qFor (qi : QI) (g : QG) (qb : QS) : QS := fun D s S => qi s S fun xs keep S1 => forBody g qb D s xs keep S1
theorem ls_for {iter : Expr} {body : List Stmt} {qi : QI} {g : QG} {qb : QS} (hp : PassesOwn (model X.prog X.w) X.A X.env X.xe) (hc : X.calm = true) (hi : LI X B tg iter qi) (hg : LG X B tg g) (hb : LSs X B body qb)
    (hs : ∀ x, foldedSetIterable iter X.env x = pure x := by intro _; rfl) : LS X B (.For tg iter body [] pos) (qFor qi g qb) := PS.imp (ps_for hp hc hi hg hb hs) fun D σ H ⟨φ, s, S, D', hr, ev, q, ek⟩ =>
  ⟨φ, s, S, _, hr, ev, q, fun φ1 xs keep S1 J H1 e1 hr1 ok q1 => by
    obtain ⟨P, p0, pk, ps, pe⟩ := q1
    refine ⟨fun i m σ H => m = xs.length - i ∧ i ≤ xs.length ∧ ∃ φ s S, Ext X.K φ1 φ H1 H ∧ HR X.K B φ H S ∧ EV X.K φ H s σ ∧ P i s S, ⟨xs.length, rfl, Nat.zero_le _, φ1, s, S1, Ext.refl, hr1, ev.mono e1, p0⟩, ?_⟩
    rintro i m σ2 H2 ⟨rfl, hi, φ2, s2, S2, e2, hr2, ev2, p2⟩
    have o := ok i φ2 H2 S2 e2 hr2 (pk i s2 S2 hi p2)
    by_cases hlt : i < xs.length
    · refine .inr ⟨o.1 hlt, fun σ' H' => ∃ φ s S, Ext X.K φ1 φ H1 H' ∧ HR X.K B φ H' S ∧ EV X.K φ H' s σ' ∧ P (i + 1) s S, fun σ' H' ⟨φ3, s3, S3, e3, hr3, ev3, p3⟩ => ⟨xs.length - (i + 1), by omega, rfl, hlt, φ3, s3, S3, e3, hr3, ev3, p3⟩, fun x H' y => ?_⟩
      have hx : xs[i]? = some xs[i] := List.getElem?_eq_getElem hlt
      obtain ⟨φ3, e3, hr3, r3⟩ := o.2.2 x H' _ y hx
      refine ⟨φ3, xs[i], s2, S2, _, hr3, ev2.mono e3, r3, ps i _ s2 S2 hx p2, fun φ4 s4 S4 σ4 H4 e4 hr4 ev4 q4 => ?_⟩
      refine ⟨φ4, s4, S4, _, hr4, ev4, q4, ?_⟩
      have e14 := e2.trans (e3.trans e4)
      exact ⟨φ1, H1, e14, by rw [← hr1.rel.len]; exact hr1.ext.pre.length_le, by rw [hr1.rel.len]; exact Nat.le_refl _, fun φ' H' S' s' σ' e' hr' ev' w => Wk.at hr1 e' hr' ev' w, fun φ' H' S' d v e' hr' r w => ek.rt _ _ _ _ _ (e1.trans e') hr' r w,
        fun φ' H' S' s' σ' e' hr' ev' w => ek.nx _ _ _ _ _ (e1.trans e') hr' ev' w, fun φ' H' S' s' σ' e' hr' ev' w => Wk.at hr1 e' hr' ev' w⟩
    · have hi' : i = xs.length := by omega
      subst hi'
      exact .inl ⟨o.2.1 rfl, ek.nx _ _ _ _ _ (e1.trans e2) hr2 ev2 (pe s2 S2 p2)⟩⟩

/-! ### while -/
end
end LC

set_option Elab.async false
set_option linter.all false
set_option maxRecDepth 100000
set_option maxHeartbeats 5000000
/-! LD6: targets of names, list comprehensions, own defs. -/
namespace LC
open PySem PySem.Spec
open PyProof.Rows L2

/-! ### targets that are names, or tuples of such -/
inductive Tgt where
  | nm (i : Nat) | tp (ts : List Tgt)
mutual
def gT (K : PySem.W.Frag) : Tgt → TG
  | .nm i => gName i
  | .tp ts => gTup K ts.length (gTs K ts)
def gTs (K : PySem.W.Frag) : List Tgt → TGs
  | [] => gNil
  | t :: r => gCons (gT K t) (gTs K r)
end
mutual
def stT : Tgt → D → Sl → Option Sl
  | .nm i, d, s => some (s.set i (some d))
  | .tp ts, .tup xs, s => stTs ts xs s
  | .tp _, _, _ => none
def stTs : List Tgt → List D → Sl → Option Sl
  | [], [], s => some s
  | t :: ts, d :: ds, s => (stT t d s).bind (stTs ts ds)
  | _, _, _ => none
end
mutual
def Tgt.ix : Tgt → List Nat
  | .nm i => [i]
  | .tp ts => Tgt.ixs ts
def Tgt.ixs : List Tgt → List Nat
  | [] => []
  | t :: r => t.ix ++ Tgt.ixs r
end
theorem wipe_at {σ : L2.St} {j : Nat} : ∀ {vs : List Nat}, (wipe σ vs)[j]? = if j ∈ vs ∧ j < σ.length then some none else σ[j]?
  | [] => by simp [wipe]
  | v :: vs => by
    show ((wipe σ vs).set v none)[j]? = _
    by_cases hv : v = j
    · subst hv
      by_cases hl : v < σ.length
      · rw [List.getElem?_set_self (by rw [wipe_length]; exact hl), if_pos ⟨List.mem_cons_self, hl⟩]
      · rw [if_neg (fun h => hl h.2), List.getElem?_eq_none (by simp [wipe_length]; omega), List.getElem?_eq_none (by omega)]
    · rw [List.getElem?_set_ne hv, wipe_at (vs := vs)]
      by_cases hm : j ∈ vs ∧ j < σ.length
      · rw [if_pos hm, if_pos ⟨List.mem_cons_of_mem _ hm.1, hm.2⟩]
      · rw [if_neg hm, if_neg fun h => hm ⟨(List.mem_cons.mp h.1).resolve_left fun e => hv e.symm, h.2⟩]
theorem wipe_set {σ : L2.St} {i : Nat} {x : Option V} {vs : List Nat} (h : i ∈ vs) : wipe (σ.set i x) vs = wipe σ vs := by
  apply List.ext_getElem?
  intro j
  rw [wipe_at, wipe_at, List.length_set]
  by_cases hm : j ∈ vs ∧ j < σ.length
  · rw [if_pos hm, if_pos hm]
  · rw [if_neg hm, if_neg hm]
    by_cases hij : i = j
    · subst hij
      have hl : ¬ i < σ.length := fun q => hm ⟨h, q⟩
      rw [List.getElem?_eq_none (by simp; omega), List.getElem?_eq_none (by omega)]
    · rw [List.getElem?_set_ne hij]
section
variable {X : Cx} {B : Bs}
mutual
theorem gT_ok {φ : Ph} {H : Hp} {vs : List Nat} : ∀ {t : Tgt} {d : D} {s s2 : Sl} {v : V} {σ : L2.St} {Q : L2.St → Hp → Prop}, stT t d s = some s2 → RV X.K φ H d v → EV X.K φ H s σ → (∀ i ∈ t.ix, i ∈ vs) → (∀ σ2, EV X.K φ H s2 σ2 → wipe σ2 vs = wipe σ vs → Q σ2 H) → gT X.K t v σ H Q
  | .nm i, d, s, _, v, σ, Q, h, r, ev, hi, q => by
    cases h
    exact q _ (ev.set r) (wipe_set (hi i (by simp [Tgt.ix])))
  | .tp ts, d, s, s2, v, σ, Q, h, r, ev, hi, q => by
    cases d with
    | tup xs =>
      obtain ⟨p, vs', rfl, h1, h2⟩ := r
      have hl := stTs_len h
      exact ⟨p, vs', rfl, h1, by rw [h2.len, hl], gTs_ok h h2 ev hi q⟩
    | _ => cases h
theorem gTs_ok {φ : Ph} {H : Hp} {vs : List Nat} : ∀ {ts : List Tgt} {ds : List D} {s s2 : Sl} {us : List V} {σ : L2.St} {Q : L2.St → Hp → Prop}, stTs ts ds s = some s2 → RVs X.K φ H ds us → EV X.K φ H s σ → (∀ i ∈ Tgt.ixs ts, i ∈ vs) → (∀ σ2, EV X.K φ H s2 σ2 → wipe σ2 vs = wipe σ vs → Q σ2 H) → gTs X.K ts us σ H Q
  | [], [], s, s2, us, σ, Q, h, r, ev, hi, q => by
    cases h; cases r
    exact ⟨rfl, q _ ev rfl⟩
  | t :: ts, d :: ds, s, s2, us, σ, Q, h, r, ev, hi, q => by
    obtain ⟨v, ws, rfl, r1, r2⟩ := r
    cases e : stT t d s with
    | none => simp [stTs, e] at h
    | some s1 =>
      have h' : stTs ts ds s1 = some s2 := by simpa [stTs, e] using h
      exact ⟨v, ws, rfl, gT_ok e r1 ev (fun i m => hi i (by simp [Tgt.ixs, m])) fun σ1 ev1 w1 => gTs_ok h' r2 ev1 (fun i m => hi i (by simp [Tgt.ixs, m])) fun σ2 ev2 w2 => q σ2 ev2 (w2.trans w1)⟩
  | [], _ :: _, _, _, _, _, _, h, _, _, _, _ => by cases h
  | _ :: _, [], _, _, _, _, _, h, _, _, _, _ => by cases h
theorem stTs_len : ∀ {ts : List Tgt} {ds : List D} {s s2 : Sl}, stTs ts ds s = some s2 → ds.length = ts.length
  | [], [], _, _, _ => rfl
  | t :: ts, d :: ds, s, s2, h => by
    cases e : stT t d s with
    | none => simp [stTs, e] at h
    | some s1 =>
      have h' : stTs ts ds s1 = some s2 := by simpa [stTs, e] using h
      simp [stTs_len h']
  | [], _ :: _, _, _, h => by cases h
  | _ :: _, [], _, _, h => by cases h
end
/-- d goes to the target's names -/
def qgT (t : Tgt) : QG := fun d s S Q => ∃ s2, stT t d s = some s2 ∧ Q s2 S
theorem lg_T {tg : Expr} {t : Tgt} (h : PG X tg (gT X.K t)) : LG X B tg (qgT t) := PG.imp h fun v σ H Q ⟨φ, d, s, S, Q', hr, ev, r, ⟨s2, h1, q⟩, k⟩ =>
  gT_ok (vs := t.ix) h1 r ev (fun _ m => m) fun σ2 ev2 _ => k _ _ _ _ _ Ext.refl hr ev2 q
/-- a target of one name -/
theorem tg_nm (i : Nat) {x : Str} {pos : Pos} (hN : X.N.Nodup) (hi : X.N[i]? = some x := by rfl) (hx : Loc X.env.scope x := by first | exact .inl rfl | exact .inr rfl) (hf : X.fn x = true ∨ X.env.scope.names.lookup x = some .local := by first | exact .inl rfl | exact .inr rfl | assumption) : PG X (.Name x pos) (gT X.K (.nm i)) := pg_name hN hi hx hf
theorem tg_nil : PGs X [] (gTs X.K []) := pgs_nil
theorem tg_cons {e : Expr} {es : List Expr} {t : Tgt} {ts : List Tgt} (h1 : PG X e (gT X.K t)) (h2 : PGs X es (gTs X.K ts)) (hs : (assignEach (e :: es) X.env).map (·.2) = assign e X.env :: (assignEach es X.env).map (·.2) := by rfl) : PGs X (e :: es) (gTs X.K (t :: ts)) := pgs_cons h1 h2 hs
theorem tg_tp {es : List Expr} {k : Nat} {pos : Pos} {ts : List Tgt} (hc : X.calm = true) (h : PGs X es (gTs X.K ts)) (hn : (assignEach es X.env).length = ts.length := by rfl) (hst : (assignEach es X.env).findIdx? (·.1) = none := by rfl) : PG X (.Tuple es k pos) (gT X.K (.tp ts)) := pg_tup hc h hn hst

/-! ### list comprehensions -/
abbrev LTs (X : Cx) (B : Bs) (ifs : List Expr) (q : QT) : Prop := PTs X ifs (UP X.K B rB q)
def qYes : QT := fun _ S Q => Q true S
theorem PTs.imp {ifs : List Expr} {t t' : TT} (h : PTs X ifs t) (i : ∀ σ H Q, t' σ H Q → t σ H Q) : PTs X ifs t' := ⟨fun pins s σ H Q I w => h.run pins s σ H Q I (i _ _ _ w)⟩
theorem lts_nil : LTs X B [] qYes := PTs.imp pts_nil fun σ H Q ⟨φ, s, S, Q', hr, ev, q, k⟩ => k _ _ _ _ _ Ext.refl hr rfl q
theorem lts_one {c : Expr} {t : QT} (h : LT X B c t) : LTs X B [c] t := pts_one h
theorem EV.wipes {φ : Ph} {H : Hp} {s : Sl} {σ : L2.St} (ev : EV X.K φ H s σ) : ∀ {vs : List Nat}, EV X.K φ H (wipeD s vs) (L2.wipe σ vs)
  | [] => ev
  | _ :: _ => (EV.wipes ev).wipe
theorem Rel.lts {K : PySem.W.Frag} {φ : Ph} {H : Hp} {S : List O} (r : Rel K φ H S) (T : List O) : RsS S.length (S ++ T) S S := by
  have key : ∀ (l : List O) (j : Nat), (∀ i o, l[i]? = some o → S[j + i]? = some o) → RsS S.length (S ++ T) l l := fun l => by
    induction l with
    | nil => intro _ _; rfl
    | cons o t ih =>
      intro j h
      refine ⟨o, t, rfl, ?_, ih (j + 1) fun i x hx => by have := h (i + 1) x (by simpa using hx); rwa [show j + (i + 1) = j + 1 + i by omega] at this⟩
      obtain ⟨a, h1, h2⟩ := r.ob (j + 0) o (h 0 o rfl)
      rw [← r.len]
      cases o with
      | lst xs => obtain ⟨vs, h3, h4⟩ := h2; exact RsL.same h4.lt
      | drw => trivial
      | ins C fs => obtain ⟨dx, gs, h3, h4⟩ := h2; obtain ⟨vs, _, h5⟩ := h4.split; exact ⟨rfl, rfl, RsL.same h5.lt⟩
      | dK l' => obtain ⟨gs, h3, h4⟩ := h2; obtain ⟨vs, _, h5⟩ := h4.split; exact ⟨rfl, RsL.same h5.lt⟩
      | dT l' => obtain ⟨gs, h3, h4⟩ := h2; obtain ⟨vs, _, h5⟩ := h4.split; exact ⟨rfl, RsL.same h5.lt⟩
      | non => trivial
  exact key S 0 fun i o h => by rw [Nat.zero_add]; exact h
/-- [e for t in .. if ..]: P tells what is made so far; the objects stay as they are -/
inductive lcV (t : Tgt) (qt : QT) (qe : QE) (vs : List Nat) (s : Sl) (Q : List D → Prop) (xs : List D) (keep : List O → Prop) (S1 : List O) : Prop
  | mk (P : Nat → List D → Prop) (h0 : P 0 []) (hk : ∀ acc, keep (S1 ++ [.lst acc])) (hl : xs.length < sizeLine)
    (st : ∀ i x acc, xs[i]? = some x → acc.length ≤ i → P i acc → ∃ s2, stT t x (wipeD s vs) = some s2 ∧ qt s2 (S1 ++ [.lst acc]) fun b S3 => S3 = S1 ++ [.lst acc] ∧ Br b (qe s2 (S1 ++ [.lst acc]) fun y S4 => S4 = S1 ++ [.lst acc] ∧ D.lt S1.length y ∧ P (i + 1) (acc ++ [y]))
      (P (i + 1) acc))
    (he : ∀ acc, P xs.length acc → acc.length ≤ xs.length → Q acc)
def qLc (mu : Bool) (qi : QI) (t : Tgt) (qt : QT) (qe : QE) (vs : List Nat) : QE := fun s S Q => qi s S fun xs keep S1 => lcV t qt qe vs s (fun acc => if mu then Q (.ref S1.length) (S1 ++ [.lst acc]) else Q (.lst acc) S1) xs keep S1
theorem up_lc {mu : Bool} {qi : QI} {t : Tgt} {qt : QT} {qe : QE} {vs : List Nat} (hv : ∀ i ∈ t.ix, i ∈ vs) {σ : L2.St} {H : Hp} {Q : VK} (h : UP X.K B (rD X.K) (qLc mu qi t qt qe vs) σ H Q) : tLc (UI X.K B qi) (gT X.K t) (UP X.K B rB qt) (UP X.K B (rD X.K) qe) vs σ H Q := by
  obtain ⟨φ, s, S, Q', hr, ev, q, k⟩ := h
  refine ⟨φ, s, S, _, hr, ev, q, fun φ1 xs keep S1 J H1 e1 hr1 ok q1 D hD => ?_⟩
  obtain ⟨P, p0, pk, hsz, ps, pe⟩ := q1
  have e2 : Ext X.K φ1 (φ1.add D) H1 (upd H1 D (.lst [])) := ext_add hD
  have hr2 : HR X.K B (φ1.add D) (upd H1 D (.lst [])) (S1 ++ [.lst []]) := hr1.new (x := O.lst []) hD ⟨[], upd_same, rfl⟩
  have hDn : (φ1.add D).own[S1.length]? = some D := hr1.rel.last D
  refine ⟨fun i m H => m = xs.length - i ∧ i ≤ xs.length ∧ ∃ φ acc, Ext X.K (φ1.add D) φ (upd H1 D (.lst [])) H ∧ HR X.K B φ H (S1 ++ [.lst acc]) ∧ acc.length ≤ i ∧ LC.D.lts S1.length acc ∧ P i acc, ⟨xs.length, rfl, Nat.zero_le _, φ1.add D, [], Ext.refl, hr2, Nat.le_refl _, trivial, p0⟩, ?_⟩
  rintro i m H2 ⟨rfl, hi, φ2, acc, e3, hr3, hac, hlt', p2⟩
  have o := ok i φ2 H2 (S1 ++ [.lst acc]) (e2.trans e3) hr3 (pk acc)
  by_cases hlt : i < xs.length
  · refine .inr ⟨o.1 hlt, fun H' => ∃ φ acc, Ext X.K (φ1.add D) φ (upd H1 D (.lst [])) H' ∧ HR X.K B φ H' (S1 ++ [.lst acc]) ∧ acc.length ≤ i + 1 ∧ LC.D.lts S1.length acc ∧ P (i + 1) acc, fun H' ⟨φ3, S3, a1, a2, a3⟩ => ⟨xs.length - (i + 1), by omega, rfl, hlt, φ3, S3, a1, a2, a3⟩, fun x H' y => ?_⟩
    have hx : xs[i]? = some xs[i] := List.getElem?_eq_getElem hlt
    obtain ⟨φ3, e4, hr4, r4⟩ := o.2.2 x H' _ y hx
    obtain ⟨s2, hs2, q2⟩ := ps i _ acc hx hac p2
    have ev4 : EV X.K φ3 H' (wipeD s vs) (wipe σ vs) := (ev.mono (e1.trans (e2.trans (e3.trans e4)))).wipes
    refine gT_ok (vs := vs) hs2 r4 ev4 hv fun σ5 ev5 w5 => ⟨?_, ?_⟩
    · rw [w5]
      have : ∀ (σ : L2.St), wipe (wipe σ vs) vs = wipe σ vs := fun σ => by
        apply List.ext_getElem?
        intro j
        rw [wipe_at, wipe_at, wipe_length]
        by_cases hm : j ∈ vs ∧ j < σ.length
        · simp [hm]
        · rw [if_neg hm]
      exact this σ
    · refine ⟨φ3, s2, _, _, hr4, ev5, q2, fun φ6 b S6 v6 H6 e6 hr6 r6 q6 => ?_⟩
      cases r6
      obtain ⟨rfl, q6⟩ := q6
      have e06 := e3.trans (e4.trans e6)
      cases b with
      | false => exact ⟨φ6, acc, e06, hr6, Nat.le_succ_of_le hac, hlt', q6⟩
      | true =>
        refine ⟨φ6, s2, _, _, hr6, ev5.mono e6, q6, fun φ7 y S7 v7 H7 e7 hr7 r7 q7 => ?_⟩
        obtain ⟨rfl, hy, q7⟩ := q7
        have e07 := e06.trans e7
        have h8 : (S1 ++ [O.lst acc])[S1.length]? = some (.lst acc) := by simp
        obtain ⟨a, av, ea, h10, h11⟩ := hr7.lstO h8
        have : a = D := by
          have := e07.get hDn
          rw [ea] at this; exact Option.some.inj this
        subst this
        refine ⟨av, h10, by rw [h11.len]; omega, ?_⟩
        obtain ⟨e8, hr8⟩ := hr7.write (o := .lst (av ++ [v7])) (x := O.lst acc) (y := O.lst (acc ++ [y])) h8 rfl ea fun e8 => ⟨_, upd_same, (RVs.app (es := [y]) (ws := [v7]) h11 ⟨v7, [], rfl, r7, rfl⟩).mono e8⟩
        have es : (S1 ++ [O.lst acc]).set S1.length (.lst (acc ++ [y])) = S1 ++ [.lst (acc ++ [y])] := by rw [List.set_append_right _ _ (Nat.le_refl _)]; simp
        rw [es] at hr8
        exact ⟨φ7, acc ++ [y], e07.trans e8, hr8, by simp; omega, LC.D.lts_app hlt' ⟨hy, trivial⟩, q7⟩
  · have hi' : i = xs.length := by omega
    subst hi'
    have fin := pe acc p2 hac
    have hn : S1.length ≤ (S1 ++ [O.lst acc]).length := by simp
    have h8 : (S1 ++ [O.lst acc])[S1.length]? = some (.lst acc) := by simp
    refine .inl ⟨o.2.1 rfl, ?_⟩
    cases mu with
    | true => exact k _ (.ref S1.length) _ _ _ (e1.trans (e2.trans e3)) hr3 (show RV _ _ _ _ _ from ⟨D, e3.get hDn, rfl⟩) (by simpa using fin)
    | false =>
      obtain ⟨e9, hr9⟩ := hr1.cut (e2.trans e3) hr3 (Nat.le_refl _) hn (S2 := S1) (by rw [List.take_left]; exact hr1.rel.lts _)
      have rv : RV X.K (φ2.cut S1.length) H2 (.lst acc) (.ref D) := Rs.rv hr3.rel (Rs.ofL' (Nat.le_refl _) h8 hlt') ⟨D, e3.get hDn, rfl⟩
      exact k _ (.lst acc) _ _ _ (e1.trans e9) hr9 rv (by simpa using fin)
section
variable {elt tg iter : Expr} {ifs : List Expr} {scope : Scope} {own : List (Str × Nat)} {pos : Pos} {qi : QI} {t : Tgt} {qt : QT} {qe : QE}
/-- the block's context -/
abbrev Blk (X : Cx) (scope : Scope) (C : Cx → Prop) : Prop := ∀ (s : Shared) (H : Hp) (A : Addr) (cl : List (Str × Addr)) (fp : List Addr), C (X.blk s H scope (compEnvC scope cl A X.env) fp)
theorem le_lc (mu : Bool) (own : List (Str × Nat)) (t : Tgt) (hc : X.calm = true) (hN : X.N.Nodup) (hi : LI X B tg iter qi) (ok : BlkOk X.N X.env.scope scope own)
    (hg : Blk X scope fun Y => PG Y tg (gT X.K t)) (ht : Blk X scope fun Y => LTs Y B ifs qt) (he : Blk X scope fun Y => LE Y B elt qe) (hv : ∀ i ∈ t.ix, i ∈ own.map (·.2) := by decide) (hs : ∀ x, foldedSetIterable iter X.env x = pure x := by intro _; rfl) :
    LE X B (.ListComp elt [⟨tg, iter, ifs, 0⟩] scope pos) (qLc mu qi t qt qe (own.map (·.2))) := PE.imp (pe_lc hc hN hi ok hg ht he hs) fun _ _ _ => up_lc hv
theorem ls_lc (mu : Bool) (own : List (Str × Nat)) (t : Tgt) (i : Nat) {y : Str} {py spos : Pos} (hc : X.calm = true) (hN : X.N.Nodup) (hy : X.N[i]? = some y) (hyl : X.env.scope.names.lookup y = some .local)
    (hsw : swapsWith (.ListComp elt [⟨tg, iter, ifs, 0⟩] scope pos) (some (.Name y py)) spos.line X.env = pure true) (hi : LI X B tg iter qi) (ok : BlkOk X.N X.env.scope scope own)
    (hg : Blk X scope fun Y => PG Y tg (gT X.K t)) (ht : Blk X scope fun Y => LTs Y B ifs qt) (he : Blk X scope fun Y => LE Y B elt qe) (hv : ∀ i ∈ t.ix, i ∈ own.map (·.2) := by decide) (hs : ∀ x, foldedSetIterable iter X.env x = pure x := by intro _; rfl) :
    LS X B (.Assign [.Name y py] (.ListComp elt [⟨tg, iter, ifs, 0⟩] scope pos) spos) (qSet i (qLc mu qi t qt qe (own.map (·.2)))) := PS.imp (ps_setLc hc hN hy hyl hsw hi ok hg ht he hs) fun D σ H ⟨φ, s, S, D', hr, ev, q, ek⟩ =>
  up_lc hv ⟨φ, s, S, _, hr, ev, q, fun φ1 d S1 v H1 e1 hr1 r1 q1 => ek.nx _ _ _ _ _ e1 hr1 ((ev.mono e1).set r1) q1⟩
end
end
end LC

set_option Elab.async false
set_option linter.all false
set_option maxRecDepth 100000
set_option maxHeartbeats 5000000
/-! LD7: own defs: their bodies, and what the caller's objects have to do with them. -/
namespace LC
open PySem PySem.Spec
open PyProof.Rows L2
/-- what is handed back from a def that was entered with n objects -/
def Rt (n : Nat) (Q' : D → List O → Prop) (d : D) (S : List O) : Prop := ∃ m d' S2, n ≤ m ∧ m ≤ S.length ∧ RsS m S S2 (S.take m) ∧ Rs m S d' d ∧ Q' d' S2
def Xt (n : Nat) (E' : EDt) (C : Addr) (fs : List (Str × D)) (S : List O) : Prop := ∃ m fs' S2, n ≤ m ∧ m ≤ S.length ∧ RsS m S S2 (S.take m) ∧ fs'.map (·.1) = fs.map (·.1) ∧ RsL m S (fs'.map (·.2)) (fs.map (·.2)) ∧ E' C fs' S2
section
variable {P : Program} {w : World} {K : PySem.W.Frag}
variable {mg : Str → Option Value} {base : Heap}
/-- the slots at a def's entry -/
def startD (N : List Str) (ds : List D) : Sl := ds.map some ++ List.replicate (N.length - ds.length) none
theorem start_ok {X : Cx} {φ : Ph} {H : Hp} {N : List Str} {ds : List D} {vs : List V} (r : RVs X.K φ H ds vs) : EV X.K φ H (startD N ds) (L2.start N vs) := by
  refine ⟨by simp [startD, L2.start, r.len], fun i d h => ?_⟩
  unfold startD at h
  by_cases hi : i < ds.length
  · rw [List.getElem?_append_left (by simpa using hi), List.getElem?_map] at h
    cases e : ds[i]? with
    | none => (rw [e] at h; cases h)
    | some x =>
      rw [e] at h
      cases h
      obtain ⟨v, h1, h2⟩ := r.get e
      refine ⟨v, ?_, h2⟩
      unfold L2.start
      rw [List.getElem?_append_left (by simpa [r.len] using hi), List.getElem?_map, h1]; rfl
  · rw [List.getElem?_append_right (by simpa using hi), List.getElem?_replicate] at h
    split at h <;> cases h
/-- a body, by what holds at its entry and at its ends -/
abbrev OkG := List D → List O → (D → List O → Prop) → EDt → Nat → Prop
abbrev BodyG (P : Program) (w : World) (K : PySem.W.Frag) (mg : Str → Option Value) (base : Heap) (qual : Str) (st : Stmt) (f : Addr) (N : List Str) (k : Nat) (ok : OkG) : Prop :=
  ∀ (cdv : Value) (A : Around) (outer : List Env) (s : Shared) (H : Hp) (E : XK) (φ : Ph) (T : List (Addr × Str)) (W' : WD), Room k (A.deeper (envOfC qual (defScope st) s.heap.objs.size f cdv)) → WL K ⟨φ, H, T⟩ W' (fun cls d _ H => E cls d H) →
      ∃ q, LSs (cxOf (L2.CX P w) P w K mg base N qual (defScope st) f cdv A outer s H E) ⟨φ, H, T⟩ (defBody st) q ∧
        ∀ ds S R X n, ok ds S R X n → W' = (fun C fs _ S' => X C fs S') → q { nx := fun _ S' => R .non S', rt := R, n := n } (startD N ds) S
/-- what is promised, by such ends -/
def Conv (sp : SpD) (ok : OkG) : Prop := ∀ ds S Q' E', sp ds S Q' E' → D.lts S.length ds → ∃ R X, ok ds S R X S.length ∧ (∀ d S', R d S' → Rt S.length Q' d S') ∧ ∀ C fs S', X C fs S' → Xt S.length E' C fs S'
section
variable {X : Cx} {φ : Ph} {H : Hp} {T : List (Addr × Str)} {S' : List O} {Q' : D → List O → Prop} {E' : EDt} {Q : VK} {E : XK}
theorem ends_cut (r : Rel K φ H S') {φ' : Ph} {H' : Hp} {S1 S2 : List O} {m : Nat} (hr' : HR K ⟨φ, H, T⟩ φ' H' S1) (h1 : S'.length ≤ m) (h2 : m ≤ S1.length) (h3 : RsS m S1 S2 (S1.take m)) : Ext K φ (φ'.cut m) H H' ∧ Rel K (φ'.cut m) H' S2 :=
  ⟨hr'.ext.cut (by show φ.own.length ≤ m; rw [r.len]; exact h1), hr'.rel.cut h2 h3⟩
theorem ends_x (r : Rel K φ H S') (ke : ∀ φ' C fs S'' cls d H', Ext K φ φ' H H' → Rel K φ' H' S'' → LamX.Tabs T H' → XRel K φ' H' C fs cls d → E' C fs S'' → E cls d H') {φ' : Ph} {H' : Hp} {S1 : List O} {C : Addr} {fs : List (Str × D)} {cls : Value} {d : Option Addr} (hr' : HR K ⟨φ, H, T⟩ φ' H' S1) (xr : XRel K φ' H' C fs cls d) (h : Xt S'.length E' C fs S1) : E cls d H' := by
  obtain ⟨m, fs2, S2, h1, h2, h3, h4, h5, he⟩ := h
  obtain ⟨e1, r1⟩ := ends_cut r hr' h1 h2 h3
  obtain ⟨rfl, dx, gs, rfl, g1, g2⟩ := xr
  obtain ⟨us, eu, g3⟩ := g2.split
  subst eu
  exact ke _ _ fs2 S2 _ _ _ e1 r1 hr'.tab ⟨rfl, dx, _, rfl, g1, by rw [← h4]; exact RKV.join (RsL.rv hr'.rel h5 g3)⟩ he
theorem ends_r (r : Rel K φ H S') (kq : ∀ φ' d S'' v H', Ext K φ φ' H H' → Rel K φ' H' S'' → LamX.Tabs T H' → RV K φ' H' d v → Q' d S'' → Q v H') {φ' : Ph} {H' : Hp} {S1 : List O} {d : D} {v : V} (hr' : HR K ⟨φ, H, T⟩ φ' H' S1) (rv : RV K φ' H' d v) (h : Rt S'.length Q' d S1) : Q v H' := by
  obtain ⟨m, d2, S2, h1, h2, h3, h4, hd⟩ := h
  obtain ⟨e1, r1⟩ := ends_cut r hr' h1 h2 h3
  exact kq _ d2 S2 _ _ e1 r1 hr'.tab (Rs.rv hr'.rel h4 rv) hd
end
theorem body_at {qual : Str} {st : Stmt} {f : Addr} {N : List Str} {k : Nat} {sp : SpD} {ok : OkG} (cv : Conv sp ok) (hb : BodyG P w K mg base qual st f N k ok) (cdv : Value) (A : Around) (outer : List Env) (s : Shared) (H : Hp) (vs : List V) (Q : VK) (E : XK) (hr : Room k (A.deeper (envOfC qual (defScope st) s.heap.objs.size f cdv)))
    (h : upF K sp vs H Q E) : ∃ t, PSs (cxOf (L2.CX P w) P w K mg base N qual (defScope st) f cdv A outer s H E) (defBody st) t ∧ t { nx := fun _ H' => Q .non H', rt := Q } (L2.start N vs) H := by
  obtain ⟨φ, ds, S', Q', E', T, r, rs, tt, h, kq, ke⟩ := h
  have lts := rs.lt
  rw [r.len] at lts
  obtain ⟨R, Xe, hok, cR, cX⟩ := cv _ _ _ _ h lts
  obtain ⟨q, hq, hh⟩ := hb cdv A outer s H E φ T (fun C fs _ S1 => Xe C fs S1) hr (fun φ' C fs s' S1 cls d σ H' hr' ev xr x => ends_x r ke hr' xr (cX _ _ _ x))
  refine ⟨_, hq, φ, startD N ds, S', { nx := fun _ S1 => R .non S1, rt := R, n := S'.length }, ⟨Ext.refl, r, tt⟩, start_ok rs, hh ds S' R Xe _ hok rfl, φ, H, Ext.refl, ?_⟩
  exact ⟨by show φ.own.length ≤ S'.length; rw [r.len]; exact Nat.le_refl _, by show φ.own.length ≤ S'.length; rw [r.len]; exact Nat.le_refl _, fun φ' H' S1 s' σ' e hr' ev x => ends_r r kq hr' (show RV K φ' H' .non .non from rfl) (cR _ _ x), fun φ' H' S1 d v e hr' rv x => ends_r r kq hr' rv (cR _ _ x), fun _ _ _ _ _ _ _ _ h => h.elim, fun _ _ _ _ _ _ _ _ h => h.elim⟩
/-- a def's body, by a promise over data -/
theorem FunD.ok {x qual : Str} {st : Stmt} {f : Addr} {fd : FuncData} {N ps : List Str} {k : Nat} {sp : SpD} {ok : OkG} (cv : Conv sp ok) (F : Fun K x qual st f fd) (S : FnScope N ps (defScope st)) (len : ∀ ds S Q E, sp ds S Q E → ds.length = ps.length) (hb : BodyG P w K mg base qual st f N k ok) : FnOk P w K mg base (L2.CX P w) (k + 1) f fd ps (upF K sp) :=
  F.okX S (fun vs H Q E ⟨φ, ds, S, Q', E', T, r, rs, tt, h, _⟩ => by rw [rs.len]; exact len _ _ _ _ h) fun cdv A outer s H vs Q E hr h => body_at cv hb cdv A outer s H vs Q E hr h
end

/-! ### what a caller sees -/
section
variable {K : PySem.W.Frag} {φ1 φ2 : Ph} {H : Hp}
mutual
theorem RV.tr {m : Nat} (hk : ∀ (k : Nat) (a : Addr), k < m → φ1.own[k]? = some a → φ2.own[k]? = some a) (hf : ∀ a, Fz φ1 a → Fz φ2 a) : ∀ {d : D} {v : V}, D.lt m d → RV K φ1 H d v → RV K φ2 H d v
  | .non, _, _, h => h
  | .bl _, _, _, h => h
  | .int _, _, _, h => h
  | .str _, _, _, h => h
  | .ty _, _, _, h => h
  | .adr _, _, _, h => h
  | .ref k, _, l, ⟨a, h1, h2⟩ => ⟨a, hk k a l h1, h2⟩
  | .tup _, _, l, ⟨p, vs, h1, h2, h3⟩ => ⟨p, vs, h1, h2, RVs.tr hk hf l h3⟩
  | .lst _, _, l, ⟨p, vs, h1, h2, h3, h4⟩ => ⟨p, vs, h1, hf _ h2, h3, RVs.tr hk hf l h4⟩
  | .ins _ _ _, _, l, ⟨p, dx, vs, h1, h2, h3, h4, h5⟩ => ⟨p, dx, vs, h1, hf _ h2, h3, h4, RVs.tr hk hf l h5⟩
  | .dK _ _, _, l, ⟨p, vs, h1, h2, h3, h4, h5⟩ => ⟨p, vs, h1, hf _ h2, h3, h4, RVs.tr hk hf l h5⟩
  | .dT _ _, _, l, ⟨p, vs, h1, h2, h3, h4, h5⟩ => ⟨p, vs, h1, hf _ h2, h3, h4, RVs.tr hk hf l h5⟩
  | .scr _, _, _, ⟨p, h1, h2⟩ => ⟨p, h1, h2.imp (fun ⟨f, g⟩ => ⟨hf _ f, g⟩) id⟩
  | .tq _, _, _, ⟨p, h1, h2⟩ => ⟨p, h1, hf _ h2.1, h2.2⟩
  | .kt _, _, l, ⟨p, vs, h1, h2, h3⟩ => ⟨p, vs, h1, h2, RVs.tr hk hf l h3⟩
  | .bad, _, _, h => h.elim
theorem RVs.tr {m : Nat} (hk : ∀ (k : Nat) (a : Addr), k < m → φ1.own[k]? = some a → φ2.own[k]? = some a) (hf : ∀ a, Fz φ1 a → Fz φ2 a) : ∀ {ds : List D} {vs : List V}, D.lts m ds → RVs K φ1 H ds vs → RVs K φ2 H ds vs
  | [], _, _, h => h
  | _ :: _, _, l, ⟨v, ws, h1, h2, h3⟩ => ⟨v, ws, h1, RV.tr hk hf l.1 h2, RVs.tr hk hf l.2 h3⟩
end
theorem RKV.tr {m : Nat} (hk : ∀ (k : Nat) (a : Addr), k < m → φ1.own[k]? = some a → φ2.own[k]? = some a) (hf : ∀ a, Fz φ1 a → Fz φ2 a) {fs : List (Str × D)} {gs : List (Str × V)} (l : D.lts m (fs.map (·.2))) (r : RKV K φ1 H fs gs) : RKV K φ2 H fs gs := by
  obtain ⟨us, eu, g3⟩ := r.split
  subst eu
  exact RKV.join (g3.tr hk hf l)
end
abbrev XD := Addr → List (Str × D) → Prop
abbrev SpP := List D → (D → Prop) → XD → Prop
/-- a def that changes nothing -/
def lp (sp : SpP) : SpD := fun ds S Q E => sp ds (fun d => Q d S) fun C fs => E C fs S
def at0 (sp : SpP) : SpD := fun ds S Q E => S = [] ∧ sp ds (fun d => Q d []) fun C fs => E C fs []
/-- the objects of the outer defs, all hidden -/
def Ph.all (φ : Ph) : Ph := ⟨φ.hid ++ φ.own, []⟩
section
variable {K : PySem.W.Frag}
theorem Rel.all {φ : Ph} {H : Hp} {S : List O} (r : Rel K φ H S) : Rel K φ.all H [] :=
  ⟨List.nodup_nil, fun _ _ z => (List.not_mem_nil z), fun a ha => (List.mem_append.mp ha).elim (r.hd a) fun h => r.own_some h, rfl, fun i o h => by simp at h⟩
theorem Fz.all {φ : Ph} {a : Addr} (h : Fz φ a) : Fz φ.all a := ⟨fun z => (List.mem_append.mp z).elim h.1 h.2, List.not_mem_nil⟩
theorem Fz.unall {φ : Ph} {a : Addr} (h : a ∉ φ.all.hid) : Fz φ a := ⟨fun z => h (List.mem_append_left _ z), fun z => h (List.mem_append_right _ z)⟩
theorem Ext.unall {φ φ' : Ph} {H H' : Hp} (e : Ext K φ.all φ' H H') : Ext K φ φ H H' := ⟨rfl, List.prefix_refl _, e.tup, e.xd, fun a u h g n => ⟨h, (e.fz a u List.not_mem_nil g n).2⟩⟩
theorem Rel.unall {φ φ' : Ph} {H H' : Hp} {S : List O} (r : Rel K φ H S) (e : Ext K φ.all φ' H H') : Rel K φ H' S := r.kept e.unall fun b u g n => (e.fz b u List.not_mem_nil g n).2
theorem upF_pure {sp : SpP} (hp : ∀ ds Q E, sp ds Q E → D.lts 0 ds) {vs : List V} {H : Hp} {Q : VK} {E : XK} (h : upF K (lp sp) vs H Q E) : upF K (at0 sp) vs H Q E := by
  obtain ⟨φ, ds, S, Q', E', T, r, rs, tt, h, kq, ke⟩ := h
  refine ⟨φ.all, ds, [], fun d S1 => S1 = [] ∧ Q' d S, fun C fs S1 => S1 = [] ∧ E' C fs S, T, r.all, rs.tr (fun k a hk => absurd hk (Nat.not_lt_zero k)) (fun a => Fz.all) (hp _ _ _ h), tt, ⟨rfl, ?_⟩, ?_, ?_⟩
  · have e1 : (fun d => [] = ([] : List O) ∧ Q' d S) = fun d => Q' d S := funext fun d => propext ⟨fun z => z.2, fun z => ⟨rfl, z⟩⟩
    have e2 : (fun C fs => [] = ([] : List O) ∧ E' C fs S) = fun C fs => E' C fs S := funext fun C => funext fun fs => propext ⟨fun z => z.2, fun z => ⟨rfl, z⟩⟩
    show sp ds (fun d => [] = ([] : List O) ∧ Q' d S) (fun C fs => [] = ([] : List O) ∧ E' C fs S)
    rw [e1, e2]
    exact h
  · rintro φ' d S1 v H' e r1 t1 rv ⟨rfl, q⟩
    have e0 : φ'.own.length = 0 := r1.len
    refine kq φ d S v H' e.unall (r.unall e) t1 (rv.tr (m := 0) (fun k a hk => absurd hk (Nat.not_lt_zero k)) (fun a z => Fz.unall (by rw [← e.hid]; exact z.1)) ?_) q
    have := rv.lt
    rwa [e0] at this
  · rintro φ' C fs S1 cls d H' e r1 t1 ⟨hc, dx, gs, hd, h1, h2⟩ ⟨rfl, q⟩
    have e0 : φ'.own.length = 0 := r1.len
    refine ke φ C fs S cls d H' e.unall (r.unall e) t1 ⟨hc, dx, gs, hd, h1, h2.tr (m := 0) (fun k a hk => absurd hk (Nat.not_lt_zero k)) (fun a z => Fz.unall (by rw [← e.hid]; exact z.1)) ?_⟩ q
    obtain ⟨us, eu, g3⟩ := h2.split
    have := g3.lt
    rwa [e0] at this
/-! with the drawing -/
def ld (sp : SpP) : SpD := fun ds S Q E => match ds, S with
  | .ref 0 :: r, .drw :: _ => sp r (fun d => Q d S) fun C fs => E C fs S
  | _, _ => False
def at1 (sp : SpP) : SpD := fun ds S Q E => ∃ r, ds = .ref 0 :: r ∧ S = [.drw] ∧ sp r (fun d => Q d [.drw]) fun C fs => E C fs [.drw]
/-- one object handed on, the others hidden -/
def Ph.one (φ : Ph) (a : Addr) : Ph := ⟨φ.hid ++ φ.own.filter (· ≠ a), [a]⟩
section
variable {φ : Ph} {H : Hp} {S : List O} {a : Addr} {k : Nat}
theorem Rel.one {o o' : O} (r : Rel K φ H S) (hk : φ.own[k]? = some a) (h : RO K (φ.one a) H o' a) : Rel K (φ.one a) H [o'] := by
  refine ⟨(by show [a].Nodup; simp), fun b hb z => ?_, fun b hb => ?_, rfl, fun i x hx => ?_⟩
  · rw [List.mem_singleton.mp z] at hb
    rcases List.mem_append.mp hb with hb | hb
    · exact r.dj a hb (List.mem_of_getElem? hk)
    · simpa using (List.mem_filter.mp hb).2
  · rcases List.mem_append.mp hb with hb | hb
    · exact r.hd b hb
    · exact r.own_some (List.mem_filter.mp hb).1
  · cases i with
    | zero => simp at hx; subst hx; exact ⟨a, rfl, h⟩
    | succ i => simp at hx
theorem Fz.one (h : Fz φ b) (ha : a ∈ φ.own) : Fz (φ.one a) b := ⟨fun z => (List.mem_append.mp z).elim h.1 fun z => h.2 (List.mem_filter.mp z).1, fun z => h.2 (List.mem_singleton.mp z ▸ ha)⟩
theorem Fz.unone {b : Addr} (h : b ∉ (φ.one a).hid) (hn : b ≠ a) : Fz φ b := ⟨fun z => h (List.mem_append_left _ z), fun z => h (List.mem_append_right _ (List.mem_filter.mpr ⟨z, by simpa using hn⟩))⟩
theorem Ext.unone {φ' : Ph} {H' : Hp} (e : Ext K (φ.one a) φ' H H') (ha : a ∈ φ.own) : Ext K φ φ H H' := ⟨rfl, List.prefix_refl _, e.tup, e.xd, fun b u h g n => ⟨h, (e.fz b u (fun z => h (List.mem_singleton.mp z ▸ ha)) g n).2⟩⟩
theorem DrawL.lts {l : List D} {m : Nat} (h : DrawL l) : D.lts m l := by
  obtain ⟨ns, i, r, s, rfl, _⟩ := h
  exact ⟨D.lts_ints ns, trivial, trivial, trivial, trivial⟩
/-- the one object is again as it was: a drawing's list -/
theorem Rel.unone {φ' : Ph} {H' : Hp} {S1 : List O} (r : Rel K φ H S) (hk : φ.own[k]? = some a) (hS : S[k]? = some .drw) (e : Ext K (φ.one a) φ' H H') (r1 : Rel K φ' H' S1) (h1 : S1[0]? = some .drw) : Rel K φ H' S := by
  have ha := List.mem_of_getElem? hk
  refine ⟨r.nd, r.dj, fun b hb => ?_, r.len, fun i x hx => ?_⟩
  · obtain ⟨u, g, n⟩ := r.hd b hb
    exact ⟨u, (e.fz b u (fun z => r.dj b hb (List.mem_singleton.mp z ▸ ha)) g n).2, n⟩
  · by_cases hi : i = k
    · subst hi
      rw [hS] at hx; cases hx
      refine ⟨a, hk, ?_⟩
      obtain ⟨b, g1, l, vs, g2, g3, g4⟩ := r1.ob 0 _ h1
      have : φ'.own[0]? = some a := e.get (k := 0) rfl
      rw [this] at g1; cases g1
      exact ⟨l, vs, g2, g3, g4.tr (m := 0) (fun k a hk => absurd hk (Nat.not_lt_zero k)) (fun b z => Fz.unone (by rw [← e.hid]; exact z.1) fun y => z.2 (y ▸ List.mem_of_getElem? this)) g2.lts⟩
    · obtain ⟨b, g1, g2⟩ := r.ob i x hx
      refine ⟨b, g1, g2.mono (e.unone ha) fun u hu n => (e.fz b u (fun z => ?_) hu n).2⟩
      have hz := List.mem_singleton.mp z
      subst hz
      obtain ⟨l1, f1⟩ := List.getElem?_eq_some_iff.mp g1
      obtain ⟨l2, f2⟩ := List.getElem?_eq_some_iff.mp hk
      exact hi ((List.getElem_inj r.nd).mp (f1.trans f2.symm))
end
theorem upF_draw {sp : SpP} (hp : ∀ ds Q E, sp ds Q E → D.lts 0 ds) {vs : List V} {H : Hp} {Q : VK} {E : XK} (h : upF K (ld sp) vs H Q E) : upF K (at1 sp) vs H Q E := by
  obtain ⟨φ, ds, S, Q', E', T, r, rs, tt, h, kq, ke⟩ := h
  unfold ld at h
  split at h
  · rename_i rest S'
    have hS : (O.drw :: S')[0]? = some .drw := rfl
    obtain ⟨v0, ws, rfl, ⟨a, hk, rfl⟩, rs⟩ := rs
    have ha := List.mem_of_getElem? hk
    obtain ⟨b, hb, l, vs, g2, g3, g4⟩ := r.ob 0 _ hS
    rw [hk] at hb; cases hb
    have tr0 : ∀ {ds : List D} {vs : List V}, D.lts 0 ds → RVs K φ H ds vs → RVs K (φ.one a) H ds vs := fun l h => h.tr (m := 0) (fun k a hk => absurd hk (Nat.not_lt_zero k)) (fun b z => z.one ha) l
    have own1 : ∀ {φ' : Ph} {H' : Hp}, Ext K (φ.one a) φ' H H' → φ'.own.length = 1 → ∀ (k : Nat) (x : Addr), k < 1 → φ'.own[k]? = some x → φ.own[k]? = some x := fun e h1 k x hk' hx => by
      have : k = 0 := by omega
      subst this
      rw [e.get (k := 0) (a := a) rfl] at hx; cases hx; exact hk
    have fz1 : ∀ {φ' : Ph} {H' : Hp}, Ext K (φ.one a) φ' H H' → ∀ b, Fz φ' b → Fz φ b := fun e b z => Fz.unone (by rw [← e.hid]; exact z.1) fun y => z.2 (y ▸ List.mem_of_getElem? (e.get (k := 0) (a := a) rfl))
    have e1 : ∀ (p : Prop) , (([O.drw] : List O) = [.drw] ∧ p) = p := fun p => propext ⟨fun z => z.2, fun z => ⟨rfl, z⟩⟩
    refine ⟨φ.one a, .ref 0 :: rest, [.drw], fun d S1 => S1 = [.drw] ∧ Q' d (.drw :: S'), fun C fs S1 => S1 = [.drw] ∧ E' C fs (.drw :: S'), T, r.one (o := .drw) hk ⟨l, vs, g2, g3, tr0 g2.lts g4⟩, ⟨_, _, rfl, ⟨a, rfl, rfl⟩, tr0 (hp _ _ _ h) rs⟩, tt, ?_, ?_, ?_⟩
    · refine ⟨rest, rfl, rfl, ?_⟩
      show sp rest (fun d => ([O.drw] : List O) = [.drw] ∧ Q' d (.drw :: S')) (fun C fs => ([O.drw] : List O) = [.drw] ∧ E' C fs (.drw :: S'))
      rw [funext fun d => e1 (Q' d (.drw :: S')), funext fun C => funext fun fs => e1 (E' C fs (.drw :: S'))]
      exact h
    · rintro φ' d S1 v H' e r1 t1 rv ⟨rfl, q⟩
      have e0 : φ'.own.length = 1 := r1.len
      have l1 := rv.lt
      rw [e0] at l1
      exact kq φ d _ v H' (e.unone ha) (r.unone hk hS e r1 rfl) t1 (rv.tr (own1 e e0) (fz1 e) l1) q
    · rintro φ' C fs S1 cls d H' e r1 t1 ⟨hc, dx, gs, hd, h1, h2⟩ ⟨rfl, q⟩
      have e0 : φ'.own.length = 1 := r1.len
      have l1 : D.lts 1 (fs.map (·.2)) := by
        obtain ⟨us, eu, g3⟩ := h2.split
        have := g3.lt
        rwa [e0] at this
      exact ke φ C fs _ cls d H' (e.unone ha) (r.unone hk hS e r1 rfl) t1 ⟨hc, dx, gs, hd, h1, h2.tr (own1 e e0) (fz1 e) l1⟩ q
  · exact h.elim
/-! an __init__: one's own instance, new -/
abbrev SpI := List D → (List (Str × D) → Prop) → XD → Prop
def atI (C : Addr) (sp : SpI) : SpD := fun ds S Q E => ∃ r, ds = .ref 0 :: r ∧ S = [.ins C []] ∧ sp r (fun fs => Q .non [.ins C fs]) fun C' fs => E C' fs [.non]
/-- no numbers in what it tells -/
def PureI (sp : SpI) : Prop := ∀ ds Q E, sp ds Q E → D.lts 0 ds ∧ sp ds (fun fs => D.lts 0 (fs.map (·.2)) ∧ Q fs) fun C fs => D.lts 0 (fs.map (·.2)) ∧ E C fs
end
section
variable {X : Cx} {B : Bs} {k : Nat} {f C : Addr} {fd : FuncData} {ps : List Str} {sp : SpI} {dds : List D} {dvs : List V} {ds : List Value} {W : WX} {W' : WD} {x m : Str} {p pos apos : Pos} {e o : Expr} {es : List Expr} {q : QA}
/-- C(..), by value -/
def qMkV (C : Addr) (sp : SpI) (dds : List D) (W' : WD) (q : QA) : QE := fun s S Q => q s S fun ds S1 => sp (ds ++ dds) (fun fs => Q (.ins C (fs.map (·.1)) (fs.map (·.2))) S1) fun C fs => W' C fs s S1
theorem mkV_at {φ : Ph} {H : Hp} {S : List O} {s : Sl} {σ : L2.St} {dl : List D} {vs : List V} {Q' : D → List O → Prop} {Q : VK} (hp : PureI sp) (hr : HR X.K B φ H S) (ev : EV X.K φ H s σ) (r : RVs X.K φ H dl vs) (hdd : RVc X.K dds dvs) (wl : WL X.K B W' W)
    (h : sp (dl ++ dds) (fun fs => Q' (.ins C (fs.map (·.1)) (fs.map (·.2))) S) fun C fs => W' C fs s S) (k : Kont X.K B (rD X.K) φ H Q' Q) :
    ∀ x dx, H x = none → H dx = none → dx ≠ x → upF X.K (atI C sp) (.ref x :: (vs ++ dvs)) (upd (upd H dx (.own x)) x (.ins C dx [])) (fun v H2 => v = .non ∧ Q (.ref x) H2) (WE W σ) := fun x dx hx hdx hne => by
  have hx1 : upd H dx (.own x) x = none := by rw [upd_ne hne.symm]; exact hx
  have e1 : Ext X.K φ φ H (upd H dx (.own x)) := ext_new hdx
  have e2 : Ext X.K φ (φ.add x) (upd H dx (.own x)) (upd (upd H dx (.own x)) x (.ins C dx [])) := ext_add hx1
  have at_ : ∀ b u, H b = some u → upd (upd H dx (.own x)) x (.ins C dx []) b = some u := fun b u z => by rw [upd_ne (ne_of_none z hx), upd_ne (ne_of_none z hdx)]; exact z
  have xh : x ∉ φ.hid ++ φ.own := fun z => by
    rcases List.mem_append.mp z with z | z
    · obtain ⟨u, g, _⟩ := hr.rel.hd x z; rw [hx] at g; cases g
    · obtain ⟨u, g, _⟩ := hr.rel.own_some z; rw [hx] at g; cases g
  obtain ⟨lt, h⟩ := hp _ _ _ h
  have rc : Rel X.K ⟨φ.hid ++ φ.own, [x]⟩ (upd (upd H dx (.own x)) x (.ins C dx [])) [.ins C []] := by
    refine ⟨(by show [x].Nodup; simp), fun b hb z => xh (List.mem_singleton.mp z ▸ hb), fun b hb => ?_, rfl, fun i y hy => ?_⟩
    · have t : Trk H b := (List.mem_append.mp hb).elim (hr.rel.hd b) fun z => hr.rel.own_some z
      obtain ⟨u, g, n⟩ := t
      exact ⟨u, at_ _ _ g, n⟩
    · cases i with
      | zero => simp at hy; subst hy; exact ⟨x, rfl, dx, [], upd_same, rfl⟩
      | succ i => simp at hy
  have rr := (r.mono (e1.trans e2)).app (hdd (φ.add x) (upd (upd H dx (.own x)) x (.ins C dx [])))
  have rr2 : RVs X.K ⟨φ.hid ++ φ.own, [x]⟩ (upd (upd H dx (.own x)) x (.ins C dx [])) (dl ++ dds) (vs ++ dvs) := rr.tr (m := 0) (fun k a hk => absurd hk (Nat.not_lt_zero k)) (fun b z => ⟨fun y => (List.mem_append.mp y).elim z.1 fun y => z.2 (List.mem_append_left _ y), fun y => z.2 (List.mem_append_right _ y)⟩) lt
  have eE : ∀ {φ' : Ph} {H' : Hp}, Ext X.K ⟨φ.hid ++ φ.own, [x]⟩ φ' (upd (upd H dx (.own x)) x (.ins C dx [])) H' → Ext X.K φ φ H H' := fun e => ⟨rfl, List.prefix_refl _, fun p vs h => e.tup p vs (e2.tup p vs (e1.tup p vs h)), fun p gs h => e.xd p gs (e2.xd p gs (e1.xd p gs h)), fun b u h g n => ⟨h, (e.fz b u (fun z => by rw [List.mem_singleton.mp z, hx] at g; cases g) (at_ _ _ g) n).2⟩⟩
  have rR : ∀ {φ' : Ph} {H' : Hp}, Ext X.K ⟨φ.hid ++ φ.own, [x]⟩ φ' (upd (upd H dx (.own x)) x (.ins C dx [])) H' → Rel X.K φ H' S := fun e => hr.rel.kept (eE e) fun b u g n => (e.fz b u (fun z => by rw [List.mem_singleton.mp z, hx] at g; cases g) (at_ _ _ g) n).2
  have fz1 : ∀ {φ' : Ph} {H' : Hp}, Ext X.K ⟨φ.hid ++ φ.own, [x]⟩ φ' (upd (upd H dx (.own x)) x (.ins C dx [])) H' → ∀ b, b ∉ φ'.hid → Fz φ b := fun e b z => by
    rw [e.hid] at z
    exact ⟨fun y => z (List.mem_append_left _ y), fun y => z (List.mem_append_right _ y)⟩
  refine ⟨⟨φ.hid ++ φ.own, [x]⟩, .ref 0 :: (dl ++ dds), [.ins C []], fun d S1 => d = .non ∧ ∃ fs, S1 = [.ins C fs] ∧ D.lts 0 (fs.map (·.2)) ∧ Q' (.ins C (fs.map (·.1)) (fs.map (·.2))) S, fun C' fs S1 => D.lts 0 (fs.map (·.2)) ∧ W' C' fs s S, B.T, rc, ⟨_, _, rfl, ⟨x, rfl, rfl⟩, rr2⟩, tabs_new hx1 (tabs_new hdx hr.tab), ?_, ?_, ?_⟩
  · refine ⟨dl ++ dds, rfl, rfl, ?_⟩
    have e3 : (fun fs : List (Str × D) => (D.non = D.non ∧ ∃ fs', [O.ins C fs] = [O.ins C fs'] ∧ D.lts 0 (fs'.map (·.2)) ∧ Q' (.ins C (fs'.map (·.1)) (fs'.map (·.2))) S)) = fun fs => D.lts 0 (fs.map (·.2)) ∧ Q' (.ins C (fs.map (·.1)) (fs.map (·.2))) S := funext fun fs => propext ⟨fun ⟨_, fs', z, y⟩ => by cases z; exact y, fun z => ⟨rfl, fs, rfl, z⟩⟩
    show sp (dl ++ dds) (fun fs : List (Str × D) => (D.non = D.non ∧ ∃ fs', [O.ins C fs] = [O.ins C fs'] ∧ D.lts 0 (fs'.map (·.2)) ∧ Q' (.ins C (fs'.map (·.1)) (fs'.map (·.2))) S)) _
    rw [e3]
    exact h
  · rintro φ' d S1 v H' e r1 t1 rv ⟨rfl, fs, rfl, l1, q⟩
    cases rv
    refine ⟨rfl, k _ _ _ _ _ (eE e) (hr.mono (eE e) (rR e) t1) ?_ q⟩
    have r0 : RV X.K (φ'.cut 0) H' (.ins C (fs.map (·.1)) (fs.map (·.2))) (.ref x) := Rs.rv (m := 0) r1 (.inr ⟨0, fs, rfl, Nat.le_refl _, rfl, rfl, RsL.same l1⟩) ⟨x, e.get (k := 0) rfl, rfl⟩
    exact r0.tr (m := 0) (fun k a hk => absurd hk (Nat.not_lt_zero k)) (fun b (z : Fz (φ'.cut 0) b) => fz1 e b z.1) l1
  · rintro φ' C' fs S1 cls d H' e r1 t1 ⟨hc, dx', gs, hd, h1, h2⟩ ⟨l1, q⟩
    refine wl _ _ _ _ S _ _ _ _ (hr.mono (eE e) (rR e) t1) (ev.mono (eE e)) ⟨hc, dx', gs, hd, h1, ?_⟩ q
    obtain ⟨us, eu, g3⟩ := h2.split
    subst eu
    refine RKV.join ?_
    have := RsL.rv (m := 0) r1 (RsL.same l1) g3
    exact this.tr (m := 0) (fun k a hk => absurd hk (Nat.not_lt_zero k)) (fun b (z : Fz (φ'.cut 0) b) => fz1 e b z.1) l1
theorem le_mkV {fI : Addr} (hp : PureI sp) (M : Mk X.K C fI) (F : FnOk X.prog X.w X.K X.mg X.base (L2.CX X.prog X.w) k fI fd ps (upF X.K (atI C sp))) (rm : Room (k + 1) X.A) (hm : X.mg x = some (.ref C)) (bd : Binds X.K fd ps ds) (vd : Vals dvs ds) (hdd : RVc X.K dds dvs) (tk : Takes X W) (wl : WL X.K B W' W) (ha : LA X B (e :: es) q) (hg : Gl X x := by rfl)
    (nx : (x == ("__debug__" : Str)) = false := by decide) (st : starEach (e :: es) X.env = (false, eval e X.env) :: starEach es X.env := by rfl) (pn : (backTo pos (starEach es X.env)).any (·.1) = false := by rfl) : LE X B (.Call (.Name x p) (e :: es) [] pos) (qMkV C sp dds W' q) := ⟨fun pins s σ H Q I ⟨φ, s', S, Q', hr', ev, q, kk⟩ => by
  refine wpAny_Call_Name_kw (ld_glob I hg hm ?_ nx)
  refine PySem.W.callWith_K (h₀ := X.base) I.ok.mod.kin M.kp (thn (ha.run pos pins s σ H (fun vs H1 => ∃ φ1 dl S1, Ext X.K φ φ1 H H1 ∧ HR X.K B φ1 H1 S1 ∧ RVs X.K φ1 H1 dl vs ∧ sp (dl ++ dds) (fun fs => Q' (.ins C (fs.map (·.1)) (fs.map (·.2))) S1) fun C fs => W' C fs s' S1) I
    ⟨φ, s', S, _, hr', ev, q, fun φ1 dl S1 vs H1 e1 hr1 r1 q1 => ⟨φ1, dl, S1, e1, hr1, r1, q1⟩⟩) fun us s1 ⟨vs, H1, I1, r, φ1, dl, S1, e1, hr1, r1, q1⟩ => ⟨I1.kIn, ?_⟩) st pn
  exact run_mk (E := WE W) M F rm bd vd (passAt tk σ) I1 r (mkV_at hp hr1 (ev.mono e1) r1 hdd wl q1 (kk.ext e1))⟩
end
end LC

set_option Elab.async false
set_option linter.all false
set_option maxRecDepth 100000
set_option maxHeartbeats 5000000
/-! LD8: exceptions: classes with an own __init__, raise, try .. except. -/
namespace LC
open PySem PySem.Spec
open PyProof.Rows L2

/-! ### C.m(..), m a plain def of the class -/
section
variable {X : Cx} {k : Nat} {f C : Addr} {fd : FuncData} {ps : List Str} {sp : Sp} {E : XK} {x m : Str} {p1 p2 pos : Pos} {e : Expr} {es : List Expr} {t : TA} {mc : Value}
theorem pe_clsm {pl : Sem Bool} (hg : Gl X x) (hm : X.mg x = some (.ref C)) (r : ClX.CRead X.K C mc) (hc : PySem.W.findCls X.K (.ref C) mc m = some (.val (.ref f))) (F : FnOk X.prog X.w X.K X.mg X.base (L2.CX X.prog X.w) k f fd ps sp) (hk : PySem.W.keepIn X.K (.ref f) = true) (hr : Room k X.A) (hb : Binds X.K fd ps [])
    (hx : Passes (L2.CX X.prog X.w) X E) (ha : PA X (e :: es) t) (hdb : (x == ("__debug__" : Str)) = false := by decide)
    (hst : starEach (e :: es) X.env = (false, eval e X.env) :: starEach es X.env := by rfl) 
    (hpl : (backTo pos (starEach es X.env)).any (·.1) = false := by rfl)
    (ht : eval (.Call (.Attribute (.Name x p1) m p2) (e :: es) [] pos) X.env = (do
      let ov ← eval (.Name x p1) X.env
      standAt p2.atName
      let (fn, pre) ← holding [ov] (getMethod ov m pl)
      callWith pos fn pre (backTo pos (starEach (e :: es) X.env)) (backToKw pos (keywordEach [] X.env))) := by rfl) :
    PE X (.Call (.Attribute (.Name x p1) m p2) (e :: es) [] pos) (tCall sp [] E t) := by
  refine ⟨fun pn s σ H Q I hh => ?_⟩
  refine PySem.W.methodCall_KW (pl := pl) (ld_glob I hg hm ?_ hdb) ht
  refine PySem.W.method_cls I.kIn r.ga (ClX.getcval_ok (v := .ref f) I r ⟨hc, rfl⟩ fun s' I' => ?_)
  refine PySem.W.callWith_K (first := []) (h₀ := X.base) I.ok.mod.kin hk (thn (ha.run pos pn s' σ H _ I' hh) fun ws t2 ⟨vs, M2, J2, r2, q2⟩ => ⟨J2.kIn, ?_⟩) hst hpl
  exact run_fn (us := ws) (vs := vs) F hr hb .nil hx J2 r2 q2
end

/-! ### an exception's __init__ -/
/-- self gets its own dict with the fields fl; all else stays -/
def spX (C : Addr) (n : Nat) (fl : List V → List (Str × V)) : Sp := fun vs H Q _ => ∃ (a : Addr) (us : List V), vs = .ref a :: us ∧ us.length = n ∧ H a = some (exo a C none) ∧
  ∀ (d : Addr) (Hf : Hp), H d = none → d ≠ a → Hf a = some (exo a C (some d)) → Hf d = some (exd d (fl us)) → (∀ b, b ≠ a → b ≠ d → Hf b = H b) → Q .non Hf
/-- the base's: called with any of the classes -/
def spX0 (K : PySem.W.Frag) : Sp := fun vs H Q _ => ∃ (a C : Addr) (y : V), vs = [.ref a, y] ∧ OexC K C ∧ PySem.W.findIn K (.ref C) "called" = some none ∧ H a = some (exo a C none) ∧
  ∀ d, H d = none → d ≠ a → Q .non (upd (upd H d (exd d [("called", y)])) a (exo a C (some d)))
section
variable {X : Cx} {B : Bs} {x : Str} {C fI : Addr} {k : Nat} {fd : FuncData} {ps : List Str} {ds : List Value} {dvs : List V} {p pos : Pos} {e : Expr} {es : List Expr} {q : QA}
/-- as HandS's pmk_oex, without arguments -/
theorem pmk_oex0 {sp : Sp} (T : OexC X.K C) (iC : PySem.W.findIn X.K (.ref C) "__init__" = some (some (.ref fI))) (tI : PySem.W.typeIn X.K (.ref fI) = some (.type "function"))
    (F1 : FnOk X.prog X.w X.K X.mg X.base (L2.CX X.prog X.w) k fI fd ps sp) (hr : Room (k + 1) X.A) (hb : Binds X.K fd ps ds) (hd : Vals dvs ds) (hx : Passes (L2.CX X.prog X.w) X (fun _ _ _ => False)) (hg : Gl X x) (hm : X.mg x = some (.ref C))
    (hdb : (x == ("__debug__" : Str)) = false := by decide) :
    PMk X (.Call (.Name x p) [] [] pos) (tMkO C sp dvs tNil) := by
  intro pn s σ H Q I h
  obtain ⟨hz, q1⟩ := h
  obtain ⟨m0, q, N, bs, bm, sn, sub, ab, col, dd, k0, k1, k2, k3, k5, gC, gbm⟩ := T.cls
  apply wpAny_Call_Name_kw; refine ld_glob I hg hm ?_ hdb
  refine PySem.W.callWith_K0 I.kIn T.kC ?_
  show wpAny _ _ (call (.ref C) []) _ _ _
  obtain ⟨hpo, gg, dd0, tt, oo⟩ := s
  have hSz : hpo.objs.size ≤ hpo.objs.size + 1 := Nat.le_succ _
  have hq := q1 (hpo.objs.size + 1) (I.hok.fresh hSz)
  have kp : ∀ b o, hpo.get? b = some o → ((hpo.push (PySem.W.kdv_tup [])).push (PySem.HandSPX.excO C hpo.objs.size)).get? b = some o := fun b o e => Heap.get?_push_of_some _ (Heap.get?_push_of_some _ e)
  have hGet : ((hpo.push (PySem.W.kdv_tup [])).push (PySem.HandSPX.excO C hpo.objs.size)).get? (hpo.objs.size + 1) = some (PySem.HandSPX.excO C hpo.objs.size) := by heap_get
  have J2 : Inv X pn σ (upd H (hpo.objs.size + 1) (exo (hpo.objs.size + 1) C none)) ⟨(hpo.push (PySem.W.kdv_tup [])).push (PySem.HandSPX.excO C hpo.objs.size), gg, dd0, tt, oo⟩ :=
    I.laid (t' := tt) (a := hpo.objs.size + 1) (o := exo (hpo.objs.size + 1) C none) (h' := (hpo.push (PySem.W.kdv_tup [])).push (PySem.HandSPX.excO C hpo.objs.size)) kp hSz (exo_ok hGet)
  have rr : Vals (V.ref (hpo.objs.size + 1) :: ([] ++ dvs)) (Value.ref (hpo.objs.size + 1) :: ([] ++ ds)) := .cons rfl hd
  have hLen : (Value.ref (hpo.objs.size + 1) :: ([] : List Value) ++ ds).length = ps.length := by
    have e := rr.length
    rw [F1.len _ _ _ _ hq] at e
    exact e.symm
  refine wpAny_call (PySem.HandSPX.call_own F.excBase_ValueError (fun Y => PySem.HandSPX.refsVE_contains Y bm gbm) (I.kIn _ _ gC) (PySem.W.looks_findIn I.kIn iC) (fun self => PySem.W.bind_fn I.kIn self tI) (by show 0 ≤ sizeLine; exact Nat.zero_le _)
    (codeAny_mono (F1.run _ X.stack _ _ ⟨Value.ref (hpo.objs.size + 1) :: [], []⟩ (Value.ref (hpo.objs.size + 1) :: ([] ++ ds)) _ _ (fun _ _ _ => False) (hr.make C [] []) (J2.env0.make C [] []) (by have z := hb ⟨(hpo.push (PySem.W.kdv_tup [])).push (PySem.HandSPX.excO C hpo.objs.size), gg, dd0, tt, oo⟩ [Value.ref (hpo.objs.size + 1)] J2.kIn hLen; simpa using z) rr hq) fun r s' hq' => ?_))
  cases r with
  | error ex => exact hx pn σ _ _ ex s' J2 hq'
  | ok fl =>
    cases fl with
    | ret u =>
      obtain ⟨v, M2, o2, b2, u2, k2, rv, ev, d, fs, e1, e2, e3, q2⟩ := hq'
      subst ev
      obtain ⟨h2, g2, dd2, t2, oo'⟩ := s'
      exact ⟨rv, mk_end (raises_own T.exC T.tyC) I hSz kp u2 k2 o2 b2 e1 e2 e3 q2⟩
    | next => exact hq'.elim
    | brk => exact False.elim hq'
    | cont => exact hq'.elim
/-- the fields of such an exception, over data -/
def FlD (K : PySem.W.Frag) (fl : List V → List (Str × V)) (flD : List D → List (Str × D)) : Prop := ∀ φ H ds us, RVs K φ H ds us → RKV K φ H (flD ds) (fl us)
theorem mk_at {φ : Ph} {H : Hp} {S : List O} {dl dds : List D} {vs : List V} {n : Nat} {fl : List V → List (Str × V)} {flD : List D → List (Str × D)} {Q : XK} (hfl : FlD X.K fl flD) (hr : HR X.K B φ H S) (r : RVs X.K φ H dl vs) (hdd : RVc X.K dds dvs) (hn : dl.length + dds.length = n)
    (q : ∀ φ' H' cls d, Ext X.K φ φ' H H' → HR X.K B φ' H' S → XRel X.K φ' H' C (flD (dl ++ dds)) cls d → Q cls d H') :
    ∀ a, H a = none → spX C n fl (.ref a :: (vs ++ dvs)) (upd H a (exo a C none)) (fun v H2 => v = .non ∧ ∃ (d : Addr) (fs : List (Str × V)), H2 a = some (exo a C (some d)) ∧ H2 d = some (exd d fs) ∧ H d = none ∧ Q (.ref C) (some d) (upd (del H2 a) d (.xd fs))) (fun _ _ _ => False) := fun a ha => by
  have rr := r.app (hdd φ H)
  refine ⟨a, vs ++ dvs, rfl, by rw [rr.len, List.length_append]; exact hn, upd_same, fun d Hf hd hne h1 h2 h3 => ⟨rfl, d, fl (vs ++ dvs), h1, h2, by rw [upd_ne hne] at hd; exact hd, ?_⟩⟩
  rw [upd_ne hne] at hd
  have at_ : ∀ b u, H b = some u → upd (del Hf a) d (.xd (fl (vs ++ dvs))) b = some u := fun b u hb => by
    have h4 : b ≠ a := ne_of_none hb ha
    have h5 : b ≠ d := ne_of_none hb hd
    rw [upd_ne h5, del_ne h4, h3 b h4 h5, upd_ne h4]; exact hb
  have e : Ext X.K φ φ H (upd (del Hf a) d (.xd (fl (vs ++ dvs)))) := ext_at at_
  exact q φ _ _ _ e (hr.mono e (hr.rel.kept e fun b u h _ => at_ b u h) (hr.tab.ext at_)) ⟨rfl, d, _, rfl, upd_same, hfl _ _ _ _ (rr.mono e)⟩
/-- raise C(..) -/
def qRaise (C : Addr) (flD : List D → List (Str × D)) (n : Nat) (dds : List D) (W' : WD) (q : QA) : QS := fun _ s S => q s S fun ds S1 => Br (lenLe 1000 ds && Nat.beq (ds ++ dds).length n) (W' C (flD (ds ++ dds)) s S1) False
theorem raise_ok {ds dds : List D} {n : Nat} (h : (lenLe 1000 ds && Nat.beq (ds ++ dds).length n) = true) : ds.length ≤ 1000 ∧ ds.length + dds.length = n := by
  rw [Bool.and_eq_true] at h
  exact ⟨lenLe_ok h.1, by rw [← List.length_append]; exact Nat.eq_of_beq_eq_true h.2⟩
theorem ls_raise {W : WX} {W' : WD} {n : Nat} {fl : List V → List (Str × V)} {flD : List D → List (Str × D)} {dds : List D} {rpos : Pos} (hfl : FlD X.K fl flD) (hc : X.calm = true) (T : OexC X.K C) (iC : PySem.W.findIn X.K (.ref C) "__init__" = some (some (.ref fI))) (tI : PySem.W.typeIn X.K (.ref fI) = some (.type "function"))
    (F1 : FnOk X.prog X.w X.K X.mg X.base (L2.CX X.prog X.w) k fI fd ps (spX C n fl)) (hr : Room (k + 1) X.A) (hb : Binds X.K fd ps ds) (hd : Vals dvs ds) (hdd : RVc X.K dds dvs) (tk : Takes X W) (wl : WL X.K B W' W) (hx : Passes (L2.CX X.prog X.w) X (fun _ _ _ => False)) (hg : Gl X x) (hm : X.mg x = some (.ref C))
    (ha : LA X B (e :: es) q) (hdb : (x == ("__debug__" : Str)) = false := by decide) (he : starEach (e :: es) X.env = (false, eval e X.env) :: starEach es X.env := by rfl) (hpl : (backTo pos (starEach es X.env)).any (·.1) = false := by rfl) :
    LS X B (.Raise (some (.Call (.Name x p) (e :: es) [] pos)) none rpos) (qRaise C flD n dds W' q) := PS.imp (ps_raise hc tk (pmk_oex T iC tI F1 hr hb hd hx hg hm ha hdb he hpl)) fun D σ H ⟨φ, s, S, D', hr', ev, q, ek⟩ =>
  ⟨φ, s, S, _, hr', ev, q, fun φ1 dl S1 vs H1 e1 hr1 r1 qq => let ⟨hb, q1⟩ := Br.get qq; let ⟨h1, h2⟩ := raise_ok hb; ⟨by rw [r1.len]; exact h1, mk_at hfl hr1 r1 hdd h2 fun φ' H' cls d e2 hr2 xr => wl _ _ _ _ _ _ _ _ _ hr2 (ev.mono (e1.trans e2)) xr q1⟩⟩
theorem ls_raise0 {W : WX} {W' : WD} {n : Nat} {fl : List V → List (Str × V)} {flD : List D → List (Str × D)} {dds : List D} {rpos : Pos} (hfl : FlD X.K fl flD) (hc : X.calm = true) (T : OexC X.K C) (iC : PySem.W.findIn X.K (.ref C) "__init__" = some (some (.ref fI))) (tI : PySem.W.typeIn X.K (.ref fI) = some (.type "function"))
    (F1 : FnOk X.prog X.w X.K X.mg X.base (L2.CX X.prog X.w) k fI fd ps (spX C n fl)) (hr : Room (k + 1) X.A) (hb : Binds X.K fd ps ds) (hd : Vals dvs ds) (hdd : RVc X.K dds dvs) (tk : Takes X W) (wl : WL X.K B W' W) (hx : Passes (L2.CX X.prog X.w) X (fun _ _ _ => False)) (hg : Gl X x) (hm : X.mg x = some (.ref C))
    (hdb : (x == ("__debug__" : Str)) = false := by decide) :
    LS X B (.Raise (some (.Call (.Name x p) [] [] pos)) none rpos) (qRaise C flD n dds W' qNil) := PS.imp (ps_raise hc tk (pmk_oex0 T iC tI F1 hr hb hd hx hg hm hdb)) fun D σ H ⟨φ, s, S, D', hr', ev, qq, ek⟩ => let ⟨hb, q⟩ := Br.get qq; let ⟨h1, h2⟩ := raise_ok hb
  ⟨Nat.zero_le _, mk_at (dl := []) hfl hr' rfl hdd h2 fun φ' H' cls d e2 hr2 xr => wl _ _ _ _ _ _ _ _ _ hr2 (ev.mono e2) xr q⟩

/-! ### try .. except X as n -/
/-- a later ground -/
structure BLe (K : PySem.W.Frag) (B B' : Bs) : Prop where
  ext : Ext K B.φ0 B'.φ0 B.H0 B'.H0
  tab : B'.T = B.T
/-- n.f in the suite -/
def qXf (K : PySem.W.Frag) (a C : Addr) (fs : List (Str × D)) (m : Str) (qe : QE) : QE := fun s S Q => qe s S fun d S1 => Need (d = .adr a ∧ XfC K C ∧ PySem.W.findIn K (.ref C) m = some none) (Opt (fs.lookup m) fun v => Q v S1)
theorem pe_xfA {a : Addr} {oe : Obj} {cls : Value} {d : Option Addr} {pn : List (Addr × Obj)} {e : Expr} {te : TE} {pos : Pos} {n : Str}
    (hz : Zc cls d oe)
    (hf : ∃ vs, oe.data = .fields vs) (he : PE (X.suite a ((a, oe) :: pn)) e te) (hb : attributeBase e n X.env (eval e X.env) = eval e X.env := by rfl) :
    PE (X.suite a ((a, oe) :: pn)) (.Attribute e n pos) (fun σ H Q => te σ H fun x H1 => x = .ref a ∧ ∃ (C dd : Addr) (fs : List (Str × V)) (v : V), cls = .ref C ∧ XfC X.K C ∧ PySem.W.findIn X.K (.ref C) n = some none ∧ d = some dd ∧ H1 dd = some (.xd fs) ∧ fs.lookup n = some v ∧ Q v H1) := by
  refine ⟨fun pn s σ H Q I h => ?_⟩
  refine attr_of hb (thn (he.run pn s σ H _ I h) fun u t1 hz1 => ?_)
  obtain ⟨x, H1, J1, rx, ex, C, dd, fs, v, ec, T, hno, ed, ea, l, q⟩ := hz1
  subst ex
  have eu : u = Value.ref a := rx
  subst eu
  subst ec
  subst ed
  obtain ⟨ha, _⟩ := J1.pin (a, oe) (List.mem_append_left _ List.mem_cons_self)
  obtain ⟨vs, hd⟩ := hf
  have hOb : ObjOk X.prog X.w H1 t1.heap dd (.xd fs) := J1.hok dd _ ea
  obtain ⟨mm, hN, hr⟩ := hOb
  obtain ⟨o2, hO2, hL2⟩ := lookIn_ns hN
  obtain ⟨u, hu, rr⟩ := RelO.some_of (v := v) (o := mm n) (by rw [← l]; exact hr n)
  have JJ : PySem.W.InstAt t1.heap a oe C (some o2) := ⟨ha, hz.1, by unfold PySem.W.notCls; rw [hd] <;> rfl, by rw [hz.2]; exact hO2⟩
  exact HandSPX.exc_get J1.kIn JJ T.ga T.gg T.exC (PySem.W.findObj_own T.hdC hno rfl (by rw [hL2, hu])) (handed_of rr) ⟨v, H1, J1.tok _, rr, q⟩
theorem le_xf {a : Addr} {oe : Obj} {cls : Value} {d : Option Addr} {pn : List (Addr × Obj)} {e : Expr} {qe : QE} {pos : Pos} {n : Str} {fs : List (Str × D)}
    (hz : Zc cls d oe) (hf : ∃ vs, oe.data = .fields vs) (xr : XRel X.K B.φ0 B.H0 C fs cls d) (he : LE (X.suite a ((a, oe) :: pn)) B e qe) (hb : attributeBase e n X.env (eval e X.env) = eval e X.env := by rfl) :
    LE (X.suite a ((a, oe) :: pn)) B (.Attribute e n pos) (qXf X.K a C fs n qe) := PE.imp (pe_xfA hz hf he hb) fun σ H Q ⟨φ, s, S, Q', hr, ev, q, k⟩ =>
  ⟨φ, s, S, _, hr, ev, q, fun φ1 d1 S1 v1 H1 e1 hr1 r1 ⟨⟨h1, h2, h3⟩, qq⟩ => by
    obtain ⟨v, h4, q1⟩ := Opt.get qq
    subst h1
    obtain ⟨rfl, dd, gs, rfl, h5, h6⟩ := xr
    have h7 := h6.mono hr1.ext
    obtain ⟨u, h8, h9⟩ := h7.lookup_some h4
    exact ⟨r1, C, dd, gs, u, rfl, h2, h3, rfl, hr1.ext.xd _ _ h5, h8, k _ _ _ _ _ e1 hr1 h9 q1⟩⟩
/-- the suite, over the exception that came -/
def tsX (K : PySem.W.Frag) (B : Bs) (qs : Addr → Addr → List (Str × D) → QS) (a : Addr) (cls : Value) (d : Option Addr) : TS := fun D σ H => ∃ φ C fs s S D', D'.n = S.length ∧ XRel K φ H C fs cls d ∧ HR K B φ H S ∧ EV K φ H s σ ∧ qs a C fs D' s S ∧ EK K B φ H D' D
end
end LC

set_option Elab.async false
set_option linter.all false
set_option maxRecDepth 100000
set_option maxHeartbeats 5000000
/-! LD9: why(lambda: e). -/
namespace LC
open PySem PySem.Spec
open PyProof.Rows L2

section
variable {X : Cx} {B : Bs}
end
end LC

set_option Elab.async false
set_option linter.all false
set_option maxRecDepth 100000
set_option maxHeartbeats 5000000
/-! LD10: the __init__ of exceptions. -/
namespace LC
open PySem PySem.Spec
open PyProof.Rows L2
section
variable {P : Program} {w : World} {K : PySem.W.Frag} {mg : Str → Option Value} {base : Heap} {q : Str} {st : Stmt} {f : Addr} {fd : FuncData} {p1 p2 p3 p4 p5 p6 p7 p8 p9 p10 p11 p12 p13 : Pos}
theorem passN {X : Cx} : Passes (L2.CX X.prog X.w) X (fun _ _ _ => False) := fun _ _ _ _ _ _ _ ⟨_, _, _, _, _, _, _, _, _, _, _, _, h⟩ => h.elim
/-- C.m(..) is read as such at these positions -/
def McOk (o : Expr) (m : Str) (es : List Expr) (p2 p5 : Pos) : Prop := ∃ pl : Env → Sem Bool, ∀ env : Env, eval (.Call (.Attribute o m p2) es [] p5) env = (do
      let ov ← eval o env
      standAt p2.atName
      let (f, first) ← holding [ov] (getMethod ov m (pl env))
      callWith p5 f first (backTo p5 (starEach es env)) (backToKw p5 (keywordEach [] env)))
/-- the base's own -/
theorem ok_lime (F : Fun K "__init__" q st f fd) (Sc : FnScope ["self", "called"] ["self", "called"] (defScope st))
    (hb : defBody st = [.Expr (.Call (.Attribute (.Name "ValueError" p1) "__init__" p2) [.Name "self" p3, .Name "called" p4] [] p5) p6, .Assign [.Attribute (.Name "self" p7) "called" p8] (.Name "called" p9) p10])
    (l1 : (defScope st).names.lookup ("self" : Str) = some .local) (l2 : (defScope st).names.lookup ("called" : Str) = some .local) (l3 : (defScope st).names.lookup ("ValueError" : Str) = some .globalImplicit) (hm : mg "ValueError" = none)
    (hc : McOk (.Name "ValueError" p1) "__init__" [.Name "self" p3, .Name "called" p4] p2 p5) (vV : PySem.W.findCls K (.type "ValueError") (.type "type") "__init__" = some (.val (.builtin "ValueError.__init__"))) : FnOk P w K mg base (L2.CX P w) 1 f fd ["self", "called"] (spX0 K) := by
  refine F.okX Sc (fun vs H Q E ⟨a, C, y, h, _⟩ => by subst h; rfl) fun cdv A outer s H vs Q E hr ⟨a, C, y, hv, T, hno, ha, k⟩ => ?_
  subst hv
  rw [hb]
  obtain ⟨pl, hc⟩ := hc
  refine ⟨_, pss_cons (ps_expr (pe_veinit l3 hm vV (pa_cons (pe_var (i := 0) rfl (.inl l1) (by decide) (by decide)) (pa_cons (pe_var (i := 1) rfl (.inl l2) (by decide) (by decide)) pa_nil)) (hc _)) rfl)
    (pss_one (ps_ost (pe_var (i := 0) rfl (.inl l1) (by decide) (by decide)) (pe_var (i := 1) rfl (.inl l2) (by decide) (by decide)))), ?_⟩
  refine ⟨.ref a, rfl, y, rfl, a, C, [y], rfl, (by show (1:Nat) ≤ 1000; decide), T, ha, y, rfl, .ref a, rfl, a, C, rfl, T, hno, .inl ⟨ha, fun d hd hne => ?_⟩⟩
  exact k d hd hne
end
section
variable {P : Program} {w : World} {K : PySem.W.Frag} {mg : Str → Option Value} {base : Heap} {q wd m n : Str} {st : Stmt} {f fB C B : Addr} {mc : Value} {fd fdB : FuncData} {j : Nat} {p1 p2 p3 p4 p5 p6 p7 p8 p9 p10 p11 p12 p13 p14 : Pos}
/-- what a class of the kind has -/
structure XcOk (K : PySem.W.Frag) (mg : Str → Option Value) (B fB : Addr) (fdB : FuncData) (mc : Value) : Prop where
  gB : mg "LimeError" = some (.ref B)
  rB : ClX.CRead K B mc
  iB : PySem.W.findCls K (.ref B) mc "__init__" = some (.val (.ref fB))
  kB : PySem.W.keepIn K (.ref fB) = true
  bB : Binds K fdB ["self", "called"] []
abbrev sup (wd : Str) (j : Nat) (p1 p2 p3 p4 p5 p6 : Pos) : Stmt := .Expr (.Call (.Attribute (.Name "LimeError" p1) "__init__" p2) [.Name "self" p3, .Constant (.str wd) j p4] [] p5) p6
theorem ok_exc0 (F : Fun K "__init__" q st f fd) (Sc : FnScope ["self"] ["self"] (defScope st)) (hb : defBody st = [sup wd j p1 p2 p3 p4 p5 p6]) (hc : McOk (.Name "LimeError" p1) "__init__" [.Name "self" p3, .Constant (.str wd) j p4] p2 p5)
    (l1 : (defScope st).names.lookup ("self" : Str) = some .local) (l3 : (defScope st).names.lookup ("LimeError" : Str) = some .globalImplicit) (G : XcOk K mg B fB fdB mc) (FB : FnOk P w K mg base (L2.CX P w) 1 fB fdB ["self", "called"] (spX0 K))
    (T : OexC K C) (nc : PySem.W.findIn K (.ref C) "called" = some none) : FnOk P w K mg base (L2.CX P w) 2 f fd ["self"] (spX C 0 fun _ => [("called", .str wd)]) := by
  refine F.okX Sc (fun vs H Q E ⟨a, us, h, hl, _⟩ => by subst h; simp [hl]) fun cdv A outer s H vs Q E hr ⟨a, us, hv, hl, ha, k⟩ => ?_
  subst hv
  rw [hb]
  obtain ⟨pl, hc⟩ := hc
  obtain rfl : us = [] := List.length_eq_zero_iff.mp hl
  refine ⟨_, pss_one (ps_expr (pe_clsm l3 G.gB G.rB G.iB FB G.kB hr G.bB passN (pa_cons (pe_var (i := 0) rfl (.inl l1) (by decide) (by decide)) (pa_cons pe_str pa_nil)) (ht := hc _)) rfl), ?_⟩
  refine ⟨.ref a, rfl, a, C, .str wd, rfl, T, nc, ha, fun d hd hne => ?_⟩
  exact k d _ hd hne upd_same (by rw [upd_ne hne, upd_same]) fun b h1 h2 => by rw [upd_ne h1, upd_ne h2]
/-- with two -/
theorem ok_exc2 (F : Fun K "__init__" q st f fd) (Sc : FnScope ["self", m, n] ["self", m, n] (defScope st)) (hb : defBody st = [sup wd j p1 p2 p3 p4 p5 p6, .Assign [.Attribute (.Name "self" p7) m p8] (.Name m p9) p10, .Assign [.Attribute (.Name "self" p11) n p12] (.Name n p13) p14]) (hc : McOk (.Name "LimeError" p1) "__init__" [.Name "self" p3, .Constant (.str wd) j p4] p2 p5)
    (l1 : (defScope st).names.lookup ("self" : Str) = some .local) (l2 : (defScope st).names.lookup m = some .local) (l4 : (defScope st).names.lookup n = some .local) (l3 : (defScope st).names.lookup ("LimeError" : Str) = some .globalImplicit) (G : XcOk K mg B fB fdB mc) (FB : FnOk P w K mg base (L2.CX P w) 1 fB fdB ["self", "called"] (spX0 K))
    (T : OexC K C) (nc : PySem.W.findIn K (.ref C) "called" = some none) (nm : PySem.W.findIn K (.ref C) m = some none) (nn : PySem.W.findIn K (.ref C) n = some none) (dm : (m == ("__debug__" : Str)) = false) (cm : (m == ("__classdict__" : Str)) = false) (dn : (n == ("__debug__" : Str)) = false) (cn : (n == ("__classdict__" : Str)) = false) :
    FnOk P w K mg base (L2.CX P w) 2 f fd ["self", m, n] (spX C 2 fun us => match us with | [x, y] => [(n, y), (m, x), ("called", .str wd)] | _ => []) := by
  refine F.okX Sc (fun vs H Q E ⟨a, us, h, hl, _⟩ => by subst h; simp [hl]) fun cdv A outer s H vs Q E hr ⟨a, us, hv, hl, ha, k⟩ => ?_
  subst hv
  rw [hb]
  obtain ⟨pl, hc⟩ := hc
  obtain ⟨x, y, rfl⟩ : ∃ x y, us = [x, y] := match us, hl with | [x, y], _ => ⟨x, y, rfl⟩
  refine ⟨_, pss_cons (ps_expr (pe_clsm l3 G.gB G.rB G.iB FB G.kB hr G.bB passN (pa_cons (pe_var (i := 0) rfl (.inl l1) (by decide) (by decide)) (pa_cons pe_str pa_nil)) (ht := hc _)) rfl)
    (pss_cons (ps_ost (pe_var (i := 0) rfl (.inl l1) (by decide) (by decide)) (pe_var (i := 1) rfl (.inl l2) dm cm)) (pss_one (ps_ost (pe_var (i := 0) rfl (.inl l1) (by decide) (by decide)) (pe_var (i := 2) rfl (.inl l4) dn cn)))), ?_⟩
  refine ⟨.ref a, rfl, a, C, .str wd, rfl, T, nc, ha, fun d hd hne => ?_⟩
  refine ⟨x, rfl, .ref a, rfl, a, C, rfl, T, nm, .inr ⟨d, _, upd_same, by rw [upd_ne hne, upd_same], by show (1:Nat) ≤ 900; decide, ?_⟩⟩
  refine ⟨y, rfl, .ref a, rfl, a, C, rfl, T, nn, .inr ⟨d, _, by rw [upd_ne (Ne.symm hne), upd_same], upd_same, by show (2:Nat) ≤ 900; decide, ?_⟩⟩
  refine k d _ hd hne (by rw [upd_ne (Ne.symm hne), upd_ne (Ne.symm hne), upd_same]) upd_same fun b h1 h2 => by rw [upd_ne h2, upd_ne h2, upd_ne h1, upd_ne h2]
end
end LC

set_option Elab.async false
set_option linter.all false
set_option maxRecDepth 100000
set_option maxHeartbeats 5000000
/-! LD11: further words; the law's own def; the end. -/
namespace LC
open PySem PySem.Spec
open PyProof.Rows L2
section
variable {prog : Program}
variable {w : World} {A : Around}
variable {E : Value → Shared → Prop} {s : Shared}
end
section
variable {X : Cx} {B : Bs}
theorem PI.or {X : Cx} {tg e : Expr} {t t' : TI} (h : PI X tg e t) (h' : PI X tg e t') : PI X tg e (fun σ H Q => t σ H Q ∨ t' σ H Q) := ⟨fun pins s σ H Q I w => w.elim (h.run pins s σ H Q I) (h'.run pins s σ H Q I)⟩
/-- a list's or a tuple's items -/
def qiAny (qe : QE) : QI := fun s S R => (qiList qe s S R) ∨ (qiTup qe s S R)
theorem li_any {tg e : Expr} {qe : QE} (he : LE X B e qe) : LI X B tg e (qiAny qe) := PI.imp (PI.or (li_list he) (li_tup he)) fun σ H R ⟨φ, s, S, R', hr, ev, q, k⟩ => by
  rcases q with q | q
  · exact .inl ⟨φ, s, S, R', hr, ev, q, k⟩
  · exact .inr ⟨φ, s, S, R', hr, ev, q, k⟩
/-! ### a def that is known -/
structure Fx (P : Program) (w : World) (K : PySem.W.Frag) (mg : Str → Option Value) (base : Heap) (k : Nat) (f : Addr) (fd : FuncData) (x : Str) (ps : List Str) (sp : SpD) : Prop where
  ok : FnOk P w K mg base (L2.CX P w) k f fd ps (upF K sp)
  gm : mg x = some (.ref f)
  kp : PySem.W.keepIn K (Value.ref f) = true
  bi : Binds K fd ps []
theorem le_fx {k : Nat} {f : Addr} {fd : FuncData} {x : Str} {ps : List Str} {sp : SpD} {W : WX} {W' : WD} {e : Expr} {es : List Expr} {p pos : Pos} {q : QA} (F : Fx X.prog X.w X.K X.mg X.base k f fd x ps sp) (hr : Room k X.A) (tk : Takes X W) (wl : WL X.K B W' W) (ha : LA X B (e :: es) q) (hg : Gl X x := by rfl)
    (hdb : (x == ("__debug__" : Str)) = false := by decide) (he : starEach (e :: es) X.env = (false, eval e X.env) :: starEach es X.env := by rfl) (hpl : (backTo pos (starEach es X.env)).any (·.1) = false := by rfl) : LE X B (.Call (.Name x p) (e :: es) [] pos) (qCall sp [] W' q) :=
  le_call F.ok hr hg F.gm F.kp F.bi .nil RVc.nil tk wl ha hdb he hpl
end
/-- a promise over the tables T0 -/
def upFT (K : PySem.W.Frag) (T0 : List (Addr × Str)) (sp : SpD) : Sp := fun vs H Q E => ∃ φ ds S Q' E', Rel K φ H S ∧ RVs K φ H ds vs ∧ LamX.Tabs T0 H ∧ sp ds S Q' E' ∧ (∀ φ' d S' v H', Ext K φ φ' H H' → Rel K φ' H' S' → LamX.Tabs T0 H' → RV K φ' H' d v → Q' d S' → Q v H') ∧
  (∀ φ' C fs S' cls d H', Ext K φ φ' H H' → Rel K φ' H' S' → LamX.Tabs T0 H' → XRel K φ' H' C fs cls d → E' C fs S' → E cls d H')
/-- a def whose code object stands at c -/
structure FunC (K : PySem.W.Frag) (x qual : Str) (st : Stmt) (f : Addr) (fd : FuncData) (c : Addr) : Prop where
  ex : ∃ (oc : Value) (od : Option Addr) (kV doc pm : Value) (an : Option Addr) (ct : Value) (osl : Array (Option Value)),
    fd = PySem.W.fnOf x qual (defArgs st) (defBody st) (defScope st) .none kV doc pm an (.ref c) ct ∧ K.lookup f = some ⟨oc, od, .func fd, osl⟩ ∧ PySem.W.codeIn K (.ref c) qual = true
section
variable {P : Program} {w : World} {K : PySem.W.Frag} {mg : Str → Option Value} {base : Heap} {T0 : List (Addr × Str)}
theorem FunC.ok {x qual : Str} {st : Stmt} {f c : Addr} {fd : FuncData} {N ps : List Str} {k : Nat} {sp : SpD} {ok : OkG} (cv : Conv sp ok) (F : FunC K x qual st f fd c) (Sc : FnScope N ps (defScope st)) (len : ∀ ds S Q E, sp ds S Q E → ds.length = ps.length)
    (hbody : ∀ (A : Around) (outer : List Env) (s : Shared) (H : Hp) (E : XK) (φ : Ph) (W' : WD), Room k (A.deeper (envOfC qual (defScope st) s.heap.objs.size f (.ref c))) → WL K ⟨φ, H, T0⟩ W' (fun cls d _ H => E cls d H) →
      ∃ q, LSs (cxOf (L2.CX P w) P w K mg base N qual (defScope st) f (.ref c) A outer s H E) ⟨φ, H, T0⟩ (defBody st) q ∧
        ∀ ds S R X n, ok ds S R X n → W' = (fun C fs _ S' => X C fs S') → q { nx := fun _ S' => R .non S', rt := R, n := n } (startD N ds) S) :
    FnOk P w K mg base (L2.CX P w) (k + 1) f fd ps (upFT K T0 sp) := by
  obtain ⟨oc, od, kV, doc, pm, an, ct, osl, rfl, lk, hcd⟩ := F.ex
  refine fn_of lk hcd Sc (fun vs H Q E ⟨φ, ds, S, Q', E', r, rs, tt, h, _⟩ => by rw [rs.len]; exact len _ _ _ _ h) fun A outer s H vs Q E hr ⟨φ, ds, S', Q', E', r, rs, tt, h, kq, ke⟩ => ?_
  have lts := rs.lt
  rw [r.len] at lts
  obtain ⟨R, Xe, hok, cR, cX⟩ := cv _ _ _ _ h lts
  obtain ⟨q, hq, hh⟩ := hbody A outer s H E φ (fun C fs _ S1 => Xe C fs S1) hr (fun φ' C fs s' S1 cls d σ H' hr' ev xr x => ends_x r ke hr' xr (cX _ _ _ x))
  refine ⟨_, hq, φ, startD N ds, S', { nx := fun _ S1 => R .non S1, rt := R, n := S'.length }, ⟨Ext.refl, r, tt⟩, start_ok rs, hh ds S' R Xe _ hok rfl, φ, H, Ext.refl, ?_⟩
  exact ⟨by show φ.own.length ≤ S'.length; rw [r.len]; exact Nat.le_refl _, by show φ.own.length ≤ S'.length; rw [r.len]; exact Nat.le_refl _, fun φ' H' S1 s' σ' e hr' ev x => ends_r r kq hr' (show RV K φ' H' .non .non from rfl) (cR _ _ x), fun φ' H' S1 d v e hr' rv x => ends_r r kq hr' rv (cR _ _ x), fun _ _ _ _ _ _ _ _ h => h.elim, fun _ _ _ _ _ _ _ _ h => h.elim⟩
/-- what the law is handed: the script -/
def spLaw : SpD := fun ds S Q _ => ∃ (ns : List Int), ds = [.scr ns] ∧ S = [] ∧ ns.length ≤ 63 ∧ (∀ z ∈ ns, Builtin.Int.intBits z ≤ 1048576) ∧ ∀ S', Q (.bl true) S'
theorem law_at {ns : List Int} {H : Hp} {a : Addr} (hl : ns.length ≤ 63) (hb : ∀ z ∈ ns, Builtin.Int.intBits z ≤ 1048576) (t : LamX.Tabs T0 H) (h : SqL K H a (ns.map V.int)) : upFT K T0 spLaw [.ref a] H (fun v _ => v = .bl true) fun _ _ _ => False :=
  ⟨⟨[], []⟩, [.scr ns], [], fun d _ => d = .bl true, fun _ _ _ => False, ⟨List.nodup_nil, fun _ h => (List.not_mem_nil h).elim, fun _ h => (List.not_mem_nil h).elim, rfl, fun i o h => (nomatch (show (none : Option O) = some o from h))⟩,
    ⟨.ref a, [], rfl, ⟨a, rfl, h.imp (fun z => ⟨⟨List.not_mem_nil, List.not_mem_nil⟩, z⟩) id⟩, rfl⟩, t, ⟨ns, rfl, rfl, hl, hb, fun _ => rfl⟩, fun φ' d S' v H' _ _ _ rv e => by subst e; exact rv, fun _ _ _ _ _ _ _ _ _ _ _ z => z⟩
end
end LC

set_option Elab.async false
set_option linter.all false
set_option maxRecDepth 100000
set_option maxHeartbeats 5000000
/-! LD12: len, str, repr, ==, isinstance of own classes. -/
namespace LC
open PySem PySem.Spec
open PyProof.Rows L2
section
variable {X : Cx} {B : Bs} {k : Nat} {f C : Addr} {fd : FuncData} {ps : List Str} {sp : Sp} {spp : SpP}
theorem run_own {A : Around} {pins : List (Addr × Obj)} {σ : L2.St} {H : Hp} {s : Shared} {us : List Value} {vs : List V} {Qv : VK} (F : FnOk X.prog X.w X.K X.mg X.base (L2.CX X.prog X.w) k f fd ps sp) (bd : Binds X.K fd ps []) (rm : Room k A) (fr : A.frames = X.A.frames) (I : Inv X pins σ H s) (r : Vals vs us)
    (h : sp vs H Qv (fun _ _ _ => False)) : wpAny (model X.prog X.w) A (call (.ref f) us) (fun u s' => ∃ v H', Inv X pins σ H' s' ∧ RelV v u ∧ Qv v H') X.xe s := by
  have e := I.env0
  have e0 : Env0 X.prog X.w X.K X.mg X.base A X.stack s H := ⟨by rw [fr]; exact e.frames, e.mod, e.bs, e.bsz, e.funs, e.frf, e.hok, e.bare⟩
  have hl : us.length = ps.length := r.length.symm.trans (F.len _ _ _ _ h)
  refine wpAny_call (codeAny_mono (F.run A X.stack s H ⟨us, []⟩ us vs Qv (fun _ _ _ => False) rm e0 (by
    have := bd s us I.kIn (by simpa using hl)
    simpa using this) r h) fun fl s' z => ?_)
  match fl, z with
  | .error ex, ⟨_, _, _, _, _, _, _, _, _, _, _, _, hn⟩ => exact hn.elim
  | .ok (.ret u), z =>
    obtain ⟨v, H', J, rv, q⟩ := I.after z
    exact ⟨v, H', J, rv, q⟩
  | .ok .next, z => exact False.elim z
  | .ok .brk, z => exact False.elim z
  | .ok .cont, z => exact False.elim z
/-- an instance as it lies -/
theorem inst_at {pins : List (Addr × Obj)} {σ : L2.St} {H : Hp} {s : Shared} {a dx : Addr} {fs : List (Str × V)} (I : Inv X pins σ H s) (e : H a = some (.ins C dx fs)) : ∃ ox od, PySem.W.InstAt s.heap a ox C od := by
  obtain ⟨mA, J, _⟩ := ins_get I.hok e
  obtain ⟨od, J, _⟩ := J.look
  exact ⟨_, od, J⟩
def tOwn (C : Addr) (sp : Sp) (back : V → Hp → VK → Prop) : List V → Hp → VK → Prop := fun vs H Q => ∃ a dx fs, vs = [.ref a] ∧ H a = some (.ins C dx fs) ∧ sp vs H (fun v H' => back v H' Q) (fun _ _ _ => False)
theorem call_lenO (F : FnOk X.prog X.w X.K X.mg X.base (L2.CX X.prog X.w) k f fd ps sp) (bd : Binds X.K fd ps []) (rm : Room (k + 1) X.A) (hs : PySem.W.findIn X.K (.ref C) "__len__" = some (some (.ref f))) (hf : PySem.W.isFn X.K (.ref f) = true) :
    CallR X (.builtin "len") (tOwn C sp fun v H Q => ∃ n, v = .int n ∧ (0 ≤ n ∧ n < 2 ^ 63) ∧ Q (.int n) H) := by
  rintro pins s σ H xs us Q I r ⟨a, dx, fs, rfl, e, h⟩
  cases r with
  | cons r0 rn =>
    cases rn
    cases r0
    obtain ⟨ox, od, J⟩ := inst_at I e
    obtain ⟨m, hF⟩ := I.fr
    refine PySem.W.len_K hF I.ok.mod.kin J hs hf (wpAny_mono (run_own F bd rm.in1 rfl I (.cons (show RelV (V.ref a) (.ref a) from rfl) .nil) h) (fun u s' z => ?_) fun _ _ z => z)
    obtain ⟨v, H', J', rv, n, rfl, hn, q⟩ := z
    obtain ⟨t, rfl⟩ := rv
    exact ⟨hn, .int n, H', J'.tok _, ⟨_, rfl⟩, q⟩
end

/-! ### readings -/
section
variable {X : Cx} {B : Bs} {k : Nat} {f C : Addr} {fd : FuncData} {ps : List Str} {sp : SpP}
/-- a def that is asked by such a word: it tells g's values -/
def rcOwn (C : Addr) (sp : SpP) (g : D → List O → (D → List O → Prop) → Prop) : QC := fun ds S Q => match ds with
  | [d] => Opt (insOf S d) fun p => Need (p.1 = C) (sp [d] (fun r => g r S Q) fun _ _ => False)
  | _ => False
theorem lift_own {g : D → List O → (D → List O → Prop) → Prop} {back : V → Hp → VK → Prop} (hg : ∀ {φ : Ph} {H : Hp} {S : List O} {Q' : D → List O → Prop} {Q : VK} {d : D} {v : V}, HR X.K B φ H S → Kont X.K B (rD X.K) φ H Q' Q → RV X.K φ H d v → g d S Q' → back v H Q)
    {x : List V} {H : Hp} {Q : VK} (h : upC X.K B (rcOwn C sp g) x H Q) : tOwn C (upF X.K (lp sp)) back x H Q := by
  obtain ⟨φ, S, ds, Q', hr, r, q, kk⟩ := h
  unfold rcOwn at q
  split at q
  · obtain ⟨v, w', rfl, r1, r2⟩ := r
    cases r2
    obtain ⟨⟨C', fs⟩, h1, h2, q2⟩ := Opt.get q
    have h2' : C' = C := h2
    subst h2'
    obtain ⟨a, dx, gs, rfl, h3, h4⟩ := hr.ins h1 r1
    exact ⟨a, dx, gs, rfl, h3, φ, [_], S, fun d S' => S' = S ∧ g d S Q', fun _ _ _ => False, B.T, hr.rel, ⟨_, _, rfl, r1, rfl⟩, hr.tab, by
      have e : (fun d => S = S ∧ g d S Q') = fun d => g d S Q' := funext fun d => propext ⟨fun z => z.2, fun z => ⟨rfl, z⟩⟩
      show sp _ (fun d => S = S ∧ g d S Q') _
      rw [e]; exact q2, fun φ' d S' v H' e1 r1 t1 rv ⟨e2, q3⟩ => by subst e2; exact hg (hr.mono e1 r1 t1) (kk.ext e1) rv q3, fun _ _ _ _ _ _ _ _ _ _ _ z => z⟩
  · exact q.elim
def gLen : D → List O → (D → List O → Prop) → Prop := fun r S Q => match r with
  | .int n => Need (0 ≤ n ∧ n < 2 ^ 63) (Q (.int n) S)
  | _ => False
/-- what is known of a def that stands in a class -/
structure Mx (P : Program) (w : World) (K : PySem.W.Frag) (mg : Str → Option Value) (base : Heap) (k : Nat) (C : Addr) (m : Str) (f : Addr) (fd : FuncData) (ps : List Str) (sp : SpD) (dvs : List V) (dds : List D) : Prop where
  ok : FnOk P w K mg base (L2.CX P w) k f fd ps (upF K sp)
  cl : Cls K C
  mt : Meth K C m f
  bi : ∃ ds, Vals dvs ds ∧ Binds K fd ps ds
  dd : RVc K dds dvs
theorem Mx.b0 {P : Program} {w : World} {K : PySem.W.Frag} {mg : Str → Option Value} {base : Heap} {C : Addr} {m : Str} {sp : SpD} (M : Mx P w K mg base k C m f fd ps sp [] []) : Binds K fd ps [] := by
  obtain ⟨ds, v, b⟩ := M.bi
  cases v
  exact b
theorem cc_lenO (M : Mx X.prog X.w X.K X.mg X.base k C "__len__" f fd ps (lp sp) [] []) (rm : Room (k + 1) X.A) : CallR X (.builtin "len") (upC X.K B (rcOwn C sp gLen)) := CallR.imp (call_lenO M.ok M.b0 rm M.mt.at_ M.mt.fn) fun x H Q h => lift_own (g := gLen) (fun {φ H S Q' Q d v} hr kk rv q => by
  unfold gLen at q
  split at q
  · cases rv
    exact ⟨_, rfl, q.c, kk.here (d := D.int _) hr rfl q.q⟩
  · exact q.elim) h
end
end LC

set_option Elab.async false
set_option linter.all false
set_option maxRecDepth 100000
set_option maxHeartbeats 5000000
/-! LD13: what a printed text asks. -/
namespace LC
open PySem PySem.Spec
open PyProof.Rows L2
/-- a name of a module that holds plain data -/
def GlD (K : PySem.W.Frag) (mg : Str → Option Value) (x : Str) (d : D) : Prop := ∃ v u, mg x = some u ∧ RelV v u ∧ ∀ φ H, RV K φ H d v
theorem GlD.le {X : Cx} {B : Bs} {x : Str} {d : D} {pos : Pos} (h : GlD X.K X.mg x d) (hg : Gl X x) (hd : (x == ("__debug__" : Str)) = false := by decide) : LE X B (.Name x pos) (qC d) :=
  let ⟨_, _, h1, h2, h3⟩ := h
  le_glob hg h1 h2 h3 hd
theorem GlD.str {K : PySem.W.Frag} {mg : Str → Option Value} {x : Str} {i : Str} {t : Tok} (h : mg x = some (.str i t)) : GlD K mg x (.str i) := ⟨.str i, _, h, ⟨t, rfl⟩, fun _ _ => rfl⟩
def fl0 (w : Str) : List V → List (Str × V) := fun _ => [("called", .str w)]
def fd0 (w : Str) : List D → List (Str × D) := fun _ => [("called", .str w)]
def fl2 (w m n : Str) : List V → List (Str × V) := fun us => match us with | [x, y] => [(n, y), (m, x), ("called", .str w)] | _ => []
def fd2 (w m n : Str) : List D → List (Str × D) := fun us => match us with | [x, y] => [(n, y), (m, x), ("called", .str w)] | _ => []
theorem fl0_ok {K : PySem.W.Frag} {w : Str} : FlD K (fl0 w) (fd0 w) := fun _ _ _ _ _ => ⟨_, _, rfl, rfl, rfl⟩
theorem fl2_ok {K : PySem.W.Frag} {w m n : Str} : FlD K (fl2 w m n) (fd2 w m n) := fun φ H ds us r => by
  cases ds with
  | nil => cases r; exact rfl
  | cons x ds =>
    obtain ⟨v1, w1, rfl, r1, r⟩ := r
    cases ds with
    | nil => cases r; exact rfl
    | cons y ds =>
      obtain ⟨v2, w2, rfl, r2, r⟩ := r
      cases ds with
      | nil => cases r; exact ⟨v2, _, rfl, r2, v1, _, rfl, r1, _, _, rfl, rfl, rfl⟩
      | cons z ds => obtain ⟨v3, w3, rfl, r3, r⟩ := r; exact rfl
/-- a class of exceptions -/
structure XcD (P : Program) (w : World) (K : PySem.W.Frag) (mg : Str → Option Value) (base : Heap) (x : Str) (C fI : Addr) (fd : FuncData) (ps : List Str) (n : Nat) (fl : List V → List (Str × V)) (flD : List D → List (Str × D)) (dvs : List V) (dds : List D) : Prop where
  hfl : FlD K fl flD
  T : OexC K C
  xf : XfC K C
  iC : PySem.W.findIn K (.ref C) "__init__" = some (some (.ref fI))
  tI : PySem.W.typeIn K (.ref fI) = some (.type "function")
  ok : FnOk P w K mg base (L2.CX P w) 2 fI fd ps (spX C n fl)
  bi : ∃ ds, Vals dvs ds ∧ Binds K fd ps ds
  dd : RVc K dds dvs
  gm : mg x = some (.ref C)
  nc : PySem.W.findIn K (.ref C) "called" = some none
section
variable {X : Cx} {B : Bs} {x : Str} {C fI : Addr} {fd : FuncData} {ps : List Str} {dvs : List V} {dds : List D} {n : Nat} {fl : List V → List (Str × V)} {flD : List D → List (Str × D)} {W : WX} {W' : WD} {e : Expr} {es : List Expr} {q : QA} {p pos rpos : Pos}
theorem ls_rz (Z : XcD X.prog X.w X.K X.mg X.base x C fI fd ps n fl flD dvs dds) (hc : X.calm = true) (hr : Room 3 X.A) (tk : Takes X W) (wl : WL X.K B W' W) (ha : LA X B (e :: es) q) (hg : Gl X x := by rfl)
    (hdb : (x == ("__debug__" : Str)) = false := by decide) (he : starEach (e :: es) X.env = (false, eval e X.env) :: starEach es X.env := by rfl) (hpl : (backTo pos (starEach es X.env)).any (·.1) = false := by rfl) :
    LS X B (.Raise (some (.Call (.Name x p) (e :: es) [] pos)) none rpos) (qRaise C flD n dds W' q) :=
  let ⟨_, vd, b⟩ := Z.bi
  ls_raise Z.hfl hc Z.T Z.iC Z.tI Z.ok hr b vd Z.dd tk wl passN hg Z.gm ha hdb he hpl
theorem ls_rz0 (Z : XcD X.prog X.w X.K X.mg X.base x C fI fd ps n fl flD dvs dds) (hc : X.calm = true) (hr : Room 3 X.A) (tk : Takes X W) (wl : WL X.K B W' W) (hg : Gl X x := by rfl)
    (hdb : (x == ("__debug__" : Str)) = false := by decide) :
    LS X B (.Raise (some (.Call (.Name x p) [] [] pos)) none rpos) (qRaise C flD n dds W' qNil) :=
  let ⟨_, vd, b⟩ := Z.bi
  ls_raise0 Z.hfl hc Z.T Z.iC Z.tI Z.ok hr b vd Z.dd tk wl passN hg Z.gm hdb
end
/-! ### defs that change nothing -/
def RtP (Q : D → Prop) (d : D) (S : List O) : Prop := ∃ d', Rs 0 S d' d ∧ Q d'
def XtP (E : XD) (C : Addr) (fs : List (Str × D)) (S : List O) : Prop := ∃ fs', fs'.map (·.1) = fs.map (·.1) ∧ RsL 0 S (fs'.map (·.2)) (fs.map (·.2)) ∧ E C fs'
theorem Rp {Q : D → Prop} {d : D} {S : List O} (q : Q d) (l : D.lt 0 d := by trivial) : RtP Q d S := ⟨d, Rs.same l, q⟩
theorem Xp {E : XD} {C : Addr} {fs : List (Str × D)} {S : List O} (q : E C fs) (l : D.lts 0 (fs.map (·.2)) := by exact ⟨trivial, trivial⟩) : XtP E C fs S := ⟨fs, rfl, RsL.same l, q⟩
/-- a list of one's own, handed back -/
theorem RpL {Q : D → Prop} {k : Nat} {xs : List D} {S : List O} (h : S[k]? = some (.lst xs)) (l : D.lts 0 xs) (q : Q (.lst xs)) : RtP Q (.ref k) S := ⟨.lst xs, Rs.ofL' (Nat.zero_le _) h l, q⟩
def RtW (Q : D → Prop) (d : D) (S : List O) : Prop := match S with
  | .drw :: _ => ∃ d', Rs 1 S d' d ∧ Q d'
  | _ => False
def XtW (E : XD) (C : Addr) (fs : List (Str × D)) (S : List O) : Prop := match S with
  | .drw :: _ => ∃ fs', fs'.map (·.1) = fs.map (·.1) ∧ RsL 1 S (fs'.map (·.2)) (fs.map (·.2)) ∧ E C fs'
  | _ => False
theorem Rw {Q : D → Prop} {d : D} {S : List O} (q : Q d) (l : D.lt 1 d := by trivial) : RtW Q d (.drw :: S) := ⟨d, Rs.same l, q⟩
def RtI (C : Addr) (Q : List (Str × D) → Prop) (d : D) (S : List O) : Prop := match S with
  | .ins C' fs :: _ => d = .non ∧ C' = C ∧ ∃ fs', fs'.map (·.1) = fs.map (·.1) ∧ RsL 1 S (fs'.map (·.2)) (fs.map (·.2)) ∧ Q fs'
  | _ => False
def XtI (E : XD) (C : Addr) (fs : List (Str × D)) (S : List O) : Prop := match S with
  | _ :: _ => ∃ fs', fs'.map (·.1) = fs.map (·.1) ∧ RsL 1 S (fs'.map (·.2)) (fs.map (·.2)) ∧ E C fs'
  | _ => False
def okP (sp : SpP) : OkG := fun ds S R X n => ∃ Q E, sp ds Q E ∧ S = [] ∧ R = RtP Q ∧ X = XtP E ∧ n = 0
def okW (sp : SpP) : OkG := fun ds S R X n => ∃ r Q E, sp r Q E ∧ ds = .ref 0 :: r ∧ S = [.drw] ∧ R = RtW Q ∧ X = XtW E ∧ n = 1
def okI (C : Addr) (sp : SpI) : OkG := fun ds S R X n => ∃ r Q E, sp r Q E ∧ ds = .ref 0 :: r ∧ S = [.ins C []] ∧ R = RtI C Q ∧ X = XtI E ∧ n = 1
def okS (sp : SpD) : OkG := fun ds S R X n => ∃ Q E, sp ds S Q E ∧ D.lts S.length ds ∧ R = Rt S.length Q ∧ X = Xt S.length E ∧ n = S.length
theorem conv_P {sp : SpP} : Conv (at0 sp) (okP sp) := by
  rintro ds S Q' E' ⟨rfl, h⟩ _
  refine ⟨_, _, ⟨_, _, h, rfl, rfl, rfl, rfl⟩, ?_, ?_⟩
  · rintro d S' ⟨d', h1, h2⟩
    exact ⟨0, d', [], Nat.le_refl _, Nat.zero_le _, rfl, h1, h2⟩
  · rintro C fs S' ⟨fs', h1, h2, h3⟩
    exact ⟨0, fs', [], Nat.le_refl _, Nat.zero_le _, rfl, h1, h2, h3⟩
theorem conv_W {sp : SpP} : Conv (at1 sp) (okW sp) := by
  rintro ds S Q' E' ⟨r, rfl, rfl, h⟩ _
  refine ⟨_, _, ⟨_, _, _, h, rfl, rfl, rfl, rfl, rfl⟩, ?_, ?_⟩
  · intro d S' h
    unfold RtW at h
    split at h
    · obtain ⟨d', h1, h2⟩ := h
      exact ⟨1, d', [.drw], Nat.le_refl _, by simp, ⟨_, _, rfl, trivial, rfl⟩, h1, h2⟩
    · exact h.elim
  · intro C fs S' h
    unfold XtW at h
    split at h
    · obtain ⟨fs', h1, h2, h3⟩ := h
      exact ⟨1, fs', [.drw], Nat.le_refl _, by simp, ⟨_, _, rfl, trivial, rfl⟩, h1, h2, h3⟩
    · exact h.elim
theorem conv_I {C : Addr} {sp : SpI} : Conv (atI C sp) (okI C sp) := by
  rintro ds S Q' E' ⟨r, rfl, rfl, h⟩ _
  refine ⟨_, _, ⟨_, _, _, h, rfl, rfl, rfl, rfl, rfl⟩, ?_, ?_⟩
  · intro d S' h
    unfold RtI at h
    split at h
    · obtain ⟨rfl, rfl, fs', h1, h2, h3⟩ := h
      exact ⟨1, .non, [.ins _ fs'], Nat.le_refl _, by simp, ⟨_, _, rfl, ⟨rfl, h1, h2⟩, rfl⟩, rfl, h3⟩
    · exact h.elim
  · intro C fs S' h
    unfold XtI at h
    split at h
    · obtain ⟨fs', h1, h2, h3⟩ := h
      exact ⟨1, fs', [.non], Nat.le_refl _, by simp, ⟨_, _, rfl, trivial, rfl⟩, h1, h2, h3⟩
    · exact h.elim
theorem conv_S {sp : SpD} : Conv sp (okS sp) := fun ds S Q' E' h l => ⟨_, _, ⟨_, _, h, l, rfl, rfl, rfl⟩, fun _ _ h => h, fun _ _ _ h => h⟩
/-! the drawing's list itself -/
def atL (sp : SpP) : SpD := fun ds S Q E => ∃ r l, ds = .ref 0 :: r ∧ S = [.lst l] ∧ DrawL l ∧ sp r (fun d => ∀ l', DrawL l' → Q d [.lst l']) fun _ _ => False
theorem drawL0 : DrawL [.lst [], .int 0, .int 0, .int 0] := ⟨[], 0, 0, 0, rfl, by decide, by decide, by decide, by decide⟩
theorem upF_open {K : PySem.W.Frag} {sp : SpP} (hE : ∀ ds Q E, sp ds Q E → sp ds Q fun _ _ => False) {vs : List V} {H : Hp} {Q : VK} {E : XK} (h : upF K (at1 sp) vs H Q E) : upF K (atL sp) vs H Q E := by
  obtain ⟨φ, ds, S, Q', E', T, r, rs, tt, ⟨rr, rfl, rfl, h⟩, kq, ke⟩ := h
  obtain ⟨a, h1, l, vs', h2, h3, h4⟩ := r.ob 0 .drw rfl
  refine ⟨φ, _, [.lst l], fun d S1 => ∃ l', S1 = [.lst l'] ∧ DrawL l' ∧ Q' d [.drw], fun _ _ _ => False, T, ⟨r.nd, r.dj, r.hd, r.len, fun i o hi => ?_⟩, rs, tt, ⟨rr, l, rfl, rfl, h2, ?_⟩, ?_, fun _ _ _ _ _ _ _ _ _ _ _ z => z.elim⟩
  · cases i with
    | zero => cases hi; exact ⟨a, h1, vs', h3, h4⟩
    | succ i => cases hi
  · have e : (fun d => ∀ l', DrawL l' → ∃ l'', [O.lst l'] = [O.lst l''] ∧ DrawL l'' ∧ Q' d [.drw]) = fun d => Q' d [.drw] := funext fun d => propext ⟨fun z => (z _ drawL0).elim fun _ y => y.2.2, fun z l' hl => ⟨l', rfl, hl, z⟩⟩
    rw [e]
    exact hE _ _ _ h
  · rintro φ' d S1 v H' e r1 t1 rv ⟨l', rfl, hl, q⟩
    refine kq φ' d [.drw] v H' e ⟨r1.nd, r1.dj, r1.hd, r1.len, fun i o hi => ?_⟩ t1 rv q
    obtain ⟨b, g1, vs2, g2, g3⟩ := r1.ob 0 _ rfl
    cases i with
    | zero => cases hi; exact ⟨b, g1, l', vs2, hl, g2, g3⟩
    | succ i => cases hi
def okL (sp : SpP) : OkG := fun ds S R X n => ∃ r Q E l, sp r Q E ∧ ds = .ref 0 :: r ∧ S = [.lst l] ∧ DrawL l ∧ (R = fun d S' => match S' with | .lst l' :: _ => DrawL l' ∧ D.lt 0 d ∧ Q d | _ => False) ∧ (X = fun _ _ _ => False) ∧ n = 1
theorem conv_L {sp : SpP} : Conv (atL sp) (okL sp) := by
  rintro ds S Q' E' ⟨r, l, rfl, rfl, hl, h⟩ _
  refine ⟨_, _, ⟨_, _, _, _, h, rfl, rfl, hl, rfl, rfl, rfl⟩, ?_, fun _ _ _ z => z.elim⟩
  intro d S' h
  split at h
  · rename_i l' rest
    exact ⟨1, d, [.lst l'], Nat.le_refl _, by simp, ⟨_, _, rfl, RsL.same h.1.lts, rfl⟩, Rs.same (h.2.1.mono (Nat.zero_le _)), h.2.2 l' h.1⟩
  · exact h.elim
section
variable {P : Program} {w : World} {K : PySem.W.Frag} {mg : Str → Option Value} {base : Heap}
theorem fn_P {x qual : Str} {st : Stmt} {f : Addr} {fd : FuncData} {N ps : List Str} {k : Nat} {sp : SpP} (F : Fun K x qual st f fd) (S : FnScope N ps (defScope st)) (hp : ∀ ds Q E, sp ds Q E → ds.length = ps.length ∧ D.lts 0 ds) (hb : BodyG P w K mg base qual st f N k (okP sp)) : FnOk P w K mg base (L2.CX P w) (k + 1) f fd ps (upF K (lp sp)) :=
  (FunD.ok conv_P F S (fun ds S Q E h => (hp _ _ _ h.2).1) hb).imp fun vs H Q E h => upF_pure (fun ds Q E h => (hp _ _ _ h).2) h
theorem len_W {sp : SpP} {ps : List Str} (hp : ∀ ds Q E, sp ds Q E → ds.length + 1 = ps.length ∧ D.lts 0 ds) : ∀ ds S Q E, at1 sp ds S Q E → ds.length = ps.length := fun ds S Q E ⟨r, e, _, h⟩ => by rw [e]; exact (hp _ _ _ h).1
theorem fn_W {x qual : Str} {st : Stmt} {f : Addr} {fd : FuncData} {N ps : List Str} {k : Nat} {sp : SpP} (F : Fun K x qual st f fd) (S : FnScope N ps (defScope st)) (hp : ∀ ds Q E, sp ds Q E → ds.length + 1 = ps.length ∧ D.lts 0 ds) (hb : BodyG P w K mg base qual st f N k (okW sp)) : FnOk P w K mg base (L2.CX P w) (k + 1) f fd ps (upF K (ld sp)) :=
  (FunD.ok conv_W F S (len_W hp) hb).imp fun vs H Q E h => upF_draw (fun ds Q E h => (hp _ _ _ h).2) h
theorem fn_L {x qual : Str} {st : Stmt} {f : Addr} {fd : FuncData} {N ps : List Str} {k : Nat} {sp : SpP} (F : Fun K x qual st f fd) (S : FnScope N ps (defScope st)) (hp : ∀ ds Q E, sp ds Q E → ds.length + 1 = ps.length ∧ D.lts 0 ds) (hE : ∀ ds Q E, sp ds Q E → sp ds Q fun _ _ => False) (hb : BodyG P w K mg base qual st f N k (okL sp)) : FnOk P w K mg base (L2.CX P w) (k + 1) f fd ps (upF K (ld sp)) :=
  (FunD.ok conv_L F S (fun ds S Q E ⟨r, l, e, _, _, h⟩ => by rw [e]; exact (hp _ _ _ h).1) hb).imp fun vs H Q E h => upF_open hE (upF_draw (fun ds Q E h => (hp _ _ _ h).2) h)
theorem fn_I {x qual : Str} {st : Stmt} {f C : Addr} {fd : FuncData} {N ps : List Str} {k : Nat} {sp : SpI} (F : Fun K x qual st f fd) (S : FnScope N ps (defScope st)) (hp : ∀ ds Q E, sp ds Q E → ds.length + 1 = ps.length) (hb : BodyG P w K mg base qual st f N k (okI C sp)) : FnOk P w K mg base (L2.CX P w) (k + 1) f fd ps (upF K (atI C sp)) :=
  FunD.ok conv_I F S (fun ds S Q E ⟨r, e, _, h⟩ => by rw [e]; exact hp _ _ _ h) hb
theorem fn_S {x qual : Str} {st : Stmt} {f : Addr} {fd : FuncData} {N ps : List Str} {k : Nat} {sp : SpD} (F : Fun K x qual st f fd) (S : FnScope N ps (defScope st)) (hp : ∀ ds S Q E, sp ds S Q E → ds.length = ps.length) (hb : BodyG P w K mg base qual st f N k (okS sp)) : FnOk P w K mg base (L2.CX P w) (k + 1) f fd ps (upF K sp) :=
  FunD.ok conv_S F S hp hb
end
/-- drawing a number below many -/
def spPull : SpP := fun r Q _ => ∃ many : Int, r = [.int many] ∧ (1 ≤ many ∧ many < 1073741824) ∧ ∀ n : Int, 0 ≤ n → n < many → Q (.int n)
/-- st, then rest, by what holds between -/
inductive sqM (a b : QS) (D : Ed) (s : Sl) (S : List O) : Prop
  | mk (P : Sl → List O → Prop) (h1 : a { D with nx := P } s S) (h3 : ∀ s' S', P s' S' → b D s' S')
theorem sM {a b : QS} {D : Ed} {s : Sl} {S : List O} (P : Sl → List O → Prop) (h : a { D with nx := P } s S) (k : ∀ s' S', P s' S' → b D s' S') : sqM a b D s S := ⟨P, h, k⟩
theorem sD {a b : QS} {D : Ed} {s : Sl} {S : List O} (h : qSeq a b D s S) : sqM a b D s S := ⟨_, h, fun _ _ h => h⟩
theorem lss_consM {X : Cx} {B : Bs} {st : Stmt} {rest : List Stmt} {qs qt : QS} (h1 : LS X B st qs) (h2 : LSs X B rest qt) : LSs X B (st :: rest) (sqM qs qt) := PSs.imp (pss_cons h1 h2) fun D σ H ⟨φ, s, S, D', hr, ev, ⟨P, q, hp⟩, ek⟩ =>
  ⟨φ, s, S, { D' with nx := P }, hr, ev, q, ek.seq (fun φ' H' S' s' σ' ek' hr' ev' q' => ⟨φ', s', S', D', hr', ev', hp _ _ q', ek'⟩) rfl rfl rfl⟩
def qW (vs : List Nat) (b : QS) : QS := fun D s S => b D (wipeD s vs) S
theorem lss_w {X : Cx} {B : Bs} {ss : List Stmt} {q : QS} (vs : List Nat) (h : LSs X B ss q) : LSs X B ss (qW vs q) := PSs.imp h fun D σ H ⟨φ, s, S, D', hr, ev, q, ek⟩ => ⟨φ, _, S, D', hr, ev.forgets, q, ek⟩
/-! ### isinstance -/
def tyN (S : List O) : D → Option String
  | .non => some "NoneType"
  | .bl _ => some "bool"
  | .int _ => some "int"
  | .str _ => some "str"
  | .tup _ => some "tuple"
  | .lst _ => some "list"
  | .scr _ => some "list"
  | .tq _ => some "tuple"
  | .kt _ => some "tuple"
  | .dK _ _ => some "dict"
  | .dT _ _ => some "dict"
  | .ref k => match S[k]? with
    | some (.lst _) => some "list"
    | some .drw => some "list"
    | some (.dK _) => some "dict"
    | some (.dT _) => some "dict"
    | _ => none
  | _ => none
def tys : List String := ["NoneType", "bool", "int", "str", "tuple", "list", "dict"]
def subTy (t c : String) : Bool := t == c || (t == "bool" && c == "int")
theorem kit_b {K : PySem.W.Frag} {t c : String} (ht : t ∈ tys) (hc : c ∈ ["bool", "int", "str", "tuple", "list"]) : PySem.W.kitOne K (.type t) (.type c) = some (subTy t c) := by
  simp only [tys, List.mem_cons, List.not_mem_nil, or_false] at ht hc
  rcases ht with rfl | rfl | rfl | rfl | rfl | rfl | rfl <;> rcases hc with rfl | rfl | rfl | rfl | rfl <;> rfl
theorem tyN_ty {S : List O} {d : D} {t : String} (h : tyN S d = some t) : tyOf S d = some (.type t) ∧ t ∈ tys := by
  cases d with
  | ref k =>
    simp only [tyN] at h
    simp only [tyOf]
    cases e : S[k]? with
    | none => (rw [e] at h; cases h)
    | some o => rw [e] at h; cases o <;> first | (cases h; done) | (cases h; exact ⟨rfl, by decide⟩)
  | _ => first | (cases h; done) | (cases h; exact ⟨rfl, by decide⟩)
def okTy : String → Bool
  | "bool" => true
  | "int" => true
  | "str" => true
  | "tuple" => true
  | "list" => true
  | _ => false
/-- isinstance of a built-in class -/
def rcIsiB : QC := fun ds S Q => match ds with
  | [d, .ty c] => Opt (tyN S d) fun t => Br (okTy c) (Q (.bl (subTy t c)) S) False
  | _ => False
theorem okTy_mem {c : String} (h : okTy c = true) : c ∈ ["bool", "int", "str", "tuple", "list"] := by
  unfold okTy at h
  split at h <;> first | (cases h; done) | simp
theorem cc_isiB {X : Cx} {B : Bs} : CallR X (.builtin "isinstance") (upC X.K B rcIsiB) := CallR.imp cc_isi fun x H Q ⟨φ, S, ds, Q', hr, r, q, k⟩ => by
  refine ⟨φ, S, ds, Q', hr, r, ?_, k⟩
  unfold rcIsiB at q
  split at q
  · obtain ⟨t, h1, q1⟩ := q.get
    obtain ⟨h2, q2⟩ := q1.get
    obtain ⟨h3, h4⟩ := tyN_ty h1
    exact ⟨h3, rfl, (fun C z => nomatch z), kit_b h4 (okTy_mem h2), q2⟩
  · exact q.elim
/-- an own class for isinstance -/
structure IsO (K : PySem.W.Frag) (C : Addr) : Prop where
  is : IsC K C
  ty : PySem.W.typeIn K (.ref C) = some (.type "type")
/-! ### classes -/
structure MkX (P : Program) (w : World) (K : PySem.W.Frag) (mg : Str → Option Value) (base : Heap) (k : Nat) (x : Str) (C f : Addr) (fd : FuncData) (ps : List Str) (sp : SpI) (dvs : List V) (dds : List D) : Prop where
  hp : PureI sp
  mkr : Mk K C f
  ok : FnOk P w K mg base (L2.CX P w) k f fd ps (upF K (atI C sp))
  gm : mg x = some (.ref C)
  bi : ∃ ds, Vals dvs ds ∧ Binds K fd ps ds
  dd : RVc K dds dvs
section
variable {X : Cx} {B : Bs} {k : Nat} {f C : Addr} {fd : FuncData} {ps : List Str} {spi : SpI} {spd : SpD} {dds : List D} {dvs : List V} {W : WX} {W' : WD} {x m : Str} {p pos apos : Pos} {e o : Expr} {es : List Expr} {q : QA} {qo : QE}
theorem le_mk (M : MkX X.prog X.w X.K X.mg X.base k x C f fd ps spi dvs dds) (rm : Room (k + 1) X.A) (tk : Takes X W) (wl : WL X.K B W' W) (ha : LA X B (e :: es) q) (hg : Gl X x := by rfl)
    (nx : (x == ("__debug__" : Str)) = false := by decide) (st : starEach (e :: es) X.env = (false, eval e X.env) :: starEach es X.env := by rfl) (pn : (backTo pos (starEach es X.env)).any (·.1) = false := by rfl) : LE X B (.Call (.Name x p) (e :: es) [] pos) (qMkV C spi dds W' q) :=
  let ⟨_, vd, bd⟩ := M.bi
  le_mkV M.hp M.mkr M.ok rm M.gm bd vd M.dd tk wl ha hg nx st pn
theorem le_mx (M : Mx X.prog X.w X.K X.mg X.base k C m f fd ps spd dvs dds) (rm : Room k X.A) (tk : Takes X W) (wl : WL X.K B W' W) (ho : LE X B o qo) (ha : LA X B (e :: es) q)
    (mc : McAt X o m (e :: es) apos pos := by exact ⟨_, rfl⟩) (st : starEach (e :: es) X.env = (false, eval e X.env) :: starEach es X.env := by rfl) (pn : (backTo pos (starEach es X.env)).any (·.1) = false := by rfl) : LE X B (.Call (.Attribute o m apos) (e :: es) [] pos) (qMeth C m spd dds W' qo q) :=
  let ⟨_, vd, bd⟩ := M.bi
  le_meth ho M.cl M.mt M.ok rm bd vd M.dd tk wl ha mc st pn
end
/-! ### what the top has written -/
section
variable {K : PySem.W.Frag}
theorem GlD.tup {mg : Str → Option Value} {x : Str} {v : Addr} {n : Nat} {sl : Array (Option Value)} {its : Array Value} {ds : List D} {vs : List V} (h : mg x = some (.ref v)) (l : K.lookup v = some ⟨.type "tuple", none, .seq its n, sl⟩) (hz : its.size ≤ sizeLine) (r : Vals vs its.toList) (rd : RVc K ds vs) : GlD K mg x (.kt ds) :=
  ⟨.ref v, _, h, rfl, fun φ H => ⟨v, vs, rfl, ⟨_, its, n, l, rfl, rfl, hz, r⟩, rd φ H⟩⟩
end
end LC

set_option Elab.async false
set_option linter.all false
set_option maxRecDepth 100000
set_option maxHeartbeats 5000000
/-! LD14: int(t, 2) of four signs. -/
namespace LC
open PySem PySem.Spec
open PyProof.Rows L2
section
variable {X : Cx} {B : Bs}
end
theorem sIx_to {n k : Nat} (h : n ≤ k) : HT.sIx n n (some (k : Int)) = n := by rw [HT.sIx_nat]; omega
theorem cutD_to {xs : List D} {k : Nat} (h : xs.length ≤ k) : cutD xs none (some (k : Int)) = xs := cutD_whole xs _ _ ⟨rfl, sIx_to h⟩
theorem atI_get {α : Type} {ds : List α} {i : Int} {d : α} (h0 : 0 ≤ i) (h : ds[i.toNat]? = some d) : L2.atI ds i = some d := by
  have hl := (List.getElem?_eq_some_iff.mp h).1
  have : ixN ds.length i = some i.toNat := by
    unfold ixN
    rw [if_pos h0, if_pos (by omega)]
  unfold L2.atI
  rw [this]
  exact h
theorem atI_map {α β : Type} (f : α → β) (ns : List α) (i : Int) : L2.atI (ns.map f) i = (L2.atI ns i).map f := by
  unfold L2.atI
  rw [List.length_map]
  cases ixN ns.length i with
  | none => rfl
  | some j => simp
theorem atI_in {α : Type} {ns : List α} {i : Int} (h0 : 0 ≤ i) (h : i < ns.length) : ∃ z, z ∈ ns ∧ L2.atI ns i = some z := by
  have hl : i.toNat < ns.length := by omega
  exact ⟨ns[i.toNat], List.getElem_mem hl, atI_get h0 (by simp [List.getElem?_eq_getElem hl])⟩
theorem atI_ints {ns : List Int} {i : Int} (h0 : 0 ≤ i) (h : i < ns.length) : ∃ z, z ∈ ns ∧ L2.atI (ns.map D.int) i = some (.int z) := by
  obtain ⟨z, h1, h2⟩ := atI_in h0 h
  exact ⟨z, h1, by rw [atI_map, h2]; rfl⟩
theorem atI_nat {α : Type} {ds : List α} {i : Nat} {d : α} (h : ds[i]? = some d) : L2.atI ds (0 + (i : Int)) = some d := atI_get (by omega) (by rw [show ((0 : Int) + (i : Int)).toNat = i by omega]; exact h)
mutual
/-- plain data that the law's like goes through, n levels deep -/
def D.dp : D → Nat → Prop
  | .non, _ => True
  | .bl _, _ => True
  | .int _, _ => True
  | .str _, _ => True
  | .tup xs, n + 1 => xs.length ≤ 1000000 ∧ D.dps xs n
  | .lst xs, n + 1 => xs.length ≤ 1000000 ∧ D.dps xs n
  | _, _ => False
def D.dps : List D → Nat → Prop
  | [], _ => True
  | d :: r, n => D.dp d n ∧ D.dps r n
end
theorem D.dps_mem {n : Nat} {ds : List D} : D.dps ds n ↔ ∀ d ∈ ds, D.dp d n := by
  induction ds with
  | nil => simp [D.dps]
  | cons d r ih => simp [D.dps, ih]
theorem D.dps_map {α : Type} {f : α → D} {n : Nat} {l : List α} (h : ∀ a ∈ l, D.dp (f a) n) : D.dps (l.map f) n := D.dps_mem.mpr fun d hd => by
  obtain ⟨a, ha, rfl⟩ := List.mem_map.mp hd
  exact h a ha
theorem D.dps_ints {n : Nat} (ns : List Int) : D.dps (ns.map D.int) n := D.dps_map fun _ _ => trivial
mutual
theorem D.dp.lt : ∀ {d : D} {n m : Nat}, D.dp d n → D.lt m d
  | .non, _, _, _ => trivial
  | .bl _, _, _, _ => trivial
  | .int _, _, _, _ => trivial
  | .str _, _, _, _ => trivial
  | .tup xs, n + 1, _, h => D.dps.lt (ds := xs) (n := n) h.2
  | .lst xs, n + 1, _, h => D.dps.lt (ds := xs) (n := n) h.2
theorem D.dps.lt : ∀ {ds : List D} {n m : Nat}, D.dps ds n → D.lts m ds
  | [], _, _, _ => trivial
  | d :: r, _, _, h => ⟨D.dp.lt h.1, D.dps.lt h.2⟩
end
theorem fn_no {P : Program} {w : World} {K : PySem.W.Frag} {mg : Str → Option Value} {base : Heap} {k : Nat} {f : Addr} {fd : FuncData} {ps : List Str} {sp : SpD} (h : ∀ ds S Q E, ¬ sp ds S Q E) : FnOk P w K mg base (L2.CX P w) k f fd ps (upF K sp) :=
  ⟨fun vs H Q E ⟨_, _, _, _, _, _, _, _, _, z, _⟩ => (h _ _ _ _ z).elim, fun A outer s H args us vs Q E _ _ _ _ ⟨_, _, _, _, _, _, _, _, _, z, _⟩ => (h _ _ _ _ z).elim⟩
/-- a comprehension without a test, whose items are told one by one -/
theorem lc_map {t : Tgt} {qe : QE} {vs : List Nat} {s : Sl} {Q : List D → Prop} {xs : List D} {keep : List O → Prop} {S1 : List O} (g : D → D) (hl : xs.length < sizeLine) (hk : ∀ acc, keep (S1 ++ [.lst acc]))
    (st : ∀ (i : Nat) (x : D) (acc : List D), xs[i]? = some x → ∃ s2, stT t x (wipeD s vs) = some s2 ∧ D.lt S1.length (g x) ∧ ∀ R : D → List O → Prop, R (g x) (S1 ++ [.lst acc]) → qe s2 (S1 ++ [.lst acc]) R) (q : Q (xs.map g)) : lcV t qYes qe vs s Q xs keep S1 := by
  refine ⟨fun i acc => acc = (xs.take i).map g, rfl, hk, hl, ?_, fun acc h _ => by rw [h, List.take_length]; exact q⟩
  rintro i x acc hi _ rfl
  obtain ⟨s2, h1, h2, h3⟩ := st i x ((xs.take i).map g) hi
  refine ⟨s2, h1, rfl, h3 _ ⟨rfl, h2, ?_⟩⟩
  rw [List.take_add_one, hi]
  simp
/-- a comprehension by what holds of its list so far -/
theorem lc_inv {t : Tgt} {qe : QE} {vs : List Nat} {s : Sl} {Q : List D → Prop} {xs : List D} {keep : List O → Prop} {S1 : List O} (P : Nat → List D → Prop) (h0 : P 0 []) (hl : xs.length < sizeLine) (hk : ∀ acc, keep (S1 ++ [.lst acc]))
    (st : ∀ (i : Nat) (x : D) (acc : List D), xs[i]? = some x → P i acc → ∃ s2, stT t x (wipeD s vs) = some s2 ∧ qe s2 (S1 ++ [.lst acc]) fun y S4 => S4 = S1 ++ [.lst acc] ∧ D.lt S1.length y ∧ P (i + 1) (acc ++ [y])) (q : ∀ acc, P xs.length acc → Q acc) : lcV t qYes qe vs s Q xs keep S1 := by
  refine ⟨P, h0, hk, hl, ?_, fun acc h _ => q acc h⟩
  rintro i x acc hi _ hP
  obtain ⟨s2, h1, h2⟩ := st i x acc hi hP
  exact ⟨s2, h1, rfl, h2⟩
/-- a list or a tuple that stays is walked -/
theorem any_at {qe : QE} {s : Sl} {S : List O} {R : List D → (List O → Prop) → List O → Prop} {d : D} {xs : List D} (hq : ∀ R' : D → List O → Prop, R' d S → qe s S R') (h : ∀ S', itemsOf S' d = some xs)
    (r : ∀ keep : List O → Prop, (∀ S', keep S') → R xs keep S) : qiAny qe s S R := by
  cases d with
  | tup ys =>
    have e : ys = xs := Option.some.inj (h [])
    subst e
    exact .inr (hq _ (r _ fun _ => trivial))
  | lst ys =>
    have e : ys = xs := Option.some.inj (h [])
    subst e
    exact .inl (hq _ (r _ fun _ => rfl))
  | scr ns =>
    have e : ns.map D.int = xs := Option.some.inj (h [])
    subst e
    exact .inl (hq _ (r _ fun _ => rfl))
  | tq ns =>
    have e : ns.map D.int = xs := Option.some.inj (h [])
    subst e
    exact .inr (hq _ (r _ fun _ => trivial))
  | kt ys =>
    have e : ys = xs := Option.some.inj (h [])
    subst e
    exact .inr (hq _ (r _ fun _ => trivial))
  | ref k => exact nomatch (show (none : Option (List D)) = some xs from h [])
  | _ => exact nomatch (show (none : Option (List D)) = some xs from h [])
/-- the items of ints -/
theorem int_at {ns : List Int} {i : Nat} {x : D} (h : (ns.map D.int)[i]? = some x) : ∃ z, ns[i]? = some z ∧ x = .int z := by
  rw [List.getElem?_map] at h
  obtain ⟨z, hz, e⟩ := Option.map_eq_some_iff.mp h
  exact ⟨z, hz, e.symm⟩
end LC

set_option Elab.async false
set_option linter.all false
set_option maxRecDepth 100000
set_option maxHeartbeats 5000000
/-! LD15: signs of shades. -/
namespace LC
open PySem PySem.Spec
open PyProof.Rows L2
def goodN (ns : List Int) : Prop := ∀ z ∈ ns, 0 ≤ z ∧ z ≤ 6
instance goodN_dec (ns : List Int) : Decidable (goodN ns) := inferInstanceAs (Decidable (∀ z ∈ ns, 0 ≤ z ∧ z ≤ 6))
end LC

set_option Elab.async false
set_option linter.all false
set_option maxRecDepth 100000
set_option maxHeartbeats 5000000
/-! LD16: dicts by plain keys; sorted; pop by place; index. -/
namespace LC
open PySem PySem.Spec
open PyProof.Rows L2
section
variable {κ : Type} [DecidableEq κ]
def valD (l : List (κ × D)) (k : κ) : Option D := (l.find? fun p => decide (p.1 = k)).map (·.2)
def putE (l : List (κ × D)) (k : κ) (d : D) : List (κ × D) := if (l.any fun p => decide (p.1 = k)) = true then l.map (fun p => if p.1 = k then (p.1, d) else p) else l ++ [(k, d)]
def mergeD (l more : List (κ × D)) : List (κ × D) := more.foldl (fun a p => putE a p.1 p.2) l
variable {K : PySem.W.Frag} {φ : Ph} {H : Hp}
theorem RKV.any : ∀ {l : List (κ × D)} {g : List (κ × V)} (k : κ), RKV K φ H l g → (g.any fun p => decide (p.1 = k)) = l.any fun p => decide (p.1 = k)
  | [], _, _, h => by cases h; rfl
  | _ :: _, _, k, ⟨v, r, e, _, h2⟩ => by subst e; simp only [List.any_cons]; rw [RKV.any k h2]
theorem RKV.val : ∀ {l : List (κ × D)} {g : List (κ × V)} (k : κ), RKV K φ H l g → (match valD l k with | some d => ∃ v, valV g k = some v ∧ RV K φ H d v | none => valV g k = none)
  | [], _, _, h => by cases h; rfl
  | p :: l, _, k, ⟨v, r, e, h1, h2⟩ => by
    subst e
    have ih := RKV.val k h2
    unfold valD valV at ih ⊢
    by_cases hk : p.1 = k
    · simp [List.find?_cons, hk]; exact h1
    · simp only [List.find?_cons, decide_eq_false hk]; exact ih
theorem RKV.app {α : Type} : ∀ {l m : List (α × D)} {g h : List (α × V)}, RKV K φ H l g → RKV K φ H m h → RKV K φ H (l ++ m) (g ++ h)
  | [], _, _, _, a, b => by cases a; exact b
  | _ :: _, _, _, _, ⟨v, r, e, h1, h2⟩, b => by subst e; exact ⟨v, _, rfl, h1, RKV.app h2 b⟩
theorem RKV.dput {l : List (κ × D)} {g : List (κ × V)} {d : D} {v : V} (k : κ) (h : RKV K φ H l g) (r : RV K φ H d v) : RKV K φ H (putE l k d) (putK g k v) := by
  unfold putE putK
  rw [RKV.any k h]
  split
  · have : ∀ {l : List (κ × D)} {g : List (κ × V)}, RKV K φ H l g → RKV K φ H (l.map fun p => if p.1 = k then (p.1, d) else p) (g.map fun p => if p.1 = k then (p.1, v) else p) := by
      intro l
      induction l with
      | nil => intro g h; cases h; rfl
      | cons p l ih =>
        rintro g ⟨u, t, e, h1, h2⟩
        subst e
        simp only [List.map_cons]
        by_cases hk : p.1 = k
        · simp only [if_pos hk]; exact ⟨v, _, rfl, r, ih h2⟩
        · simp only [if_neg hk]; exact ⟨u, _, rfl, h1, ih h2⟩
    exact this h
  · exact h.app ⟨v, [], rfl, r, rfl⟩
end
theorem RKV.merge {K : PySem.W.Frag} {φ : Ph} {H : Hp} : ∀ {m : List (Key × D)} {h : List (Key × V)} {l : List (Key × D)} {g : List (Key × V)}, RKV K φ H m h → RKV K φ H l g → RKV K φ H (mergeD l m) (mergeK g h)
  | [], _, _, _, a, b => by cases a; exact b
  | p :: m, _, l, g, ⟨v, r, e, h1, h2⟩, b => by subst e; exact (RKV.merge (m := m) (h := r) (l := putE l p.1 p.2) (g := putK g p.1 v) h2 (RKV.dput p.1 b h1) : _)
/-- a thing as a key -/
def keyD : D → Option Key
  | .int i => some (.inl i)
  | .str x => some (.inr x)
  | _ => none
theorem keyD_ok {K : PySem.W.Frag} {φ : Ph} {H : Hp} {d : D} {k : Key} {v : V} (h : keyD d = some k) (r : RV K φ H d v) : v = kV k := by
  cases d with
  | int i => cases h; cases r; rfl
  | str i => cases h; cases r; rfl
  | _ => cases h
/-- a dict by plain keys -/
def dkOf (S : List O) (d : D) : Option (List (Key × D)) := match d with
  | .dK ks xs => some (ks.zip xs)
  | .ref k => match S[k]? with
    | some (.dK l) => some l
    | _ => none
  | _ => none
def dkM (S : List O) (d : D) : Option (Nat × List (Key × D)) := match d with
  | .ref k => match S[k]? with
    | some (.dK l) => some (k, l)
    | _ => none
  | _ => none
section
variable {X : Cx} {B : Bs} {φ : Ph} {H : Hp} {S : List O}
theorem HR.dk {d : D} {v : V} {l : List (Key × D)} (hr : HR X.K B φ H S) (h : dkOf S d = some l) (r : RV X.K φ H d v) : ∃ a g, v = .ref a ∧ H a = some (.dK g) ∧ RKV X.K φ H l g := by
  cases d with
  | dK ks xs => cases h; obtain ⟨p, vs, rfl, _, h1, h2, h3⟩ := r; exact ⟨p, _, rfl, h1, h3.zip h2⟩
  | ref k =>
    obtain ⟨a, ea, rfl⟩ := r
    simp only [dkOf] at h
    split at h
    · rename_i l' e
      cases h
      obtain ⟨b, eb, g, h1, h2⟩ := hr.rel.ob k _ e
      rw [ea] at eb; cases eb
      exact ⟨a, g, rfl, h1, h2⟩
    · cases h
  | _ => cases h
theorem HR.dkW {d : D} {v : V} {k : Nat} {l : List (Key × D)} (hr : HR X.K B φ H S) (h : dkM S d = some (k, l)) (r : RV X.K φ H d v) : d = .ref k ∧ S[k]? = some (.dK l) ∧ ∃ a g, v = .ref a ∧ φ.own[k]? = some a ∧ H a = some (.dK g) ∧ RKV X.K φ H l g := by
  cases d with
  | ref j =>
    obtain ⟨a, ea, rfl⟩ := r
    simp only [dkM] at h
    split at h
    · rename_i l' e
      cases h
      obtain ⟨b, eb, g, h1, h2⟩ := hr.rel.ob k _ e
      rw [ea] at eb; cases eb
      exact ⟨rfl, e, a, g, rfl, ea, h1, h2⟩
    · cases h
  | _ => cases h
end
section
variable {X : Cx} {B : Bs} {o e f : Expr} {qo qe qf : QE} {pos apos cpos : Pos}
/-- {} -/
def qDNew : QE := fun _ S Q => Q (.ref S.length) (S ++ [.dK []])
theorem le_dnew : LE X B (.Dict [] [] pos) qDNew := PE.imp pe_dnewK fun σ H Q ⟨φ, s, S, Q', hr, ev, q, k⟩ p hp => k.new (x := .dK []) hr hp ⟨[], upd_same, rfl⟩ q
/-- d.get(k, x) -/
def qDGet2 (qo qe qf : QE) : QE := fun s S Q => qo s S fun d S1 => Need ((dkOf S1 d).isSome = true) (qe s S1 fun y S2 => qf s S2 fun z S3 => Opt (keyD y) fun k => Opt (dkOf S3 d) fun l => Q ((valD l k).getD z) S3)
theorem le_dget2 (hu : X.A.units + 1 < cLine) (ho : LE X B o qo) (he : LE X B e qe) (hf : LE X B f qf)
    (mm : M2 X o "get" apos e f cpos := by exact ⟨rfl, rfl, rfl, rfl⟩) : LE X B (.Call (.Attribute o "get" apos) [e, f] [] cpos) (qDGet2 qo qe qf) := PE.imp (pe_dget2 hu ho he hf mm) fun σ H Q ⟨φ, s, S, Q', hr, ev, q, k⟩ =>
  ⟨φ, s, S, _, hr, ev, q, fun φ1 d S1 v H1 e1 hr1 r1 q1 => by
    obtain ⟨l0, h0⟩ := Option.isSome_iff_exists.mp q1.c
    obtain ⟨a, g, rfl, h1, _⟩ := hr1.dk h0 r1
    refine ⟨a, rfl, .inl ⟨g, .inl h1⟩, φ1, s, S1, _, hr1, ev.mono e1, q1.q, fun φ2 y S2 w H2 e2 hr2 r2 q2 => ⟨φ2, s, S2, _, hr2, ev.mono (e1.trans e2), q2, fun φ3 z S3 u H3 e3 hr3 r3 q3 => ?_⟩⟩
    obtain ⟨kk, h4, q4⟩ := q3.get
    obtain ⟨l, h5, q5⟩ := q4.get
    obtain ⟨a', g', e6, h6, h7⟩ := hr3.dk h5 (r1.mono (e2.trans e3))
    cases e6
    refine ⟨_, .inl ⟨g', kk, .inl h6, keyD_ok h4 (r2.mono e3), rfl⟩, ?_⟩
    have hv := RKV.val kk h7
    split at hv
    · rename_i d0 hd
      obtain ⟨v0, h8, h9⟩ := hv
      rw [h8]
      rw [hd] at q5
      exact (k.ext (e1.trans (e2.trans e3))).here hr3 h9 q5
    · rename_i hd
      rw [hv]
      rw [hd] at q5
      exact (k.ext (e1.trans (e2.trans e3))).here hr3 r3 q5⟩
/-- d[k] = x -/
def otDict : QSt := fun o i d S Q => Opt (dkM S o) fun p => Opt (keyD i) fun k => Need (p.2.length < sizeLine) (Q (S.set p.1 (.dK (putE p.2 k d))))
theorem st_dict (hu : X.A.units + 1 < cLine) : PSet X (upSet X.K B otDict) := PSet.imp (set_dict hu) fun o i v H Q ⟨φ, S, d1, d2, d3, Q', hr, r1, r2, r3, q, k⟩ => by
  obtain ⟨⟨j, l⟩, h1, q1⟩ := Opt.get q
  obtain ⟨kk, h2, q2⟩ := q1.get
  obtain ⟨rfl, hS, a, g, rfl, ea, h3, h4⟩ := hr.dkW h1 r1
  obtain ⟨e, hr'⟩ := hr.write (o := .dK (putK g kk v)) (x := O.dK l) (y := O.dK (putE l kk d3)) hS rfl ea fun e => ⟨_, upd_same, (h4.dput kk r3).mono e⟩
  exact ⟨a, _, rfl, .inl ⟨g, kk, h3, keyD_ok h2 r2, by rw [h4.len]; exact q2.c, rfl⟩, k _ _ _ e hr' q2.q⟩
/-- d.setdefault(k, x) -/
theorem mt_setdefault : MtR X "dict.setdefault" rSetd := by
  intro pins s σ H x xs v us Q I rx rv h
  obtain ⟨a, kvs, k, y, rfl, rfl, ea, hl, w1, w2⟩ := h
  cases rx
  obtain ⟨u1, u2, rfl, ry, rd⟩ := vals2 rv
  obtain ⟨z, hd, vs0, rel, dd⟩ := dk_of I.hok ea
  have hz : vs0.length ≤ sizeLine := by rw [← rel.length]; exact z
  refine call_meetsIn PySem.F.slot_dict_setdefault dd.typeIs PySem.F.entry_dict_setdefault (PySem.F.args_dict_setdefault_3 _ _ _) (kt_meets_setdefault (mixKind X.prog X.w) _ (kV_is ry) hd _) ⟨vs0, dd, hz, fun u hu => ?_, fun hn h' dd' hs => ?_⟩
  · have rr := rel.val k
    rw [hu] at rr
    cases hv : valV kvs k with
    | none => rw [hv] at rr; exact rr.elim
    | some x =>
      rw [hv] at rr
      exact (⟨x, H, I.tok _, rr, w1 x hv⟩ : EP X pins σ Q u _)
  · have rr := rel.val k
    rw [hn] at rr
    cases hv : valV kvs k with
    | some x => rw [hv] at rr; exact rr.elim
    | none =>
      have hl2 : (putK kvs k y).length ≤ sizeLine := Nat.le_trans (length_putK kvs k y) hl
      have J := d_write (t' := s.toks + 1) I (by rw [ea]; exact True.intro) hs (let ⟨q, _, _, hq, _⟩ := dd'; ⟨q, hq⟩) (dk_new hl2 hd (rel.put k rd) dd')
      exact (⟨y, _, J, rd, w2 hv⟩ : EP X pins σ Q _ _)
def rmSetd : QM := fun d ds S Q => match ds with
  | [y, z] => Opt (dkM S d) fun p => Opt (keyD y) fun k => Need (p.2.length < sizeLine) (match valD p.2 k with
    | some x => Q x S
    | none => Q z (S.set p.1 (.dK (putE p.2 k z))))
  | _ => False
theorem mm_setdefault : MtR X "dict.setdefault" (upM X.K B rmSetd) := MtR.imp mt_setdefault fun x xs H Q ⟨φ, S, d, ds, Q', hr, r, rs, q, k⟩ => by
  unfold rmSetd at q
  split at q
  · obtain ⟨v1, w1, rfl, r1, v2, w2, rfl, r2, r3⟩ := rs
    cases r3
    obtain ⟨⟨j, l⟩, h1, q1⟩ := q.get; clear q
    obtain ⟨kk, h2, q2⟩ := q1.get; clear q1
    obtain ⟨rfl, hS, a, g, rfl, ea, h3, h4⟩ := hr.dkW h1 r
    have hv := RKV.val kk h4
    refine ⟨a, g, kk, v2, rfl, by rw [keyD_ok h2 r1], h3, by rw [h4.len]; exact q2.c, fun u hu => ?_, fun hn => ?_⟩
    · split at hv
      · rename_i d0 hd
        obtain ⟨v0, h8, h9⟩ := hv
        rw [hu] at h8; cases h8
        have q3 := q2.q
        simp only [hd] at q3
        exact k.here hr h9 q3
      · rw [hu] at hv; cases hv
    · split at hv
      · obtain ⟨v0, h8, h9⟩ := hv
        rw [hn] at h8; cases h8
      · rename_i hd
        have q3 := q2.q
        simp only [hd] at q3
        obtain ⟨e, hr'⟩ := hr.write (o := .dK (putK g kk v2)) (x := O.dK l) (y := O.dK (putE l kk _)) hS rfl ea fun e => ⟨_, upd_same, (h4.dput kk r2).mono e⟩
        exact k _ _ _ _ _ e hr' (r2.mono e) q3
  · exact q.elim
/-- l.pop(i), i from nought on -/
def rmPopAt : QM := fun d ds S Q => match ds with
  | [.int i] => Opt (lsM S d) fun p => Need (0 ≤ i ∧ i < 2 ^ 62 ∧ i < p.2.length) (Opt (p.2[i.toNat]?) fun y => Q y (S.set p.1 (.lst (p.2.eraseIdx i.toNat))))
  | _ => False
theorem RVs.eraseIdx {K : PySem.W.Frag} {φ : Ph} {H : Hp} : ∀ {ds : List D} {vs : List V} (i : Nat), RVs K φ H ds vs → RVs K φ H (ds.eraseIdx i) (vs.eraseIdx i)
  | [], _, _, h => by cases h; rfl
  | _ :: _, _, 0, ⟨v, ws, e, _, h⟩ => by subst e; exact h
  | _ :: _, _, i + 1, ⟨v, ws, e, h1, h2⟩ => by subst e; exact ⟨v, _, rfl, h1, RVs.eraseIdx i h2⟩
theorem mm_popAt : MtR X "list.pop" (upM X.K B rmPopAt) := MtR.imp mt_popAt fun x xs H Q ⟨φ, S, d, ds, Q', hr, r, rs, q, k⟩ => by
  unfold rmPopAt at q
  split at q
  · rename_i i
    obtain ⟨v, w', rfl, r1, r2⟩ := rs
    cases r2; cases r1
    obtain ⟨⟨kk, ys⟩, h1, ⟨h0, hi, hl⟩, q1⟩ := q.get; clear q
    obtain ⟨y, h2, q2⟩ := q1.get; clear q1
    obtain ⟨rfl, hS, a, vs, rfl, ea, h3, h4⟩ := hr.lsW h1 r
    obtain ⟨v, h5, h6⟩ := h4.get h2
    have hl' : i < (vs.length : Int) := by rw [h4.len]; exact hl
    refine ⟨a, vs, i, i.toNat, v, rfl, rfl, h3, by omega, by omega, ?_, h5, k.write (x := O.lst ys) (y := O.lst _) (d := y) hr hS rfl ea (fun e => ⟨_, upd_same, (h4.eraseIdx _).mono e⟩) (fun _ e => h6.mono e) q2⟩
    unfold seqIndex?
    have e1 : ¬ i < 0 := by omega
    simp only [e1, if_false]
    first
    | rw [if_pos (by omega)]
    | rw [if_neg (by omega)]
    | (simp; omega)
  · exact q.elim
/-- where a number stands in a list of numbers -/
def rmIndex : QM := fun d ds S Q => match ds with
  | [.int i] => Opt (lsOf S d) fun xs => Opt (asIs xs) fun ns => Opt (ns.idxOf? i) fun j => Q (.int (j : Nat)) S
  | _ => False
theorem eqV_int (i j : Int) : eqV (.int i) (.int j) = decide (i = j) := by
  first | rfl | (unfold eqV; simp [beq_eq_decide]) | simp [eqV]
theorem mm_index : MtR X "list.index" (upM X.K B rmIndex) := MtR.imp mt_index fun x xs H Q ⟨φ, S, d, ds, Q', hr, r, rs, q, k⟩ => by
  unfold rmIndex at q
  split at q
  · rename_i i
    obtain ⟨v, w', rfl, r1, r2⟩ := rs
    cases r2
    cases r1
    obtain ⟨xs, h1, q⟩ := q.get
    obtain ⟨ns, h2, q⟩ := q.get
    obtain ⟨j, h5, q⟩ := q.get
    obtain ⟨a, vs, rfl, h3, h4⟩ := hr.ls h1 r
    rw [asIs_ok h2 h4] at h3
    obtain ⟨hj, e1, e2⟩ := List.findIdx?_eq_some_iff_getElem.mp h5
    have gi : ∀ (m : Nat) (z : V), (ns.map V.int)[m]? = some z → ∃ (hm : m < ns.length), z = .int ns[m] := fun m z hz => by
      rw [List.getElem?_map] at hz
      obtain ⟨n, hn, rfl⟩ := Option.map_eq_some_iff.mp hz
      obtain ⟨hm, rfl⟩ := List.getElem?_eq_some_iff.mp hn
      exact ⟨hm, rfl⟩
    refine ⟨a, ns.map V.int, .int i, j, .int ns[j], rfl, rfl, .inl (.inl h3), rfl, ?_, by simp [hj], ?_, fun m z hm hz => ?_, k.here (d := D.int _) hr rfl q⟩
    · rw [List.all_map]; exact List.all_eq_true.mpr fun _ _ => rfl
    · rw [eqV_int]; exact decide_eq_true (by simpa using e1)
    · obtain ⟨hml, rfl⟩ := gi m z hz
      rw [eqV_int]
      exact decide_eq_false (by simpa using e2 m hm)
  · exact q.elim
end
end LC

set_option Elab.async false
set_option linter.all false
set_option maxRecDepth 100000
set_option maxHeartbeats 5000000
/-! LD17: defs that hand back a new list that is changed later. -/
namespace LC
open PySem PySem.Spec
open PyProof.Rows L2
def onL (d : D) (P : List D → Prop) : Prop := match d with
  | .lst xs => P xs
  | _ => False
theorem onL_imp {d : D} {P Q : List D → Prop} (h : onL d P) (i : ∀ xs, P xs → Q xs) : onL d Q := by
  unfold onL at *
  split at h
  · exact i _ h
  · exact h.elim
def ldM (sp : SpP) : SpD := fun ds S Q E => match ds, S with
  | .ref 0 :: r, .drw :: S' => sp r (fun d => onL d fun xs => Q (.ref (S'.length + 1)) (.drw :: S' ++ [.lst xs])) fun C fs => E C fs S
  | _, _ => False
def at1M (sp : SpP) : SpD := fun ds S Q E => ∃ r, ds = .ref 0 :: r ∧ S = [.drw] ∧ sp r (fun d => onL d fun xs => D.lts 0 xs → Q (.ref 1) [.drw, .lst xs]) fun C fs => E C fs [.drw]
section
variable {K : PySem.W.Frag} {φ φ' : Ph} {H H' : Hp} {S : List O} {a b : Addr}
theorem Rel.grow {xs : List D} {vs : List V} (r : Rel K φ H S) (e : Ext K φ (φ.add b) H H') (kp : ∀ (i : Nat) (x : O), S[i]? = some x → ∃ a, φ.own[i]? = some a ∧ RO K (φ.add b) H' x a) (nb : b ∉ φ.hid ++ φ.own) (hb : H' b = some (.lst vs)) (rv : RVs K (φ.add b) H' xs vs) (kh : ∀ c, c ∈ φ.hid → ∀ u, H c = some u → (∀ ps, u ≠ HO.tbl ps) → H' c = some u) : Rel K (φ.add b) H' (S ++ [.lst xs]) := by
  refine ⟨?_, fun c hc z => ?_, fun c hc => let ⟨u, g, n⟩ := r.hd c hc; ⟨u, kh c hc u g n, n⟩, by simp [Ph.add, r.len], fun i y q => ?_⟩
  · show (φ.own ++ [b]).Nodup
    rw [List.nodup_append]
    refine ⟨r.nd, by simp, fun c hc d hd z => ?_⟩
    rw [List.mem_singleton.mp hd] at z
    exact nb (List.mem_append_right _ (z ▸ hc))
  · rcases List.mem_append.mp z with z | z
    · exact r.dj c hc z
    · exact nb (List.mem_append_left _ (List.mem_singleton.mp z ▸ hc))
  · by_cases hl : i < S.length
    · rw [List.getElem?_append_left hl] at q
      obtain ⟨c, h1, h2⟩ := kp i y q
      exact ⟨c, e.get h1, h2⟩
    · rw [List.getElem?_append_right (by omega)] at q
      have h0 : i - S.length = 0 := by
        have := (List.getElem?_eq_some_iff.mp q).1
        simp at this; omega
      rw [h0] at q
      simp at q
      subst q
      have hi : i = φ.own.length := by rw [r.len]; omega
      exact ⟨b, by show (φ.own ++ [b])[i]? = _; rw [hi]; simp, vs, hb, rv⟩
theorem upF_drawM {sp : SpP} (hp : ∀ ds Q E, sp ds Q E → D.lts 0 ds) (hm : ∀ ds (Q Q' : D → Prop) E, sp ds Q E → (∀ d, Q d → Q' d) → sp ds Q' E) {vs : List V} {Q : VK} {E : XK} (h : upF K (ldM sp) vs H Q E) : upF K (at1M sp) vs H Q E := by
  obtain ⟨φ, ds, S, Q', E', T, r, rs, tt, h, kq, ke⟩ := h
  unfold ldM at h
  split at h
  · rename_i rest S'
    have hS : (O.drw :: S')[0]? = some .drw := rfl
    obtain ⟨v0, ws, rfl, ⟨a, hk, rfl⟩, rs⟩ := rs
    have ha := List.mem_of_getElem? hk
    obtain ⟨b0, hb0, l, vs, g2, g3, g4⟩ := r.ob 0 _ hS
    rw [hk] at hb0; cases hb0
    have tr0 : ∀ {ds : List D} {vs : List V}, D.lts 0 ds → RVs K φ H ds vs → RVs K (φ.one a) H ds vs := fun l h => h.tr (m := 0) (fun k a hk => absurd hk (Nat.not_lt_zero k)) (fun b z => z.one ha) l
    have e1 : ∀ (p : Prop) , (([O.drw] : List O) = [.drw] ∧ p) = p := fun p => propext ⟨fun z => z.2, fun z => ⟨rfl, z⟩⟩
    refine ⟨φ.one a, .ref 0 :: rest, [.drw], fun d S1 => ∃ xs, d = .ref 1 ∧ S1 = [.drw, .lst xs] ∧ D.lts 0 xs ∧ Q' (.ref (S'.length + 1)) (.drw :: S' ++ [.lst xs]), fun C fs S1 => S1 = [.drw] ∧ E' C fs (.drw :: S'), T, r.one (o := .drw) hk ⟨l, vs, g2, g3, tr0 g2.lts g4⟩, ⟨_, _, rfl, ⟨a, rfl, rfl⟩, tr0 (hp _ _ _ h) rs⟩, tt, ?_, ?_, ?_⟩
    · refine ⟨rest, rfl, rfl, ?_⟩
      show sp rest _ (fun C fs => ([O.drw] : List O) = [.drw] ∧ E' C fs (.drw :: S'))
      rw [funext fun C => funext fun fs => e1 (E' C fs (.drw :: S'))]
      exact hm _ _ _ _ h fun d hd => onL_imp hd fun xs q l => ⟨xs, rfl, rfl, l, q⟩
    · rintro φ' d S1 v H' e r1 t1 rv ⟨xs, rfl, rfl, l0, q⟩
      obtain ⟨b, hb, rfl⟩ := rv
      have o0 : φ'.own[0]? = some a := e.get (k := 0) rfl
      have e0 : φ'.own.length = 2 := r1.len
      have eo : φ'.own = [a, b] := by
        match ho : φ'.own, e0 with
        | [c, d], _ => rw [ho] at hb o0; cases hb; cases o0; rfl
      have hab : a ≠ b := by have := r1.nd; rw [eo] at this; simpa using this
      have nb1 : b ∉ (φ.one a).hid := fun z => r1.dj b (by rw [e.hid]; exact z) (by rw [eo]; simp)
      have nb : b ∉ φ.hid ++ φ.own := fun z => by
        have f := Fz.unone nb1 (Ne.symm hab)
        exact (List.mem_append.mp z).elim f.1 f.2
      have e2 : Ext K φ (φ.add b) H H' := ⟨rfl, List.prefix_append _ _, e.tup, e.xd, fun c u hc g n => by
        obtain ⟨h1, h2⟩ := e.fz c u (fun z => hc (List.mem_singleton.mp z ▸ ha)) g n
        refine ⟨fun z => ?_, h2⟩
        rcases List.mem_append.mp z with z | z
        · exact hc z
        · exact h1 (by rw [eo]; exact List.mem_cons_of_mem _ z)⟩
      have fz2 : ∀ c, Fz φ' c → Fz (φ.add b) c := fun c z => by
        have z1 : c ∉ (φ.one a).hid := fun y => z.1 (by rw [e.hid]; exact y)
        have ca : c ≠ a := fun y => z.2 (by rw [eo, y]; simp)
        have cb : c ≠ b := fun y => z.2 (by rw [eo, y]; simp)
        have f := Fz.unone z1 ca
        refine ⟨f.1, fun y => ?_⟩
        rcases List.mem_append.mp y with y | y
        · exact f.2 y
        · exact cb (List.mem_singleton.mp y)
      obtain ⟨b', hb', ws', k1, k2⟩ := r1.ob 1 _ rfl
      rw [hb] at hb'; cases hb'
      refine kq (φ.add b) _ _ _ H' e2 (r.grow e2 (fun i x hx => ?_) nb k1 (k2.tr (m := 0) (fun k a hk => absurd hk (Nat.not_lt_zero k)) fz2 l0) fun c hc u g n => (e.fz c u (fun z => r.dj c hc (List.mem_singleton.mp z ▸ ha)) g n).2) t1 (show RV K (φ.add b) H' (.ref (S'.length + 1)) (.ref b) from ⟨b, by have := r.len; simp at this; rw [← this]; show (φ.own ++ [b])[φ.own.length]? = _; simp, rfl⟩) q
      obtain ⟨c, h1, h2⟩ := r.ob i x hx
      refine ⟨c, h1, ?_⟩
      by_cases hc : c = a
      · subst hc
        have hi : i = 0 := by
          obtain ⟨l1, f1⟩ := List.getElem?_eq_some_iff.mp h1
          obtain ⟨l2, f2⟩ := List.getElem?_eq_some_iff.mp hk
          exact (List.getElem_inj r.nd).mp (f1.trans f2.symm)
        subst hi
        cases hx
        obtain ⟨c', y1, l', vs', y2, y3, y4⟩ := r1.ob 0 _ rfl
        rw [o0] at y1; cases y1
        exact ⟨l', vs', y2, y3, y4.tr (m := 0) (fun k a hk => absurd hk (Nat.not_lt_zero k)) fz2 y2.lts⟩
      · exact h2.mono e2 fun u hu n => (e.fz c u (fun z => hc (List.mem_singleton.mp z)) hu n).2
    · rintro φ' C fs S1 cls d H' e r1 t1 ⟨hc, dx, gs, hd, h1, h2⟩ ⟨rfl, q⟩
      have e0 : φ'.own.length = 1 := r1.len
      have own1 : ∀ (k : Nat) (x : Addr), k < 1 → φ'.own[k]? = some x → φ.own[k]? = some x := fun k x hk' hx => by
        have : k = 0 := by omega
        subst this
        rw [e.get (k := 0) (a := a) rfl] at hx; cases hx; exact hk
      have fz1 : ∀ b, Fz φ' b → Fz φ b := fun b z => Fz.unone (by rw [← e.hid]; exact z.1) fun y => z.2 (y ▸ List.mem_of_getElem? (e.get (k := 0) (a := a) rfl))
      have l1 : D.lts 1 (fs.map (·.2)) := by
        obtain ⟨us, eu, g3⟩ := h2.split
        have := g3.lt
        rwa [e0] at this
      exact ke φ C fs _ cls d H' (e.unone ha) (r.unone hk hS e r1 rfl) t1 ⟨hc, dx, gs, hd, h1, h2.tr own1 fz1 l1⟩ q
  · exact h.elim
def RtWM (Q : D → Prop) (d : D) (S : List O) : Prop := match S with
  | .drw :: .lst xs :: _ => d = .ref 1 ∧ D.lts 0 xs ∧ Q (.lst xs)
  | _ => False
def okWM (sp : SpP) : OkG := fun ds S R X n => ∃ r Q E, sp r Q E ∧ ds = .ref 0 :: r ∧ S = [.drw] ∧ R = RtWM Q ∧ X = XtW E ∧ n = 1
theorem conv_WM {sp : SpP} : Conv (at1M sp) (okWM sp) := by
  rintro ds S Q' E' ⟨r, rfl, rfl, h⟩ _
  refine ⟨_, _, ⟨_, _, _, h, rfl, rfl, rfl, rfl, rfl⟩, ?_, ?_⟩
  · intro d S' h
    unfold RtWM at h
    split at h
    · obtain ⟨rfl, l, q⟩ := h
      exact ⟨2, .ref 1, [.drw, .lst _], Nat.le_succ _, by simp, ⟨_, _, rfl, trivial, _, _, rfl, RsL.same (l.mono (Nat.zero_le _)), rfl⟩, ⟨rfl, Nat.lt_succ_self _⟩, q l⟩
    · exact h.elim
  · intro C fs S' h
    unfold XtW at h
    split at h
    · obtain ⟨fs', h1, h2, h3⟩ := h
      exact ⟨1, fs', [.drw], Nat.le_refl _, by simp, ⟨_, _, rfl, trivial, rfl⟩, h1, h2, h3⟩
    · exact h.elim
end
section
variable {P : Program} {w : World} {K : PySem.W.Frag} {mg : Str → Option Value} {base : Heap}
theorem fn_WM {x qual : Str} {st : Stmt} {f : Addr} {fd : FuncData} {N ps : List Str} {k : Nat} {sp : SpP} (F : Fun K x qual st f fd) (S : FnScope N ps (defScope st)) (hp : ∀ ds Q E, sp ds Q E → ds.length + 1 = ps.length ∧ D.lts 0 ds) (hm : ∀ ds (Q Q' : D → Prop) E, sp ds Q E → (∀ d, Q d → Q' d) → sp ds Q' E) (hb : BodyG P w K mg base qual st f N k (okWM sp)) : FnOk P w K mg base (L2.CX P w) (k + 1) f fd ps (upF K (ldM sp)) :=
  (FunD.ok conv_WM F S (fun ds S Q E ⟨r, e, _, h⟩ => by rw [e]; exact (hp _ _ _ h).1) hb).imp fun vs H Q E h => upF_drawM (fun ds Q E h => (hp _ _ _ h).2) hm h
end
end LC

set_option Elab.async false
set_option linter.all false
set_option maxRecDepth 100000
set_option maxHeartbeats 5000000
/-! LD18: sorted; displays of dicts. -/
namespace LC
open PySem PySem.Spec PySem.Calls
open PyProof.Rows L2
def sortI (ns : List Int) : List Int := ns.mergeSort fun a b => decide (a ≤ b)
theorem sorted_one {l m : List Int} (p : l.Perm m) (h1 : l.Pairwise (· ≤ ·)) (h2 : m.Pairwise (· ≤ ·)) : l = m := p.eq_of_pairwise (le := (· ≤ ·)) (fun a b _ _ x y => Int.le_antisymm x y) h1 h2
theorem sortI_perm (ns : List Int) : (sortI ns).Perm ns := List.mergeSort_perm _ _
theorem sortI_le (ns : List Int) : (sortI ns).Pairwise (· ≤ ·) := (List.pairwise_mergeSort (le := fun a b => decide (a ≤ b)) (fun a b c x y => decide_eq_true (Int.le_trans (of_decide_eq_true x) (of_decide_eq_true y))) (fun a b => by
  rcases Int.le_total a b with h | h
  · simp [h]
  · simp [h]) ns).imp fun h => of_decide_eq_true h
theorem sortI_is {ns m : List Int} (p : m.Perm ns) (h : m.Pairwise (· ≤ ·)) : m = sortI ns := sorted_one (p.trans (sortI_perm ns).symm) h (sortI_le ns)
theorem sortI_len (ns : List Int) : (sortI ns).length = ns.length := (sortI_perm ns).length_eq
section
variable {prog : Program} {w : World} {A : Around} {E : Value → Shared → Prop} {s : Shared} {T : String} {r d : Addr} {n : Nat} {P : Nat → Value → Prop} {OK : Heap → Prop}
/-- what is gathered from a dict, in a list of its own -/
theorem collectK {R : List Value → Shared → Prop} (Kd : PySem.W.KdlSrc prog w T r d n P OK) (calm : A.handled = none) (ok : OK s.heap) (hz : n ≤ sizeLine)
    (h : ∀ (h2 : Heap) (tk : Nat) (acc : Array Value), (∀ b o, s.heap.get? b = some o → h2.get? b = some o) → s.heap.objs.size < h2.objs.size → PySem.ItemsOf P acc n → R acc.toList { s with heap := h2, toks := tk }) : wpAny (model prog w) A (collect (.ref r)) R E s := by
  obtain ⟨l1, l2⟩ := Kd.there _ ok
  unfold collect; apply wpAny_bind; apply wpAny_runValue; refine codeAny_builtin entry_proto_collect' ?_
  rw [Around.under_plainId PySem.F.plain_proto_collect _]; show wpAny _ A.in1 (newList [] >>= fun l => again (.builtin "list.__iadd__" ⟨[l, .ref r], []⟩)) _ _ s
  apply wpAny_bind; refine wpAny_newObj_type ?_; refine wpAny_pure ⟨plainId_quiet PySem.F.plain_list_iadd _, codeAny_builtin entry_list_iadd' ?_⟩
  rw [Around.under_plainId PySem.F.plain_list_iadd _]; generalize hS : s.heap.objs.size = S at *
  have gS : (s.heap.push { cls := .type "list", data := .seq ([] : List Value).toArray }).get? S = some { cls := .type "list", data := .seq #[] } := by rw [← hS]; exact Heap.get?_push_size _ rfl
  show wpAny _ A.in1 (Builtin.List.listExtendWith (.ref S) (.ref r) (.ref S)) _ _ _
  have ok2 : OK (s.heap.push { cls := .type "list", data := .seq ([] : List Value).toArray }) := Kd.keep _ _ ok fun b _ o e => Heap.get?_push_of_some _ e
  have key := PySem.W.kdl_extend (A := A) (s := ⟨s.heap.push { cls := .type "list", data := .seq ([] : List Value).toArray }, s.gens, s.drawn, s.toks, s.os⟩) (R := fun q t => ∃ (h2 : Heap) (tk : Nat) (acc : Array Value) (c : Nat), q = .ok (.ret (.ref S)) ∧ t = ⟨h2, s.gens, s.drawn, tk, s.os⟩ ∧ (∀ b o, s.heap.get? b = some o → h2.get? b = some o) ∧ h2.get? S = some { cls := .type "list", dict := none, data := .seq acc c, slots := #[] } ∧ PySem.ItemsOf P acc n)
    Kd calm ok2 S (Nat.ne_of_gt l1) (Nat.ne_of_gt l2) (.ref S) 0 gS (fun h2 tk acc c hk g hacc => ⟨h2, tk, acc, c, rfl, rfl, fun b o e => hk b o (Nat.ne_of_lt (by rw [← hS]; exact Heap.lt_size e)) (Heap.get?_push_of_some _ e), g, hacc⟩) hz
  have fin : ∀ (q : Result) (t : Shared), (∃ (h2 : Heap) (tk : Nat) (acc : Array Value) (c : Nat), q = .ok (.ret (.ref S)) ∧ t = ⟨h2, s.gens, s.drawn, tk, s.os⟩ ∧ (∀ b o, s.heap.get? b = some o → h2.get? b = some o) ∧ h2.get? S = some { cls := .type "list", dict := none, data := .seq acc c, slots := #[] } ∧ PySem.ItemsOf P acc n) →
      ∃ v, q = .ok (.ret v) ∧ wpAny (model prog w) A (match v with | .ref l => (do let o ← load l; match o.data with | .seq xs _ => pure xs.toList | _ => unsupported "internal:collect") | _ => unsupported "internal:collect") R E t := by
    rintro q t ⟨h2, tk, acc, c, rfl, rfl, k1, k2, k3⟩
    exact ⟨_, rfl, wpAny_bind (wpAny_load k2 (wpAny_pure (h h2 tk acc k1 (Heap.lt_size k2) k3)))⟩
  refine wpAny_mono key (fun f t x => ?_) fun e t x => ?_
  · cases f with
    | done f =>
      obtain ⟨v, e, y⟩ := fin _ _ x
      cases e
      exact y
    | again c =>
      refine ⟨x.1, codeAny_mono x.2 fun q t2 y => ?_⟩
      obtain ⟨v, e, z⟩ := fin _ _ y
      subst e
      exact z
  · obtain ⟨_, _, _, _, e', _⟩ := x
    cases e'
end
section
variable {X : Cx} {B : Bs}
/-- sorted(d), d a dict whose keys are numbers -/
theorem cr_sortedD (hc : X.calm = true) : CallR X (.builtin "sorted") (fun xs H Q => ∃ (a : Addr) (g : List (Key × V)) (ns : List Int), xs = [.ref a] ∧ H a = some (.dK g) ∧ g.map (·.1) = ns.map Sum.inl ∧ ns.length < 64 ∧ ∀ p : Addr, H p = none → Q (.ref p) (upd H p (.lst ((sortI ns).map V.int)))) := by
  rintro pins s σ H xs us Q I r ⟨a, g, ns, rfl, ha, hk, h64, q⟩
  rw [Vals.ref1 r]
  have hs := sizeLine_eq
  obtain ⟨z, hd, ws, rel, dd⟩ := dk_of I.hok ha
  obtain ⟨ep, hat⟩ := dd.dictAt
  have hl : ws.length = ns.length := by
    have e := congrArg List.length hk
    simp at e
    rw [← e]; exact (KV.length rel).symm
  apply call_function_entry kind_sorted plain_sorted entry_sorted (args_sorted1 _)
  unfold Builtin.«sorted»; apply wpAny_bind (m := checkCount "sorted" 1 1 _); apply wpAny_pure
  refine wpAny_bind (collectK (A := X.A.in1) (PySem.W.kdl_dict (knd := mixKind X.prog X.w) (kvs := ws) (ep := ep) hd) (I.ok.hd hc) hat (by omega) fun h' tk acc hkp hsz hacc => ?_)
  have hal : acc.toList.length = ns.length := by rw [Array.length_toList]; exact hacc.1.trans hl
  have hI : IntsAre acc.toList ns := by
    have at_ : ∀ (i : Nat) (v : Value), acc.toList[i]? = some v → ∃ n t, ns[i]? = some n ∧ v = .int n t := fun i v hv => by
      rw [Array.getElem?_toList] at hv
      obtain ⟨k, x, h1, h2⟩ := hacc.2 i v hv
      have e1 := congrArg (fun l : List Key => l[i]?) ((KV.keys rel).symm.trans hk)
      simp only [List.getElem?_map, h1] at e1
      obtain ⟨n, hn, en⟩ := Option.map_eq_some_iff.mp e1.symm
      have en' : k = Sum.inl n := en.symm
      subst en'
      rw [mixKind_is] at h2
      rcases keyIs_shape h2 with ⟨j, t, e, rfl⟩ | ⟨y, t, e, rfl⟩
      · cases e; exact ⟨n, t, hn, rfl⟩
      · cases e
    have go : ∀ (vs : List Value) (ms : List Int), vs.length = ms.length → (∀ (i : Nat) (v : Value), vs[i]? = some v → ∃ n t, ms[i]? = some n ∧ v = .int n t) → IntsAre vs ms := by
      intro vs
      induction vs with
      | nil => intro ms hl _; cases ms with | nil => exact .nil | cons _ _ => simp at hl
      | cons v vs ih =>
        intro ms hl h
        cases ms with
        | nil => simp at hl
        | cons m ms =>
          obtain ⟨n, t, e1, rfl⟩ := h 0 v rfl
          cases e1
          exact .cons _ _ (ih ms (by simpa using hl) fun i u hu => h (i + 1) u hu)
    exact go _ _ hal at_
  refine wpAny_bind (wpAny_newList ?_ (by rw [hal]; omega))
  have ho : (h'.push (seqObj "list" acc.toList.toArray 0)).get? h'.objs.size = some (seqObj "list" acc.toList.toArray 0) := Heap.get?_push_size _ rfl
  have hle := Nat.le_of_lt hsz
  refine wpAny_bind (wpAny_holding (wpAny_call_entry slot_list_sort ⟨_, ho, rfl⟩ entry_list_sort (list_sort_tree ho hI (by rw [hal]; exact h64) fun out ns' a1 a2 a3 => ⟨_, rfl, ?_⟩) (args_list_sort _)))
  have en := sortI_is a2 a3
  subst en
  obtain ⟨e2, he2⟩ := PyProof.Rows.sortedHeap_at (vs := acc.toList) (out := out) ho
  apply wpAny_pure; refine ⟨_, rfl, .ref _, upd H h'.objs.size (.lst ((sortI ns).map V.int)), I.laid (fun b u hu => ?_) hle ⟨by rw [List.length_map, sortI_len]; omega, out.toList, e2, vals_of_ints a1, he2⟩, rfl, q _ (I.hok.fresh hle)⟩
  have hb := hkp b u hu
  rw [PyProof.Rows.sortedHeap_old (Nat.ne_of_lt (Heap.lt_size hb)) (by rw [Heap.size_push]; exact Nat.lt_succ_of_lt (Heap.lt_size hb))]
  exact Heap.get?_push_of_some _ hb
def keysI : List Key → Option (List Int)
  | [] => some []
  | .inl i :: r => (keysI r).map (i :: ·)
  | _ => none
theorem keysI_ok : ∀ {l : List Key} {ns : List Int}, keysI l = some ns → l = ns.map Sum.inl
  | [], _, h => by cases h; rfl
  | .inl i :: r, ns, h => by
    simp only [keysI] at h
    obtain ⟨m, hm, rfl⟩ := Option.map_eq_some_iff.mp h
    rw [keysI_ok hm]; rfl
  | .inr _ :: _, _, h => by cases h
/-- the numbers that are sorted -/
def sOf (S : List O) (d : D) : Option (List Int) := match lsOf S d with
  | some xs => asIs xs
  | none => match dkOf S d with
    | some l => keysI (l.map (·.1))
    | none => none
theorem call_sorted_any (hc : X.calm = true) : CallR X (.builtin "sorted") (fun x H Q => ∃ a ns, x = [V.ref a] ∧ ns.length < 64 ∧ ((∃ vs, H a = some (.lst vs) ∧ vs = ns.map V.int) ∨ ∃ g : List (Key × V), H a = some (.dK g) ∧ g.map (·.1) = ns.map Sum.inl) ∧ ∀ p : Addr, H p = none → Q (.ref p) (upd H p (.lst ((sortI ns).map V.int)))) := CallR.imp (cr_sorted.or (cr_sortedD hc)) fun x H Q ⟨a, ns, e, h64, h, q⟩ => by
  rcases h with ⟨vs, h1, rfl⟩ | ⟨g, h1, h2⟩
  · exact .inl ⟨a, ns, e, .inl (.inl h1), h64, fun ns' p a1 a2 hp => by rw [sortI_is a1 a2]; exact q p hp⟩
  · exact .inr ⟨a, g, ns, e, h1, h2, h64, q⟩
theorem RKV.fst {κ : Type} {K : PySem.W.Frag} {φ : Ph} {H : Hp} : ∀ {l : List (κ × D)} {g : List (κ × V)}, RKV K φ H l g → g.map (·.1) = l.map (·.1)
  | [], _, h => by cases h; rfl
  | _ :: _, _, ⟨v, r, e, _, h2⟩ => by subst e; simp [RKV.fst h2]
theorem HR.sorts {φ : Ph} {H : Hp} {S : List O} {d : D} {v : V} {ns : List Int} (hr : HR X.K B φ H S) (h : sOf S d = some ns) (r : RV X.K φ H d v) : ∃ a, v = .ref a ∧ ((∃ vs, H a = some (.lst vs) ∧ vs = ns.map V.int) ∨ ∃ g : List (Key × V), H a = some (.dK g) ∧ g.map (·.1) = ns.map Sum.inl) := by
  unfold sOf at h
  split at h
  · rename_i xs e
    obtain ⟨a, vs, rfl, h3, h4⟩ := hr.ls e r
    exact ⟨a, rfl, .inl ⟨vs, h3, asIs_ok h h4⟩⟩
  · split at h
    · rename_i l e
      obtain ⟨a, g, rfl, h3, h4⟩ := hr.dk e r
      exact ⟨a, rfl, .inr ⟨g, h3, by rw [h4.fst]; exact keysI_ok h⟩⟩
    · cases h
def rcSorted : QC := fun ds S Q => match ds with
  | [d] => Opt (sOf S d) fun ns => Need (ns.length < 64) (Q (.lst ((sortI ns).map D.int)) S)
  | _ => False
theorem cc_sorted (hc : X.calm = true) : CallR X (.builtin "sorted") (upC X.K B rcSorted) := CallR.imp (call_sorted_any hc) fun x H Q ⟨φ, S, ds, Q', hr, r, q, k⟩ => by
  unfold rcSorted at q
  split at q
  · obtain ⟨v, w', rfl, r1, r2⟩ := r
    cases r2
    obtain ⟨ns, h1, h2, q⟩ := q.get
    obtain ⟨a, rfl, h3⟩ := hr.sorts h1 r1
    exact ⟨a, ns, rfl, h2, h3, fun p hp => k.lst hr hp .ofInts q⟩
  · exact q.elim
/-! ### displays -/
abbrev QPs := Sl → List O → (List (D × D) → List O → Prop) → Prop
abbrev rDD (K : PySem.W.Frag) : Ph → Hp → List (D × D) → List (V × V) → Prop := fun φ H ds vs => RVs K φ H (ds.map (·.1)) (vs.map (·.1)) ∧ RVs K φ H (ds.map (·.2)) (vs.map (·.2))
theorem rDD_nil {K : PySem.W.Frag} {φ : Ph} {H : Hp} : rDD K φ H [] [] := ⟨rfl, rfl⟩
theorem rDD_cons {K : PySem.W.Frag} {φ : Ph} {H : Hp} {d e : D} {v u : V} {ps : List (D × D)} {ws : List (V × V)} (r1 : RV K φ H d v) (r2 : RV K φ H e u) (r : rDD K φ H ps ws) : rDD K φ H ((d, e) :: ps) ((v, u) :: ws) := ⟨⟨_, _, rfl, r1, r.1⟩, ⟨_, _, rfl, r2, r.2⟩⟩
structure LPs (X : Cx) (B : Bs) (pos : Pos) (ks : List (Option Expr)) (vs : List Expr) (q : QPs) : Prop where
  ex : ∃ trs, PPs X pos ks vs trs ∧ ∀ σ H Q, UP X.K B (rDD X.K) q σ H Q → tPairs trs σ H Q
def qPNil : QPs := fun _ S Q => Q [] S
def qPCons (qk qv : QE) (r : QPs) : QPs := fun s S Q => qk s S fun k S1 => qv s S1 fun v S2 => r s S2 fun ps S3 => Q ((k, v) :: ps) S3
theorem lps_nil {pos : Pos} : LPs X B pos [] [] qPNil := ⟨[], pps_nil, fun σ H Q ⟨φ, s, S, Q', hr, ev, q, k⟩ => k.here (d := []) hr rDD_nil q⟩
theorem lps_cons {pos : Pos} {k v : Expr} {ks : List (Option Expr)} {vs : List Expr} {qk qv : QE} {r : QPs} (hk : LE X B k qk) (hv : LE X B v qv) (hr : LPs X B pos ks vs r) : LPs X B pos (some k :: ks) (v :: vs) (qPCons qk qv r) :=
  let ⟨trs, h1, h2⟩ := hr.ex
  ⟨_, pps_cons hk hv h1, fun σ H Q ⟨φ, s, S, Q', hr, ev, q, k⟩ => ⟨φ, s, S, _, hr, ev, q, fun φ1 d S1 v1 H1 e1 hr1 r1 q1 => ⟨φ1, s, S1, _, hr1, ev.mono e1, q1, fun φ2 d2 S2 v2 H2 e2 hr2 r2 q2 => h2 _ _ _ ⟨φ2, s, S2, _, hr2, ev.mono (e1.trans e2), q2, fun φ3 ps S3 ws H3 e3 hr3 r3 q3 =>
    k _ _ _ _ _ (e1.trans (e2.trans e3)) hr3 (rDD_cons (r1.mono (e2.trans e3)) (r2.mono e3) r3) q3⟩⟩⟩⟩
def keysD : List D → Option (List Key)
  | [] => some []
  | d :: r => match keyD d, keysD r with
    | some k, some ks => some (k :: ks)
    | _, _ => none
theorem keysD_ok {K : PySem.W.Frag} {φ : Ph} {H : Hp} : ∀ {ps : List (D × D)} {ws : List (V × V)} {ks : List Key}, keysD (ps.map (·.1)) = some ks → rDD K φ H ps ws → ∃ g : List (Key × V), ws = g.map (fun p => (kV p.1, p.2)) ∧ RKV K φ H (ks.zip (ps.map (·.2))) g ∧ g.length = ps.length
  | [], ws, ks, h, ⟨r1, r2⟩ => by
    cases h
    have : ws = [] := List.map_eq_nil_iff.mp r1
    subst this
    exact ⟨[], rfl, rfl, rfl⟩
  | (d, e) :: ps, ws, ks, h, ⟨⟨v1, t1, e1, a1, a2⟩, ⟨v2, t2, e2, b1, b2⟩⟩ => by
    cases ws with
    | nil => cases e1
    | cons w ws =>
      obtain ⟨x, y⟩ := w
      simp only [List.map_cons, List.cons.injEq] at e1 e2
      obtain ⟨rfl, rfl⟩ := e1
      obtain ⟨rfl, rfl⟩ := e2
      simp only [List.map_cons, keysD] at h
      split at h
      · rename_i k ks' h1 h2
        cases h
        obtain ⟨g, rfl, h3, h4⟩ := keysD_ok h2 ⟨a2, b2⟩
        refine ⟨(k, y) :: g, ?_, ⟨y, g, rfl, b1, h3⟩, by simp [h4]⟩
        rw [keyD_ok h1 a1]; rfl
      · cases h
/-- {k: v, ..} -/
def afterDisp (S : List O) (Q : D → List O → Prop) : List (D × D) → List O → Prop := fun ps S2 => Need (S2[S.length]? = some (.dK []) ∧ ps.length ≤ 15) (Opt (keysD (ps.map (·.1))) fun ks => Q (.ref S.length) (S2.set S.length (.dK (mergeD [] (ks.zip (ps.map (·.2)))))))
def qDisp (q : QPs) : QE := fun s S Q => q s (S ++ [.dK []]) (afterDisp S Q)
theorem le_disp {pos : Pos} {ks : List (Option Expr)} {vs : List Expr} {q : QPs} (h : LPs X B pos ks vs q) (hall : ks.all (·.isSome) = true := by rfl) (hl : ks.length = vs.length := by rfl) (h0 : ks ≠ [] := by simp) (h15 : ks.length ≤ 15 := by decide) : LE X B (.Dict ks vs pos) (qDisp q) := by
  obtain ⟨trs, h1, h2⟩ := h.ex
  refine PE.imp (pe_disp h1 hall hl h0 h15) fun σ H Q ⟨φ, s, S, Q', hr, ev, qq, k⟩ p hp => h2 _ _ _ ⟨φ.add p, s, S ++ [O.dK []], afterDisp S Q', hr.new (x := .dK []) hp ⟨[], upd_same, rfl⟩, ev.mono (ext_add hp), qq, fun φ1 ps S1 ws H1 e1 hr1 r1 q1 => ?_⟩
  obtain ⟨⟨g1, g2⟩, q2⟩ := q1
  obtain ⟨kl, g3, q3⟩ := q2.get
  obtain ⟨g, e2, g4, g5⟩ := keysD_ok g3 r1
  have hl : (φ.add p).own[S.length]? = some p := hr.rel.last p
  have o1 := e1.get hl
  obtain ⟨a, o2, l, k1, k2⟩ := hr1.rel.ob _ _ g1
  rw [o1] at o2; cases o2
  cases k2
  obtain ⟨e3, hr3⟩ := hr1.write (o := .dK (mergeK [] g)) (x := O.dK []) (y := O.dK (mergeD [] (kl.zip (ps.map (·.2))))) g1 rfl o1 fun e => ⟨_, upd_same, RKV.merge (g4.mono e) (show RKV X.K _ _ [] [] from rfl)⟩
  refine ⟨k1, g, e2, by rw [g5]; exact g2, k _ _ _ _ _ ((ext_add hp).trans (e1.trans e3)) hr3 (show RV X.K _ _ (.ref S.length) _ from ⟨p, o1, rfl⟩) q3⟩
end
end LC

set_option Elab.async false
set_option linter.all false
set_option maxRecDepth 100000
set_option maxHeartbeats 5000000
/-! LD19: findings as data. -/
namespace LC
open PySem PySem.Spec
open PyProof.Rows L2
theorem u1 {n m : Nat} (h : n + 64 < m) : n + 1 < m := by omega
/-- a dict of one's own, handed back -/
theorem RpD {Q : D → Prop} {k : Nat} {l : List (Key × D)} {S : List O} (h : S[k]? = some (.dK l)) (z : D.lts 0 (l.map (·.2))) (q : Q (.dK (l.map (·.1)) (l.map (·.2)))) : RtP Q (.ref k) S := ⟨.dK (l.map (·.1)) (l.map (·.2)), .inr ⟨k, l, rfl, Nat.zero_le _, h, rfl, RsL.same z⟩, q⟩
theorem RwL {Q : D → Prop} {k : Nat} {xs : List D} {S : List O} (h : (O.drw :: S)[k]? = some (.lst xs)) (hk : 1 ≤ k) (z : D.lts 1 xs) (q : Q (.lst xs)) : RtW Q (.ref k) (.drw :: S) := ⟨.lst xs, .inr ⟨k, xs, rfl, hk, h, RsL.same z⟩, q⟩
inductive Fc where
  | scrape (p c : Int) (sh : List Int)
  | cover (p l d : Int)
  | moved (p c l d : Int)
  | year (p c f l : Int)
  | sold (s y : Int)
  | ahead (p c o d : Int)
  | same (p c o d : Int)
  | apart (p c o d : Int)
def Fc.d : Fc → D
  | .scrape p c sh => .tup [.str "scrape", .int p, .int c, .tup (sh.map D.int)]
  | .cover p l d => .tup [.str "cover", .int p, .int l, .int d]
  | .moved p c l d => .tup [.str "moved", .int p, .int c, .int l, .int d]
  | .year p c f l => .tup [.str "year", .int p, .int c, .int f, .int l]
  | .sold s y => .tup [.str "sold", .int s, .int y]
  | .ahead p c o d => .tup [.str "ahead", .int p, .int c, .int o, .int d]
  | .same p c o d => .tup [.str "same", .int p, .int c, .int o, .int d]
  | .apart p c o d => .tup [.str "apart", .int p, .int c, .int o, .int d]
/-- as a law draws them: of these parts, of so many coats at most -/
def Fc.good (ps : List Int) (m : Int) : Fc → Prop
  | .scrape p c sh => p ∈ ps ∧ 0 ≤ c ∧ 1 ≤ sh.length ∧ c + sh.length ≤ m ∧ goodN sh
  | .cover p l d => p ∈ ps ∧ l ∈ ps ∧ p ≠ l ∧ 0 ≤ d ∧ d ≤ m
  | .moved p c l d => p ∈ ps ∧ 1 ≤ c ∧ c ≤ m ∧ l ∈ ps ∧ p ≠ l ∧ 0 ≤ d ∧ d ≤ m
  | .year p c f l => p ∈ ps ∧ 0 ≤ c ∧ c < m ∧ 0 ≤ f ∧ f ≤ l ∧ l ≤ 999
  | .sold s y => 1 ≤ s ∧ s ≤ 6 ∧ 0 ≤ y ∧ y ≤ 999
  | .ahead p c o d => p ∈ ps ∧ 0 ≤ c ∧ c < m ∧ o ∈ ps ∧ 0 ≤ d ∧ d < m ∧ ¬ (p = o ∧ c = d)
  | .same p c o d => p ∈ ps ∧ 0 ≤ c ∧ c < m ∧ o ∈ ps ∧ 0 ≤ d ∧ d < m ∧ p ≠ o
  | .apart p c o d => p ∈ ps ∧ 0 ≤ c ∧ c < m ∧ o ∈ ps ∧ 0 ≤ d ∧ d < m ∧ p ≠ o
theorem Fc.lt {f : Fc} {n : Nat} : D.lt n f.d := by
  cases f with
  | scrape p c sh => exact ⟨trivial, trivial, trivial, D.lts_ints sh, trivial⟩
  | sold s y => exact ⟨trivial, trivial, trivial, trivial⟩
  | cover p l d => exact ⟨trivial, trivial, trivial, trivial, trivial⟩
  | _ => exact ⟨trivial, trivial, trivial, trivial, trivial, trivial⟩
theorem map_at {α : Type} {g : α → D} {l : List α} {i : Nat} {x : D} (h : (l.map g)[i]? = some x) : ∃ p, l[i]? = some p ∧ x = g p := by
  rw [List.getElem?_map] at h
  obtain ⟨p, hp, e⟩ := Option.map_eq_some_iff.mp h
  exact ⟨p, hp, e.symm⟩
theorem take_snoc {α : Type} {l : List α} {i : Nat} {p : α} (h : l[i]? = some p) : l.take (i + 1) = l.take i ++ [p] := by rw [List.take_add_one, h]; rfl
/-- a finding with its number -/
def nf (p : Int × Fc) : D := .tup [.int p.1, p.2.d]
theorem nf_lt {p : Int × Fc} {n : Nat} : D.lt n (nf p) := ⟨trivial, Fc.lt, trivial⟩
theorem nfs_lt {n : Nat} : ∀ l : List (Int × Fc), D.lts n (l.map nf)
  | [] => trivial
  | _ :: r => ⟨nf_lt, nfs_lt r⟩
theorem fcs_lt {n : Nat} : ∀ l : List Fc, D.lts n (l.map Fc.d)
  | [] => trivial
  | _ :: r => ⟨Fc.lt, fcs_lt r⟩
/-- the parts that a finding shows, with the coats at least -/
def Fc.shown : Fc → List (Int × Int)
  | .scrape p c sh => [(p, c + sh.length)]
  | .cover p l d => [(p, 0), (l, d)]
  | .moved p c l d => [(p, c), (l, d)]
  | .year p c _ _ => [(p, c + 1)]
  | .sold _ _ => []
  | .ahead p c o d => [(p, c + 1), (o, d + 1)]
  | .same p c o d => [(p, c + 1), (o, d + 1)]
  | .apart p c o d => [(p, c + 1), (o, d + 1)]
def pr (p : Int × Int) : D := .tup [.int p.1, .int p.2]
/-- counts by part, in the order in which they come -/
abbrev Cnt := List (Int × Int)
def getC (l : Cnt) (p : Int) : Int := ((l.find? fun x => decide (x.1 = p)).map (·.2)).getD 0
def putC (l : Cnt) (p c : Int) : Cnt := if (l.any fun x => decide (x.1 = p)) = true then l.map (fun x => if x.1 = p then (x.1, c) else x) else l ++ [(p, c)]
def addC (l : Cnt) (x : Int × Int) : Cnt := putC l x.1 (max x.2 (getC l x.1))
def sizesC (fs : List Fc) : Cnt := (fs.flatMap Fc.shown).foldl addC []
def Cnt.d (l : Cnt) : List (Key × D) := l.map fun x => (.inl x.1, .int x.2)
theorem Cnt.lts (l : Cnt) {n : Nat} : D.lts n (l.d.map (·.2)) := by
  unfold Cnt.d
  induction l with
  | nil => trivial
  | cons x r ih => exact ⟨trivial, ih⟩
theorem key_inl (a b : Int) : ((Sum.inl a : Key) = Sum.inl b) = (a = b) := propext ⟨fun h => Sum.inl.inj h, fun h => by rw [h]⟩
theorem valD_C (l : Cnt) (p : Int) : valD l.d (.inl p) = ((l.find? fun x => decide (x.1 = p)).map (·.2)).map D.int := by
  unfold valD Cnt.d
  rw [List.find?_map]
  have : ((fun q : Key × D => decide (q.1 = Sum.inl p)) ∘ fun x : Int × Int => ((Sum.inl x.1 : Key), D.int x.2)) = fun x => decide (x.1 = p) := by
    funext x
    show decide ((Sum.inl x.1 : Key) = Sum.inl p) = _
    simp only [key_inl]
  rw [this, Option.map_map, Option.map_map]
  rfl
theorem getD_C (l : Cnt) (p : Int) : (valD l.d (.inl p)).getD (.int 0) = .int (getC l p) := by
  rw [valD_C]
  unfold getC
  cases (l.find? fun x => decide (x.1 = p)) <;> rfl
theorem any_C (l : Cnt) (p : Int) : (l.d.any fun q => decide (q.1 = .inl p)) = l.any fun x => decide (x.1 = p) := by
  unfold Cnt.d
  rw [List.any_map]
  congr 1
  funext x
  show decide ((Sum.inl x.1 : Key) = Sum.inl p) = _
  simp only [key_inl]
theorem putE_C (l : Cnt) (p c : Int) : putE l.d (.inl p) (.int c) = (putC l p c).d := by
  unfold putE putC
  rw [any_C]
  split
  · unfold Cnt.d
    rw [List.map_map, List.map_map]
    refine List.map_congr_left fun x _ => ?_
    show (if (Sum.inl x.1 : Key) = Sum.inl p then ((Sum.inl x.1 : Key), D.int c) else (Sum.inl x.1, D.int x.2)) = _
    by_cases h : x.1 = p
    · rw [if_pos (by rw [h])]; simp [h]
    · rw [if_neg (fun z => h (Sum.inl.inj z))]; simp [h]
  · unfold Cnt.d
    rw [List.map_append]; rfl
theorem putC_len (l : Cnt) (p c : Int) : (putC l p c).length ≤ l.length + 1 := by
  unfold putC
  split <;> simp
theorem Cnt.d_len (l : Cnt) : l.d.length = l.length := List.length_map _
theorem putC_twice (l : Cnt) (p c e : Int) : putC (putC l p c) p e = putC l p e := by
  unfold putC
  by_cases h : (l.any fun x => decide (x.1 = p)) = true
  · have h2 : ((l.map fun x => if x.1 = p then (x.1, c) else x).any fun x => decide (x.1 = p)) = true := by
      rw [List.any_map]
      obtain ⟨x, hx, e⟩ := List.any_eq_true.mp h
      refine List.any_eq_true.mpr ⟨x, hx, ?_⟩
      have e := of_decide_eq_true e
      simp [e]
    rw [if_pos h, if_pos h2, if_pos h, List.map_map]
    refine List.map_congr_left fun x _ => ?_
    by_cases hx : x.1 = p <;> simp [hx]
  · have h2 : ((l ++ [(p, c)]).any fun x => decide (x.1 = p)) = true := by simp
    rw [if_neg h, if_pos h2, if_neg h, List.map_append]
    congr 1
    · refine (List.map_congr_left fun x hx => ?_).trans (List.map_id' l)
      rw [if_neg fun z => h (List.any_eq_true.mpr ⟨x, hx, decide_eq_true z⟩)]
    · simp
theorem Cnt.zip (l : Cnt) : (l.d.map (·.1)).zip (l.d.map (·.2)) = l.d := by
  induction l.d with
  | nil => rfl
  | cons x r ih => simp only [List.map_cons, List.zip_cons_cons, ih]
theorem valD_some {l : Cnt} {p : Int} {d : D} (h : valD l.d (.inl p) = some d) : d = .int (getC l p) := by
  have e := getD_C l p
  rw [h] at e
  exact e
theorem valD_none {l : Cnt} {p : Int} (h : valD l.d (.inl p) = none) : getC l p = 0 := by
  have e := getD_C l p
  rw [h] at e
  injection e with e
  exact e.symm
theorem lenD {l : Cnt} (h : l.length ≤ 1000) : l.d.length < sizeLine := by rw [Cnt.d_len]; exact Nat.lt_of_le_of_lt h (by decide)
theorem ite_max (a b : Int) : (if b > a then b else a) = max a b := by split <;> omega
theorem ite_min (a b : Int) : (if b < a then b else a) = min a b := by split <;> omega
theorem addC_some {l : Cnt} {y : Int × Int} : putE l.d (.inl y.1) (.int (if getC l y.1 > y.2 then getC l y.1 else y.2)) = (addC l y).d := by rw [ite_max, putE_C]; rfl
theorem addC_none {l : Cnt} {y : Int × Int} (h : getC l y.1 = 0) : putE (putC l y.1 0).d (.inl y.1) (.int (if 0 > y.2 then 0 else y.2)) = (addC l y).d := by
  rw [ite_max, putE_C, putC_twice]; unfold addC; rw [h]
theorem dkOf_C (S : List O) (l : Cnt) : dkOf S (.dK (l.d.map (·.1)) (l.d.map (·.2))) = some l.d := congrArg some (Cnt.zip l)
theorem lenL {ns : List D} (h : ns.length ≤ 1000) : ns.length < sizeLine := Nat.lt_of_le_of_lt h (by decide)
theorem erase_map (f : Int → D) (l : List Int) (i : Nat) : (l.map f).eraseIdx i = (l.eraseIdx i).map f := by
  induction l generalizing i with
  | nil => rfl
  | cons x r ih => cases i with
    | zero => rfl
    | succ i => simp only [List.map_cons, List.eraseIdx_cons_succ, ih]
theorem erase_perm : ∀ {l : List Int} {i : Nat} (h : i < l.length), (l[i] :: l.eraseIdx i).Perm l
  | x :: r, 0, _ => List.Perm.refl _
  | x :: r, i + 1, h => by
    have ih := erase_perm (l := r) (i := i) (by simpa using h)
    show (r[i]'(by simpa using h) :: x :: r.eraseIdx i).Perm (x :: r)
    exact (List.Perm.swap _ _ _).trans (List.Perm.cons x ih)
theorem take_perm {qs rest ps : List Int} {i : Nat} (h : i < rest.length) (p : (qs ++ rest).Perm ps) : ((qs ++ [rest[i]]) ++ rest.eraseIdx i).Perm ps := by
  refine List.Perm.trans ?_ p
  rw [List.append_assoc]
  exact List.Perm.append_left _ (erase_perm h)
theorem idx_mem {ps : List Int} {p : Int} (h : p ∈ ps) : ∃ (j : Nat) (hj : j < ps.length), ps.idxOf? p = some j ∧ ps[j] = p := by
  cases e : ps.idxOf? p with
  | none =>
    have := List.findIdx?_eq_none_iff.mp e p h
    simp at this
  | some j =>
    obtain ⟨hj, e1, _⟩ := List.findIdx?_eq_some_iff_getElem.mp e
    exact ⟨j, hj, rfl, by simpa using e1⟩
theorem next_part {ps : List Int} {p : Int} (hn : ps.Nodup) (h2 : 2 ≤ ps.length) (h : p ∈ ps) : ∃ j : Nat, j < ps.length ∧ ps.idxOf? p = some j ∧ ∃ o : Int, o ∈ ps ∧ o ≠ p ∧ L2.atI (ps.map D.int) (((j : Int) + 1) % (ps.length : Int)) = some (.int o) := by
  obtain ⟨j, hj, e1, e2⟩ := idx_mem h
  have hp : (0 : Int) < ps.length := by omega
  have m0 := Int.emod_nonneg ((j : Int) + 1) (Int.ne_of_gt hp)
  have m1 := Int.emod_lt_of_pos ((j : Int) + 1) hp
  have hk : (((j : Int) + 1) % (ps.length : Int)).toNat < ps.length := by omega
  refine ⟨j, hj, e1, ps[(((j : Int) + 1) % (ps.length : Int)).toNat], List.getElem_mem hk, fun z => ?_, atI_get m0 (by rw [List.getElem?_map, List.getElem?_eq_getElem hk]; rfl)⟩
  have q := (List.getElem_inj hn).mp (z.trans e2.symm)
  have q2 : ((j : Int) + 1) % (ps.length : Int) = j := by omega
  by_cases hl : (j : Int) + 1 < ps.length
  · rw [Int.emod_eq_of_lt (by omega) hl] at q2; omega
  · have : (j : Int) + 1 = ps.length := by omega
    rw [this, Int.emod_self] at q2; omega
theorem atI_two {b x y lo hi : Int} (h0 : 0 ≤ b) (h1 : b < 2) (hx : lo ≤ x ∧ x ≤ hi) (hy : lo ≤ y ∧ y ≤ hi) : ∃ k : Int, (lo ≤ k ∧ k ≤ hi) ∧ L2.atI [D.int x, D.int y] b = some (.int k) := by
  have : b = 0 ∨ b = 1 := by omega
  rcases this with rfl | rfl
  · exact ⟨x, hx, rfl⟩
  · exact ⟨y, hy, rfl⟩
theorem eqd_pair (p c o d : Int) : D.eqd (.tup [.int p, .int c]) (.tup [.int o, .int d]) = decide (p = o ∧ c = d) := by
  rw [Bool.eq_iff_iff]; simp [D.eqd, D.eqds]
def fullC (fs : List Fc) : List Int := [1, 2, 3, 4].map (getC (sizesC fs))
theorem cutD_take {xs : List D} {k : Nat} : cutD xs none (some (k : Int)) = xs.take k := by
  unfold cutD
  rw [HT.sIx_nat]
  show (xs.drop 0).take (min k xs.length - 0) = _
  rw [List.drop_zero, Nat.sub_zero, List.take_eq_take_iff]
  omega
theorem getC_two {n : Int} {x y : Int} (hx : 0 ≤ x) (hy : 0 ≤ y) : ∃ z : Int, 0 ≤ z ∧ (valD [((Sum.inl 0 : Key), D.int x), (Sum.inl 1, D.int y)] (.inl n)).getD (.int 0) = .int z := by
  refine ⟨getC [(0, x), (1, y)] n, ?_, getD_C [(0, x), (1, y)] n⟩
  unfold getC
  simp only [List.find?_cons]
  split
  · exact hx
  · split
    · exact hy
    · exact Int.le_refl _
theorem merge01 (a b : D) : mergeD [] ([(Sum.inl 0 : Key), Sum.inl 1].zip [a, b]) = [(Sum.inl 0, a), (Sum.inl 1, b)] := by
  simp [mergeD, putE]
theorem shown_len (f : Fc) : f.shown.length ≤ 2 := by cases f <;> simp [Fc.shown]
theorem addC_len (l : Cnt) (x : Int × Int) : (addC l x).length ≤ l.length + 1 := putC_len _ _ _
theorem sizesC_snoc (fs : List Fc) (f : Fc) : sizesC (fs ++ [f]) = f.shown.foldl addC (sizesC fs) := by
  unfold sizesC
  rw [List.flatMap_append, List.foldl_append]; simp
end LC

set_option Elab.async false
set_option linter.all false
set_option maxRecDepth 100000
set_option maxHeartbeats 5000000
/-! LD20: lists that may change later are lent to a def that changes nothing. -/
namespace LC
open PySem PySem.Spec
open PyProof.Rows L2
section
variable {K : PySem.W.Frag} {φ1 φ2 : Ph} {H : Hp}
end
theorem Fc.pl {f : Fc} {n : Nat} : D.pl f.d (n + 2) := by
  cases f with
  | scrape p c sh => exact ⟨by show PyData.strOk _ = true; decide +kernel, trivial, trivial, D.pls_ints sh, trivial⟩
  | sold s y => exact ⟨by show PyData.strOk _ = true; decide +kernel, trivial, trivial, trivial⟩
  | cover p l d => exact ⟨by show PyData.strOk _ = true; decide +kernel, trivial, trivial, trivial, trivial⟩
  | _ => exact ⟨by show PyData.strOk _ = true; decide +kernel, trivial, trivial, trivial, trivial, trivial⟩
theorem nf_pl {p : Int × Fc} {n : Nat} : D.pl (nf p) (n + 3) := ⟨trivial, Fc.pl, trivial⟩
theorem nfs_pl {n : Nat} (l : List (Int × Fc)) : D.pls (l.map nf) (n + 3) := D.pls_map fun _ _ => nf_pl
section
variable {K : PySem.W.Frag}
end
end LC

set_option Elab.async false
set_option linter.all false
set_option maxRecDepth 100000
set_option maxHeartbeats 5000000
/-! LD21: the objects behind the n-th in another order. -/
namespace LC
open PySem PySem.Spec
open PyProof.Rows L2
section
variable {K : PySem.W.Frag} {φ1 φ2 : Ph} {H : Hp} {π : Nat → Nat}
end
section
variable {K : PySem.W.Frag} {φ : Ph} {H : Hp} {S : List O} {n : Nat} {is : List Nat} {π : Nat → Nat}
end
end LC

set_option Elab.async false
set_option linter.all false
set_option maxRecDepth 100000
set_option maxHeartbeats 5000000
/-! LD22: the __init__ of exceptions while another one is handled. -/
namespace LC
open PySem PySem.Spec
open PyProof.Rows L2
open L2H (FnH RoomH Hot1 HotC cxH)
section
variable {P : Program} {w : World} {K : PySem.W.Frag} {mg : Str → Option Value} {base : Heap}
end
section
variable {X : Cx} {k : Nat} {f C : Addr} {fd : FuncData} {ps : List Str} {sp : Sp} {x m : Str} {p1 p2 pos : Pos} {e : Expr} {es : List Expr} {t : TA} {mc : Value}
end
section
variable {P : Program} {w : World} {K : PySem.W.Frag} {mg : Str → Option Value} {base : Heap} {q : Str} {st : Stmt} {f : Addr} {fd : FuncData} {p1 p2 p3 p4 p5 p6 p7 p8 p9 p10 p11 p12 p13 : Pos}
end
section
variable {P : Program} {w : World} {K : PySem.W.Frag} {mg : Str → Option Value} {base : Heap} {q wd m n : Str} {st : Stmt} {f fB C B : Addr} {mc : Value} {fd fdB : FuncData} {j : Nat} {p1 p2 p3 p4 p5 p6 p7 p8 p9 p10 p11 p12 p13 p14 : Pos}
end
/-! ### dicts of the top -/
end LC

set_option Elab.async false
set_option linter.all false
set_option maxRecDepth 100000
set_option maxHeartbeats 5000000
/-! LD23: x = T[e], T a dict of the top; where e is none of its keys, another exception is raised. -/
namespace LC
open PySem PySem.Spec
open PyProof.Rows L2
open L2H (FnH RoomH HotC suiteX)
section
variable {X : Cx} {B : Bs}
end
end LC

set_option Elab.async false
set_option linter.all false
set_option maxRecDepth 100000
set_option maxHeartbeats 5000000
/-! LD24: T[e] of a dict of the top; a local name that holds a def. -/
namespace LC
open PySem PySem.Spec
open PyProof.Rows L2
section
variable {X : Cx} {B : Bs}
end
section
variable {X : Cx} {B : Bs} {k i : Nat} {L : List (Addr × SpD)} {W : WX} {W' : WD} {x : Str} {p pos : Pos} {e : Expr} {es : List Expr} {q : QA}
end
end LC

set_option Elab.async false
set_option linter.all false
set_option maxRecDepth 100000
set_option maxHeartbeats 5000000
/-! LD25: calls with keywords that stand in the parameters' order and fill all of them. -/
namespace LC
open PySem PySem.Spec
open PyProof.Rows L2
section
variable {K : PySem.W.Frag} {x qual : Str} {params : Arguments} {body : List Stmt} {scope : Scope} {dvs : List V} {f : Addr} {fd : FuncData} {ps ks : List Str} {n : Nat}
end
section
variable {X : Cx} {B : Bs} {k n : Nat} {f : Addr} {fd : FuncData} {ps ks : List Str} {sp : SpD} {W : WX} {W' : WD} {x : Str} {p pos kpos : Pos} {e : Expr} {es : List Expr} {kws : List Keyword} {qe : QE} {q qk : QA} {nm : Option Str}
end
theorem any4 (p : Int) : ([D.int 1, D.int 2, D.int 3, D.int 4].any fun y => y.feq (.int p)) = decide (1 ≤ p ∧ p ≤ 4) := by
  rw [Bool.eq_iff_iff]
  simp only [List.any_cons, List.any_nil, Bool.or_false, Bool.or_eq_true, decide_eq_true_eq]
  have h : ∀ a : Int, (D.int a).feq (.int p) = true ↔ a = p := fun a => by
    show (a == p) = true ↔ _
    exact beq_iff_eq
  rw [h, h, h, h]
  omega
end LC

set_option Elab.async false
set_option linter.all false
set_option maxRecDepth 100000
set_option maxHeartbeats 5000000
/-! LD26: what looking at a finding comes to. -/
namespace LC
open PySem PySem.Spec
open PyProof.Rows L2
end LC

set_option Elab.async false
set_option linter.all false
set_option maxRecDepth 100000
set_option maxHeartbeats 5000000
/-! LD27: a < b < c of whole numbers where c is a written number: no cases. Checks: a list of (good, name). -/
namespace LC
open PySem PySem.Spec
open PyProof.Rows L2
section
variable {X : Cx} {B : Bs} {a b c : Expr} {qa qb : QE} {pos : Pos}
def qChainC (f g : Int → Int → Bool) (k : Int) (qa qb : QE) : QE := fun s S Q => qa s S fun x S1 => qb s S1 fun y S2 => match x, y with
  | .int i, .int j => Q (.bl (f i j && g j k)) S2
  | _, _ => False
theorem up_chainC {f g : Int → Int → Bool} {k : Int} {σ : L2.St} {H : Hp} {Q : VK} (h : UP X.K B (rD X.K) (qChainC f g k qa qb) σ H Q) :
    tChain (upR X.K B (oIB f)) (upR X.K B (oIB g)) (UP X.K B (rD X.K) qa) (UP X.K B (rD X.K) qb) (UP X.K B (rD X.K) (qC (.int k))) σ H Q := by
  obtain ⟨φ, s, S, Q', hr, ev, q, kk⟩ := h
  refine ⟨φ, s, S, _, hr, ev, q, fun φ1 d S1 v H1 e1 hr1 r1 q1 => ?_⟩
  refine ⟨φ1, s, S1, _, hr1, ev.mono e1, q1, fun φ2 d2 S2 v2 H2 e2 hr2 r2 q2 => ?_⟩
  split at q2
  · rename_i i j
    refine ⟨φ2, S2, _, _, fun z S3 => z = .bl (f i j) ∧ S3 = S2, hr2, r1.mono e2, r2, ⟨rfl, rfl⟩, fun φ3 d3 S3 v3 H3 e3 hr3 r3 ⟨z1, z2⟩ => ?_⟩
    subst z1 z2
    refine ⟨f i j, r3, ?_⟩
    cases hf : f i j with
    | false =>
      rw [hf] at q2
      exact kk _ (.bl false) _ _ _ (e1.trans (e2.trans e3)) hr3 rfl q2
    | true =>
      rw [if_pos rfl]
      rw [hf] at q2
      refine ⟨φ3, s, _, fun z S4 => z = .int k ∧ S4 = _, hr3, ev.mono (e1.trans (e2.trans e3)), ⟨rfl, rfl⟩, fun φ4 d4 S4 v4 H4 e4 hr4 r4 ⟨y1, y2⟩ => ?_⟩
      subst y1 y2
      exact ⟨φ4, _, _, _, Q', hr4, r2.mono (e3.trans e4), r4, q2, kk.ext (e1.trans (e2.trans (e3.trans e4)))⟩
  · exact q2.elim
theorem lt_chainC {f g : Int → Int → Bool} {k : Int} {j pk} {op op' : CmpOp} (ho : OpR X (compareOp op) (upR X.K B (oIB f))) (ho' : OpR X (compareOp op') (upR X.K B (oIB g))) (ha : LE X B a qa) (hb : LE X B b qb)
    (hm : lastMarks [op, op'] [b, .Constant (.int k) j pk] = false := by with_unfolding_all rfl) : LT X B (.Compare a [op, op'] [b, .Constant (.int k) j pk] pos) (qTest (qChainC f g k qa qb)) := PT.imp (pt_chain ho ho' ha hb le_int hm) fun _ _ _ => up_test fun _ _ _ => up_chainC
end
end LC

set_option Elab.async false
set_option linter.all false
set_option maxRecDepth 100000
set_option maxHeartbeats 5000000
/-! LD28: the law's checks of a finding. -/
namespace LC
open PySem PySem.Spec
open PyProof.Rows L2
theorem ltN {n : Nat} (h : n ≤ 1000) : n < sizeLine := Nat.lt_of_le_of_lt h (by decide)
theorem leN {n : Nat} (h : n ≤ 1000) : n ≤ sizeLine := Nat.le_trans h (by decide)
end LC

set_option Elab.async false
set_option linter.all false
set_option maxRecDepth 100000
set_option maxHeartbeats 5000000
/-! LD29: tuple * int, one and more. -/
namespace LC
open PySem PySem.Spec
open PyProof.Rows L2
theorem tuple_mul1 (l : Addr) (items : Array Value) (n : Nat) (dd : Option Addr) (sl : Array (Option Value)) (u : Tok) :
    Meets (Builtin.«tuple.__mul__» ⟨[.ref l, .int 1 u], []⟩) (fun _ R s => s.heap.get? l = some { cls := .type "tuple", dict := dd, data := .seq items n, slots := sl } ∧ R (.ok (.ret (Value.ref l))) s) :=
  .of_wp fun prog w A R s h => by
    obtain ⟨hp, g, d, tk, os⟩ := s
    obtain ⟨hl, h⟩ := h
    have f1 := AutoSeq1.idx_int
    have c1 : (items.isEmpty || (1 : Int) == 1) = true := by simp
    wp_walk using wpAny_loadPart' hl
    repeat (first
      | (refine wpAny_ite_false (decide_eq_false (by decide)) ?_; wp_walk using wpAny_loadPart' hl)
      | (refine wpAny_ite_true (decide_eq_true c1) ?_; wp_walk using wpAny_loadPart' hl))
    exact ⟨_, rfl, h⟩
def rRep1 (K : PySem.W.Frag) : R2 := fun x y H Q => ∃ l xs, x = .ref l ∧ y = .int 1 ∧ SqT K H l xs ∧ Q (.ref l) H
section
variable {X : Cx} {B : Bs}
theorem op_rep1 : OpR X (binaryOp .Mult) (rRep1 X.K) := by
  intro pins s σ H x y v u Q I rx ry h
  obtain ⟨l, xs, rfl, rfl, hT, q⟩ := h
  cases rx
  obtain ⟨t, rfl⟩ := ry
  obtain ⟨its, r, ⟨⟨cls, dd, data, sl⟩, ho, hc, n, hd⟩, hs⟩ := I.tuple hT
  simp only at hc hd
  subst hc hd
  refine wpAny_binaryOp_repeat_ref (T := "tuple") (U := "int") (by decide) ⟨_, ho, rfl⟩ (fun s' => typeIs_int s' 1 t) noFill_tuple_mul F.fills_int_mul F.slot_int_rmul repeat_tuple F.slot_int_index.lookup
    (call_meets F.slot_int_rmul (typeIs_int s 1 t) F.entry_int_rmul (F.args_int_rmul_2 _ _) (int_rmul_tuple 1 t l its.toArray n dd sl)
      ⟨ho, rfl, ⟨_, ho, rfl⟩, call_meets F.slot_tuple_mul ⟨_, ho, rfl⟩ F.entry_tuple_mul (F.args_tuple_mul_2 _ _) (tuple_mul1 l its.toArray n dd sl t) ⟨ho, ?_⟩⟩)
  exact ⟨.ref l, _, I, rfl, q⟩
/-- * of ints, of a list and an int, of a tuple and an int -/
def oMulX : QO := fun d e S Q => match d, e with
  | .tup xs, .int j => Need (xs ≠ [] ∧ 1 ≤ j ∧ j ≤ 1000 ∧ xs.length ≤ 1000) (Q (.tup (List.replicate j.toNat xs).flatten) S)
  | d, e => oMul d e S Q
theorem oo_mulX : OpR X (binaryOp .Mult) (upR X.K B oMulX) := OpR.imp ((op_mul.or op_rep).or (op_rep1.or op_repT)) fun x y H Q ⟨φ, S, d, e, Q', hr, r1, r2, q, k⟩ => by
  unfold oMulX at q
  split at q
  · rename_i xs j
    obtain ⟨p, vs, rfl, h1, h2⟩ := id r1
    cases r2
    obtain ⟨⟨hne, h3, h4, h5⟩, q⟩ := q
    by_cases hj : j = 1
    · subst hj
      refine .inr (.inl ⟨p, vs, rfl, rfl, h1, ?_⟩)
      have e : (List.replicate (1 : Int).toNat xs).flatten = xs := by simp
      rw [e] at q
      exact k.here hr r1 q
    · refine .inr (.inr ⟨p, j, vs, rfl, rfl, h1, ?_, by omega, h4, by rw [h2.len]; exact h5, fun p' hp => k.tup hr hp (h2.rep _) q⟩)
      intro z
      have := h2.len
      rw [z] at this
      exact hne (List.length_eq_zero_iff.mp this.symm)
  · unfold oMul at q
    split at q
    · cases r1; cases r2
      exact .inl (.inl ⟨_, _, rfl, rfl, q.c, k.here (d := D.int _) hr rfl q.q⟩)
    · cases r2
      split at q
      · rename_i xs e1
        obtain ⟨a, vs, rfl, h5, h6⟩ := hr.ls e1 r1
        exact .inl (.inr ⟨a, _, vs, rfl, rfl, h5, by have := q.c.1; omega, q.c.2.1, by rw [h6.len]; exact q.c.2.2, fun p hp => k.lst hr hp (h6.rep _) q.q⟩)
      · exact q.elim
    · exact q.elim
end
end LC

set_option Elab.async false
set_option linter.all false
set_option maxRecDepth 100000
set_option maxHeartbeats 5000000
/-! LD30: zip(a, b, strict=True), a and b lists or tuples. -/
namespace LC
open PySem PySem.Spec
open PyProof.Rows L2
section
variable {prog : Program} {w : World} {A : Around} {E : Value → Shared → Prop} {s : Shared}
end
/-! ### the iterators, of a list or a tuple -/
section
variable {prog : Program} {w : World} {A : Around} {E : Value → Shared → Prop} {s : Shared}
end
end LC

set_option Elab.async false
set_option linter.all false
set_option maxRecDepth 100000
set_option maxHeartbeats 5000000
/-! LD31: zip(a, b, strict=True): the end, the walk. -/
namespace LC
open PySem PySem.Spec
open PyProof.Rows L2
section
variable {prog : Program} {w : World} {A : Around} {E : Value → Shared → Prop} {s : Shared}
end
section
variable {prog : Program} {w : World} {A : Around} {E : Value → Shared → Prop} {s : Shared}
end
end LC

set_option Elab.async false
set_option linter.all false
set_option maxRecDepth 100000
set_option maxHeartbeats 5000000
/-! LD32: for a, b in zip(xs, ys, strict=True): the rule. -/
namespace LC
open PySem PySem.Spec
open PyProof.Rows L2
end LC

set_option Elab.async false
set_option linter.all false
set_option maxRecDepth 100000
set_option maxHeartbeats 5000000
/-! LD33: for a, b in zip(xs, ys, strict=True), over data. -/
namespace LC
open PySem PySem.Spec
open PyProof.Rows L2
section
variable {X : Cx} {B : Bs}
end
end LC

set_option Elab.async false
set_option linter.all false
set_option maxRecDepth 100000
set_option maxHeartbeats 5000000
/-! LD34: raise X(..) from e, e the exception that is handled. -/
namespace LC
open PySem PySem.Spec
open PyProof.Rows L2 L2H HotX
end LC

set_option Elab.async false
set_option linter.all false
set_option maxRecDepth 100000
set_option maxHeartbeats 5000000
/-! LD35: isinstance(x, (A, B)); a try whose body raises nothing; tuples in dicts of the top. -/
namespace LC
open PySem PySem.Spec
open PyProof.Rows L2
section
variable {X : Cx} {B : Bs}
end
end LC

set_option Elab.async false
set_option linter.all false
set_option maxRecDepth 100000
set_option maxHeartbeats 5000000
/-! LD36: numbers and findings as words. -/
namespace LC
open PySem PySem.Spec
open PyProof.Rows L2
open TL (tl numL)
theorem atI0 {α : Type} {d : α} {r : List α} : L2.atI (d :: r) 0 = some d := atI_get (by decide) rfl
end LC

set_option Elab.async false
set_option linter.all false
set_option maxRecDepth 100000
set_option maxHeartbeats 5000000
/-! LD37: f-strings of texts and whole numbers. -/
namespace LC
open PySem PySem.Spec
open PyProof.Rows L2
section
variable {X : Cx} {B : Bs}
end
end LC

set_option Elab.async false
set_option linter.all false
set_option maxRecDepth 100000
set_option maxHeartbeats 5000000
/-! LD38: deeds as words. -/
namespace LC
open PySem PySem.Spec
open PyProof.Rows L2
open TL (tl numL)
end LC

set_option Elab.async false
set_option linter.all false
set_option maxRecDepth 100000
set_option maxHeartbeats 5000000
/-! LD39: try .. except X as n: the suite raises. -/
namespace LC
open PySem PySem.Spec
open PyProof.Rows L2 L2H HotX
section
variable {X : Cx} {pins : List (Addr × Obj)} {σ : L2.St} {H : Hp} {s : Shared}
end
section
variable {X : Cx} {x n : Str} {c : Value} {i : Nat} {body suite : List Stmt} {b₀ : Stmt} {np pos pos' : Pos} {tb : WX → TS} {ts : Addr → Value → Option Addr → TS} {Wout : WX}
end
end LC

set_option Elab.async false
set_option linter.all false
set_option maxRecDepth 100000
set_option maxHeartbeats 5000000
/-! LD40: x = T[e] / except KeyError as n: raise C() from n. -/
namespace L2H
open PySem PySem.Spec PyProof.Rows L2 HotX
end L2H
namespace LC
open PySem PySem.Spec
open PyProof.Rows L2
open L2H (FnH RoomH HotC suiteX Hot1)
section
variable {X : Cx} {B : Bs}
end
end LC

set_option Elab.async false
set_option linter.all false
set_option maxRecDepth 100000
set_option maxHeartbeats 5000000
/-! LD41: a def that is handed some of the caller's objects, and may change them, and make new ones. -/
namespace LC
open PySem PySem.Spec
open PyProof.Rows L2
section
variable {K : PySem.W.Frag} {φ1 φ2 : Ph} {H : Hp} {π : Nat → Nat} {n : Nat}
end
section
variable {K : PySem.W.Frag} {ks : List Nat} {S S0 S1 : List O} {ds ds0 : List D} {φ φ' : Ph} {H H' : Hp}
end
end LC

set_option Elab.async false
set_option linter.all false
set_option maxRecDepth 100000
set_option maxHeartbeats 5000000
/-! LD42: defs over the whole state, nothing dropped; a book and its lists. -/
namespace LC
open PySem PySem.Spec
open PyProof.Rows L2
section
variable {P : Program} {w : World} {K : PySem.W.Frag} {mg : Str → Option Value} {base : Heap}
end
section
variable {P : Program} {w : World} {K : PySem.W.Frag} {mg : Str → Option Value} {base : Heap}
end
/-! ### a new one: its __init__ over the whole state -/
section
variable {X : Cx} {B : Bs} {k : Nat} {f C : Addr} {fd : FuncData} {ps : List Str} {sp : SpD} {dds : List D} {dvs : List V} {ds : List Value} {W : WX} {W' : WD} {x m : Str} {p pos apos : Pos} {e o : Expr} {es : List Expr} {q : QA}
end
end LC

set_option Elab.async false
set_option linter.all false
set_option maxRecDepth 100000
set_option maxHeartbeats 5000000
/-! LD43: enumerate(xs, start=k), xs a list or a tuple. -/
namespace LC
open PySem PySem.Spec
open PyProof.Rows L2
section
variable {prog : Program} {w : World} {A : Around} {E : Value → Shared → Prop} {s : Shared}
end
/-! over data -/
def enumD (k : Int) (xs : List D) : List D := xs.mapIdx fun i x => .tup [.int (k + (i : Nat)), x]
theorem enumD_len {k : Int} {xs : List D} : (enumD k xs).length = xs.length := by unfold enumD; simp
theorem enumD_get {k : Int} {xs : List D} {i : Nat} {d : D} (h : (enumD k xs)[i]? = some d) : ∃ x, xs[i]? = some x ∧ d = .tup [.int (k + (i : Nat)), x] := by
  unfold enumD at h
  rw [List.getElem?_mapIdx] at h
  cases hz : xs[i]? with
  | none => rw [hz] at h; cases h
  | some x => rw [hz] at h; cases h; exact ⟨x, rfl, rfl⟩
end LC

set_option Elab.async false
set_option linter.all false
set_option maxRecDepth 100000
set_option maxHeartbeats 5000000
/-! LD44: methods with keywords; len, str, repr, ==, bool, isinstance of numbered instances. -/
namespace LC
open PySem PySem.Spec
open PyProof.Rows L2
section
variable {prog : Program} {w : World} {A : Around} {E : Value → Shared → Prop} {s : Shared} {K : PySem.W.Frag} {x C L f : Addr} {h₀ : Heap} {m : Str → Option Value} {ox : Obj} {od : Option Obj}
end
/-! ### readings -/
section
variable {X : Cx} {B : Bs} {k : Nat} {f C : Addr} {fd : FuncData} {ps : List Str} {sp : Sp} {spd : SpD}
/-! ### methods with keywords -/
variable {dds : List D} {dvs : List V} {W : WX} {W' : WD} {x m : Str} {p pos apos : Pos} {e o : Expr} {es : List Expr} {kws : List Keyword} {q qk : QA} {qo : QE} {ks : List Str} {n : Nat}
end
end LC

set_option Elab.async false
set_option linter.all false
set_option maxRecDepth 100000
set_option maxHeartbeats 5000000
/-! LD45: d[k]; books by their rows and deeds. -/
namespace LC
open PySem PySem.Spec
open PyProof.Rows L2
section
variable {X : Cx} {B : Bs} {o e : Expr} {qo qe : QE} {pos : Pos}
/-- d[k], the key is there -/
def qDGet (qo qe : QE) : QE := fun s S Q => qo s S fun d S1 => qe s S1 fun y S2 => Opt (keyD y) fun k => Opt (dkOf S2 d) fun l => Opt (valD l k) fun v => Q v S2
theorem le_dget (hu : X.A.units + 1 < cLine) (ho : LE X B o qo) (he : LE X B e qe) (hs : NoSl e := by intro _ _; rfl) : LE X B (.Subscript o e pos) (qDGet qo qe) := PE.imp (pe_dget hu ho he hs) fun σ H Q ⟨φ, s, S, Q', hr, ev, q, k⟩ =>
  ⟨φ, s, S, _, hr, ev, q, fun φ1 d S1 v H1 e1 hr1 r1 q1 => ⟨φ1, s, S1, _, hr1, ev.mono e1, q1, fun φ2 y S2 w H2 e2 hr2 r2 q2 => by
    obtain ⟨kk, h4, q4⟩ := q2.get
    obtain ⟨l, h5, q5⟩ := q4.get
    obtain ⟨d0, h6, q6⟩ := q5.get
    obtain ⟨a, g, rfl, h7, h8⟩ := hr2.dk h5 (r1.mono e2)
    have hv := RKV.val kk h8
    rw [h6] at hv
    obtain ⟨v0, h9, h10⟩ := hv
    exact ⟨a, v0, rfl, .inl ⟨g, kk, .inl h7, keyD_ok h4 r2, h9.symm⟩, (k.ext (e1.trans e2)).here hr2 h10 q6⟩⟩⟩
end
abbrev cts (C : Addr) (ns : List Int) : D := .ins C ["seen"] [.tup (ns.map D.int)]
end LC

set_option Elab.async false
set_option linter.all false
set_option maxRecDepth 100000
set_option maxHeartbeats 5000000
/-! LD46: the law's own keeping of a book. -/
namespace LC
open PySem PySem.Spec
open PyProof.Rows L2
theorem ixN_is {n : Int} {l : Nat} (h1 : 0 ≤ n) (h2 : n < l) : ixN l n = some n.toNat := by
  unfold ixN
  rw [if_pos h1, if_pos h2]
end LC

set_option Elab.async false
set_option linter.all false
set_option maxRecDepth 100000
set_option maxHeartbeats 5000000
/-! LD47: two books beside the drawing. -/
namespace LC
open PySem PySem.Spec
open PyProof.Rows L2
end LC

set_option Elab.async false
set_option linter.all false
set_option maxRecDepth 100000
set_option maxHeartbeats 5000000
/-! LD48: defs with lambdas; methods that hand back new lists; methods whose own new objects are by value in the end. -/
namespace LC
open PySem PySem.Spec
open PyProof.Rows L2
/-! ### a promise over the tables T0 -/
section
variable {P : Program} {w : World} {K : PySem.W.Frag} {mg : Str → Option Value} {base : Heap} {T0 : List (Addr × Str)}
end
section
variable {X : Cx} {B : Bs} {k : Nat} {f : Addr} {fd : FuncData} {x : Str} {ps : List Str} {sp : SpD} {W : WX} {W' : WD} {e : Expr} {es : List Expr} {p pos : Pos} {q : QA} {T0 : List (Addr × Str)}
end
/-! ### methods that hand back a new list -/
section
variable {P : Program} {w : World} {K : PySem.W.Frag} {mg : Str → Option Value} {base : Heap}
end
section
variable {X : Cx} {B : Bs}
end
end LC

set_option Elab.async false
set_option linter.all false
set_option maxRecDepth 100000
set_option maxHeartbeats 5000000
/-! LD49: one book beside the drawing. -/
namespace LC
open PySem PySem.Spec
open PyProof.Rows L2
end LC

set_option Elab.async false
set_option linter.all false
set_option maxRecDepth 100000
set_option maxHeartbeats 5000000
/-! LD50: the head by one kernel run: its facts as this layer wants them. -/
namespace LC
open PySem PySem.Spec
open PyProof.Rows L2
section
variable {K : PySem.W.Frag} {w : World} {x qual : Str} {st : Stmt} {f : Addr} {fd : FuncData}
theorem funD_fun (F : L2.FunD K x qual (defArgs st) (defBody st) (defScope st) [] [] f fd) : Fun K x qual st f fd := by
  obtain ⟨oc, od, dV, kV, doc, pm, an, cdv, ct, osl, e, lk, hc, hD, _⟩ := F.ex
  rcases hD with ⟨_, rfl⟩ | ⟨h, _⟩
  · exact ⟨⟨oc, od, kV, doc, pm, an, cdv, ct, osl, e, lk, hc⟩, F.kp⟩
  · exact absurd rfl h
theorem funD_code {p : He.Defn} (F : L2.FunD K x qual (defArgs st) (defBody st) (defScope st) [] [] (He.fAd K p) fd) : FunC K x qual st (He.fAd K p) fd (He.codeOf K p) := by
  obtain ⟨oc, od, dV, kV, doc, pm, an, cdv, ct, osl, e, lk, hc, hD, _⟩ := F.ex
  obtain ⟨c, rfl⟩ := He.codeIn_ref hc
  have ec : He.codeOf K p = c := He.codeOf_eq lk (by rw [e])
  rcases hD with ⟨_, rfl⟩ | ⟨h, _⟩
  · rw [ec]
    exact ⟨oc, od, kV, doc, pm, an, ct, osl, e, lk, hc⟩
  · exact absurd rfl h
/-- the object of an own exception class -/
def excOB (K : PySem.W.Frag) (C : Addr) : Bool := match K.lookup C with
  | some ⟨.type "type", _, .cls cd, sl⟩ => (match cd.mro, sl.toList with
    | .ref C' :: bm, [_, _, _, _, some (.builtin n), _] => C' == C && n == "ValueError.__new__" && !cd.hasDel && PySem.HandSPX.refsVE bm && cd.hasDict
    | _, _ => false)
  | _ => false
theorem excOB_ok {C : Addr} (q : excOB K C = true) : ∃ nm q N bs bm sn sub ab col dd k0 k1 k2 k3 k5, K.lookup C = some (excClassObj nm q C N bs bm true sn sub ab col dd k0 k1 k2 k3 k5 "ValueError.__new__") ∧ PySem.HandSPX.refsVE bm = true := by
  unfold excOB at q
  split at q
  · rename_i dd cd sl ho
    split at q
    · rename_i C' bm k0 k1 k2 k3 n k5 hm hs
      simp only [Bool.and_eq_true, beq_iff_eq, Bool.not_eq_true'] at q
      obtain ⟨⟨⟨⟨rfl, rfl⟩, hdel⟩, hr⟩, hd'⟩ := q
      obtain ⟨nm, bs, mro, ns, qn, hd, sn, sub, ab, col, del⟩ := cd
      dsimp only at hm hdel hd'
      subst hm hdel hd'
      have hsl : sl = #[k0, k1, k2, k3, some (.builtin "ValueError.__new__"), k5] := by
        obtain ⟨l⟩ := sl
        simp only at hs
        rw [hs]
      subst hsl
      exact ⟨nm, qn, ns, bs, bm, sn, sub, ab, col, dd, k0, k1, k2, k3, k5, ho, hr⟩
    · cases q
  · cases q
/-- all that an own exception class's OexC asks -/
def oexB (K : PySem.W.Frag) (C : Addr) : Bool := excOB K C && (decide (PySem.W.findIn K (.ref C) "__setattr__" = some (some (.builtin "object.__setattr__"))) && (decide (PySem.W.subIn K (.ref C) (.type "BaseException") = some true) && (decide (PySem.W.typeIn K (.ref C) = some (.type "type")) && PySem.W.keepIn K (.ref C))))
theorem oexB_ok {C : Addr} (h : oexB K C = true) : OexC K C := by
  obtain ⟨h1, h⟩ := He.ba h
  obtain ⟨h2, h⟩ := He.ba h
  obtain ⟨h3, h⟩ := He.ba h
  obtain ⟨h4, h5⟩ := He.ba h
  exact ⟨excOB_ok h1, of_decide_eq_true h2, of_decide_eq_true h3, of_decide_eq_true h4, h5⟩
def isoB (K : PySem.W.Frag) (C : Addr) : Bool := (PySem.W.plainGet K C Str.empty && (PySem.W.hasDictIn K C && (PySem.W.plainOver K C && decide (PySem.W.findIn K (.ref C) "__setattr__" = some (some (.builtin "object.__setattr__")))))) &&
  (decide (PySem.W.findIn K (.ref C) "__class__" = some (some (.builtin "object.__class__"))) && (decide (PySem.W.specialIn K (.builtin "object.__class__") "__get__" = some (some (.builtin "getset_descriptor.__get__"))) && (decide (PySem.W.takesIn K (.builtin "object.__class__") = some true) && (decide (PySem.W.mroIn K C (.type "object") = some true) && decide (PySem.W.typeIn K (.ref C) = some (.type "type"))))))
theorem isoB_ok {C : Addr} (h : isoB K C = true) : IsO K C := by
  obtain ⟨h0, h⟩ := He.ba h
  obtain ⟨a1, h0⟩ := He.ba h0
  obtain ⟨a2, h0⟩ := He.ba h0
  obtain ⟨a3, a4⟩ := He.ba h0
  obtain ⟨h1, h⟩ := He.ba h
  obtain ⟨h2, h⟩ := He.ba h
  obtain ⟨h3, h⟩ := He.ba h
  obtain ⟨h4, h5⟩ := He.ba h
  exact ⟨⟨⟨a1, a2, a3, of_decide_eq_true a4⟩, of_decide_eq_true h1, of_decide_eq_true h2, of_decide_eq_true h3, of_decide_eq_true h4⟩, of_decide_eq_true h5⟩
/-! ### what the top's names hold -/
def flatV : D → Option V
  | .non => some .non
  | .bl b => some (.bl b)
  | .int i => some (.int i)
  | .str x => some (.str x)
  | .adr a => some (.ref a)
  | _ => none
theorem flatV_ok {d : D} {v : V} (h : flatV d = some v) : ∀ φ H, RV K φ H d v := fun φ H => by
  cases d with
  | non => cases h; rfl
  | bl b => cases h; rfl
  | int i => cases h; rfl
  | str x => cases h; rfl
  | adr a => cases h; rfl
  | _ => cases h
def oneB (d : D) (u : Value) : Bool := match flatV d with
  | some v => He.relB v u
  | none => false
theorem oneB_ok {d : D} {u : Value} (h : oneB d u = true) : ∃ v, RelV v u ∧ ∀ φ H, RV K φ H d v := by
  unfold oneB at h
  cases e : flatV d with
  | none => rw [e] at h; cases h
  | some v => rw [e] at h; exact ⟨v, He.relB_ok h, flatV_ok e⟩
def allB : List D → List Value → Bool
  | [], [] => true
  | d :: ds, u :: us => oneB d u && allB ds us
  | _, _ => false
theorem allB_ok : ∀ {ds : List D} {us : List Value}, allB ds us = true → ∃ vs, Vals vs us ∧ RVc K ds vs
  | [], [], _ => ⟨[], .nil, fun _ _ => rfl⟩
  | [], _ :: _, h => by cases h
  | _ :: _, [], h => by cases h
  | d :: ds, u :: us, h => by
    obtain ⟨h1, h2⟩ := He.ba (show (oneB d u && allB ds us) = true from h)
    obtain ⟨v, r1, r2⟩ := oneB_ok (K := K) h1
    obtain ⟨vs, r3, r4⟩ := allB_ok h2
    exact ⟨v :: vs, .cons r1 r3, fun φ H => ⟨v, vs, rfl, r2 φ H, r4 φ H⟩⟩
def tupAB (K : PySem.W.Frag) (p : Addr) (ds : List D) : Bool := match K.lookup p with
  | some ⟨.type c, none, .seq its _, _⟩ => decide (c = "tuple") && (decide (its.size ≤ sizeLine) && allB ds its.toList)
  | _ => false
theorem tupAB_ok {p : Addr} {ds : List D} (h : tupAB K p ds = true) : ∃ its n sl vs, K.lookup p = some ⟨.type "tuple", none, .seq its n, sl⟩ ∧ its.size ≤ sizeLine ∧ Vals vs its.toList ∧ RVc K ds vs := by
  unfold tupAB at h
  split at h
  · rename_i c its n sl hk
    obtain ⟨h1, h2⟩ := He.ba h
    obtain ⟨h3, h4⟩ := He.ba h2
    obtain ⟨vs, r1, r2⟩ := allB_ok (K := K) h4
    rw [of_decide_eq_true h1] at hk
    exact ⟨its, n, sl, vs, hk, of_decide_eq_true h3, r1, r2⟩
  · cases h
theorem glo_tup {mg : Str → Option Value} {x : Str} {ds : List D} (hm : mg x = some (.ref (He.ga K x))) (h : tupAB K (He.ga K x) ds = true) : GlD K mg x (.kt ds) := by
  obtain ⟨its, n, sl, vs, h1, h2, h3, h4⟩ := tupAB_ok h
  exact GlD.tup hm h1 h2 h3 h4
/-- a fact of the list -/
theorem fact_at {l : List (PySem.W.Frag → Bool)} (h : (l.all fun f => f K) = true) (i : Nat) {f : PySem.W.Frag → Bool} (e : l[i]? = some f) : f K = true := List.all_eq_true.mp h f (List.mem_of_getElem? e)
/-- a class's own attribute by findCls -/
def valC (K : PySem.W.Frag) (c mc : Value) (m : Str) (v : Value) : Bool := match PySem.W.findCls K c mc m with
  | some (.val u) => decide (u = v)
  | _ => false
theorem valC_ok {c mc v : Value} {m : Str} (h : valC K c mc m v = true) : PySem.W.findCls K c mc m = some (.val v) := by
  unfold valC at h
  split at h
  · rename_i u e
    rw [e, of_decide_eq_true h]
  · cases h
end
/-! ### the Hook: what is looked at are the objects as -/
section
variable (as : List Addr) (fn : List He.DefD) (ts : List He.Tab) (tf : List He.Defn) (ex : PySem.W.Frag → Bool)
def obsAt (K : PySem.W.Frag) (g : Addr → Option Obj) : He.AlX := (He.obsT [] fn ts K, ex K && He.tabsB g tf K)
def obsZ (g : Addr → Option Obj) : He.AlX := obsAt fn ts tf ex (He.frT g as) g
theorem saysZ_of {w : World} {h : Heap} (e : obsAt fn ts tf ex (He.frT h.get? as) h.get? = He.valX fn ts w) : He.SaysX [] fn ts tf ex w h (He.frT h.get? as) := by
  obtain ⟨e1, e2⟩ := Prod.mk.inj (show (He.obsT [] fn ts (He.frT h.get? as), ex (He.frT h.get? as) && He.tabsB h.get? tf (He.frT h.get? as)) = (He.valT fn ts w, true) from e)
  obtain ⟨h1, h2⟩ := He.ba e2
  have key : ∀ p ∈ tf, PySem.W.codeHdIn (He.frT h.get? as) (He.cT (He.frT h.get? as) p).1 (He.cT (He.frT h.get? as) p).2 = true ∧ ∃ o, h.get? (He.cT (He.frT h.get? as) p).2 = some o ∧ He.emptyTab o = true := fun p hp => by
    obtain ⟨h3, h4⟩ := He.ba (List.all_eq_true.mp h2 p hp)
    refine ⟨h3, ?_⟩
    split at h4
    · rename_i o q; exact ⟨o, q, h4⟩
    · cases h4
  refine ⟨e1, h1, fun p hp => (key p hp).1, fun p hp => ?_, fun p hp => ?_⟩
  · obtain ⟨_, o, q, z⟩ := key p hp
    exact He.frT_none q z
  · obtain ⟨_, o, q, z⟩ := key p hp
    rw [q, He.emptyTab_eq z]
def hookZ : PySem.W.Hook where
  α := He.AlX
  obs := fun s => obsZ as fn ts tf ex s.heap.get?
  val := fun w => He.valX fn ts w
  says := fun w h => ∃ K : PySem.W.Frag, K.In h ∧ He.SaysX [] fn ts tf ex w h K
  of := fun _ _ e => ⟨_, He.frT_in, saysZ_of as fn ts tf ex e⟩
  keeps := fun _ _ _ ⟨K, hK, c⟩ k => ⟨K, PySem.W.Frag.In.keeps hK k, ⟨c.t, c.more, c.hd, c.out, fun p hp => k _ _ (c.empty p hp)⟩⟩
theorem obsZ_eq {g : Addr → Option Obj} {s : Shared} (h : ∀ a, g a = s.heap.get? a) : obsZ as fn ts tf ex g = (hookZ as fn ts tf ex).obs s := by
  have e : g = s.heap.get? := funext h
  rw [e] <;> rfl
end
/-- the run's equation in two parts -/
def RunA (r : PySem.W.OpenRow) (q : Program) (M : Nat) (loose : List PySem.Str) (w : World) : Prop :=
  ∀ os : OsState, (HandSHeadRun.endF (HandSHeadRun.stepQ (HandSHeadRun.denQ HandSHeadRun.tabQ) r.prog w) M r.prog w os).map (fun s => (HandSHeadRun.looksF r.prog (PySem.W.boot_heap w.params) s.abs, HandSHeadRun.seenQ q loose (importedModules r.prog.main.body) (fun s => PySem.W.xlAt q [] s && PySem.W.recOk r.toRowW.records s) s.abs)) = some (true, PySem.W.openGood q loose)
def RunB (r : PySem.W.OpenRow) (H : PySem.W.Hook) (ob : PySem.W.SharedT → H.α) (M : Nat) (w : World) : Prop :=
  ∀ os : OsState, (HandSHeadRun.endF (HandSHeadRun.stepQ (HandSHeadRun.denQ HandSHeadRun.tabQ) r.prog w) M r.prog w os).map ob = some (H.val w)
theorem run_both {r : PySem.W.OpenRow} {q : Program} {H : PySem.W.Hook} {ob : PySem.W.SharedT → H.α} {M : Nat} {loose : List PySem.Str} {w : World} (a : RunA r q M loose w) (b : RunB r H ob M w) : HandSHeadRun.RunEq r q H ob M loose w := fun os => by
  obtain ⟨s, h1, h2⟩ := Option.map_eq_some_iff.mp (a os)
  obtain ⟨s', h3, h4⟩ := Option.map_eq_some_iff.mp (b os)
  rw [h1] at h3
  cases Option.some.inj h3
  rw [h1]
  obtain ⟨e1, e2⟩ := Prod.mk.inj h2
  show some (_, _, ob s) = _
  rw [h4, e1, e2]
/-- what is looked at, in two parts -/
theorem runB_of {r : PySem.W.OpenRow} {as : List Addr} {fn : List He.DefD} {ts : List He.Tab} {tf : List He.Defn} {ex : PySem.W.Frag → Bool} {M : Nat} {w : World}
    {g : PySem.W.SharedT → Addr → Option Obj}
    (a : ∀ os : OsState, (HandSHeadRun.endF (HandSHeadRun.stepQ (HandSHeadRun.denQ HandSHeadRun.tabQ) r.prog w) M r.prog w os).map (fun s => He.obsT [] fn ts (He.frT (g s) as)) = some (He.valT fn ts w))
    (b : ∀ os : OsState, (HandSHeadRun.endF (HandSHeadRun.stepQ (HandSHeadRun.denQ HandSHeadRun.tabQ) r.prog w) M r.prog w os).map (fun s => ex (He.frT (g s) as) && He.tabsB (g s) tf (He.frT (g s) as)) = some true) : RunB r (hookZ as fn ts tf ex) (fun s => obsZ as fn ts tf ex (g s)) M w := fun os => by
  obtain ⟨s, h1, h2⟩ := Option.map_eq_some_iff.mp (a os)
  obtain ⟨s', h3, h4⟩ := Option.map_eq_some_iff.mp (b os)
  rw [h1] at h3
  cases Option.some.inj h3
  rw [h1]
  show some (He.obsT [] fn ts (He.frT (g s) as), ex (He.frT (g s) as) && He.tabsB (g s) tf (He.frT (g s) as)) = some (He.valT fn ts w, true)
  rw [h2, h4]
/-- the end, over the tables cs: code, table, name; K told by the head -/
theorem walk_endE {l : PySem.W.OpenLaw} {k : Nat} {q : Program} {loose : List Str} {XP : (Str → Option Value) → Heap → Prop} {YP : World → Heap → Prop} {d : DefRec} {x : Str} (hn : l.most = some 63) (hdf : d.params.defaults = []) (hr : Room k callerA)
    (F : ∀ (w : World) (mg : Str → Option Value) (fa : Addr) (h : Heap), YP w h → h.Ns mainGlobals mg → mg d.name = some (.ref fa) → ∃ (K : PySem.W.Frag), K.In h ∧ ∃ (fd : FuncData) (cs : List (Addr × Addr × Str)), (∀ p ∈ cs, h.get? p.2.1 = some { cls := .none, data := .fields #[] }) ∧ (∀ p ∈ cs, K.lookup p.2.1 = none) ∧ (∀ p ∈ cs, PySem.W.CodeHd h p.1 p.2.1) ∧
      (∀ (s : Shared) (u : Value), BindsTo s fd ⟨[u], []⟩ [(x, u)]) ∧ ∀ base : Heap, K.In base → base.Ns mainGlobals mg → (∀ p ∈ cs, LamX.TabB base mg p.1 p.2.1) → FnOk l.prog w K mg base (L2.CX l.prog w) k fa fd [x] (upFT K (cs.map fun p => p.2) spLaw)) :
    PySem.W.WalkO q loose XP YP l.row.toRowW d []
      (fun f vs => PySem.call f vs) := by
  refine LamX.walk_ofTsE (n := 63) (k := k) (x := x) (CX := fun w => L2.CX l.prog w) hn (by decide) hdf hr (fun w mg fa h Y G hmg => ?_) fun w H s e s' ⟨_, _, _, _, _, _, _, _, _, _, _, _, h⟩ => h
  obtain ⟨K, X, fd, cs, h1, h2, h3, h4, h5⟩ := F w mg fa h Y G hmg
  have mem : ∀ {Pd : Addr × Addr → Prop}, (∀ p ∈ cs, Pd (p.1, p.2.1)) → ∀ p ∈ cs.map (fun p => (p.1, p.2.1)), Pd p := fun h p hp => by
    obtain ⟨r, hr', rfl⟩ := List.mem_map.mp hp
    exact h r hr'
  refine ⟨K, X, fd, cs.map fun p => (p.1, p.2.1), _, mem (Pd := fun p => h.get? p.2 = some { cls := .none, data := .fields #[] }) h1, mem (Pd := fun p => K.lookup p.2 = none) h2, mem (Pd := fun p => PySem.W.CodeHd h p.1 p.2) h3, h4, fun H a ns hl hb ht hs => law_at (T0 := cs.map fun p => p.2) hl hb (fun p hp => ?_) hs, fun base hb hn ht => h5 base hb hn fun p hp => ht (p.1, p.2.1) (List.mem_map.mpr ⟨p, hp, rfl⟩)⟩
  obtain ⟨r, hr', rfl⟩ := List.mem_map.mp hp
  exact LamX.TabS.nil (ht (r.1, r.2.1) (List.mem_map.mpr ⟨r, hr', rfl⟩))
end LC

set_option Elab.async false
set_option linter.all false
set_option maxRecDepth 100000
set_option maxHeartbeats 5000000
/-! LD51: books taken back and done again. -/
namespace LC
open PySem PySem.Spec
open PyProof.Rows L2
end LC

set_option Elab.async false
set_option linter.all false
set_option maxRecDepth 100000
set_option maxHeartbeats 5000000
/-! LD52: tables of lambdas apart. -/
namespace LC
open PySem PySem.Spec
open PyProof.Rows L2
end LC

set_option Elab.async false
set_option linter.all false
set_option maxRecDepth 100000
set_option maxHeartbeats 5000000
/-! LD53: the law's own line of deeds beside a book. -/
namespace LC
open PySem PySem.Spec
open PyProof.Rows L2
/-! ### what is known of all rows of such a book -/
/-! ### a book and the law's two lists -/
end LC

set_option Elab.async false
set_option linter.all false
set_option maxRecDepth 100000
set_option maxHeartbeats 5000000
/-! LD54: != by an own __eq__. -/
namespace LC
open PySem PySem.Spec
open PyProof.Rows L2
section
open PySem.W PySem.Builtin
variable {prog : Program} {w : World} {A : Around} {E : Value → Shared → Prop} {s : Shared} {K : PySem.W.Frag} {x C L f : Addr} {h₀ : Heap} {m : Str → Option Value} {ox : Obj} {od : Option Obj} {b tb : Value}
end
/-! ### readings -/
section
variable {X : Cx} {B : Bs} {k : Nat} {f C : Addr} {fd : FuncData} {ps : List Str} {spd : SpD} {sp : SpP}
end
end LC

set_option Elab.async false
set_option linter.all false
set_option maxRecDepth 100000
set_option maxHeartbeats 5000000
/-! LD55: a text cut at its last sign; pages as lines; code that is never come to. -/
namespace LC
open PySem PySem.Spec
open PyProof.Rows L2
section
variable {X : Cx} {B : Bs}
end
end LC

set_option Elab.async false
set_option linter.all false
set_option maxRecDepth 100000
set_option maxHeartbeats 5000000
/-! LD56: a page is read by its lines. -/
namespace LC
open PySem PySem.Spec
open PyProof.Rows L2
open TL
/-! ### deeds that are let, one behind another -/
end LC

set_option Elab.async false
set_option linter.all false
set_option maxRecDepth 100000
set_option maxHeartbeats 5000000
/-! LD57: enumerate(a list). -/
namespace LC
open PySem PySem.Spec
open PyProof.Rows L2
def qiEnum (qa : QA) : QI := fun s S R => qa s S fun ds S1 => match ds with
  | [d] => Opt (lsOf S1 d) fun xs => R (enumD 0 xs) (fun S' => lsOf S' d = some xs) S1
  | _ => False
theorem li_enum {X : Cx} {B : Bs} {e : Expr} {qa : QA} {p pos tpos : Pos} {elts : List Expr} {kk : Nat} (hg : Gl X "enumerate") (hm : X.mg "enumerate" = none) (ha : LA X B [e] qa) (hs : starEach [e] X.env = [(false, eval e X.env)] := by rfl) :
    LI X B (.Tuple elts kk tpos) (.Call (.Name "enumerate" p) [e] [] pos) (qiEnum qa) := PI.imp (pi_enum hg hm ha hs) fun σ H R ⟨φ, s, S, R', hr, ev, q, k⟩ =>
  ⟨φ, s, S, _, hr, ev, q, fun φ1 ds S1 vs H1 e1 hr1 r1 q1 => by
    split at q1
    · rename_i d
      obtain ⟨v, ws, rfl, rd, rn⟩ := r1
      cases rn
      obtain ⟨xs, hx, q2⟩ := q1.get; clear q1
      obtain ⟨a, va, rfl, h3, h4⟩ := hr1.ls hx rd
      refine ⟨a, va, rfl, .inl (.inl h3), k _ _ _ _ _ _ e1 hr1 (fun i φ3 H3 S3 e3 hr3 k1 => ?_) q2⟩
      obtain ⟨a', wa, ea, h5, h6⟩ := hr3.ls k1 (rd.mono e3)
      cases ea
      rw [enumD_len]
      refine ⟨fun hi => ⟨wa, wa[i]'(by rw [h6.len]; exact hi), .inl (.inl h5), List.getElem?_eq_getElem _⟩, fun hi => ⟨wa, .inl (.inl h5), by rw [h6.len, hi]; exact Nat.le_refl _⟩, fun x H' d' y hd => ?_⟩
      obtain ⟨T, x1, rfl, hT, rfl, f1⟩ := y
      obtain ⟨dx, g1, rfl⟩ := enumD_get hd
      obtain ⟨v1, h1, h2⟩ := h6.get g1
      have z1 := f1 wa (.inl (.inl h5))
      rw [h1] at z1
      cases z1
      refine ⟨φ3, ext_new hT, hr3.fix hT, RV.tup_new hT ⟨_, _, rfl, ?_, _, _, rfl, h2, rfl⟩⟩
      show V.int _ = V.int _
      rw [Int.zero_add]
    · exact q1.elim⟩
end LC

set_option Elab.async false
set_option linter.all false
set_option maxRecDepth 100000
set_option maxHeartbeats 5000000
/-! LD58: drawn findings are fine. -/
namespace LC
open PySem PySem.Spec
open PyProof.Rows L2
end LC

set_option Elab.async false
set_option linter.all false
set_option maxRecDepth 100000
set_option maxHeartbeats 5000000
/-! LD59: xs[:0:-1]. -/
namespace LC
open PySem PySem.Spec
open PyProof.Rows L2
section
variable {X : Cx} {B : Bs}
end
end LC

set_option Elab.async false
set_option linter.all false
set_option maxRecDepth 100000
set_option maxHeartbeats 5000000
/-! LD60: a book's states, one behind another. -/
namespace LC
open PySem PySem.Spec
open PyProof.Rows L2
end LC

set_option Elab.async false
set_option linter.all false
set_option maxRecDepth 100000
set_option maxHeartbeats 5000000
/-! LD61: a need that is closed by itself. -/
namespace LC
open PySem PySem.Spec
open PyProof.Rows L2
theorem nd {c : Prop} (hc : c := by first | trivial | rfl | assumption | (exact Nat.le_trans (by assumption) le10) | (exact Nat.lt_of_le_of_lt (by assumption) lt10) | (show (0 : Int) < _; first | decide | omega) | (show (0 : Int) ≤ _; first | decide | omega) | (exact .inl ⟨by omega, by omega⟩) | (exact .inr ⟨by decide, by decide⟩) | (refine ⟨?_, ?_⟩ <;> first | rfl | decide | omega) | (refine ⟨?_, ?_, ?_⟩ <;> first | rfl | decide | omega) | (exact ltN (Nat.le_of_ble_eq_true rfl)) | (exact leN (Nat.le_of_ble_eq_true rfl))) : c := hc
end LC

set_option Elab.async false
set_option linter.all false
set_option maxRecDepth 100000
set_option maxHeartbeats 5000000
/-! LD62: a comprehension whose items change what is there; its list is numbered. -/
namespace LC
open PySem PySem.Spec
open PyProof.Rows L2
section
variable {X : Cx} {B : Bs}
end
section
variable {X : Cx} {B : Bs} {elt tg iter : Expr} {ifs : List Expr} {scope : Scope} {own : List (Str × Nat)} {pos : Pos} {qi : QI} {t : Tgt} {qt : QT} {qe : QE}
end
end LC

set_option Elab.async false
set_option linter.all false
set_option maxRecDepth 100000
set_option maxHeartbeats 5000000
/-! LD63: a list != [] . -/
namespace LC
open PySem PySem.Spec
open PyProof.Rows L2
section
variable {X : Cx} {B : Bs}
end
end LC

set_option Elab.async false
set_option linter.all false
set_option maxRecDepth 100000
set_option maxHeartbeats 5000000
/-! LD64: several books, each with the law's two lists beside it. -/
namespace LC
open PySem PySem.Spec
open PyProof.Rows L2
section
variable {C : Addr} {S S' T : List O} {lo n : Nat} {X : Nat → Pl} {m : Nat → Nat} {b : Nat → Bm} {w : Nat → Nat}
end
section
variable {N1 N2 N3 N4 n0 : Nat}
end
end LC

set_option Elab.async false
set_option linter.all false
set_option maxRecDepth 100000
set_option maxHeartbeats 5000000
/-! LD65: try with several clauses `except C as n`, all of the same name. -/
namespace LC
open PySem PySem.Spec
open PyProof.Rows L2
/-- the clause's name goes at the suite's end -/
def offE (i : Nat) (D : Ends) : Ends := { nx := fun σ H => D.nx (σ.set i none) H, rt := D.rt, bk := fun σ H => D.bk (σ.set i none) H, ct := fun σ H => D.ct (σ.set i none) H }
def wAsL (K : PySem.W.Frag) (i : Nat) (Wout : WX) (D : Ends) : List (Value × (Addr → Value → Option Addr → TS)) → WX
  | [] => Wout
  | (c, ts) :: r => fun cls d σ H => ∃ b, PySem.W.exmOne K cls c = some b ∧ (b = true → ∀ a, H a = none → ts a cls d (offE i D) (σ.set i (some (.ref a))) H) ∧ (b = false → wAsL K i Wout D r cls d σ H)
inductive AsL (X : Cx) (n : Str) : List ExceptHandler → List (Value × (Addr → Value → Option Addr → TS)) → Prop
  | nil : AsL X n [] []
  | cons {x : Str} {c : Value} {ts : Addr → Value → Option Addr → TS} {b₀ : Stmt} {suite : List Stmt} {np pos' : Pos} {hds : List ExceptHandler} {l : List (Value × (Addr → Value → Option Addr → TS))} (hc : Names X x c)
      (hsu : ∀ (a : Addr) (oe : Obj) (cls : Value) (d : Option Addr) (pn : List (Addr × Obj)), Zc cls d oe → (∃ vs, oe.data = .fields vs) → PSs (X.suite a ((a, oe) :: pn)) (b₀ :: suite) (ts a cls d)) (r : AsL X n hds l) :
      AsL X n (.ExceptHandler (some (.Name x np)) (some n) (b₀ :: suite) pos' :: hds) ((c, ts) :: l)
section
variable {X : Cx} {n : Str} {i : Nat} {body : List Stmt} {h₀ : ExceptHandler} {hds : List ExceptHandler} {l : List (Value × (Addr → Value → Option Addr → TS))} {pos : Pos} {tb : WX → TS} {Wout : WX}
theorem ps_try_asL (hs : X.stack = X.env :: X.outer) (hf : X.env.frame = some X.env.locals) (hN : X.N.Nodup) (hi : X.N[i]? = some n) (hln : X.env.kindOf n = some .local) (tk : Takes X Wout)
    (hb : ∀ (W : WX) (pn : List (Addr × Obj)) (xe : Value → Shared → Prop), Takes (X.tr pn xe) W → PassesOwn (model X.prog X.w) X.A X.env xe → PSs (X.tr pn xe) body (tb W))
    (hh : AsL X n (h₀ :: hds) l) : PS X (.Try body (h₀ :: hds) [] [] pos) (fun D σ H => tb (wAsL X.K i Wout D l) D σ H) := by
  refine ⟨fun pins s σ H D I h => ?_⟩
  have ok := I.ok
  have hfr : X.A.frames = some (X.env :: X.outer) := by rw [ok.frames, hs]
  have hloc : Loc X.env.scope n := .inl hln
  refine wpAny_Try_except (wpAny_mono ((hb (wAsL X.K i Wout D l) (X.pn ++ pins) (fun e s₁ => wpAny (model X.prog X.w) X.A (noteFrame e X.env) (fun _ s₂ => wpAny (model X.prog X.w) X.A (setFlight e none) (fun _ s₃ =>
    wpAny (model X.prog X.w) X.A (handleBy e X.env (h₀ :: hds)) (SP X pins D) X.xe s₃) X.xe s₂) X.xe s₁) (fun u s' xx => ?_) PassesOwn.looking).run [] s σ H D (I.toTry _) h) (fun f s1 hsp => ?_) (fun e s1 he => he))
  · obtain ⟨a, B, sI, pins', σ', H', cls, d, rfl, J', nb, up, sky, na, os, ag, w⟩ := xx
    have J : Inv X pins σ' H' sI := J'.ofTry ok
    have sky' : Sky B (X.env :: X.outer) a (Zc cls d) X.env.locals s'.heap := hs ▸ sky
    refine Sky.land Zc.steady hfr hf sky' fun h3 fl3 up3 => ?_
    have J3 : Inv X pins σ' H' { s' with heap := h3 } := J.landed nb fl3.1 (up.trans up3) os ag
    obtain ⟨oe3, vs3, he3, hz3, hd3⟩ := fl3.there
    have nfr : a ∉ frs (X.env :: X.outer) := fun hm => by
      obtain ⟨_, o', e', hnf⟩ := fl3.2.2.1.mem hm
      rw [he3] at e'; cases e'
      exact hnf _ hd3
    have nL : a ≠ X.env.locals := fun z => nfr (List.mem_filterMap.mpr ⟨X.env, List.mem_cons_self, by rw [hf, z]⟩)
    have nF : a ∉ X.fs := fun hm => by
      obtain ⟨e, he, q⟩ := List.mem_filterMap.mp hm
      exact nfr (List.mem_filterMap.mpr ⟨e, List.mem_cons_of_mem _ he, q⟩)
    have S3 := J3.suite he3 hd3 na nL nF
    have go : ∀ {hds' : List ExceptHandler} {l' : List (Value × (Addr → Value → Option Addr → TS))}, AsL X n hds' l' → wAsL X.K i Wout D l' cls d σ' H' →
        wpAny (model X.prog X.w) X.A (handleBy (.ref a) X.env hds') (SP X pins D) X.xe { s' with heap := h3 } := by
      intro hds' l' hk
      induction hk with
      | nil =>
        intro w
        refine wpAny_handleBy_nil ?_
        obtain ⟨_, _, _, oe, vs, T, oT, ts', he, hz, hd, h1, hr⟩ := id fl3
        unfold PySem.passOn
        refine wpAny_bind (wpAny_field he hd h1 ?_)
        rw [if_neg (show ¬ ((Value.ref T == Value.none) = true) from by simp)]
        have fin : wpAny (model X.prog X.w) X.A (setFlight (.ref a) X.env.frame) (fun _ s4 => wpAny (model X.prog X.w) X.A (throw (.ref a) : Sem Flow) (SP X pins D) X.xe s4) X.xe { s' with heap := h3 } := by
          rw [hf]
          refine HandSPX.setFlight_upZ fl3 fun h4 hh4 up4 => wpAny_throw (tk _ _ ?_)
          exact ⟨a, B, sI, pins, σ', H', cls, d, rfl, J, nb, (up.trans up3).trans up4, .inr (.inr (by rw [hs]; exact hh4)), na, os, ag, w⟩
        first
          | exact wpAny_bind (wpAny_pure (wpAny_bind fin))
          | exact wpAny_bind fin
      | @cons x c ts b₀ suite np pos' hds2 l2 hc hsu r ih =>
        intro w
        obtain ⟨b, hb1, hyes, hno⟩ := w
        refine wpAny_handleBy_cons (codeAny_handlers_test ?_) (by intro q; cases q)
        have LM := PySem.W.exm_one (M := model X.prog X.w) J3.kIn (fun A Q E s k q => wpAny_typeOf_ref (k _ _ he3) (by rw [hz3.1]; exact q)) hb1
        have test : ∀ {Q : Value → Shared → Prop} {E : Value → Shared → Prop}, Q c { s' with heap := h3 } → wpAny (model X.prog X.w) (X.A.mark (some (.ref a))) (eval (.Name x np) X.env) Q E { s' with heap := h3 } := fun {Q E} q => by
          obtain ⟨hg, hdbg, hm | ⟨hm, hv, hnn⟩⟩ := hc
          · exact ld_glob (X := X.suite a ((a, oe3) :: (X.pn ++ pins))) S3 hg hm q hdbg
          · exact ld_blt (X := X.suite a ((a, oe3) :: (X.pn ++ pins))) S3 hg hm hv q hnn hdbg
        refine test (LM.here ?_)
        cases b with
        | true =>
          refine codeAny_handlers_suite_as (HandSPX.lands_againZ fl3 fun h4 fl4 up4 => ?_)
          have J4 : Inv X pins σ' H' { s' with heap := h4 } := J.landed nb fl4.1 ((up.trans up3).trans up4) os ag
          obtain ⟨oe4, vs4, he4, hz4, hd4⟩ := fl4.there
          have S4 := J4.suite he4 hd4 na nL nF
          refine store_ok (X := X.suite a ((a, oe4) :: (X.pn ++ pins))) (v := .ref a) S4 hN hi hloc rfl (fun s5 S5 => ?_) (.inr hln)
          refine wpAny_mono ((hsu a oe4 cls d (X.pn ++ pins) hz4 ⟨_, hd4⟩).run [] s5 _ H' _ S5 (hyes rfl a na)) (fun f s6 hsp => ?_) (fun _ _ z => False.elim z)
          have end_ : ∀ {σ6 : L2.St} {H6 : Hp} {Q : Shared → Prop}, Inv (X.suite a ((a, oe4) :: (X.pn ++ pins))) [] σ6 H6 s6 → (∀ s7, Inv X pins (σ6.set i none) H6 s7 → Q s7) →
              wpAny (model X.prog X.w) X.A (do bindName X.env n .none; unbindBehindTheSuite X.env n pos') (fun _ s7 => Q s7) X.xe s6 := fun {σ6 H6 Q} S6 hq => gone_ok (S6.unsuite ok) hN hi hln hq
          cases f with
          | next =>
            obtain ⟨σ6, H6, S6, q6⟩ := hsp
            exact end_ S6 fun s7 J7 => ⟨_, _, J7, q6⟩
          | brk =>
            obtain ⟨σ6, H6, S6, q6⟩ := hsp
            exact end_ S6 fun s7 J7 => ⟨_, _, J7, q6⟩
          | cont =>
            obtain ⟨σ6, H6, S6, q6⟩ := hsp
            exact end_ S6 fun s7 J7 => ⟨_, _, J7, q6⟩
          | ret u =>
            obtain ⟨v6, σ6, H6, S6, r6, q6⟩ := hsp
            exact end_ S6 fun s7 J7 => ⟨_, _, _, J7, r6, q6⟩
        | false =>
          show wpAny _ X.A (handleBy (.ref a) X.env hds2) _ _ _
          exact ih (hno rfl)
    exact go hh w
  · cases f with
    | next =>
      obtain ⟨σ', H', J', q⟩ := hsp
      exact wpAny_execs_nil ⟨σ', H', J'.ofTry ok, q⟩
    | brk =>
      obtain ⟨σ', H', J', q⟩ := hsp
      exact ⟨σ', H', J'.ofTry ok, q⟩
    | cont =>
      obtain ⟨σ', H', J', q⟩ := hsp
      exact ⟨σ', H', J'.ofTry ok, q⟩
    | ret u =>
      obtain ⟨v, σ', H', J', r, q⟩ := hsp
      exact ⟨v, σ', H', J'.ofTry ok, r, q⟩
end
section
variable {X : Cx} {B : Bs} {x1 x2 : Str} {pos : Pos}
/-- what a suite wishes of its own end: the name goes -/
def offD (i : Nat) (D : Ed) (k : Nat) : Ed := { nx := fun s' S' => D.nx (s'.set i none) S', rt := D.rt, bk := fun s' S' => D.bk (s'.set i none) S', ct := fun s' S' => D.ct (s'.set i none) S', n := k }
def qTryAs2 (K : PySem.W.Frag) (c1 c2 : Value) (i : Nat) (qb : WD → QS) (q1 q2 : Addr → Addr → List (Str × D) → QS) (Wo : WD) : QS := fun D s S => qb (fun C fs s1 S1 => ∃ b, PySem.W.exmOne K (.ref C) c1 = some b ∧
  (b = true → ∀ a, q1 a C fs (offD i D S1.length) (s1.set i (some (.adr a))) S1) ∧ (b = false → ∃ b', PySem.W.exmOne K (.ref C) c2 = some b' ∧ (b' = true → ∀ a, q2 a C fs (offD i D S1.length) (s1.set i (some (.adr a))) S1) ∧ (b' = false → Wo C fs s1 S1))) { D with n := S.length } s S
theorem ls_try_as2 {n : Str} {c1 c2 : Value} {i : Nat} {body suite1 suite2 : List Stmt} {b₁ b₂ : Stmt} {np1 pos1 np2 pos2 : Pos} {qb : WD → QS} {q1 q2 : Addr → Addr → List (Str × D) → QS} {Wout : WX} {Wo : WD}
    (hs : X.stack = X.env :: X.outer) (hf : X.env.frame = some X.env.locals) (hN : X.N.Nodup) (hi : X.N[i]? = some n) (hln : X.env.kindOf n = some .local) (hc1 : Names X x1 c1) (hc2 : Names X x2 c2) (tk : Takes X Wout) (wl : WL X.K B Wo Wout)
    (hb : ∀ (W : WX) (W' : WD) (pn : List (Addr × Obj)) (xe : Value → Shared → Prop) (B' : Bs), BLe X.K B B' → Takes (X.tr pn xe) W → WL X.K B' W' W → PassesOwn (model X.prog X.w) X.A X.env xe → LSs (X.tr pn xe) B' body (qb W'))
    (hsu1 : ∀ (a : Addr) (oe : Obj) (cls : Value) (d : Option Addr) (pn : List (Addr × Obj)) (C : Addr) (fs : List (Str × D)) (B' : Bs), Zc cls d oe → (∃ vs, oe.data = .fields vs) → BLe X.K B B' → XRel X.K B'.φ0 B'.H0 C fs cls d → LSs (X.suite a ((a, oe) :: pn)) B' (b₁ :: suite1) (q1 a C fs))
    (hsu2 : ∀ (a : Addr) (oe : Obj) (cls : Value) (d : Option Addr) (pn : List (Addr × Obj)) (C : Addr) (fs : List (Str × D)) (B' : Bs), Zc cls d oe → (∃ vs, oe.data = .fields vs) → BLe X.K B B' → XRel X.K B'.φ0 B'.H0 C fs cls d → LSs (X.suite a ((a, oe) :: pn)) B' (b₂ :: suite2) (q2 a C fs)) :
    LS X B (.Try body [.ExceptHandler (some (.Name x1 np1)) (some n) (b₁ :: suite1) pos1, .ExceptHandler (some (.Name x2 np2)) (some n) (b₂ :: suite2) pos2] [] [] pos) (qTryAs2 X.K c1 c2 i qb q1 q2 Wo) := by
  have suite_ : ∀ {b₀ : Stmt} {suite : List Stmt} {qs : Addr → Addr → List (Str × D) → QS}, (∀ (a : Addr) (oe : Obj) (cls : Value) (d : Option Addr) (pn : List (Addr × Obj)) (C : Addr) (fs : List (Str × D)) (B' : Bs), Zc cls d oe → (∃ vs, oe.data = .fields vs) → BLe X.K B B' → XRel X.K B'.φ0 B'.H0 C fs cls d → LSs (X.suite a ((a, oe) :: pn)) B' (b₀ :: suite) (qs a C fs)) →
      ∀ (a : Addr) (oe : Obj) (cls : Value) (d : Option Addr) (pn : List (Addr × Obj)), Zc cls d oe → (∃ vs, oe.data = .fields vs) → PSs (X.suite a ((a, oe) :: pn)) (b₀ :: suite) (tsX X.K B qs a cls d) := by
    intro b₀ suite qs hsu a oe cls d pn hz hfl
    refine ⟨fun pins s σ H D I ⟨φ, C, fs, sl, S, D', hn, xr, hr, ev, q, ek⟩ => ?_⟩
    refine (hsu a oe cls d pn C fs ⟨φ, H, B.T⟩ hz hfl ⟨hr.ext, rfl⟩ xr).run pins s σ H D I ⟨φ, sl, S, D', ⟨Ext.refl, hr.rel, hr.tab⟩, ev, q, ?_⟩
    have up : ∀ {φ' : Ph} {H' : Hp} {S' : List O}, HR X.K ⟨φ, H, B.T⟩ φ' H' S' → HR X.K B φ' H' S' := fun h => ⟨hr.ext.trans h.ext, h.rel, h.tab⟩
    refine ⟨φ, H, Ext.refl, ?_⟩
    exact ⟨by rw [hn, ← hr.rel.len]; exact Nat.le_refl _, by rw [hn, hr.rel.len]; exact Nat.le_refl _, fun φ' H' S' s' σ' e' hr' => ek.nx _ _ _ _ _ e' (up hr'), fun φ' H' S' d' v' e' hr' => ek.rt _ _ _ _ _ e' (up hr'), fun φ' H' S' s' σ' e' hr' => ek.bk _ _ _ _ _ e' (up hr'), fun φ' H' S' s' σ' e' hr' => ek.ct _ _ _ _ _ e' (up hr')⟩
  have key := ps_try_asL (X := X) (n := n) (i := i) (Wout := Wout) (tb := fun W D σ H => ∃ (W' : WD) (B' : Bs), BLe X.K B B' ∧ WL X.K B' W' W ∧ US X.K B' (qb W') D σ H) (pos := pos) (body := body) hs hf hN hi hln tk ?_
    (AsL.cons (np := np1) (pos' := pos1) hc1 (suite_ hsu1) (AsL.cons (np := np2) (pos' := pos2) hc2 (suite_ hsu2) AsL.nil))
  · refine PS.imp key ?_
    rintro DD σ H ⟨φ, s, S, D', hr, ev, q, ek⟩
    refine ⟨_, ⟨φ, H, B.T⟩, ⟨hr.ext, rfl⟩, ?_, φ, s, S, { D' with n := S.length }, ⟨Ext.refl, hr.rel, hr.tab⟩, ev, q, ?_⟩
    · rintro φ' C fs s1 S1 cls d σ1 H1 hr1 ev1 xr w
      have hrB : HR X.K B φ' H1 S1 := ⟨hr.ext.trans hr1.ext, hr1.rel, hr1.tab⟩
      obtain ⟨rfl, rest⟩ := id xr
      have ek1 := ek.ext hr1.ext
      have one : ∀ {qs : Addr → Addr → List (Str × D) → QS} (a : Addr), qs a C fs (offD i D' S1.length) (s1.set i (some (.adr a))) S1 → tsX X.K B qs a (.ref C) d (offE i DD) (σ1.set i (some (.ref a))) H1 := fun {qs} a h => by
        refine ⟨φ', C, fs, s1.set i (some (.adr a)), S1, _, rfl, xr, hrB, ev1.set rfl, h, ?_⟩
        refine ⟨φ', H1, Ext.refl, ?_⟩
        exact ⟨by show _ ≤ S1.length; rw [← hr1.rel.len]; exact hrB.ext.pre.length_le, by show _ ≤ S1.length; rw [hr1.rel.len]; exact Nat.le_refl _, fun φ'' H'' S'' s' σ' e' hr' ev' w => ek1.nx _ _ _ _ _ e' hr' ev'.wipe w, fun φ'' H'' S'' d' v' e' hr' r w => ek1.rt _ _ _ _ _ e' hr' r w,
          fun φ'' H'' S'' s' σ' e' hr' ev' w => ek1.bk _ _ _ _ _ e' hr' ev'.wipe w, fun φ'' H'' S'' s' σ' e' hr' ev' w => ek1.ct _ _ _ _ _ e' hr' ev'.wipe w⟩
      obtain ⟨b, h1, h2, h3⟩ := w
      refine ⟨b, h1, fun hb a _ => one a (h2 hb a), fun hb => ?_⟩
      obtain ⟨b', h4, h5, h6⟩ := h3 hb
      exact ⟨b', h4, fun hb' a _ => one a (h5 hb' a), fun hb' => wl _ _ _ _ _ _ _ _ _ hrB ev1 xr (h6 hb')⟩
    · have up : ∀ {φ' : Ph} {H' : Hp} {S' : List O}, HR X.K ⟨φ, H, B.T⟩ φ' H' S' → HR X.K B φ' H' S' := fun h => ⟨hr.ext.trans h.ext, h.rel, h.tab⟩
      refine ⟨φ, H, Ext.refl, ?_⟩
      exact ⟨by rw [← hr.rel.len]; exact Nat.le_refl _, by rw [hr.rel.len]; exact Nat.le_refl _, fun φ' H' S' s' σ' e' hr' => ek.nx _ _ _ _ _ e' (up hr'), fun φ' H' S' d' v' e' hr' => ek.rt _ _ _ _ _ e' (up hr'), fun φ' H' S' s' σ' e' hr' => ek.bk _ _ _ _ _ e' (up hr'), fun φ' H' S' s' σ' e' hr' => ek.ct _ _ _ _ _ e' (up hr')⟩
  · intro W pn xe tk' ps'
    refine ⟨fun pins s σ H D I ⟨W', B', eB, wl', h⟩ => ?_⟩
    exact (hb W W' pn xe B' eB tk' wl' ps').run pins s σ H D I h
end
section
variable {dds : List D} {dvs : List V} {W : WX} {W' : WD} {x m : Str} {p pos apos : Pos} {e o : Expr} {es : List Expr} {kws : List Keyword} {q qk : QA} {qo : QE} {ks : List Str} {n : Nat}
end
end LC

set_option Elab.async false
set_option linter.all false
set_option maxRecDepth 100000
set_option maxHeartbeats 5000000
/-! LD66: rows of shades laid one on the other. -/
namespace LC
open PySem PySem.Spec
open PyProof.Rows L2
end LC

set_option Elab.async false
set_option linter.all false
set_option maxRecDepth 100000
set_option maxHeartbeats 5000000
/-! LD67: f"{x}" of an instance with an own __str__. -/
namespace LC
open PySem PySem.Spec
open PyProof.Rows L2
def FmC (K : PySem.W.Frag) (C : Addr) : Prop := PySem.W.findIn K (.ref C) "__format__" = some (some (.builtin "object.__format__")) ∧ PySem.W.mroIn K C (.type "object") = some true
section
variable {X : Cx} {B : Bs} {k : Nat} {f C : Addr} {fd : FuncData} {ps : List Str} {sp : Sp}
end
section
variable {X : Cx} {B : Bs} {k : Nat} {f C : Addr} {fd : FuncData} {ps : List Str} {sp : SpP}
end
end LC

set_option Elab.async false
set_option linter.all false
set_option maxRecDepth 100000
set_option maxHeartbeats 5000000
/-! LD68: tuple(list) that is known to have no dict, t.count(x) of such a tuple. -/
namespace LC
open PySem PySem.Spec
open PyProof.Rows L2
section
variable {X : Cx} {B : Bs}
variable {o e : Expr} {to : TE} {t : TA} {apos cpos : Pos}
end
theorem seqI {x y : Int} : (D.int x).seq (.int y) = decide (x = y) := rfl
end LC

set_option Elab.async false
set_option linter.all false
set_option maxRecDepth 100000
set_option maxHeartbeats 5000000
/-! LD69: sorted of tuples of ints, min / max of a list of ints, dict of a list of pairs. -/
namespace LC
open PySem PySem.Spec
open PyProof.Rows L2
theorem RVs.permM {α : Type} {f : α → D} {K : PySem.W.Frag} {φ : Ph} {H : Hp} {ys vs : List V} (h : ys.Perm vs) : ∀ {l : List α}, RVs K φ H (l.map f) vs → ∃ m : List α, m.Perm l ∧ RVs K φ H (m.map f) ys := by
  induction h with
  | nil =>
    intro l r
    cases l with
    | nil => exact ⟨[], List.Perm.refl _, rfl⟩
    | cons a t => obtain ⟨v, ws, e, _⟩ := r; cases e
  | cons x p ih =>
    intro l r
    cases l with
    | nil => cases r
    | cons a t =>
      obtain ⟨v, ws, e, r1, r2⟩ := r
      cases e
      obtain ⟨m, hm, r3⟩ := ih r2
      exact ⟨a :: m, hm.cons a, _, _, rfl, r1, r3⟩
  | swap x y l0 =>
    intro l r
    cases l with
    | nil => cases r
    | cons a t =>
      obtain ⟨v, ws, e, r1, r2⟩ := r
      cases e
      cases t with
      | nil => cases r2
      | cons b u =>
        obtain ⟨v2, ws2, e, r3, r4⟩ := r2
        cases e
        exact ⟨b :: a :: u, List.Perm.swap _ _ _, _, _, rfl, r3, _, _, rfl, r1, r4⟩
  | trans p1 p2 ih1 ih2 =>
    intro l r
    obtain ⟨m, hm, r2⟩ := ih2 r
    obtain ⟨m2, hm2, r3⟩ := ih1 r2
    exact ⟨m2, hm2.trans hm, r3⟩
/-- a tuple of ints -/
def itD (ns : List Int) : D := .tup (ns.map D.int)
theorem itD_tup {K : PySem.W.Frag} {φ : Ph} {H : Hp} {ns : List Int} {v : V} (r : RV K φ H (itD ns) v) : TupI K H v ns := by
  obtain ⟨p, vs, rfl, h1, h2⟩ := r
  refine ⟨p, rfl, ?_⟩
  rw [← asIs_ok (asIs_ints ns) h2]
  exact SqT.of h1
theorem itDs_mem {K : PySem.W.Frag} {φ : Ph} {H : Hp} : ∀ {l : List (List Int)} {vs : List V}, RVs K φ H (l.map itD) vs → ∀ x ∈ vs, ∃ ns ∈ l, TupI K H x ns
  | [], _, r, x, hx => by cases r; exact absurd hx List.not_mem_nil
  | a :: t, _, ⟨v, ws, e, r1, r2⟩, x, hx => by
    subst e
    rcases List.mem_cons.mp hx with rfl | hx
    · exact ⟨a, List.mem_cons_self, itD_tup r1⟩
    · obtain ⟨ns, hn, h⟩ := itDs_mem r2 x hx
      exact ⟨ns, List.mem_cons_of_mem _ hn, h⟩
theorem itDs_pw {K : PySem.W.Frag} {φ : Ph} {H : Hp} {P : List Int → List Int → Prop} : ∀ {l : List (List Int)} {vs : List V}, RVs K φ H (l.map itD) vs → vs.Pairwise (fun x y => ∀ n m, TupI K H x n → TupI K H y m → P n m) → l.Pairwise P
  | [], _, _, _ => List.Pairwise.nil
  | a :: t, _, ⟨v, ws, e, r1, r2⟩, h => by
    subst e
    obtain ⟨h1, h2⟩ := List.pairwise_cons.mp h
    refine List.pairwise_cons.mpr ⟨fun b hb => ?_, itDs_pw r2 h2⟩
    have : ∀ {l : List (List Int)} {vs : List V}, RVs K φ H (l.map itD) vs → ∀ b ∈ l, ∃ y ∈ vs, TupI K H y b := by
      intro l
      induction l with
      | nil => intro vs _ b hb; exact absurd hb List.not_mem_nil
      | cons a t ih =>
        rintro vs ⟨v, ws, e, r1, r2⟩ b hb
        subst e
        rcases List.mem_cons.mp hb with rfl | hb
        · exact ⟨v, List.mem_cons_self, itD_tup r1⟩
        · obtain ⟨y, hy, h⟩ := ih r2 b hb
          exact ⟨y, List.mem_cons_of_mem _ hy, h⟩
    obtain ⟨y, hy, ht⟩ := this r2 b hb
    exact h1 y hy a b (itD_tup r1) ht
section
variable {X : Cx} {B : Bs}
/-- sorted of a list of tuples of d ints each in [0, b) -/
def rcSortedU (d : Nat) (b : Int) : QC := fun ds S Q => ∃ (x : D) (l : List (List Int)), ds = [x] ∧ lsOf S x = some (l.map itD) ∧ l.length < 64 ∧ (∀ ns ∈ l, ns.length = d ∧ TS.Bd b ns) ∧ ∀ m : List (List Int), m.Perm l → m.Pairwise (fun u v => TS.code b u ≤ TS.code b v) → Q (.lst (m.map itD)) S
theorem cc_sortedU {d : Nat} {b : Int} (hd : 1 ≤ d) : CallR X (.builtin "sorted") (upC X.K B (rcSortedU d b)) := CallR.imp (cr_sortT (d := d) (B := b) hd) fun x H Q ⟨φ, S, ds, Q', hr, r, ⟨y, l, e, h1, h2, h3, q⟩, k⟩ => by
  subst e
  obtain ⟨v, w', rfl, r1, r2⟩ := r
  cases r2
  obtain ⟨a, vs, rfl, h4, h5⟩ := hr.ls h1 r1
  refine ⟨a, vs, rfl, .inl (.inl h4), by rw [h5.len, List.length_map]; exact h2, fun x hx => ?_, fun ys p hp hw hn => ?_⟩
  · obtain ⟨ns, hm, ht⟩ := itDs_mem h5 x hx
    exact ⟨ns, ht, h3 ns hm⟩
  · obtain ⟨m, hm, r3⟩ := RVs.permM hp h5
    exact k.lst hr hn r3 (q m hm (itDs_pw r3 hw))
/-- the least of a list of ints -/
theorem call_min1 (hc : X.calm = true) (hu : X.A.units + 1 < cLine) : CallR X (.builtin "min") (fun xs H Q => ∃ p ns, xs = [.ref p] ∧ SqL X.K H p (ns.map V.int) ∧ ns ≠ [] ∧ ∀ m ∈ ns, (∀ z ∈ ns, m ≤ z) → Q (.int m) H) := by
  intro pins s σ H xs us Q I r h
  obtain ⟨p, ns, rfl, hq, hne, q⟩ := h
  obtain ⟨u, rfl, rx⟩ := vals1 r
  cases rx
  obtain ⟨its, r', pl, hz⟩ := I.list hq
  have hi := ints_of_vals r'
  cases ns with
  | nil => exact absurd rfl hne
  | cons n0 ns =>
    refine PySem.W.min_list_datum (α := Int) (x := n0) (xs := ns) (I.ok.hd hc) pl.isList (by rw [List.toList_toArray]; exact PySem.W.HoldAll.of_ints hi) (by show X.A.units + 1 + 0 < cLine; omega) fun i v h' tk hi' hv hk => ?_
    obtain ⟨t, rfl⟩ := PySem.W.int_of_holds hv
    have key : ∀ (l : List Int) (x : Int), PySem.W.minOf x l ∈ x :: l ∧ ∀ z ∈ x :: l, PySem.W.minOf x l ≤ z := by
      intro l
      induction l with
      | nil => intro x; exact ⟨List.mem_cons_self, fun z hz => by rw [List.mem_singleton.mp hz]; exact Int.le_refl _⟩
      | cons y l ih =>
        intro x
        have e : PySem.W.minOf x (y :: l) = PySem.W.minOf (if decide (y < x) = true then y else x) l := rfl
        rw [e]
        obtain ⟨h1, h2⟩ := ih (if decide (y < x) = true then y else x)
        have hx := h2 _ List.mem_cons_self
        by_cases hyx : y < x
        · rw [if_pos (decide_eq_true hyx)] at h1 h2 hx ⊢
          refine ⟨List.mem_cons_of_mem _ h1, fun z hz => ?_⟩
          rcases List.mem_cons.mp hz with rfl | hz
          · omega
          · exact h2 z hz
        · rw [if_neg (by rw [decide_eq_false hyx]; decide)] at h1 h2 hx ⊢
          refine ⟨?_, fun z hz => ?_⟩
          · rcases List.mem_cons.mp h1 with h1 | h1
            · rw [h1]; exact List.mem_cons_self
            · exact List.mem_cons_of_mem _ (List.mem_cons_of_mem _ h1)
          · rcases List.mem_cons.mp hz with rfl | hz
            · exact hx
            · rcases List.mem_cons.mp hz with rfl | hz
              · omega
              · exact h2 z (List.mem_cons_of_mem _ hz)
    obtain ⟨k1, k2⟩ := key ns n0
    exact ⟨.int _, H, I.kept hk, ⟨t, rfl⟩, q _ k1 k2⟩
def rcMin1 : QC := fun ds S Q => match ds with
  | [d] => Opt (lsOf S d) fun xs => Opt (asIs xs) fun ns => Need (ns ≠ []) (∀ m ∈ ns, (∀ z ∈ ns, m ≤ z) → Q (.int m) S)
  | _ => False
theorem cc_min1 (hc : X.calm = true) (hu : X.A.units + 1 < cLine) : CallR X (.builtin "min") (upC X.K B rcMin1) := CallR.imp (call_min1 hc hu) fun x H Q ⟨φ, S, ds, Q', hr, r, q, k⟩ => by
  unfold rcMin1 at q
  split at q
  · obtain ⟨v, w', rfl, r1, r2⟩ := r
    cases r2
    obtain ⟨xs, h1, q⟩ := q.get
    obtain ⟨ns, h2, h0, q⟩ := q.get
    obtain ⟨p, vs, rfl, h3, h4⟩ := hr.ls h1 r1
    have h5 := asIs_ok h2 h4
    subst h5
    exact ⟨p, ns, rfl, .inl (.inl h3), h0, fun m hm hz => k.here (d := D.int _) hr rfl (q m hm hz)⟩
  · exact q.elim
/-- dict of a list of pairs -/
def kyD : Key → D
  | .inl i => .int i
  | .inr x => .str x
def kvD (p : Key × D) : D := .tup [kyD p.1, p.2]
theorem kyD_ok {K : PySem.W.Frag} {φ : Ph} {H : Hp} {k : Key} {v : V} (r : RV K φ H (kyD k) v) : v = kV k := by
  cases k with
  | inl i => exact r
  | inr x => exact r
theorem kvDs {K : PySem.W.Frag} {φ : Ph} {H : Hp} : ∀ {l : List (Key × D)} {vs : List V}, RVs K φ H (l.map kvD) vs → ∃ (ps : List Addr) (g : List (Key × V)), vs = ps.map V.ref ∧ Paired (fun p kv => SqT K H p [kV kv.1, kv.2]) ps g ∧ RKV K φ H l g
  | [], _, r => by cases r; exact ⟨[], [], rfl, .nil, rfl⟩
  | (k, d) :: t, _, ⟨v, ws, e, ⟨p, us, e1, h1, v1, w1, e2, r1, v2, w2, e3, r2, r3⟩, r4⟩ => by
    subst e e1
    cases r3
    subst e2
    subst e3
    obtain ⟨ps, g, e5, h5, r5⟩ := kvDs r4
    subst e5
    have := kyD_ok r1
    subst this
    exact ⟨p :: ps, (k, v2) :: g, rfl, .cons (SqT.of h1) h5, v2, g, rfl, r2, r5⟩
def rcDictP (mu : Bool) : QC := fun ds S Q => ∃ (x : D) (l : List (Key × D)), ds = [x] ∧ lsOf S x = some (l.map kvD) ∧ if mu = true then Q (.ref S.length) (S ++ [.dK (mergeD [] l)]) else Q (.dK ((mergeD [] l).map (·.1)) ((mergeD [] l).map (·.2))) S
theorem cc_dictP (mu : Bool) (hc : X.calm = true) : CallR X (.type "dict") (upC X.K B (rcDictP mu)) := CallR.imp (call_dictP hc) fun x H Q ⟨φ, S, ds, Q', hr, r, ⟨y, l, e, h1, q⟩, k⟩ => by
  subst e
  obtain ⟨v, w', rfl, r1, r2⟩ := r
  cases r2
  obtain ⟨a, vs, rfl, h4, h5⟩ := hr.ls h1 r1
  obtain ⟨ps, g, rfl, h6, h7⟩ := kvDs h5
  have h8 : RKV X.K φ H (mergeD [] l) (mergeK [] g) := RKV.merge h7 (show RKV X.K φ H [] [] from rfl)
  refine ⟨a, ps, g, rfl, .inl (.inl h4), h6, fun p hp => ?_⟩
  cases mu with
  | true =>
    rw [if_pos rfl] at q
    exact k.new (x := O.dK (mergeD [] l)) hr hp ⟨mergeK [] g, upd_same, h8.mono (ext_add hp)⟩ q
  | false =>
    rw [if_neg Bool.false_ne_true] at q
    obtain ⟨us, e1, h9⟩ := h8.split
    refine k _ (.dK _ _) _ _ _ (ext_new hp) (hr.fix hp) ⟨p, us, rfl, hr.rel.new_fz hp, ?_, ?_, h9.mono (ext_new hp)⟩ q
    · rw [← e1]; exact upd_same
    · simp
end
end LC

set_option Elab.async false
set_option linter.all false
set_option maxRecDepth 100000
set_option maxHeartbeats 5000000
/-! LD70: drawn houses: a row of paintings, and who is put up when. -/
namespace LC
open PySem PySem.Spec
open PyProof.Rows L2
/-- a comprehension with a test, over a list of things -/
theorem lc_fmap {α : Type} (f : α → D) (b : α → Bool) (g : α → D) {l : List α} {t : Tgt} {qt : QT} {qe : QE} {vs : List Nat} {s : Sl} {Q : List D → Prop} {xs : List D} {keep : List O → Prop} {S1 : List O} (hx : xs = l.map f) (hl : l.length < sizeLine) (hk : ∀ acc, keep (S1 ++ [.lst acc]))
    (st : ∀ (i : Nat) (x : α) (acc : List D), l[i]? = some x → ∃ s2, stT t (f x) (wipeD s vs) = some s2 ∧ D.lt S1.length (g x) ∧ (∀ R : Bool → List O → Prop, R (b x) (S1 ++ [.lst acc]) → qt s2 (S1 ++ [.lst acc]) R) ∧ (b x = true → ∀ R : D → List O → Prop, R (g x) (S1 ++ [.lst acc]) → qe s2 (S1 ++ [.lst acc]) R))
    (q : Q ((l.filter b).map g)) : lcV t qt qe vs s Q xs keep S1 := by
  subst hx
  refine ⟨fun i acc => acc = ((l.take i).filter b).map g, rfl, hk, by rw [List.length_map]; exact hl, ?_, fun acc h _ => by rw [h, List.length_map, List.take_length]; exact q⟩
  rintro i x acc hi _ rfl
  obtain ⟨y, hy, rfl⟩ := map_at hi
  obtain ⟨s2, h1, h2, h3, h4⟩ := st i y (((l.take i).filter b).map g) hy
  refine ⟨s2, h1, h3 _ ⟨rfl, ?_⟩⟩
  cases hb : b y with
  | true =>
    refine h4 hb _ ⟨rfl, h2, ?_⟩
    rw [take_snoc hy, List.filter_append, List.map_append]
    simp [hb]
  | false =>
    show ((l.take i).filter b).map g = _
    rw [take_snoc hy, List.filter_append, List.map_append]
    simp [hb]
theorem enumD_zip {α : Type} {f : α → D} {k : Int} {l : List α} : enumD k (l.map f) = l.zipIdx.map fun e => .tup [.int (k + (e.2 : Nat)), f e.1] := by
  unfold enumD
  refine List.ext_getElem (by simp) fun i h1 h2 => ?_
  simp
theorem flats_ints (ns : List Int) : (ns.map D.int).all D.flat = true := by
  rw [List.all_map, List.all_eq_true]
  intro z _
  rfl
theorem any_ints (ns : List Int) (p : Int) : ((ns.map D.int).any fun y => y.feq (.int p)) = decide (p ∈ ns) := by
  rw [List.any_map, Bool.eq_iff_iff, List.any_eq_true, decide_eq_true_iff]
  constructor
  · rintro ⟨z, hz, e⟩
    have e : (z == p) = true := e
    rw [← beq_iff_eq.mp e]; exact hz
  · intro h
    exact ⟨p, h, beq_self_eq_true p⟩
/-- counts of parts, in the parts' order -/
def tblC (ps : List Int) (f : Int → Int) : Cnt := ps.map fun p => (p, f p)
theorem getC_tbl {ps : List Int} {f : Int → Int} {p : Int} (h : p ∈ ps) : getC (tblC ps f) p = f p := by
  unfold getC tblC
  induction ps with
  | nil => exact absurd h List.not_mem_nil
  | cons x r ih =>
    by_cases hx : x = p
    · subst hx; simp
    · have hr : p ∈ r := by
        rcases List.mem_cons.mp h with e | e
        · exact absurd e.symm hx
        · exact e
      have := ih hr
      simpa [hx] using this
theorem putC_tbl {ps : List Int} {f : Int → Int} {p c : Int} (h : p ∈ ps) : putC (tblC ps f) p c = tblC ps fun q => if q = p then c else f q := by
  unfold putC tblC
  have : ((ps.map fun p => (p, f p)).any fun x => decide (x.1 = p)) = true := by
    rw [List.any_map, List.any_eq_true]
    exact ⟨p, h, decide_eq_true rfl⟩
  rw [if_pos this, List.map_map]
  refine List.map_congr_left fun q _ => ?_
  show (if q = p then (q, c) else (q, f q)) = _
  by_cases hq : q = p <;> simp [hq]
theorem valD_tbl {ps : List Int} {f : Int → Int} {p : Int} (h : p ∈ ps) : valD (tblC ps f).d (.inl p) = some (.int (f p)) := by
  have h1 := valD_C (tblC ps f) p
  have h2 := getD_C (tblC ps f) p
  rw [getC_tbl h] at h2
  cases e : valD (tblC ps f).d (.inl p) with
  | none =>
    rw [e] at h1
    have h3 : ((tblC ps f).find? fun x => decide (x.1 = p)) = none := by
      cases e2 : (tblC ps f).find? fun x => decide (x.1 = p) with
      | none => rfl
      | some x => rw [e2] at h1; cases h1
    have := List.find?_eq_none.mp h3 (p, f p) (List.mem_map.mpr ⟨p, h, rfl⟩)
    simp at this
  | some x => rw [e] at h2; exact congrArg some h2
theorem mergeD_tbl {ps : List Int} (hd : ps.Nodup) : mergeD [] (ps.map fun p => ((Sum.inl p : Key), D.int 0)) = (tblC ps fun _ => 0).d := by
  have gen : ∀ (l acc : List Int), (acc ++ l).Nodup → (l.map fun p => ((Sum.inl p : Key), D.int 0)).foldl (fun a p => putE a p.1 p.2) (tblC acc fun _ => 0).d = (tblC (acc ++ l) fun _ => 0).d := by
    intro l
    induction l with
    | nil => intro acc _; rw [List.append_nil]; rfl
    | cons x r ih =>
      intro acc h
      have hx : x ∉ acc := fun hm => (List.nodup_append.mp h).2.2 x hm x List.mem_cons_self rfl
      rw [List.map_cons, List.foldl_cons]
      have e : putE (tblC acc fun _ => 0).d (.inl x) (D.int 0) = (tblC (acc ++ [x]) fun _ => 0).d := by
        rw [putE_C]
        unfold putC
        have : ¬ ((tblC acc fun _ => 0).any fun y => decide (y.1 = x)) = true := by
          intro h
          obtain ⟨y, hy, e⟩ := List.any_eq_true.mp h
          obtain ⟨z, hz, rfl⟩ := List.mem_map.mp hy
          exact hx ((of_decide_eq_true e) ▸ hz)
        rw [if_neg this]
        unfold tblC
        rw [List.map_append]; rfl
      show (r.map _).foldl _ (putE _ _ _) = _
      rw [e, ih (acc ++ [x]) (by rw [List.append_assoc]; exact h), List.append_assoc]
      rfl
  exact gen ps [] hd
structure Ev where
  y : Int
  s : Int
  ps : List Int
def Ev.d (e : Ev) : D := .tup [.int e.y, .int e.s, .tup (e.ps.map D.int)]
theorem Ev.lt {e : Ev} {n : Nat} : D.lt n e.d := ⟨trivial, trivial, D.lts_ints _, trivial⟩
theorem evs_lt {n : Nat} : ∀ l : List Ev, D.lts n (l.map Ev.d)
  | [] => trivial
  | _ :: r => ⟨Ev.lt, evs_lt r⟩
theorem itDs_lt {n : Nat} : ∀ l : List (List Int), D.lts n (l.map itD)
  | [] => trivial
  | _ :: r => ⟨D.lts_ints _, itDs_lt r⟩
theorem prs_lt {n : Nat} : ∀ l : List (Int × Int), D.lts n (l.map pr)
  | [] => trivial
  | _ :: r => ⟨⟨trivial, trivial, trivial⟩, prs_lt r⟩
theorem units65 {k : Nat} {A : Around} (r : Room k A) : A.units + 65 < cLine := by have := r.un; omega
theorem prs_pl {n : Nat} : ∀ l : List (Int × Int), D.pls (l.map pr) (n + 1)
  | [] => trivial
  | _ :: r => ⟨⟨trivial, trivial, trivial⟩, prs_pl r⟩
theorem any_prs (cs : List (Int × Int)) (p c : Int) : ((cs.map pr).any fun y => D.eqd y (.tup [.int p, .int c])) = decide ((p, c) ∈ cs) := by
  rw [List.any_map, Bool.eq_iff_iff, List.any_eq_true, decide_eq_true_iff]
  constructor
  · rintro ⟨z, hz, e⟩
    have e : ((z.1 == p) && ((z.2 == c) && true)) = true := e
    rw [Bool.and_true, Bool.and_eq_true] at e
    have e1 := beq_iff_eq.mp e.1
    have e2 := beq_iff_eq.mp e.2
    have : z = (p, c) := Prod.ext e1 e2
    rw [← this]; exact hz
  · intro h
    refine ⟨(p, c), h, ?_⟩
    show ((p == p) && ((c == c) && true)) = true
    simp
theorem eqds_nil0 (l : List D) : D.eqds l [] = decide (l = []) := by cases l <;> rfl
/-- the paintings of a part -/
def hadL (row : List Ev) (p : Int) : Nat := (row.filter fun e => decide (p ∈ e.ps)).length
theorem hadL_le {row : List Ev} {p : Int} : hadL row p ≤ row.length := List.length_filter_le _ _
theorem hadL_snoc {row : List Ev} {e : Ev} {p : Int} : hadL (row ++ [e]) p = hadL row p + if p ∈ e.ps then 1 else 0 := by
  unfold hadL
  rw [List.filter_append, List.length_append]
  by_cases h : p ∈ e.ps <;> simp [h]
theorem hadL_take {row : List Ev} {p : Int} (k : Nat) : hadL (row.take k) p ≤ hadL row p := by
  unfold hadL
  exact List.Sublist.length_le (List.Sublist.filter _ (List.take_sublist k row))
structure EvOk (ps : List Int) (e : Ev) : Prop where
  y0 : 0 ≤ e.y
  y1 : e.y ≤ 999
  s0 : 1 ≤ e.s
  s1 : e.s ≤ 6
  ne : e.ps ≠ []
  sub : ∀ p ∈ e.ps, p ∈ ps
  len : e.ps.length ≤ 4
structure PsOk (ps : List Int) : Prop where
  ne : ps ≠ []
  nd : ps.Nodup
  len : ps.length ≤ 4
  b : ∀ p ∈ ps, 1 ≤ p ∧ p ≤ 4
structure Wld where
  ps : List Int
  row : List Ev
  ups : List (List Int)
def Wld.d (w : Wld) : D := .tup [.lst (w.ps.map D.int), .lst (w.row.map Ev.d), .lst (w.ups.map itD)]
theorem Wld.lt {w : Wld} {n : Nat} : D.lt n w.d := ⟨D.lts_ints _, evs_lt _, itDs_lt _, trivial⟩
structure Wld.ok (w : Wld) (m : Int) : Prop where
  ps : PsOk w.ps
  m1 : 1 ≤ m
  m5 : m ≤ 5
  len : w.row.length ≤ 13
  row : ∀ e ∈ w.row, EvOk w.ps e
  had : ∀ p ∈ w.ps, (hadL w.row p : Int) ≤ m
  ups : ∃ us : List (Int × Int × Int), w.ups = us.map (fun u => [u.1, u.2.1, u.2.2]) ∧ (us.map (·.2.2)).Perm w.ps ∧ ∀ u ∈ us, 0 ≤ u.1 ∧ u.1 ≤ w.row.length
theorem RwF {Q : D → Prop} {f : Fc} {S : List O} (q : Q f.d) : RtW Q f.d (.drw :: S) := Rw q Fc.lt
/-- where a part's coats are painted -/
def spotsL (row : List Ev) (p : Int) : List Nat := (row.zipIdx.filter fun e => decide (p ∈ e.1.ps)).map (·.2)
theorem spotsL_len {row : List Ev} {p : Int} : (spotsL row p).length = hadL row p := by
  unfold spotsL hadL
  rw [List.length_map]
  have : ∀ (l : List Ev) (k : Nat), ((l.zipIdx k).filter fun e => decide (p ∈ e.1.ps)).length = (l.filter fun e => decide (p ∈ e.ps)).length := by
    intro l
    induction l with
    | nil => intro k; rfl
    | cons x r ih =>
      intro k
      rw [List.zipIdx_cons, List.filter_cons, List.filter_cons]
      by_cases h : p ∈ x.ps
      · simp [h, ih (k + 1)]
      · simp [h, ih (k + 1)]
  exact this row 0
theorem spotsL_at {row : List Ev} {p : Int} {i n : Nat} (h : (spotsL row p)[i]? = some n) : ∃ e, row[n]? = some e ∧ p ∈ e.ps := by
  have hm := List.mem_of_getElem? h
  unfold spotsL at hm
  obtain ⟨x, hx, rfl⟩ := List.mem_map.mp hm
  obtain ⟨hx1, hx2⟩ := List.mem_filter.mp hx
  refine ⟨x.1, ?_, of_decide_eq_true hx2⟩
  have := List.mem_zipIdx hx1
  have h2 := this.2.2
  have h1 := this.2.1
  simp at h2 h1
  rw [h2]
  exact List.getElem?_eq_getElem (by simpa using h1)
end LC

set_option Elab.async false
set_option linter.all false
set_option maxRecDepth 100000
set_option maxHeartbeats 5000000
/-! LD71: t + u of tuples, the first one empty too; stands. -/
namespace LC
open PySem PySem.Spec
open PyProof.Rows L2
section
variable {X : Cx} {B : Bs}
end
/-- what findings show is bounded -/
theorem good_shown {ps : List Int} {m : Int} {f : Fc} (h : f.good ps m) (hm : 1 ≤ m) : ∀ x ∈ f.shown, x.2 ≤ m := by
  cases f with
  | scrape p c sh => obtain ⟨_, _, _, h4, _⟩ := h; intro x hx; simp only [Fc.shown, List.mem_cons, List.not_mem_nil, or_false] at hx; subst hx; exact h4
  | cover p l d => obtain ⟨_, _, _, _, h5⟩ := h; intro x hx; simp only [Fc.shown, List.mem_cons, List.not_mem_nil, or_false] at hx; rcases hx with rfl | rfl; exact (by omega : (0 : Int) ≤ m); exact h5
  | moved p c l d => obtain ⟨_, _, h3, _, _, _, h7⟩ := h; intro x hx; simp only [Fc.shown, List.mem_cons, List.not_mem_nil, or_false] at hx; rcases hx with rfl | rfl; exact h3; exact h7
  | year p c a l => obtain ⟨_, _, h3, _⟩ := h; intro x hx; simp only [Fc.shown, List.mem_cons, List.not_mem_nil, or_false] at hx; subst hx; exact (by omega : c + 1 ≤ m)
  | sold s y => intro x hx; simp [Fc.shown] at hx
  | ahead p c o d => obtain ⟨_, _, h3, _, _, h6, _⟩ := h; intro x hx; simp only [Fc.shown, List.mem_cons, List.not_mem_nil, or_false] at hx; rcases hx with rfl | rfl; exact (by omega : c + 1 ≤ m); exact (by omega : d + 1 ≤ m)
  | same p c o d => obtain ⟨_, _, h3, _, _, h6, _⟩ := h; intro x hx; simp only [Fc.shown, List.mem_cons, List.not_mem_nil, or_false] at hx; rcases hx with rfl | rfl; exact (by omega : c + 1 ≤ m); exact (by omega : d + 1 ≤ m)
  | apart p c o d => obtain ⟨_, _, h3, _, _, h6, _⟩ := h; intro x hx; simp only [Fc.shown, List.mem_cons, List.not_mem_nil, or_false] at hx; rcases hx with rfl | rfl; exact (by omega : c + 1 ≤ m); exact (by omega : d + 1 ≤ m)
theorem getC_bd {M : Int} {c : Cnt} (hM : 0 ≤ M) (h : ∀ x ∈ c, 0 ≤ x.2 ∧ x.2 ≤ M) (p : Int) : 0 ≤ getC c p ∧ getC c p ≤ M := by
  unfold getC
  cases e : c.find? fun x => decide (x.1 = p) with
  | none => exact ⟨Int.le_refl _, hM⟩
  | some x => exact h x (List.mem_of_find?_eq_some e)
theorem putC_bd {M : Int} {c : Cnt} (h : ∀ x ∈ c, 0 ≤ x.2 ∧ x.2 ≤ M) {p v : Int} (hv : 0 ≤ v ∧ v ≤ M) : ∀ x ∈ putC c p v, 0 ≤ x.2 ∧ x.2 ≤ M := by
  unfold putC
  split
  · intro x hx
    obtain ⟨y, hy, rfl⟩ := List.mem_map.mp hx
    split
    · exact hv
    · exact h y hy
  · intro x hx
    rcases List.mem_append.mp hx with hx | hx
    · exact h x hx
    · rw [List.mem_singleton.mp hx]; exact hv
theorem sizesC_bd {M : Int} (hM : 0 ≤ M) {fs : List Fc} (h : ∀ f ∈ fs, ∀ x ∈ f.shown, x.2 ≤ M) : ∀ x ∈ sizesC fs, 0 ≤ x.2 ∧ x.2 ≤ M := by
  have gen : ∀ (l : List (Int × Int)) (c : Cnt), (∀ x ∈ l, x.2 ≤ M) → (∀ x ∈ c, 0 ≤ x.2 ∧ x.2 ≤ M) → ∀ x ∈ l.foldl addC c, 0 ≤ x.2 ∧ x.2 ≤ M := by
    intro l
    induction l with
    | nil => intro c _ h; exact h
    | cons y r ih =>
      intro c hl hc
      rw [List.foldl_cons]
      refine ih _ (fun x hx => hl x (List.mem_cons_of_mem _ hx)) ?_
      have h1 := getC_bd hM hc y.1
      have h2 := hl y List.mem_cons_self
      exact putC_bd hc ⟨by omega, by omega⟩
  refine gen _ [] (fun x hx => ?_) (fun x hx => absurd hx List.not_mem_nil)
  obtain ⟨f, hf, hx⟩ := List.mem_flatMap.mp hx
  exact h f hf x hx
theorem fullC_bd {M : Int} (hM : 0 ≤ M) {fs : List Fc} (h : ∀ f ∈ fs, ∀ x ∈ f.shown, x.2 ≤ M) : ∀ z ∈ fullC fs, 0 ≤ z ∧ z ≤ M := by
  intro z hz
  obtain ⟨p, _, rfl⟩ := List.mem_map.mp hz
  exact getC_bd hM (sizesC_bd hM h) p
end LC

set_option Elab.async false
set_option linter.all false
set_option maxRecDepth 100000
set_option maxHeartbeats 5000000
/-! LD72: dicts by tuples of plain keys. -/
namespace LC
open PySem PySem.Spec
open PyProof.Rows L2
/-- a tuple as a key -/
def keyT : D → Option (List Key)
  | .tup xs => keysD xs
  | _ => none
theorem keysT_ok {K : PySem.W.Frag} {φ : Ph} {H : Hp} : ∀ {ds : List D} {ks : List Key} {vs : List V}, keysD ds = some ks → RVs K φ H ds vs → vs = ks.map kV
  | [], _, _, h, r => by cases h; cases r; rfl
  | d :: ds, ks, _, h, ⟨v, ws, e, r1, r2⟩ => by
    subst e
    unfold keysD at h
    cases e1 : keyD d with
    | none => rw [e1] at h; simp at h
    | some k =>
      cases e2 : keysD ds with
      | none => rw [e1, e2] at h; simp at h
      | some kr =>
        rw [e1, e2] at h
        simp at h
        subst h
        rw [keyD_ok e1 r1, keysT_ok e2 r2]; rfl
theorem keyT_ok {K : PySem.W.Frag} {φ : Ph} {H : Hp} {d : D} {ks : List Key} {v : V} (h : keyT d = some ks) (r : RV K φ H d v) : ∃ b, v = .ref b ∧ H b = some (.tup (ks.map kV)) := by
  unfold keyT at h
  split at h
  · obtain ⟨p, vs, rfl, h1, h2⟩ := r
    rw [keysT_ok h h2] at h1
    exact ⟨p, rfl, h1⟩
  · cases h
def dtOf (S : List O) (d : D) : Option (List (List Key × D)) := match d with
  | .dT ks xs => some (ks.zip xs)
  | .ref k => match S[k]? with
    | some (.dT l) => some l
    | _ => none
  | _ => none
def dtM (S : List O) (d : D) : Option (Nat × List (List Key × D)) := match d with
  | .ref k => match S[k]? with
    | some (.dT l) => some (k, l)
    | _ => none
  | _ => none
section
variable {X : Cx} {B : Bs} {φ : Ph} {H : Hp} {S : List O}
theorem HR.dt {d : D} {v : V} {l : List (List Key × D)} (hr : HR X.K B φ H S) (h : dtOf S d = some l) (r : RV X.K φ H d v) : ∃ a g, v = .ref a ∧ H a = some (.dT g) ∧ RKV X.K φ H l g := by
  cases d with
  | dT ks xs => cases h; obtain ⟨p, vs, rfl, _, h1, h2, h3⟩ := r; exact ⟨p, _, rfl, h1, h3.zip h2⟩
  | ref k =>
    obtain ⟨a, ea, rfl⟩ := r
    simp only [dtOf] at h
    split at h
    · rename_i l' e
      cases h
      obtain ⟨b, eb, g, h1, h2⟩ := hr.rel.ob k _ e
      rw [ea] at eb; cases eb
      exact ⟨a, g, rfl, h1, h2⟩
    · cases h
  | _ => cases h
theorem HR.dtW {d : D} {v : V} {k : Nat} {l : List (List Key × D)} (hr : HR X.K B φ H S) (h : dtM S d = some (k, l)) (r : RV X.K φ H d v) : d = .ref k ∧ S[k]? = some (.dT l) ∧ ∃ a g, v = .ref a ∧ φ.own[k]? = some a ∧ H a = some (.dT g) ∧ RKV X.K φ H l g := by
  cases d with
  | ref j =>
    obtain ⟨a, ea, rfl⟩ := r
    simp only [dtM] at h
    split at h
    · rename_i l' e
      cases h
      obtain ⟨b, eb, g, h1, h2⟩ := hr.rel.ob k _ e
      rw [ea] at eb; cases eb
      exact ⟨rfl, e, a, g, rfl, ea, h1, h2⟩
    · cases h
  | _ => cases h
end
section
variable {X : Cx} {B : Bs} {o e f : Expr} {qo qe qf : QE} {pos apos cpos : Pos}
/-- {} that gets tuples as keys -/
def qDNewT : QE := fun _ S Q => Q (.ref S.length) (S ++ [.dT []])
theorem le_dnewT : LE X B (.Dict [] [] pos) qDNewT := PE.imp pe_dnewT fun σ H Q ⟨φ, s, S, Q', hr, ev, q, k⟩ p hp => k.new (x := .dT []) hr hp ⟨[], upd_same, rfl⟩ q
/-- d.get(t, x) -/
def qTGet2 (qo qe qf : QE) : QE := fun s S Q => qo s S fun d S1 => Need ((dtOf S1 d).isSome = true) (qe s S1 fun y S2 => qf s S2 fun z S3 => Opt (keyT y) fun k => Opt (dtOf S3 d) fun l => Q ((valD l k).getD z) S3)
theorem le_tget2 (hu : X.A.units + 1 < cLine) (ho : LE X B o qo) (he : LE X B e qe) (hf : LE X B f qf)
    (mm : M2 X o "get" apos e f cpos := by exact ⟨rfl, rfl, rfl, rfl⟩) : LE X B (.Call (.Attribute o "get" apos) [e, f] [] cpos) (qTGet2 qo qe qf) := PE.imp (pe_dget2 hu ho he hf mm) fun σ H Q ⟨φ, s, S, Q', hr, ev, q, k⟩ =>
  ⟨φ, s, S, _, hr, ev, q, fun φ1 d S1 v H1 e1 hr1 r1 q1 => by
    obtain ⟨l0, h0⟩ := Option.isSome_iff_exists.mp q1.c
    obtain ⟨a, g, rfl, h1, _⟩ := hr1.dt h0 r1
    refine ⟨a, rfl, .inr ⟨g, .inl h1⟩, φ1, s, S1, _, hr1, ev.mono e1, q1.q, fun φ2 y S2 w H2 e2 hr2 r2 q2 => ⟨φ2, s, S2, _, hr2, ev.mono (e1.trans e2), q2, fun φ3 z S3 u H3 e3 hr3 r3 q3 => ?_⟩⟩
    obtain ⟨kk, h4, q4⟩ := q3.get
    obtain ⟨l, h5, q5⟩ := q4.get
    obtain ⟨a', g', e6, h6, h7⟩ := hr3.dt h5 (r1.mono (e2.trans e3))
    cases e6
    obtain ⟨b, rfl, hb⟩ := keyT_ok h4 (r2.mono e3)
    refine ⟨_, .inr ⟨g', kk, b, .inl h6, rfl, hb, rfl⟩, ?_⟩
    have hv := RKV.val kk h7
    cases hd : valD l kk with
    | some d0 =>
      rw [hd] at hv q5
      obtain ⟨v0, h8, h9⟩ := hv
      rw [h8]
      exact (k.ext (e1.trans (e2.trans e3))).here hr3 h9 q5
    | none =>
      rw [hd] at hv q5
      rw [hv]
      exact (k.ext (e1.trans (e2.trans e3))).here hr3 r3 q5⟩
/-- d[t] = x -/
def otDictT : QSt := fun o i d S Q => Opt (dtM S o) fun p => Opt (keyT i) fun k => Need (p.2.length < sizeLine) (Q (S.set p.1 (.dT (putE p.2 k d))))
theorem st_dictT (hu : X.A.units + 1 < cLine) : PSet X (upSet X.K B otDictT) := PSet.imp (set_dict hu) fun o i v H Q ⟨φ, S, d1, d2, d3, Q', hr, r1, r2, r3, q, k⟩ => by
  obtain ⟨⟨j, l⟩, h1, q1⟩ := Opt.get q
  obtain ⟨kk, h2, q2⟩ := q1.get
  obtain ⟨rfl, hS, a, g, rfl, ea, h3, h4⟩ := hr.dtW h1 r1
  obtain ⟨b, rfl, hb⟩ := keyT_ok h2 r2
  obtain ⟨e, hr'⟩ := hr.write (o := .dT (putK g kk v)) (x := O.dT l) (y := O.dT (putE l kk d3)) hS rfl ea fun e => ⟨_, upd_same, (h4.dput kk r3).mono e⟩
  exact ⟨a, _, rfl, .inr ⟨g, kk, b, h3, rfl, hb, by rw [h4.len]; exact q2.c, rfl⟩, k _ _ _ e hr' q2.q⟩
end
end LC

set_option Elab.async false
set_option linter.all false
set_option maxRecDepth 100000
set_option maxHeartbeats 5000000
/-! LD73: sorted(set(l)) of a list of ints. -/
namespace LC
open PySem PySem.Spec
open PyProof.Rows L2
section
variable {P : Program} {w : World} {A : Around} {E : Value → Shared → Prop} {s : Shared}
/-- a set with nothing in it -/
abbrev bareSet (w : World) : Obj :=
  { cls := .type "set", dict := none, data := .set #[] 0 (.fresh 0 0 (!w.params.followText "set-order")) }
theorem met_at {its : Array Value} {ns : List Int} (r : IntsAre its.toList ns) : ∀ (i : Nat) (v : Value), its[i]? = some v → ∃ k t, ns[i]? = some k ∧ v = Value.int k t := fun i v e => by
  have n : its.size = ns.length := (Array.length_toList ..).symm.trans (IntsAre.length r)
  have lt : i < ns.length := n ▸ (Array.getElem?_eq_some_iff.mp e).1
  obtain ⟨t, q⟩ := PyProof.Rows.IntsAre.int_at r i v (by rw [Array.getElem?_toList]; exact e)
  exact ⟨ns[i], t, List.getElem?_eq_getElem lt, by rw [q, List.getD_eq_getElem?_getD, List.getElem?_eq_getElem lt] <;> rfl⟩
/-- what the filling leaves -/
def Filled (w : World) (s : Shared) (S : Addr) (ns : List Int) : Value → Shared → Prop := fun v t =>
  v = .none ∧ ∃ h' tk c, t = { s with heap := h', toks := tk } ∧ SetR w h' S (fun j => decide (j ∈ ns)) c ∧ c ≤ ns.length ∧ ∀ b o, b ≠ S → s.heap.get? b = some o → h'.get? b = some o
set_option maxHeartbeats 3200000 in
theorem set_fill {S l : Addr} {its : Array Value} (ns : List Int) (hh : A.in1.in1.handled = none) (hS : s.heap.get? S = some (bareSet w)) (hl : s.heap.IsList l its) (ne : l ≠ S) (r : IntsAre its.toList ns) (hb : ns.length + 1 < scanBound) :
    codeAny (model P w) A (.call (.builtin "set.__init__") ⟨[.ref S, .ref l], []⟩) (wants (Filled w s S ns) E) s := by
  have hT : s.TypeIs (.ref S) "set" := ⟨_, hS, rfl⟩
  have sz : its.size = ns.length := (Array.length_toList ..).symm.trans (IntsAre.length r)
  refine codeAny_call_builtin (R := wants (Filled w s S ns) E) F.called_set.init.plain F.entry_set_init (check_set_init_1 hT ?_)
  have hl0 := hl
  obtain ⟨⟨oc, od, _, os⟩, hol, rfl, nl, rfl⟩ := hl
  have f1 := F.sub_list_set
  have f2 := F.sub_list_frozenset
  have f3 : (Value.type "list" == Value.type "dict") = false := by decide
  unfold Builtin.«set.__init__» noKeywords Builtin.Frozenset.updateFrom
  generalize hPI : pyIter = PI
  wp_walk
  subst hPI
  refine wpAny_pyIter_list hl0 ?_
  refine wpAny_bind (wpAny_runValue ?_)
  have ll : l < s.heap.objs.size := Heap.lt_size hol
  have lS : S < s.heap.objs.size := Heap.lt_size hS
  refine set_update_ints ((Walks.list hh _ l (Nat.ne_of_lt ll) its).toS) S (fun z => ?_) ns sz hb (met_at r) (its.size - 0) 0 _ (by omega) (Nat.zero_le _) ?_ ?_ ?_
  · rcases List.mem_cons.mp z with z | z
    · exact absurd z (Nat.ne_of_lt lS)
    · exact ne (List.mem_singleton.mp z).symm
  · exact ⟨⟨_, Heap.get?_push_size _ rfl, rfl, rfl⟩, hl0.push _⟩
  · exact ⟨0, Nat.le_refl 0, setR_new_at (Heap.get?_push_of_some _ hS)⟩
  · intro t c mv hc R
    obtain ⟨h', g2, d', tk', os'⟩ := t
    have z1 : g2 = s.gens := mv.gens
    have z2 : d' = s.drawn := mv.drawn
    have z3 : os' = s.os := mv.os
    subst z1 z2 z3
    show wpAny _ _ _ _ _ _
    refine wpAny_pure ?_
    show wpAny _ _ (ret Value.none) _ _ _
    refine wpAny_pure ⟨rfl, h', tk', c, rfl, R, by omega, fun b o nb e => ?_⟩
    have lb : b < s.heap.objs.size := Heap.lt_size e
    refine mv.heap b o (fun z => ?_) (Heap.get?_push_of_some _ e)
    rcases List.mem_cons.mp z with z | z
    · exact nb z
    · exact absurd (List.mem_singleton.mp z) (Nat.ne_of_lt lb)
set_option maxHeartbeats 3200000 in
theorem set_of_ints {l : Addr} {its : Array Value} (ns : List Int) {Q : Value → Shared → Prop} (hh : A.handled = none) (hl : s.heap.IsList l its) (r : IntsAre its.toList ns) (hb : ns.length + 1 < scanBound)
    (q : ∀ (h' : Heap) (tk c : Nat), SetR w h' s.heap.objs.size (fun j => decide (j ∈ ns)) c → c ≤ ns.length → (∀ b o, s.heap.get? b = some o → h'.get? b = some o) → Q (.ref s.heap.objs.size) { s with heap := h', toks := tk }) :
    wpAny (model P w) A (call (.type "set") [.ref l]) Q E s := by
  obtain ⟨c, tl, hmro⟩ := F.called_set.mro
  have m1 := F.called_set.made
  have m2 := F.called_set.sub
  refine wpAny_call (codeAny_of_tree ?_)
  show wpAny _ _ (callAny (.type "set") _) _ _ _
  refine wpAny_pure ⟨Code.quiet_builtin _ (by decide +kernel), codeAny_builtin F.entry_type_call ?_⟩
  rw [Around.under_plain (weight_type_call_type "set" [.ref l] []) rfl]
  have m3 := F.called_set.notType
  have m4 := F.called_set.canCreate
  have m5 := F.typeCall_set_1 (.ref l)
  repeat (any_goals (first | assumption | wp_step))
  refine codeAny_mono (code_set_led1 (.ref l) (E := E) (Q₁ := fun z t => z = .ref s.heap.objs.size ∧ t = { s with heap := s.heap.push (bareSet w) }) ⟨rfl, rfl⟩) fun x t hx => ?_
  cases x with
  | error e => exact hx
  | ok x =>
    cases x with
    | ret z =>
      obtain ⟨rfl, rfl⟩ := hx
      have hS : (s.heap.push (bareSet w)).get? s.heap.objs.size = some (bareSet w) := Heap.get?_push_size _ rfl
      have hT : Shared.TypeIs { s with heap := s.heap.push (bareSet w) } (.ref s.heap.objs.size) "set" := ⟨_, hS, rfl⟩
      have m6 := F.called_set.init.lookup
      have m7 := F.called_set.init.bind (.ref s.heap.objs.size)
      have ll : l < s.heap.objs.size := let ⟨_, e, _⟩ := hl; Heap.lt_size e
      repeat (any_goals (first | assumption | wp_step))
      refine codeAny_mono (set_fill (E := E) (s := { s with heap := s.heap.push (bareSet w) }) (l := l) ns (by simp [hh]) hS (hl.push _) (Nat.ne_of_lt ll) r hb) fun y t2 hy => ?_
      cases y with
      | error e => exact hy
      | ok y =>
        cases y with
        | ret z2 =>
          obtain ⟨rfl, h', tk, c', rfl, R, hc, hk⟩ := hy
          repeat (any_goals (first | assumption | wp_step))
          exact q _ _ _ R hc fun b o e => hk b o (Nat.ne_of_lt (Heap.lt_size e)) (Heap.get?_push_of_some _ e)
        | _ => exact hy.elim
    | _ => exact hx.elim
end
section
variable {X : Cx} {B : Bs} {e f : Expr} {qe qf : QE} {pos p1 p2 pos2 kpos : Pos}
theorem call_setL (hc : X.calm = true) : CallR X (.type "set") (fun xs H Q => ∃ (p : Addr) (ns : List Int), xs = [.ref p] ∧ SqL X.K H p (ns.map V.int) ∧ ns.length < 64 ∧ ∀ q c, H q = none → c ≤ ns.length → Q (.ref q) (upd H q (SetO X.w q (fun j => decide (j ∈ ns)) c))) := by
  intro pins s σ H xs us Q I r h
  obtain ⟨p, ns, rfl, hq, hb, q⟩ := h
  obtain ⟨u, rfl, rx⟩ := vals1 r
  cases rx
  obtain ⟨its, r', pl, hz⟩ := I.list hq
  refine set_of_ints ns (I.ok.hd hc) pl.isList (by rw [List.toList_toArray]; exact ints_of_vals r') (Nat.lt_of_le_of_lt (Nat.succ_le_of_lt hb) (by decide)) fun h' tk c R hc k => ?_
  exact ⟨.ref _, _, I.laid (t' := tk) (fun b u e => k b u e) (Nat.le_refl _) (setO_new R), rfl, q _ c (I.hok.fresh (Nat.le_refl _)) hc⟩
/-- sorted(set(l)) -/
def qSortSet (mu : Bool) (qe : QE) : QE := fun s S Q => qe s S fun d S1 => Opt (lsOf S1 d) fun xs => Opt (asIs xs) fun ns => Need (ns.length < 64) (∀ m : List Int, m.Pairwise (· < ·) → (∀ z, z ∈ m ↔ z ∈ ns) →
  if mu = true then Q (.ref S1.length) (S1 ++ [.lst (m.map D.int)]) else Q (.lst (m.map D.int)) S1)
theorem le_sortSet (mu : Bool) (hc : X.calm = true) (g1 : Gl X "sorted") (m1 : X.mg "sorted" = none) (g2 : Gl X "set") (m2 : X.mg "set" = none) (v1 : bootBuiltins "sorted" = some (.builtin "sorted")) (v2 : bootBuiltins "set" = some (.type "set")) (ha : LE X B e qe)
    (he : starEach [e] X.env = (false, eval e X.env) :: starEach [] X.env := by rfl) (hpl : (backTo pos2 (starEach [] X.env)).any (·.1) = false := by rfl) : LE X B (.Call (.Name "sorted" p1) [.Call (.Name "set" p2) [e] [] pos2] [] pos) (qSortSet mu qe) :=
  PE.imp (pe_callB (cr_sortedSet hc) g1 m1 v1 (pa_cons (pe_callTy (call_setL hc) g2 m2 v2 (pa_cons ha pa_nil he) (by decide) (by decide) he hpl) pa_nil)) fun σ H Q ⟨φ, s, S, Q', hr, ev, q, k⟩ =>
  ⟨φ, s, S, _, hr, ev, q, fun φ1 d S1 v H1 e1 hr1 r1 q1 => by
    obtain ⟨xs, h1, q1⟩ := q1.get
    obtain ⟨ns, h2, h64, q1⟩ := q1.get
    obtain ⟨p, vs, rfl, h3, h4⟩ := hr1.ls h1 r1
    have h5 := asIs_ok h2 h4
    subst h5
    refine ⟨p, ns, rfl, .inl (.inl h3), h64, fun a c hp hcn => ⟨a, _, c, rfl, upd_same, Nat.lt_of_le_of_lt hcn h64, fun ms p2 a1 a2 a3 hp2 => ?_⟩⟩
    have q2 := q1 ms a1 fun z => by rw [a2]; exact decide_eq_true_iff
    cases mu with
    | true => rw [if_pos rfl] at q2; exact (k.ext (e1.trans (ext_new hp))).lstM (hr1.fix hp) hp2 .ofInts q2
    | false => rw [if_neg Bool.false_ne_true] at q2; exact (k.ext (e1.trans (ext_new hp))).lst (hr1.fix hp) hp2 .ofInts q2⟩
theorem maxOf_is : ∀ (l : List Int) (x : Int), PySem.W.maxOf x l ∈ x :: l ∧ ∀ z ∈ x :: l, z ≤ PySem.W.maxOf x l
  | [], x => ⟨List.mem_cons_self, fun z hz => by rw [List.mem_singleton.mp hz]; exact Int.le_refl _⟩
  | y :: l, x => by
    have e : PySem.W.maxOf x (y :: l) = PySem.W.maxOf (if decide (x < y) = true then y else x) l := rfl
    rw [e]
    obtain ⟨h1, h2⟩ := maxOf_is l (if decide (x < y) = true then y else x)
    have hx := h2 _ List.mem_cons_self
    by_cases hyx : x < y
    · rw [if_pos (by rw [decide_eq_true hyx])] at h1 h2 hx ⊢
      refine ⟨List.mem_cons_of_mem _ h1, fun z hz => ?_⟩
      rcases List.mem_cons.mp hz with rfl | hz
      · omega
      · exact h2 z hz
    · rw [if_neg (by rw [decide_eq_false hyx]; decide)] at h1 h2 hx ⊢
      refine ⟨?_, fun z hz => ?_⟩
      · rcases List.mem_cons.mp h1 with h1 | h1
        · rw [h1]; exact List.mem_cons_self
        · exact List.mem_cons_of_mem _ (List.mem_cons_of_mem _ h1)
      · rcases List.mem_cons.mp hz with rfl | hz
        · exact hx
        · rcases List.mem_cons.mp hz with rfl | hz
          · omega
          · exact h2 z (List.mem_cons_of_mem _ hz)
theorem call_maxD (hc : X.calm = true) (hu : X.A.units + 1 < cLine) : CallRK X (.builtin "max") [Str.ofString "default"] (fun xs zs H Q => ∃ (p : Addr) (ns : List Int) (d : V), xs = [.ref p] ∧ zs = [d] ∧ SqL X.K H p (ns.map V.int) ∧ (ns = [] → Q d H) ∧ (∀ m ∈ ns, (∀ z ∈ ns, z ≤ m) → Q (.int m) H)) := by
  intro pins s σ H xs zs us ws Q I r rz h
  obtain ⟨p, ns, d, rfl, rfl, hq, q0, q⟩ := h
  obtain ⟨u, rfl, rx⟩ := vals1 r
  obtain ⟨u2, rfl, rd⟩ := vals1 rz
  cases rx
  obtain ⟨its, r', pl, hz⟩ := I.list hq
  have hi := ints_of_vals r'
  refine PySem.W.max_list_datum_default (α := Int) (xs := ns) (I.ok.hd hc) pl.isList (by rw [List.toList_toArray]; exact PySem.W.HoldAll.of_ints hi) (by show X.A.units + 1 + 0 < cLine; omega) (fun e h' tk hk => ?_) fun y ys i v h' tk e hi' hv hk => ?_
  · exact ⟨d, H, I.kept hk, rd, q0 e⟩
  · obtain ⟨t, rfl⟩ := PySem.W.int_of_holds hv
    subst e
    obtain ⟨k1, k2⟩ := maxOf_is ys y
    exact ⟨.int _, H, I.kept hk, ⟨t, rfl⟩, q _ k1 k2⟩
/-- max(l, default=f) -/
def qMaxD (qe qf : QE) : QE := fun s S Q => qe s S fun d S1 => qf s S1 fun z S2 => Opt (lsOf S2 d) fun xs => Opt (asIs xs) fun ns => (ns = [] → Q z S2) ∧ ∀ m ∈ ns, (∀ y ∈ ns, y ≤ m) → Q (.int m) S2
theorem le_maxD (hc : X.calm = true) (hu : X.A.units + 1 < cLine) (g1 : Gl X "max") (m1 : X.mg "max" = none) (v1 : bootBuiltins "max" = some (.builtin "max")) (ha : LE X B e qe) (hf : LE X B f qf)
    (he0 : starEach [e] X.env = (false, eval e X.env) :: starEach [] X.env := by rfl) (he : backTo pos (starEach [e] X.env) = (false, eval e X.env) :: backTo pos (starEach [] X.env) := by rfl) (hpl : (backTo pos (starEach [e] X.env)).any (·.1) = false := by rfl) : LE X B (.Call (.Name "max" p1) [e] [⟨some "default", f, kpos⟩] pos) (qMaxD qe qf) :=
  PE.imp (pe_callBK (call_maxD hc hu) g1 m1 v1 (pa_cons ha pa_nil he0) (pk_cons hf pk_nil) (by decide) (by decide) he hpl) fun σ H Q ⟨φ, s, S, Q', hr, ev, q, k⟩ =>
  ⟨φ, s, S, _, hr, ev, q, fun φ1 d S1 v H1 e1 hr1 r1 q1 => ⟨φ1, s, S1, _, hr1, ev.mono e1, q1, fun φ2 z S2 u H2 e2 hr2 r2 q2 => by
    obtain ⟨xs, h1, q2⟩ := q2.get
    obtain ⟨ns, h2, q0, q2⟩ := q2.get
    obtain ⟨p, vs, rfl, h3, h4⟩ := hr2.ls h1 (r1.mono e2)
    have h5 := asIs_ok h2 h4
    subst h5
    have k2 := k.ext (e1.trans e2)
    exact ⟨p, ns, u, rfl, rfl, .inl (.inl h3), fun e => k2.here hr2 r2 (q0 e), fun m a b => k2.here (d := D.int _) hr2 rfl (q2 m a b)⟩⟩⟩
end
end LC

set_option Elab.async false
set_option linter.all false
set_option maxRecDepth 100000
set_option maxHeartbeats 5000000
/-! LD74: max of a list of ints. -/
namespace LC
open PySem PySem.Spec
open PyProof.Rows L2
theorem zip_un {κ α : Type} : ∀ l : List (κ × α), (l.map (·.1)).zip (l.map (·.2)) = l
  | [] => rfl
  | (a, b) :: l => by rw [List.map_cons, List.map_cons, List.zip_cons_cons, zip_un l]
section
variable {X : Cx} {B : Bs}
/-- the greatest of a list of ints -/
theorem call_max1 (hc : X.calm = true) (hu : X.A.units + 1 < cLine) : CallR X (.builtin "max") (fun xs H Q => ∃ p ns, xs = [.ref p] ∧ SqL X.K H p (ns.map V.int) ∧ ns ≠ [] ∧ ∀ m ∈ ns, (∀ z ∈ ns, z ≤ m) → Q (.int m) H) := by
  intro pins s σ H xs us Q I r h
  obtain ⟨p, ns, rfl, hq, hne, q⟩ := h
  obtain ⟨u, rfl, rx⟩ := vals1 r
  cases rx
  obtain ⟨its, r', pl, hz⟩ := I.list hq
  have hi := ints_of_vals r'
  cases ns with
  | nil => exact absurd rfl hne
  | cons n0 ns =>
    refine PySem.W.max_list_datum (α := Int) (x := n0) (xs := ns) (I.ok.hd hc) pl.isList (by rw [List.toList_toArray]; exact PySem.W.HoldAll.of_ints hi) (by show X.A.units + 1 + 0 < cLine; omega) fun i v h' tk hi' hv hk => ?_
    obtain ⟨t, rfl⟩ := PySem.W.int_of_holds hv
    obtain ⟨k1, k2⟩ := maxOf_is ns n0
    exact ⟨.int _, H, I.kept hk, ⟨t, rfl⟩, q _ k1 k2⟩
def rcMax1 : QC := fun ds S Q => match ds with
  | [d] => Opt (lsOf S d) fun xs => Opt (asIs xs) fun ns => Need (ns ≠ []) (∀ m ∈ ns, (∀ z ∈ ns, z ≤ m) → Q (.int m) S)
  | _ => False
theorem cc_max1 (hc : X.calm = true) (hu : X.A.units + 1 < cLine) : CallR X (.builtin "max") (upC X.K B rcMax1) := CallR.imp (call_max1 hc hu) fun x H Q ⟨φ, S, ds, Q', hr, r, q, k⟩ => by
  unfold rcMax1 at q
  split at q
  · obtain ⟨v, w', rfl, r1, r2⟩ := r
    cases r2
    obtain ⟨xs, h1, q⟩ := q.get
    obtain ⟨ns, h2, h0, q⟩ := q.get
    obtain ⟨p, vs, rfl, h3, h4⟩ := hr.ls h1 r1
    have h5 := asIs_ok h2 h4
    subst h5
    exact ⟨p, ns, rfl, .inl (.inl h3), h0, fun m hm hz => k.here (d := D.int _) hr rfl (q m hm hz)⟩
  · exact q.elim
end
end LC

set_option Elab.async false
set_option linter.all false
set_option maxRecDepth 100000
set_option maxHeartbeats 5000000
/-! LD75: more of dicts by tuples: d.setdefault(t, x), list(d), t in d, d.get(t). -/
namespace LC
open PySem PySem.Spec
open PyProof.Rows L2
section
variable {X : Cx} {pins : List (Addr × Obj)} {σ : L2.St} {H : Hp} {s : Shared} {a b : Addr} {r : Value} {d : V} {k : List Key} {A : Around} {E : Value → Shared → Prop}
end
section
variable {X : Cx} {o e f : Expr} {td ty tx : TE} {apos cpos : Pos}
end
section
variable {X : Cx} {B : Bs} {o e f : Expr} {qo qe qf : QE} {pos apos cpos : Pos}
end
end LC

set_option Elab.async false
set_option linter.all false
set_option maxRecDepth 100000
set_option maxHeartbeats 5000000
namespace LW
open PySem PySem.Spec
open PyProof.Rows L2 LC
/-! ### places -/
def top (i : Nat) : Stmt := PySem.Challenge.pw_limecoat_k09_coats_of_a_part.main.body.getD i (.Pass ⟨0, 0, 0, 0⟩)
abbrev s_need_part : Stmt := top 9
abbrev s_shown : Stmt := top 14
abbrev s_sizes_of : Stmt := top 15
abbrev s_counts : Stmt := top 16
abbrev s_shades_read : Stmt := top 17
abbrev s_coats_of : Stmt := top 18
abbrev s__law_open : Stmt := top 20
abbrev s__law_pull : Stmt := top 21
abbrev s__law_num : Stmt := top 22
abbrev s__law_like : Stmt := top 23
abbrev s__law_odd : Stmt := top 24
abbrev s__law_few : Stmt := top 25
abbrev s__law_shades : Stmt := top 26
abbrev s__law_fact : Stmt := top 27
abbrev s__law_world : Stmt := top 28
abbrev s__law_had : Stmt := top 29
abbrev s__law_spot : Stmt := top 30
abbrev s__law_true_pair : Stmt := top 31
abbrev s__law_true_put : Stmt := top 32
abbrev s__law_true_scrape : Stmt := top 33
abbrev s__law_true_facts : Stmt := top 34
abbrev s__law_numbered : Stmt := top 35
abbrev s__law_house : Stmt := top 36
abbrev s__law_small : Stmt := top 37
abbrev s__law_sizes : Stmt := top 38
abbrev s__law_full : Stmt := top 39
abbrev s__law_reads : Stmt := top 40
abbrev s__law_shade_of : Stmt := top 41
abbrev s__law_told : Stmt := top 42
abbrev s__law_due : Stmt := top 43
abbrev s_law : Stmt := top 44
abbrev s_LimeError_init : Stmt := inClass (top 2) 0
abbrev s_BadPart_init : Stmt := inClass (top 3) 0
abbrev s_BadCoat_init : Stmt := inClass (top 4) 0
abbrev s_BadShade_init : Stmt := inClass (top 5) 0
abbrev s_Clash_init : Stmt := inClass (top 6) 0
abbrev s_Coats_init : Stmt := inClass (top 12) 0
abbrev s_Coats_len : Stmt := inClass (top 12) 1
abbrev s_Coats_shade : Stmt := inClass (top 12) 5
theorem sc_need_part : FnScope ["part"] ["part"] (defScope s_need_part) := ⟨rfl, rfl, rfl, by decide +kernel, rfl, by decide +kernel, by decide +kernel⟩
theorem sc_shown : FnScope ["fact", "word"] ["fact"] (defScope s_shown) := ⟨rfl, rfl, rfl, by decide +kernel, rfl, by decide +kernel, by decide +kernel⟩
theorem sc_sizes_of : FnScope ["facts", "found", "number", "fact", "part", "count"] ["facts"] (defScope s_sizes_of) := ⟨rfl, rfl, rfl, by decide +kernel, rfl, by decide +kernel, by decide +kernel⟩
theorem sc_counts : FnScope ["facts", "found", "part"] ["facts"] (defScope s_counts) := ⟨rfl, rfl, rfl, by decide +kernel, rfl, by decide +kernel, by decide +kernel⟩
theorem sc_shades_read : FnScope ["facts", "part", "coat", "found", "number", "fact", "at"] ["facts", "part", "coat"] (defScope s_shades_read) := ⟨rfl, rfl, rfl, by decide +kernel, rfl, by decide +kernel, by decide +kernel⟩
theorem sc_coats_of : FnScope ["facts", "part", "shades", "clashes", "coat", "read"] ["facts", "part"] (defScope s_coats_of) := ⟨rfl, rfl, rfl, by decide +kernel, rfl, by decide +kernel, by decide +kernel⟩
theorem sc__law_open : FnScope ["_law_script"] ["_law_script"] (defScope s__law_open) := ⟨rfl, rfl, rfl, by decide +kernel, rfl, by decide +kernel, by decide +kernel⟩
theorem sc__law_pull : FnScope ["_law_draw", "_law_many", "_law_cell", "_law_got"] ["_law_draw", "_law_many"] (defScope s__law_pull) := ⟨rfl, rfl, rfl, by decide +kernel, rfl, by decide +kernel, by decide +kernel⟩
theorem sc__law_num : FnScope ["_law_found"] ["_law_found"] (defScope s__law_num) := ⟨rfl, rfl, rfl, by decide +kernel, rfl, by decide +kernel, by decide +kernel⟩
theorem sc__law_like : FnScope ["_law_found", "_law_due_here", "_law_k"] ["_law_found", "_law_due_here"] (defScope s__law_like) := ⟨rfl, rfl, rfl, by decide +kernel, rfl, by decide +kernel, by decide +kernel⟩
theorem sc__law_odd : FnScope ["_law_draw", "_law_number"] ["_law_draw"] (defScope s__law_odd) := ⟨rfl, rfl, rfl, by decide +kernel, rfl, by decide +kernel, by decide +kernel⟩
theorem sc__law_few : FnScope ["_law_draw", "_law_pool", "_law_many", "_law_left", "_law_found", "_law_k"] ["_law_draw", "_law_pool", "_law_many"] (defScope s__law_few) := ⟨rfl, rfl, rfl, by decide +kernel, rfl, by decide +kernel, by decide +kernel⟩
theorem sc__law_shades : FnScope ["_law_draw", "_law_many", "_law_top", "_law_k"] ["_law_draw", "_law_many"] (defScope s__law_shades) := ⟨rfl, rfl, rfl, by decide +kernel, rfl, by decide +kernel, by decide +kernel⟩
theorem sc__law_fact : FnScope ["_law_draw", "_law_parts", "_law_most", "_law_word", "_law_part", "_law_coat", "_law_first", "_law_other", "_law_second"] ["_law_draw", "_law_parts", "_law_most"] (defScope s__law_fact) := ⟨rfl, rfl, rfl, by decide +kernel, rfl, by decide +kernel, by decide +kernel⟩
theorem sc__law_world : FnScope ["_law_draw", "_law_parts", "_law_most", "_law_many", "_law_year", "_law_wide", "_law_row", "_law_have", "_law_k", "_law_some", "_law_part", "_law_ups", "_law_gap", "_law_first", "_law_at", "_law_event"] ["_law_draw", "_law_parts", "_law_most", "_law_many"] (defScope s__law_world) := ⟨rfl, rfl, rfl, by decide +kernel, rfl, by decide +kernel, by decide +kernel⟩
theorem sc__law_had : FnScope ["_law_row", "_law_part", "_law_gap", "_law_event"] ["_law_row", "_law_part", "_law_gap"] (defScope s__law_had) := ⟨rfl, rfl, rfl, by decide +kernel, rfl, by decide +kernel, by decide +kernel⟩
theorem sc__law_spot : FnScope ["_law_row", "_law_part", "_law_coat", "_law_at", "_law_event"] ["_law_row", "_law_part", "_law_coat"] (defScope s__law_spot) := ⟨rfl, rfl, rfl, by decide +kernel, rfl, by decide +kernel, by decide +kernel⟩
theorem sc__law_true_pair : FnScope ["_law_draw", "_law_world_here", "_law_coats", "_law_parts", "_law_row", "_law_ups", "_law_one", "_law_other", "_law_first", "_law_second", "_law_year"] ["_law_draw", "_law_world_here", "_law_coats"] (defScope s__law_true_pair) := ⟨rfl, rfl, rfl, by decide +kernel, rfl, by decide +kernel, by decide +kernel⟩
theorem sc__law_true_put : FnScope ["_law_draw", "_law_world_here", "_law_parts", "_law_row", "_law_ups", "_law_at", "_law_to", "_law_gap", "_law_rank", "_law_part", "_law_lower", "_law_many", "_law_coats"] ["_law_draw", "_law_world_here"] (defScope s__law_true_put) := ⟨rfl, rfl, rfl, by decide +kernel, rfl, by decide +kernel, by decide +kernel⟩
theorem sc__law_true_scrape : FnScope ["_law_draw", "_law_world_here", "_law_part", "_law_parts", "_law_row", "_law_ups", "_law_many", "_law_first", "_law_dim", "_law_shades_here", "_law_coat", "_law_shade"] ["_law_draw", "_law_world_here", "_law_part"] (defScope s__law_true_scrape) := ⟨rfl, rfl, rfl, by decide +kernel, rfl, by decide +kernel, by decide +kernel⟩
theorem sc__law_true_facts : FnScope ["_law_draw", "_law_world_here", "_law_many", "_law_parts", "_law_row", "_law_ups", "_law_coats", "_law_part", "_law_found", "_law_k", "_law_way", "_law_fact_here", "_law_shade", "_law_coat", "_law_event"] ["_law_draw", "_law_world_here", "_law_many"] (defScope s__law_true_facts) := ⟨rfl, rfl, rfl, by decide +kernel, rfl, by decide +kernel, by decide +kernel⟩
theorem sc__law_numbered : FnScope ["_law_draw", "_law_rows", "_law_found", "_law_number", "_law_fact_here"] ["_law_draw", "_law_rows"] (defScope s__law_numbered) := ⟨rfl, rfl, rfl, by decide +kernel, rfl, by decide +kernel, by decide +kernel⟩
theorem sc__law_house : FnScope ["_law_draw", "_law_most_parts", "_law_most", "_law_wild", "_law_parts", "_law_high", "_law_world_here", "_law_rows", "_law_k", "_law_at"] ["_law_draw", "_law_most_parts", "_law_most", "_law_wild"] (defScope s__law_house) := ⟨rfl, rfl, rfl, by decide +kernel, rfl, by decide +kernel, by decide +kernel⟩
theorem sc__law_small : FnScope ["_law_draw"] ["_law_draw"] (defScope s__law_small) := ⟨rfl, rfl, rfl, by decide +kernel, rfl, by decide +kernel, by decide +kernel⟩
theorem sc__law_sizes : FnScope ["_law_facts", "_law_found", "_law_number", "_law_fact_here", "_law_rows", "_law_part", "_law_many"] ["_law_facts"] (defScope s__law_sizes) := ⟨rfl, rfl, rfl, by decide +kernel, rfl, by decide +kernel, by decide +kernel⟩
theorem sc__law_full : FnScope ["_law_facts", "_law_found", "_law_part"] ["_law_facts"] (defScope s__law_full) := ⟨rfl, rfl, rfl, by decide +kernel, rfl, by decide +kernel, by decide +kernel⟩
theorem sc__law_reads : FnScope ["_law_facts", "_law_found", "_law_number", "_law_fact_here", "_law_at", "_law_spot_here"] ["_law_facts"] (defScope s__law_reads) := ⟨rfl, rfl, rfl, by decide +kernel, rfl, by decide +kernel, by decide +kernel⟩
theorem sc__law_shade_of : FnScope ["_law_reads_here", "_law_coats", "_law_found", "_law_coat"] ["_law_reads_here", "_law_coats"] (defScope s__law_shade_of) := ⟨rfl, rfl, rfl, by decide +kernel, rfl, by decide +kernel, by decide +kernel⟩
theorem sc__law_told : FnScope ["_law_facts", "_law_part", "_law_found", "_law_coats", "e", "_law_at"] ["_law_facts", "_law_part"] (defScope s__law_told) := ⟨rfl, rfl, rfl, by decide +kernel, rfl, by decide +kernel, by decide +kernel⟩
theorem sc__law_due : FnScope ["_law_facts", "_law_part", "_law_reads_here", "_law_row", "_law_coat", "_law_shade"] ["_law_facts", "_law_part"] (defScope s__law_due) := ⟨rfl, rfl, rfl, by decide +kernel, rfl, by decide +kernel, by decide +kernel⟩
theorem sc_law : FnScope ["_law_script", "_law_draw", "_law_facts", "_law_parts", "_law_rows", "_law_k", "_law_handed", "_law_part"] ["_law_script"] (defScope s_law) := ⟨rfl, rfl, rfl, by decide +kernel, rfl, by decide +kernel, by decide +kernel⟩
theorem sc_LimeError_init : FnScope ["self", "called"] ["self", "called"] (defScope s_LimeError_init) := ⟨rfl, rfl, rfl, by decide +kernel, rfl, by decide +kernel, by decide +kernel⟩
theorem sc_BadPart_init : FnScope ["self"] ["self"] (defScope s_BadPart_init) := ⟨rfl, rfl, rfl, by decide +kernel, rfl, by decide +kernel, by decide +kernel⟩
theorem sc_BadCoat_init : FnScope ["self"] ["self"] (defScope s_BadCoat_init) := ⟨rfl, rfl, rfl, by decide +kernel, rfl, by decide +kernel, by decide +kernel⟩
theorem sc_BadShade_init : FnScope ["self"] ["self"] (defScope s_BadShade_init) := ⟨rfl, rfl, rfl, by decide +kernel, rfl, by decide +kernel, by decide +kernel⟩
theorem sc_Clash_init : FnScope ["self", "part", "coat"] ["self", "part", "coat"] (defScope s_Clash_init) := ⟨rfl, rfl, rfl, by decide +kernel, rfl, by decide +kernel, by decide +kernel⟩
theorem sc_Coats_init : FnScope ["self", "shades", "shade"] ["self", "shades"] (defScope s_Coats_init) := ⟨rfl, rfl, rfl, by decide +kernel, rfl, by decide +kernel, by decide +kernel⟩
theorem sc_Coats_len : FnScope ["self"] ["self"] (defScope s_Coats_len) := ⟨rfl, rfl, rfl, by decide +kernel, rfl, by decide +kernel, by decide +kernel⟩
theorem sc_Coats_shade : FnScope ["self", "at"] ["self", "at"] (defScope s_Coats_shade) := ⟨rfl, rfl, rfl, by decide +kernel, rfl, by decide +kernel, by decide +kernel⟩
def dd_need_part : He.DefD := ⟨("need_part", none), "need_part", "need_part", defArgs s_need_part, defBody s_need_part, defScope s_need_part, [], []⟩
def dd_shown : He.DefD := ⟨("shown", none), "shown", "shown", defArgs s_shown, defBody s_shown, defScope s_shown, [], []⟩
def dd_sizes_of : He.DefD := ⟨("sizes_of", none), "sizes_of", "sizes_of", defArgs s_sizes_of, defBody s_sizes_of, defScope s_sizes_of, [], []⟩
def dd_counts : He.DefD := ⟨("counts", none), "counts", "counts", defArgs s_counts, defBody s_counts, defScope s_counts, [], []⟩
def dd_shades_read : He.DefD := ⟨("shades_read", none), "shades_read", "shades_read", defArgs s_shades_read, defBody s_shades_read, defScope s_shades_read, [], []⟩
def dd_coats_of : He.DefD := ⟨("coats_of", none), "coats_of", "coats_of", defArgs s_coats_of, defBody s_coats_of, defScope s_coats_of, [], []⟩
def dd__law_open : He.DefD := ⟨("_law_open", none), "_law_open", "_law_open", defArgs s__law_open, defBody s__law_open, defScope s__law_open, [], []⟩
def dd__law_pull : He.DefD := ⟨("_law_pull", none), "_law_pull", "_law_pull", defArgs s__law_pull, defBody s__law_pull, defScope s__law_pull, [], []⟩
def dd__law_num : He.DefD := ⟨("_law_num", none), "_law_num", "_law_num", defArgs s__law_num, defBody s__law_num, defScope s__law_num, [], []⟩
def dd__law_like : He.DefD := ⟨("_law_like", none), "_law_like", "_law_like", defArgs s__law_like, defBody s__law_like, defScope s__law_like, [], []⟩
def dd__law_odd : He.DefD := ⟨("_law_odd", none), "_law_odd", "_law_odd", defArgs s__law_odd, defBody s__law_odd, defScope s__law_odd, [], []⟩
def dd__law_few : He.DefD := ⟨("_law_few", none), "_law_few", "_law_few", defArgs s__law_few, defBody s__law_few, defScope s__law_few, [], []⟩
def dd__law_shades : He.DefD := ⟨("_law_shades", none), "_law_shades", "_law_shades", defArgs s__law_shades, defBody s__law_shades, defScope s__law_shades, [], []⟩
def dd__law_fact : He.DefD := ⟨("_law_fact", none), "_law_fact", "_law_fact", defArgs s__law_fact, defBody s__law_fact, defScope s__law_fact, [], []⟩
def dd__law_world : He.DefD := ⟨("_law_world", none), "_law_world", "_law_world", defArgs s__law_world, defBody s__law_world, defScope s__law_world, [], []⟩
def dd__law_had : He.DefD := ⟨("_law_had", none), "_law_had", "_law_had", defArgs s__law_had, defBody s__law_had, defScope s__law_had, [], []⟩
def dd__law_spot : He.DefD := ⟨("_law_spot", none), "_law_spot", "_law_spot", defArgs s__law_spot, defBody s__law_spot, defScope s__law_spot, [], []⟩
def dd__law_true_pair : He.DefD := ⟨("_law_true_pair", none), "_law_true_pair", "_law_true_pair", defArgs s__law_true_pair, defBody s__law_true_pair, defScope s__law_true_pair, [], []⟩
def dd__law_true_put : He.DefD := ⟨("_law_true_put", none), "_law_true_put", "_law_true_put", defArgs s__law_true_put, defBody s__law_true_put, defScope s__law_true_put, [], []⟩
def dd__law_true_scrape : He.DefD := ⟨("_law_true_scrape", none), "_law_true_scrape", "_law_true_scrape", defArgs s__law_true_scrape, defBody s__law_true_scrape, defScope s__law_true_scrape, [], []⟩
def dd__law_true_facts : He.DefD := ⟨("_law_true_facts", none), "_law_true_facts", "_law_true_facts", defArgs s__law_true_facts, defBody s__law_true_facts, defScope s__law_true_facts, [], []⟩
def dd__law_numbered : He.DefD := ⟨("_law_numbered", none), "_law_numbered", "_law_numbered", defArgs s__law_numbered, defBody s__law_numbered, defScope s__law_numbered, [], []⟩
def dd__law_house : He.DefD := ⟨("_law_house", none), "_law_house", "_law_house", defArgs s__law_house, defBody s__law_house, defScope s__law_house, [], []⟩
def dd__law_small : He.DefD := ⟨("_law_small", none), "_law_small", "_law_small", defArgs s__law_small, defBody s__law_small, defScope s__law_small, [], []⟩
def dd__law_sizes : He.DefD := ⟨("_law_sizes", none), "_law_sizes", "_law_sizes", defArgs s__law_sizes, defBody s__law_sizes, defScope s__law_sizes, [], []⟩
def dd__law_full : He.DefD := ⟨("_law_full", none), "_law_full", "_law_full", defArgs s__law_full, defBody s__law_full, defScope s__law_full, [], []⟩
def dd__law_reads : He.DefD := ⟨("_law_reads", none), "_law_reads", "_law_reads", defArgs s__law_reads, defBody s__law_reads, defScope s__law_reads, [], []⟩
def dd__law_shade_of : He.DefD := ⟨("_law_shade_of", none), "_law_shade_of", "_law_shade_of", defArgs s__law_shade_of, defBody s__law_shade_of, defScope s__law_shade_of, [], []⟩
def dd__law_told : He.DefD := ⟨("_law_told", none), "_law_told", "_law_told", defArgs s__law_told, defBody s__law_told, defScope s__law_told, [], []⟩
def dd__law_due : He.DefD := ⟨("_law_due", none), "_law_due", "_law_due", defArgs s__law_due, defBody s__law_due, defScope s__law_due, [], []⟩
def dd_law : He.DefD := ⟨("law", none), "law", "law", defArgs s_law, defBody s_law, defScope s_law, [], []⟩
def dd_LimeError_init : He.DefD := ⟨("LimeError", some "__init__"), "__init__", "LimeError.__init__", defArgs s_LimeError_init, defBody s_LimeError_init, defScope s_LimeError_init, [], []⟩
def dd_BadPart_init : He.DefD := ⟨("BadPart", some "__init__"), "__init__", "BadPart.__init__", defArgs s_BadPart_init, defBody s_BadPart_init, defScope s_BadPart_init, [], []⟩
def dd_BadCoat_init : He.DefD := ⟨("BadCoat", some "__init__"), "__init__", "BadCoat.__init__", defArgs s_BadCoat_init, defBody s_BadCoat_init, defScope s_BadCoat_init, [], []⟩
def dd_BadShade_init : He.DefD := ⟨("BadShade", some "__init__"), "__init__", "BadShade.__init__", defArgs s_BadShade_init, defBody s_BadShade_init, defScope s_BadShade_init, [], []⟩
def dd_Clash_init : He.DefD := ⟨("Clash", some "__init__"), "__init__", "Clash.__init__", defArgs s_Clash_init, defBody s_Clash_init, defScope s_Clash_init, [], []⟩
def dd_Coats_init : He.DefD := ⟨("Coats", some "__init__"), "__init__", "Coats.__init__", defArgs s_Coats_init, defBody s_Coats_init, defScope s_Coats_init, [], []⟩
def dd_Coats_len : He.DefD := ⟨("Coats", some "__len__"), "__len__", "Coats.__len__", defArgs s_Coats_len, defBody s_Coats_len, defScope s_Coats_len, [], []⟩
def dd_Coats_shade : He.DefD := ⟨("Coats", some "shade"), "shade", "Coats.shade", defArgs s_Coats_shade, defBody s_Coats_shade, defScope s_Coats_shade, [], []⟩
def fns0 : List He.DefD := [dd_need_part, dd_shown, dd_sizes_of, dd_counts, dd_shades_read, dd_coats_of, dd__law_open, dd__law_pull, dd__law_num, dd__law_like, dd__law_odd, dd__law_few, dd__law_shades, dd__law_fact, dd__law_world, dd__law_had, dd__law_spot, dd__law_true_pair, dd__law_true_put, dd__law_true_scrape, dd__law_true_facts, dd__law_numbered, dd__law_house, dd__law_small, dd__law_sizes, dd__law_full, dd__law_reads, dd__law_shade_of, dd__law_told, dd__law_due]
def fns1 : List He.DefD := [dd_law, dd_LimeError_init, dd_BadPart_init, dd_BadCoat_init, dd_BadShade_init, dd_Clash_init, dd_Coats_init, dd_Coats_len, dd_Coats_shade]
def fns : List He.DefD := fns0 ++ (fns1)
def tabs_ : List He.Tab := []
def tfs : List He.Defn := []
def fxs0 : List (PySem.W.Frag → Bool) := [fun K => (He.Fa.glo "need_part").ok K, fun K => (He.Fa.glo "shown").ok K, fun K => (He.Fa.glo "sizes_of").ok K, fun K => (He.Fa.glo "counts").ok K, fun K => (He.Fa.glo "shades_read").ok K, fun K => (He.Fa.glo "coats_of").ok K, fun K => (He.Fa.glo "_law_open").ok K, fun K => (He.Fa.glo "_law_pull").ok K, fun K => (He.Fa.glo "_law_num").ok K, fun K => (He.Fa.glo "_law_like").ok K, fun K => (He.Fa.glo "_law_odd").ok K, fun K => (He.Fa.glo "_law_few").ok K, fun K => (He.Fa.glo "_law_shades").ok K, fun K => (He.Fa.glo "_law_fact").ok K, fun K => (He.Fa.glo "_law_world").ok K, fun K => (He.Fa.glo "_law_had").ok K, fun K => (He.Fa.glo "_law_spot").ok K, fun K => (He.Fa.glo "_law_true_pair").ok K, fun K => (He.Fa.glo "_law_true_put").ok K, fun K => (He.Fa.glo "_law_true_scrape").ok K, fun K => (He.Fa.glo "_law_true_facts").ok K, fun K => (He.Fa.glo "_law_numbered").ok K, fun K => (He.Fa.glo "_law_house").ok K, fun K => (He.Fa.glo "_law_small").ok K, fun K => (He.Fa.glo "_law_sizes").ok K, fun K => (He.Fa.glo "_law_full").ok K, fun K => (He.Fa.glo "_law_reads").ok K, fun K => (He.Fa.glo "_law_shade_of").ok K, fun K => (He.Fa.glo "_law_told").ok K, fun K => (He.Fa.glo "_law_due").ok K]
def fxs1 : List (PySem.W.Frag → Bool) := [fun K => (He.Fa.glo "law").ok K, fun K => He.eqO (PySem.W.findIn K (.ref (He.ga K "LimeError")) "__init__") (some (some (.ref (He.ma K (He.ga K "LimeError") "__init__")))), fun K => decide (PySem.W.typeIn K (.ref (He.ma K (He.ga K "LimeError") "__init__")) = some (.type "function")), fun K => He.eqO (PySem.W.findIn K (.ref (He.ga K "BadPart")) "__init__") (some (some (.ref (He.ma K (He.ga K "BadPart") "__init__")))), fun K => decide (PySem.W.typeIn K (.ref (He.ma K (He.ga K "BadPart") "__init__")) = some (.type "function")), fun K => He.eqO (PySem.W.findIn K (.ref (He.ga K "BadCoat")) "__init__") (some (some (.ref (He.ma K (He.ga K "BadCoat") "__init__")))), fun K => decide (PySem.W.typeIn K (.ref (He.ma K (He.ga K "BadCoat") "__init__")) = some (.type "function")), fun K => He.eqO (PySem.W.findIn K (.ref (He.ga K "BadShade")) "__init__") (some (some (.ref (He.ma K (He.ga K "BadShade") "__init__")))), fun K => decide (PySem.W.typeIn K (.ref (He.ma K (He.ga K "BadShade") "__init__")) = some (.type "function")), fun K => He.eqO (PySem.W.findIn K (.ref (He.ga K "Clash")) "__init__") (some (some (.ref (He.ma K (He.ga K "Clash") "__init__")))), fun K => decide (PySem.W.typeIn K (.ref (He.ma K (He.ga K "Clash") "__init__")) = some (.type "function")), fun K => (He.Fa.meth "Coats" "__init__").ok K, fun K => (He.Fa.meth "Coats" "__len__").ok K, fun K => (He.Fa.meth "Coats" "shade").ok K, fun K => (He.Fa.glo "LimeError").ok K, fun K => (He.Fa.glo "BadPart").ok K, fun K => (He.Fa.glo "BadCoat").ok K, fun K => (He.Fa.glo "BadShade").ok K, fun K => (He.Fa.glo "Clash").ok K, fun K => (He.Fa.glo "Coats").ok K, fun K => isoB K (He.ga K "Coats"), fun K => (He.Fa.mkr "Coats").ok K, fun K => (He.Fa.noat "Coats" "seen").ok K, fun K => decide (PySem.W.findIn K (.ref (He.ga K "Coats")) "__format__" = some (some (.builtin "object.__format__"))), fun K => decide (PySem.W.mroIn K (He.ga K "Coats") (.type "object") = some true), fun K => L2.xfB K (He.ga K "BadPart"), fun K => (He.Fa.noat "BadPart" "called").ok K, fun K => (He.Fa.exm "BadPart" "LimeError" true).ok K, fun K => (He.Fa.exm "BadPart" "BadPart" true).ok K, fun K => L2.xfB K (He.ga K "BadCoat")]
def fxs2 : List (PySem.W.Frag → Bool) := [fun K => (He.Fa.noat "BadCoat" "called").ok K, fun K => (He.Fa.exm "BadCoat" "LimeError" true).ok K, fun K => (He.Fa.exm "BadCoat" "BadCoat" true).ok K, fun K => L2.xfB K (He.ga K "BadShade"), fun K => (He.Fa.noat "BadShade" "called").ok K, fun K => (He.Fa.exm "BadShade" "LimeError" true).ok K, fun K => (He.Fa.exm "BadShade" "BadShade" true).ok K, fun K => L2.xfB K (He.ga K "Clash"), fun K => (He.Fa.noat "Clash" "called").ok K, fun K => (He.Fa.exm "Clash" "LimeError" true).ok K, fun K => (He.Fa.exm "Clash" "Clash" true).ok K, fun K => (He.Fa.noat "Clash" "part").ok K, fun K => (He.Fa.noat "Clash" "coat").ok K, fun K => (He.Fa.exm "BadPart" "Clash" false).ok K, fun K => (He.Fa.free "ValueError").ok K, fun K => (He.Fa.free "all").ok K, fun K => (He.Fa.free "bool").ok K, fun K => (He.Fa.free "dict").ok K, fun K => (He.Fa.free "enumerate").ok K, fun K => (He.Fa.free "int").ok K, fun K => (He.Fa.free "isinstance").ok K, fun K => (He.Fa.free "len").ok K, fun K => (He.Fa.free "list").ok K, fun K => (He.Fa.free "max").ok K, fun K => (He.Fa.free "min").ok K, fun K => (He.Fa.free "range").ok K, fun K => (He.Fa.free "set").ok K, fun K => (He.Fa.free "sorted").ok K, fun K => (He.Fa.free "str").ok K, fun K => (He.Fa.free "tuple").ok K]
def fxs3 : List (PySem.W.Frag → Bool) := [fun K => (He.Fa.glo "PARTS").ok K, fun K => tupAB K (He.ga K "PARTS") [.int 1, .int 2, .int 3, .int 4], fun K => (He.Fa.str "SIGNS" "?abcdef").ok K, fun K => oexB K (He.ga K "BadPart"), fun K => oexB K (He.ga K "BadCoat"), fun K => oexB K (He.ga K "BadShade"), fun K => oexB K (He.ga K "Clash"), fun K => valC K (.type "ValueError") (.type "type") "__init__" (.builtin "ValueError.__init__"), fun K => PySem.W.readsIn K (He.ga K "LimeError") (.type "type"), fun K => He.eqO (PySem.W.specialIn K (.ref (He.ga K "LimeError")) "__getattribute__") (some (some (.builtin "type.__getattribute__"))), fun K => valC K (.ref (He.ga K "LimeError")) (.type "type") "__init__" (.ref (He.ma K (He.ga K "LimeError") "__init__"))]
def fxs : List (PySem.W.Frag → Bool) := fxs0 ++ (fxs1 ++ (fxs2 ++ (fxs3)))
def exB (K : PySem.W.Frag) : Bool := fxs.all fun f => f K
def ass0 : List Addr := [3, 2, 6, 21, 20, 38, 37, 35, 34, 58, 57, 55, 54, 77, 76, 74, 73, 96, 95, 93, 92, 115, 114, 112, 111, 118, 125, 124, 188, 187]
def ass1 : List Addr := [137, 136, 144, 143, 151, 150, 156, 155, 163, 162, 170, 169, 177, 176, 185, 184, 178, 199, 198, 206, 205, 211, 210, 218, 217, 225, 224, 232, 231, 239]
def ass2 : List Addr := [238, 246, 245, 251, 250, 258, 257, 265, 264, 270, 269, 277, 276, 282, 281, 287, 286, 292, 291, 299, 298, 306, 305, 313, 312, 318, 317, 325, 324, 332]
def ass3 : List Addr := [331, 339, 338, 346, 345, 351, 350, 358, 357, 365, 364, 370, 369, 377, 376, 384, 383]
def ass : List Addr := ass0 ++ (ass1 ++ (ass2 ++ (ass3)))
abbrev hk : PySem.W.Hook := LC.hookZ ass fns tabs_ tfs exB
def obs_ (s : PySem.W.SharedT) : He.AlX := LC.obsZ ass fns tabs_ tfs exB (HandSHeadRun.getT s)
theorem obs_eq (s : PySem.W.SharedT) : obs_ s = hk.obs s.abs := LC.obsZ_eq ass fns tabs_ tfs exB (HandSHeadRun.getT_eq s)
def names0 : List PySem.Str := ["_wall", "__name__", "LimeError", "BadPart", "BadCoat", "BadShade", "Clash", "PARTS", "need_part", "SIGNS", "Coats", "shown", "sizes_of", "counts", "shades_read", "coats_of", "_law_open", "_law_pull", "_law_num", "_law_like", "_law_odd", "_law_few", "_law_shades", "_law_fact", "_law_world", "_law_had", "_law_spot", "_law_true_pair", "_law_true_put", "_law_true_scrape"]
def names1 : List PySem.Str := ["_law_true_facts", "_law_numbered", "_law_house", "_law_small", "_law_sizes", "_law_full", "_law_reads", "_law_shade_of", "_law_told", "_law_due"]
def names : List PySem.Str := names0 ++ (names1)
abbrev RowL_ : PySem.W.OpenRow := PySem.W.OpenLaw.row PySem.Challenge.rw_limecoat_k09_coats_of_a_part
abbrev ViewL_ : Program := PySem.W.view RowL_.prog [44]
theorem runA_f (w : World) : LC.RunA RowL_ ViewL_ 14000 names (w.withFollow "special-get-raises" false) := by intro os; kernel_rfl
theorem runA_t (w : World) : LC.RunA RowL_ ViewL_ 14000 names (w.withFollow "special-get-raises" true) := by intro os; kernel_rfl
theorem runA (w : World) : LC.RunA RowL_ ViewL_ 14000 names w := PySem.W.byRow2 "special-get-raises" (P := (fun w => LC.RunA RowL_ ViewL_ 14000 names w)) runA_f runA_t w
def RunD (w : World) : Prop := ∀ os : OsState, (HandSHeadRun.endF (HandSHeadRun.stepQ (HandSHeadRun.denQ HandSHeadRun.tabQ) RowL_.prog w) 14000 RowL_.prog w os).map (fun s => He.obsT [] fns tabs_ (He.frT (HandSHeadRun.getT s) ass)) = some (He.valT fns tabs_ w)
theorem runD_f (w : World) : RunD (w.withFollow "special-get-raises" false) := by intro os; kernel_rfl
theorem runD_t (w : World) : RunD (w.withFollow "special-get-raises" true) := by intro os; kernel_rfl
theorem runD (w : World) : RunD w := PySem.W.byRow2 "special-get-raises" (P := RunD) runD_f runD_t w
def RunX (w : World) : Prop := ∀ os : OsState, (HandSHeadRun.endF (HandSHeadRun.stepQ (HandSHeadRun.denQ HandSHeadRun.tabQ) RowL_.prog w) 14000 RowL_.prog w os).map (fun s => exB (He.frT (HandSHeadRun.getT s) ass) && He.tabsB (HandSHeadRun.getT s) tfs (He.frT (HandSHeadRun.getT s) ass)) = some true
theorem runX_f (w : World) : RunX (w.withFollow "special-get-raises" false) := by intro os; kernel_rfl
theorem runX_t (w : World) : RunX (w.withFollow "special-get-raises" true) := by intro os; kernel_rfl
theorem runX (w : World) : RunX w := PySem.W.byRow2 "special-get-raises" (P := RunX) runX_f runX_t w
theorem runB (w : World) : LC.RunB RowL_ hk obs_ 14000 w := LC.runB_of (runD w) (runX w)
theorem run (w : World) : HandSHeadRun.RunEq RowL_ ViewL_ hk obs_ 14000 names w := LC.run_both (runA w) (runB w)
/-- where all stands -/
structure Ad where
  a_need_part : Addr
  d_need_part : FuncData
  a_shown : Addr
  d_shown : FuncData
  a_sizes_of : Addr
  d_sizes_of : FuncData
  a_counts : Addr
  d_counts : FuncData
  a_shades_read : Addr
  d_shades_read : FuncData
  a_coats_of : Addr
  d_coats_of : FuncData
  a__law_open : Addr
  d__law_open : FuncData
  a__law_pull : Addr
  d__law_pull : FuncData
  a__law_num : Addr
  d__law_num : FuncData
  a__law_like : Addr
  d__law_like : FuncData
  a__law_odd : Addr
  d__law_odd : FuncData
  a__law_few : Addr
  d__law_few : FuncData
  a__law_shades : Addr
  d__law_shades : FuncData
  a__law_fact : Addr
  d__law_fact : FuncData
  a__law_world : Addr
  d__law_world : FuncData
  a__law_had : Addr
  d__law_had : FuncData
  a__law_spot : Addr
  d__law_spot : FuncData
  a__law_true_pair : Addr
  d__law_true_pair : FuncData
  a__law_true_put : Addr
  d__law_true_put : FuncData
  a__law_true_scrape : Addr
  d__law_true_scrape : FuncData
  a__law_true_facts : Addr
  d__law_true_facts : FuncData
  a__law_numbered : Addr
  d__law_numbered : FuncData
  a__law_house : Addr
  d__law_house : FuncData
  a__law_small : Addr
  d__law_small : FuncData
  a__law_sizes : Addr
  d__law_sizes : FuncData
  a__law_full : Addr
  d__law_full : FuncData
  a__law_reads : Addr
  d__law_reads : FuncData
  a__law_shade_of : Addr
  d__law_shade_of : FuncData
  a__law_told : Addr
  d__law_told : FuncData
  a__law_due : Addr
  d__law_due : FuncData
  a_law : Addr
  d_law : FuncData
  a_LimeError_init : Addr
  d_LimeError_init : FuncData
  a_BadPart_init : Addr
  d_BadPart_init : FuncData
  a_BadCoat_init : Addr
  d_BadCoat_init : FuncData
  a_BadShade_init : Addr
  d_BadShade_init : FuncData
  a_Clash_init : Addr
  d_Clash_init : FuncData
  a_Coats_init : Addr
  d_Coats_init : FuncData
  a_Coats_len : Addr
  d_Coats_len : FuncData
  a_Coats_shade : Addr
  d_Coats_shade : FuncData
  c_LimeError : Addr
  c_BadPart : Addr
  c_BadCoat : Addr
  c_BadShade : Addr
  c_Clash : Addr
  c_Coats : Addr
  code : Addr
  tab : Addr
abbrev T0of (a : Ad) : List (Addr × Str) := [(a.tab, "law.<locals>." ++ "<lambda>")]
structure Txt (K : PySem.W.Frag) (w : World) (mg : Str → Option Value) (a : Ad) : Prop where
  F_need_part : Fun K "need_part" "need_part" s_need_part a.a_need_part a.d_need_part
  b_need_part : Binds K a.d_need_part ["part"] []
  m_need_part : mg "need_part" = some (.ref a.a_need_part)
  F_shown : Fun K "shown" "shown" s_shown a.a_shown a.d_shown
  b_shown : Binds K a.d_shown ["fact"] []
  m_shown : mg "shown" = some (.ref a.a_shown)
  F_sizes_of : Fun K "sizes_of" "sizes_of" s_sizes_of a.a_sizes_of a.d_sizes_of
  b_sizes_of : Binds K a.d_sizes_of ["facts"] []
  m_sizes_of : mg "sizes_of" = some (.ref a.a_sizes_of)
  F_counts : Fun K "counts" "counts" s_counts a.a_counts a.d_counts
  b_counts : Binds K a.d_counts ["facts"] []
  m_counts : mg "counts" = some (.ref a.a_counts)
  F_shades_read : Fun K "shades_read" "shades_read" s_shades_read a.a_shades_read a.d_shades_read
  b_shades_read : Binds K a.d_shades_read ["facts", "part", "coat"] []
  m_shades_read : mg "shades_read" = some (.ref a.a_shades_read)
  F_coats_of : Fun K "coats_of" "coats_of" s_coats_of a.a_coats_of a.d_coats_of
  b_coats_of : Binds K a.d_coats_of ["facts", "part"] []
  m_coats_of : mg "coats_of" = some (.ref a.a_coats_of)
  F__law_open : Fun K "_law_open" "_law_open" s__law_open a.a__law_open a.d__law_open
  b__law_open : Binds K a.d__law_open ["_law_script"] []
  m__law_open : mg "_law_open" = some (.ref a.a__law_open)
  F__law_pull : Fun K "_law_pull" "_law_pull" s__law_pull a.a__law_pull a.d__law_pull
  b__law_pull : Binds K a.d__law_pull ["_law_draw", "_law_many"] []
  m__law_pull : mg "_law_pull" = some (.ref a.a__law_pull)
  F__law_num : Fun K "_law_num" "_law_num" s__law_num a.a__law_num a.d__law_num
  b__law_num : Binds K a.d__law_num ["_law_found"] []
  m__law_num : mg "_law_num" = some (.ref a.a__law_num)
  F__law_like : Fun K "_law_like" "_law_like" s__law_like a.a__law_like a.d__law_like
  b__law_like : Binds K a.d__law_like ["_law_found", "_law_due_here"] []
  m__law_like : mg "_law_like" = some (.ref a.a__law_like)
  F__law_odd : Fun K "_law_odd" "_law_odd" s__law_odd a.a__law_odd a.d__law_odd
  b__law_odd : Binds K a.d__law_odd ["_law_draw"] []
  m__law_odd : mg "_law_odd" = some (.ref a.a__law_odd)
  F__law_few : Fun K "_law_few" "_law_few" s__law_few a.a__law_few a.d__law_few
  b__law_few : Binds K a.d__law_few ["_law_draw", "_law_pool", "_law_many"] []
  m__law_few : mg "_law_few" = some (.ref a.a__law_few)
  F__law_shades : Fun K "_law_shades" "_law_shades" s__law_shades a.a__law_shades a.d__law_shades
  b__law_shades : Binds K a.d__law_shades ["_law_draw", "_law_many"] []
  m__law_shades : mg "_law_shades" = some (.ref a.a__law_shades)
  F__law_fact : Fun K "_law_fact" "_law_fact" s__law_fact a.a__law_fact a.d__law_fact
  b__law_fact : Binds K a.d__law_fact ["_law_draw", "_law_parts", "_law_most"] []
  m__law_fact : mg "_law_fact" = some (.ref a.a__law_fact)
  F__law_world : Fun K "_law_world" "_law_world" s__law_world a.a__law_world a.d__law_world
  b__law_world : Binds K a.d__law_world ["_law_draw", "_law_parts", "_law_most", "_law_many"] []
  m__law_world : mg "_law_world" = some (.ref a.a__law_world)
  F__law_had : Fun K "_law_had" "_law_had" s__law_had a.a__law_had a.d__law_had
  b__law_had : Binds K a.d__law_had ["_law_row", "_law_part", "_law_gap"] []
  m__law_had : mg "_law_had" = some (.ref a.a__law_had)
  F__law_spot : Fun K "_law_spot" "_law_spot" s__law_spot a.a__law_spot a.d__law_spot
  b__law_spot : Binds K a.d__law_spot ["_law_row", "_law_part", "_law_coat"] []
  m__law_spot : mg "_law_spot" = some (.ref a.a__law_spot)
  F__law_true_pair : Fun K "_law_true_pair" "_law_true_pair" s__law_true_pair a.a__law_true_pair a.d__law_true_pair
  b__law_true_pair : Binds K a.d__law_true_pair ["_law_draw", "_law_world_here", "_law_coats"] []
  m__law_true_pair : mg "_law_true_pair" = some (.ref a.a__law_true_pair)
  F__law_true_put : Fun K "_law_true_put" "_law_true_put" s__law_true_put a.a__law_true_put a.d__law_true_put
  b__law_true_put : Binds K a.d__law_true_put ["_law_draw", "_law_world_here"] []
  m__law_true_put : mg "_law_true_put" = some (.ref a.a__law_true_put)
  F__law_true_scrape : Fun K "_law_true_scrape" "_law_true_scrape" s__law_true_scrape a.a__law_true_scrape a.d__law_true_scrape
  b__law_true_scrape : Binds K a.d__law_true_scrape ["_law_draw", "_law_world_here", "_law_part"] []
  m__law_true_scrape : mg "_law_true_scrape" = some (.ref a.a__law_true_scrape)
  F__law_true_facts : Fun K "_law_true_facts" "_law_true_facts" s__law_true_facts a.a__law_true_facts a.d__law_true_facts
  b__law_true_facts : Binds K a.d__law_true_facts ["_law_draw", "_law_world_here", "_law_many"] []
  m__law_true_facts : mg "_law_true_facts" = some (.ref a.a__law_true_facts)
  F__law_numbered : Fun K "_law_numbered" "_law_numbered" s__law_numbered a.a__law_numbered a.d__law_numbered
  b__law_numbered : Binds K a.d__law_numbered ["_law_draw", "_law_rows"] []
  m__law_numbered : mg "_law_numbered" = some (.ref a.a__law_numbered)
  F__law_house : Fun K "_law_house" "_law_house" s__law_house a.a__law_house a.d__law_house
  b__law_house : Binds K a.d__law_house ["_law_draw", "_law_most_parts", "_law_most", "_law_wild"] []
  m__law_house : mg "_law_house" = some (.ref a.a__law_house)
  F__law_small : Fun K "_law_small" "_law_small" s__law_small a.a__law_small a.d__law_small
  b__law_small : Binds K a.d__law_small ["_law_draw"] []
  m__law_small : mg "_law_small" = some (.ref a.a__law_small)
  F__law_sizes : Fun K "_law_sizes" "_law_sizes" s__law_sizes a.a__law_sizes a.d__law_sizes
  b__law_sizes : Binds K a.d__law_sizes ["_law_facts"] []
  m__law_sizes : mg "_law_sizes" = some (.ref a.a__law_sizes)
  F__law_full : Fun K "_law_full" "_law_full" s__law_full a.a__law_full a.d__law_full
  b__law_full : Binds K a.d__law_full ["_law_facts"] []
  m__law_full : mg "_law_full" = some (.ref a.a__law_full)
  F__law_reads : Fun K "_law_reads" "_law_reads" s__law_reads a.a__law_reads a.d__law_reads
  b__law_reads : Binds K a.d__law_reads ["_law_facts"] []
  m__law_reads : mg "_law_reads" = some (.ref a.a__law_reads)
  F__law_shade_of : Fun K "_law_shade_of" "_law_shade_of" s__law_shade_of a.a__law_shade_of a.d__law_shade_of
  b__law_shade_of : Binds K a.d__law_shade_of ["_law_reads_here", "_law_coats"] []
  m__law_shade_of : mg "_law_shade_of" = some (.ref a.a__law_shade_of)
  F__law_told : Fun K "_law_told" "_law_told" s__law_told a.a__law_told a.d__law_told
  b__law_told : Binds K a.d__law_told ["_law_facts", "_law_part"] []
  m__law_told : mg "_law_told" = some (.ref a.a__law_told)
  F__law_due : Fun K "_law_due" "_law_due" s__law_due a.a__law_due a.d__law_due
  b__law_due : Binds K a.d__law_due ["_law_facts", "_law_part"] []
  m__law_due : mg "_law_due" = some (.ref a.a__law_due)
  F_law : FunC K "law" "law" s_law a.a_law a.d_law a.code
  b_law : Binds K a.d_law ["_law_script"] []
  m_law : mg "law" = some (.ref a.a_law)
  F_LimeError_init : Fun K "__init__" "LimeError.__init__" s_LimeError_init a.a_LimeError_init a.d_LimeError_init
  b_LimeError_init : Binds K a.d_LimeError_init ["self", "called"] []
  i_LimeError_init : PySem.W.findIn K (.ref a.c_LimeError) "__init__" = some (some (.ref a.a_LimeError_init))
  t_LimeError_init : PySem.W.typeIn K (.ref a.a_LimeError_init) = some (.type "function")
  F_BadPart_init : Fun K "__init__" "BadPart.__init__" s_BadPart_init a.a_BadPart_init a.d_BadPart_init
  b_BadPart_init : Binds K a.d_BadPart_init ["self"] []
  i_BadPart_init : PySem.W.findIn K (.ref a.c_BadPart) "__init__" = some (some (.ref a.a_BadPart_init))
  t_BadPart_init : PySem.W.typeIn K (.ref a.a_BadPart_init) = some (.type "function")
  F_BadCoat_init : Fun K "__init__" "BadCoat.__init__" s_BadCoat_init a.a_BadCoat_init a.d_BadCoat_init
  b_BadCoat_init : Binds K a.d_BadCoat_init ["self"] []
  i_BadCoat_init : PySem.W.findIn K (.ref a.c_BadCoat) "__init__" = some (some (.ref a.a_BadCoat_init))
  t_BadCoat_init : PySem.W.typeIn K (.ref a.a_BadCoat_init) = some (.type "function")
  F_BadShade_init : Fun K "__init__" "BadShade.__init__" s_BadShade_init a.a_BadShade_init a.d_BadShade_init
  b_BadShade_init : Binds K a.d_BadShade_init ["self"] []
  i_BadShade_init : PySem.W.findIn K (.ref a.c_BadShade) "__init__" = some (some (.ref a.a_BadShade_init))
  t_BadShade_init : PySem.W.typeIn K (.ref a.a_BadShade_init) = some (.type "function")
  F_Clash_init : Fun K "__init__" "Clash.__init__" s_Clash_init a.a_Clash_init a.d_Clash_init
  b_Clash_init : Binds K a.d_Clash_init ["self", "part", "coat"] []
  i_Clash_init : PySem.W.findIn K (.ref a.c_Clash) "__init__" = some (some (.ref a.a_Clash_init))
  t_Clash_init : PySem.W.typeIn K (.ref a.a_Clash_init) = some (.type "function")
  F_Coats_init : Fun K "__init__" "Coats.__init__" s_Coats_init a.a_Coats_init a.d_Coats_init
  b_Coats_init : Binds K a.d_Coats_init ["self", "shades"] []
  i_Coats_init : Meth K a.c_Coats "__init__" a.a_Coats_init
  F_Coats_len : Fun K "__len__" "Coats.__len__" s_Coats_len a.a_Coats_len a.d_Coats_len
  b_Coats_len : Binds K a.d_Coats_len ["self"] []
  i_Coats_len : Meth K a.c_Coats "__len__" a.a_Coats_len
  F_Coats_shade : Fun K "shade" "Coats.shade" s_Coats_shade a.a_Coats_shade a.d_Coats_shade
  b_Coats_shade : Binds K a.d_Coats_shade ["self", "at"] []
  i_Coats_shade : Meth K a.c_Coats "shade" a.a_Coats_shade
  k_LimeError : mg "LimeError" = some (.ref a.c_LimeError)
  k_BadPart : mg "BadPart" = some (.ref a.c_BadPart)
  k_BadCoat : mg "BadCoat" = some (.ref a.c_BadCoat)
  k_BadShade : mg "BadShade" = some (.ref a.c_BadShade)
  k_Clash : mg "Clash" = some (.ref a.c_Clash)
  k_Coats : mg "Coats" = some (.ref a.c_Coats)
  o_Coats : IsO K a.c_Coats
  mk_Coats : Mk K a.c_Coats a.a_Coats_init
  na_Coats_seen : NoAttr K a.c_Coats "seen"
  fm_Coats : FmC K a.c_Coats
  xf_BadPart : XfC K a.c_BadPart
  nc_BadPart : PySem.W.findIn K (.ref a.c_BadPart) "called" = some none
  ex_BadPart : PySem.W.exmOne K (.ref a.c_BadPart) (.ref a.c_LimeError) = some true
  es_BadPart : PySem.W.exmOne K (.ref a.c_BadPart) (.ref a.c_BadPart) = some true
  xf_BadCoat : XfC K a.c_BadCoat
  nc_BadCoat : PySem.W.findIn K (.ref a.c_BadCoat) "called" = some none
  ex_BadCoat : PySem.W.exmOne K (.ref a.c_BadCoat) (.ref a.c_LimeError) = some true
  es_BadCoat : PySem.W.exmOne K (.ref a.c_BadCoat) (.ref a.c_BadCoat) = some true
  xf_BadShade : XfC K a.c_BadShade
  nc_BadShade : PySem.W.findIn K (.ref a.c_BadShade) "called" = some none
  ex_BadShade : PySem.W.exmOne K (.ref a.c_BadShade) (.ref a.c_LimeError) = some true
  es_BadShade : PySem.W.exmOne K (.ref a.c_BadShade) (.ref a.c_BadShade) = some true
  xf_Clash : XfC K a.c_Clash
  nc_Clash : PySem.W.findIn K (.ref a.c_Clash) "called" = some none
  ex_Clash : PySem.W.exmOne K (.ref a.c_Clash) (.ref a.c_LimeError) = some true
  es_Clash : PySem.W.exmOne K (.ref a.c_Clash) (.ref a.c_Clash) = some true
  nf_Clash_part : PySem.W.findIn K (.ref a.c_Clash) "part" = some none
  nf_Clash_coat : PySem.W.findIn K (.ref a.c_Clash) "coat" = some none
  en_BadPart_Clash : PySem.W.exmOne K (.ref a.c_BadPart) (.ref a.c_Clash) = some false
  n_ValueError : mg "ValueError" = none
  n_all : mg "all" = none
  n_bool : mg "bool" = none
  n_dict : mg "dict" = none
  n_enumerate : mg "enumerate" = none
  n_int : mg "int" = none
  n_isinstance : mg "isinstance" = none
  n_len : mg "len" = none
  n_list : mg "list" = none
  n_max : mg "max" = none
  n_min : mg "min" = none
  n_range : mg "range" = none
  n_set : mg "set" = none
  n_sorted : mg "sorted" = none
  n_str : mg "str" = none
  n_tuple : mg "tuple" = none
  g_PARTS : GlD K mg "PARTS" (.kt [.int 1, .int 2, .int 3, .int 4])
  g_SIGNS : GlD K mg "SIGNS" (.str "?abcdef")
section
variable {P : Program} {w : World} {K : PySem.W.Frag} {mg : Str → Option Value} {base : Heap} {a : Ad}
def sp_need_part (a : Ad) : SpP := fun ds Q E => ∃ p : Int, ds = [.int p] ∧ ((1 ≤ p ∧ p ≤ 4) → Q .non) ∧ (¬ (1 ≤ p ∧ p ≤ 4) → E a.c_BadPart [("called", .str "badpart")])
theorem mn_need_part (a : Ad) : ∀ ds (Q Q' : D → Prop) E, sp_need_part a ds Q E → (∀ d, Q d → Q' d) → sp_need_part a ds Q' E := fun _ _ _ _ ⟨p, h1, h2, h3⟩ i => ⟨p, h1, fun z => i _ (h2 z), h3⟩
theorem ok_need_part (T : Txt K w mg a) (Z_BadPart : XcD P w K mg base "BadPart" a.c_BadPart a.a_BadPart_init a.d_BadPart_init ["self"] 0 (fl0 "badpart") (fd0 "badpart") [] []) : Fx P w K mg base 4 a.a_need_part a.d_need_part "need_part" ["part"] (lp (sp_need_part a)) := by
  refine ⟨fn_P T.F_need_part sc_need_part (by (intro ds Q E h; first | (obtain ⟨h, hr⟩ := h; subst h; (try (obtain ⟨_, hr⟩ := hr)); (try (obtain ⟨_, hr⟩ := hr)); (try (obtain ⟨_, hr⟩ := hr)); (try (obtain ⟨_, hr⟩ := hr)); (all_goals exact ⟨rfl, by (repeat' (first | trivial | exact lmD_lt | exact Ev.lt | exact evs_lt _ | exact itDs_lt _ | exact prs_lt _ | exact Wld.lt | exact rows_lt | exact deeds_lt | exact pasts_lt | exact D.lts_ints _ | exact D.lts_strs _ | exact Fc.lt | exact Dd.lt | exact fcs_lt _ | exact nfs_lt _ | exact nf_lt | exact D.pl.lt (by assumption) | exact D.dp.lt (by assumption) | exact D.dps.lt (by assumption) | exact D.pls.lt (by assumption) | assumption | refine ⟨?_, ?_⟩))⟩)) | (obtain ⟨_, h, hr⟩ := h; subst h; (try (obtain ⟨_, hr⟩ := hr)); (try (obtain ⟨_, hr⟩ := hr)); (try (obtain ⟨_, hr⟩ := hr)); (try (obtain ⟨_, hr⟩ := hr)); (all_goals exact ⟨rfl, by (repeat' (first | trivial | exact lmD_lt | exact Ev.lt | exact evs_lt _ | exact itDs_lt _ | exact prs_lt _ | exact Wld.lt | exact rows_lt | exact deeds_lt | exact pasts_lt | exact D.lts_ints _ | exact D.lts_strs _ | exact Fc.lt | exact Dd.lt | exact fcs_lt _ | exact nfs_lt _ | exact nf_lt | exact D.pl.lt (by assumption) | exact D.dp.lt (by assumption) | exact D.dps.lt (by assumption) | exact D.pls.lt (by assumption) | assumption | refine ⟨?_, ?_⟩))⟩)) | (obtain ⟨_, _, h, hr⟩ := h; subst h; (try (obtain ⟨_, hr⟩ := hr)); (try (obtain ⟨_, hr⟩ := hr)); (try (obtain ⟨_, hr⟩ := hr)); (try (obtain ⟨_, hr⟩ := hr)); (all_goals exact ⟨rfl, by (repeat' (first | trivial | exact lmD_lt | exact Ev.lt | exact evs_lt _ | exact itDs_lt _ | exact prs_lt _ | exact Wld.lt | exact rows_lt | exact deeds_lt | exact pasts_lt | exact D.lts_ints _ | exact D.lts_strs _ | exact Fc.lt | exact Dd.lt | exact fcs_lt _ | exact nfs_lt _ | exact nf_lt | exact D.pl.lt (by assumption) | exact D.dp.lt (by assumption) | exact D.dps.lt (by assumption) | exact D.pls.lt (by assumption) | assumption | refine ⟨?_, ?_⟩))⟩)) | (obtain ⟨_, _, _, h, hr⟩ := h; subst h; (try (obtain ⟨_, hr⟩ := hr)); (try (obtain ⟨_, hr⟩ := hr)); (try (obtain ⟨_, hr⟩ := hr)); (try (obtain ⟨_, hr⟩ := hr)); (all_goals exact ⟨rfl, by (repeat' (first | trivial | exact lmD_lt | exact Ev.lt | exact evs_lt _ | exact itDs_lt _ | exact prs_lt _ | exact Wld.lt | exact rows_lt | exact deeds_lt | exact pasts_lt | exact D.lts_ints _ | exact D.lts_strs _ | exact Fc.lt | exact Dd.lt | exact fcs_lt _ | exact nfs_lt _ | exact nf_lt | exact D.pl.lt (by assumption) | exact D.dp.lt (by assumption) | exact D.dps.lt (by assumption) | exact D.pls.lt (by assumption) | assumption | refine ⟨?_, ?_⟩))⟩)) | (obtain ⟨_, _, _, _, h, hr⟩ := h; subst h; (try (obtain ⟨_, hr⟩ := hr)); (try (obtain ⟨_, hr⟩ := hr)); (try (obtain ⟨_, hr⟩ := hr)); (try (obtain ⟨_, hr⟩ := hr)); (all_goals exact ⟨rfl, by (repeat' (first | trivial | exact lmD_lt | exact Ev.lt | exact evs_lt _ | exact itDs_lt _ | exact prs_lt _ | exact Wld.lt | exact rows_lt | exact deeds_lt | exact pasts_lt | exact D.lts_ints _ | exact D.lts_strs _ | exact Fc.lt | exact Dd.lt | exact fcs_lt _ | exact nfs_lt _ | exact nf_lt | exact D.pl.lt (by assumption) | exact D.dp.lt (by assumption) | exact D.dps.lt (by assumption) | exact D.pls.lt (by assumption) | assumption | refine ⟨?_, ?_⟩))⟩)) | (obtain ⟨_, _, _, _, _, h, hr⟩ := h; subst h; (try (obtain ⟨_, hr⟩ := hr)); (try (obtain ⟨_, hr⟩ := hr)); (try (obtain ⟨_, hr⟩ := hr)); (try (obtain ⟨_, hr⟩ := hr)); (all_goals exact ⟨rfl, by (repeat' (first | trivial | exact lmD_lt | exact Ev.lt | exact evs_lt _ | exact itDs_lt _ | exact prs_lt _ | exact Wld.lt | exact rows_lt | exact deeds_lt | exact pasts_lt | exact D.lts_ints _ | exact D.lts_strs _ | exact Fc.lt | exact Dd.lt | exact fcs_lt _ | exact nfs_lt _ | exact nf_lt | exact D.pl.lt (by assumption) | exact D.dp.lt (by assumption) | exact D.dps.lt (by assumption) | exact D.pls.lt (by assumption) | assumption | refine ⟨?_, ?_⟩))⟩)) | (obtain ⟨h, _⟩ := h; exact (by simp at h)))) fun cdv A outer s H E φ T0 W' room wl => ⟨_, (lss_consW [0] (ls_if (lt_cmp oo_notin (lv 0) (T.g_PARTS.le rfl) (by rfl)) (lss_cons (ls_rz0 Z_BadPart rfl (room.mono (by decide)) (takes_of rfl rfl rfl rfl) wl)
    lss_nil) lss_nil)
    lss_nil), fun ds S R X n h hW => ?_⟩, T.m_need_part, T.F_need_part.kp, T.b_need_part⟩
  obtain ⟨Q, E, h, rfl, rfl, rfl, rfl⟩ := h
  subst hW
  obtain ⟨p, rfl, h, g⟩ := h
  conv => whnf
  repeat (refine Need.mk ?_ ?_; exact nd; conv => whnf)
  by_cases hp : 1 ≤ p ∧ p ≤ 4
  · refine lifF (by show (!([D.int 1, D.int 2, D.int 3, D.int 4].any fun y => y.feq (.int p))) = false; rw [any4, decide_eq_true hp]; rfl) ?_
    conv => whnf
    repeat (refine Need.mk ?_ ?_; exact nd; conv => whnf)
    exact Rp (d := .non) (h hp)
  · refine lifT (by show (!([D.int 1, D.int 2, D.int 3, D.int 4].any fun y => y.feq (.int p))) = true; rw [any4, decide_eq_false hp]; rfl) ?_
    conv => whnf
    repeat (refine Need.mk ?_ ?_; exact nd; conv => whnf)
    exact Xp (fs := [("called", .str "badpart")]) (g hp)
def sp_shown (a : Ad) : SpP := fun ds Q _ => ∃ f : Fc, ds = [f.d] ∧ Q (.lst (f.shown.map pr))
theorem ok_shown (T : Txt K w mg a)  : Fx P w K mg base 1 a.a_shown a.d_shown "shown" ["fact"] (lp (sp_shown a)) := by
  refine ⟨fn_P T.F_shown sc_shown (by (intro ds Q E h; first | (obtain ⟨h, hr⟩ := h; subst h; (try (obtain ⟨_, hr⟩ := hr)); (try (obtain ⟨_, hr⟩ := hr)); (try (obtain ⟨_, hr⟩ := hr)); (try (obtain ⟨_, hr⟩ := hr)); (all_goals exact ⟨rfl, by (repeat' (first | trivial | exact lmD_lt | exact Ev.lt | exact evs_lt _ | exact itDs_lt _ | exact prs_lt _ | exact Wld.lt | exact rows_lt | exact deeds_lt | exact pasts_lt | exact D.lts_ints _ | exact D.lts_strs _ | exact Fc.lt | exact Dd.lt | exact fcs_lt _ | exact nfs_lt _ | exact nf_lt | exact D.pl.lt (by assumption) | exact D.dp.lt (by assumption) | exact D.dps.lt (by assumption) | exact D.pls.lt (by assumption) | assumption | refine ⟨?_, ?_⟩))⟩)) | (obtain ⟨_, h, hr⟩ := h; subst h; (try (obtain ⟨_, hr⟩ := hr)); (try (obtain ⟨_, hr⟩ := hr)); (try (obtain ⟨_, hr⟩ := hr)); (try (obtain ⟨_, hr⟩ := hr)); (all_goals exact ⟨rfl, by (repeat' (first | trivial | exact lmD_lt | exact Ev.lt | exact evs_lt _ | exact itDs_lt _ | exact prs_lt _ | exact Wld.lt | exact rows_lt | exact deeds_lt | exact pasts_lt | exact D.lts_ints _ | exact D.lts_strs _ | exact Fc.lt | exact Dd.lt | exact fcs_lt _ | exact nfs_lt _ | exact nf_lt | exact D.pl.lt (by assumption) | exact D.dp.lt (by assumption) | exact D.dps.lt (by assumption) | exact D.pls.lt (by assumption) | assumption | refine ⟨?_, ?_⟩))⟩)) | (obtain ⟨_, _, h, hr⟩ := h; subst h; (try (obtain ⟨_, hr⟩ := hr)); (try (obtain ⟨_, hr⟩ := hr)); (try (obtain ⟨_, hr⟩ := hr)); (try (obtain ⟨_, hr⟩ := hr)); (all_goals exact ⟨rfl, by (repeat' (first | trivial | exact lmD_lt | exact Ev.lt | exact evs_lt _ | exact itDs_lt _ | exact prs_lt _ | exact Wld.lt | exact rows_lt | exact deeds_lt | exact pasts_lt | exact D.lts_ints _ | exact D.lts_strs _ | exact Fc.lt | exact Dd.lt | exact fcs_lt _ | exact nfs_lt _ | exact nf_lt | exact D.pl.lt (by assumption) | exact D.dp.lt (by assumption) | exact D.dps.lt (by assumption) | exact D.pls.lt (by assumption) | assumption | refine ⟨?_, ?_⟩))⟩)) | (obtain ⟨_, _, _, h, hr⟩ := h; subst h; (try (obtain ⟨_, hr⟩ := hr)); (try (obtain ⟨_, hr⟩ := hr)); (try (obtain ⟨_, hr⟩ := hr)); (try (obtain ⟨_, hr⟩ := hr)); (all_goals exact ⟨rfl, by (repeat' (first | trivial | exact lmD_lt | exact Ev.lt | exact evs_lt _ | exact itDs_lt _ | exact prs_lt _ | exact Wld.lt | exact rows_lt | exact deeds_lt | exact pasts_lt | exact D.lts_ints _ | exact D.lts_strs _ | exact Fc.lt | exact Dd.lt | exact fcs_lt _ | exact nfs_lt _ | exact nf_lt | exact D.pl.lt (by assumption) | exact D.dp.lt (by assumption) | exact D.dps.lt (by assumption) | exact D.pls.lt (by assumption) | assumption | refine ⟨?_, ?_⟩))⟩)) | (obtain ⟨_, _, _, _, h, hr⟩ := h; subst h; (try (obtain ⟨_, hr⟩ := hr)); (try (obtain ⟨_, hr⟩ := hr)); (try (obtain ⟨_, hr⟩ := hr)); (try (obtain ⟨_, hr⟩ := hr)); (all_goals exact ⟨rfl, by (repeat' (first | trivial | exact lmD_lt | exact Ev.lt | exact evs_lt _ | exact itDs_lt _ | exact prs_lt _ | exact Wld.lt | exact rows_lt | exact deeds_lt | exact pasts_lt | exact D.lts_ints _ | exact D.lts_strs _ | exact Fc.lt | exact Dd.lt | exact fcs_lt _ | exact nfs_lt _ | exact nf_lt | exact D.pl.lt (by assumption) | exact D.dp.lt (by assumption) | exact D.dps.lt (by assumption) | exact D.pls.lt (by assumption) | assumption | refine ⟨?_, ?_⟩))⟩)) | (obtain ⟨_, _, _, _, _, h, hr⟩ := h; subst h; (try (obtain ⟨_, hr⟩ := hr)); (try (obtain ⟨_, hr⟩ := hr)); (try (obtain ⟨_, hr⟩ := hr)); (try (obtain ⟨_, hr⟩ := hr)); (all_goals exact ⟨rfl, by (repeat' (first | trivial | exact lmD_lt | exact Ev.lt | exact evs_lt _ | exact itDs_lt _ | exact prs_lt _ | exact Wld.lt | exact rows_lt | exact deeds_lt | exact pasts_lt | exact D.lts_ints _ | exact D.lts_strs _ | exact Fc.lt | exact Dd.lt | exact fcs_lt _ | exact nfs_lt _ | exact nf_lt | exact D.pl.lt (by assumption) | exact D.dp.lt (by assumption) | exact D.dps.lt (by assumption) | exact D.pls.lt (by assumption) | assumption | refine ⟨?_, ?_⟩))⟩)) | (obtain ⟨h, _⟩ := h; exact (by simp at h)))) fun cdv A outer s H E φ T0 W' room wl => ⟨_, (lss_cons (ls_set 1 (le_ix ox_seq (lv 0) le_int) sc_shown.nd)
    (lss_cons (ls_if (lt_cmp (oo_eq room.units) (lv 1) le_str (by rfl)) (lss_cons (ls_ret (le_lst (la_cons (le_tup (la_cons (le_ix ox_seq (lv 0) le_int) (la_cons (le_op oo_add (le_ix ox_seq (lv 0) le_int) (le_callB cc_len rfl T.n_len (by rfl) (la_cons (le_ix ox_seq (lv 0) le_int) la_nil))) la_nil))) la_nil)))
    lss_nil) lss_nil)
    (lss_cons (ls_if (lt_cmp (oo_eq room.units) (lv 1) le_str (by rfl)) (lss_cons (ls_ret (le_lst (la_cons (le_tup (la_cons (le_ix ox_seq (lv 0) le_int) (la_cons le_int la_nil))) (la_cons (le_tup (la_cons (le_ix ox_seq (lv 0) le_int) (la_cons (le_ix ox_seq (lv 0) le_int) la_nil))) la_nil))))
    lss_nil) lss_nil)
    (lss_cons (ls_if (lt_cmp (oo_eq room.units) (lv 1) le_str (by rfl)) (lss_cons (ls_ret (le_lst (la_cons (le_tup (la_cons (le_ix ox_seq (lv 0) le_int) (la_cons (le_ix ox_seq (lv 0) le_int) la_nil))) (la_cons (le_tup (la_cons (le_ix ox_seq (lv 0) le_int) (la_cons (le_ix ox_seq (lv 0) le_int) la_nil))) la_nil))))
    lss_nil) lss_nil)
    (lss_cons (ls_if (lt_cmp (oo_eq room.units) (lv 1) le_str (by rfl)) (lss_cons (ls_ret (le_lst (la_cons (le_tup (la_cons (le_ix ox_seq (lv 0) le_int) (la_cons (le_op oo_add (le_ix ox_seq (lv 0) le_int) le_int) la_nil))) la_nil)))
    lss_nil) lss_nil)
    (lss_consW [1] (ls_if (lt_cmp (oo_eq room.units) (lv 1) le_str (by rfl)) (lss_cons (ls_ret (le_lst la_nil))
    lss_nil) lss_nil)
    (lss_cons (ls_ret (le_lst (la_cons (le_tup (la_cons (le_ix ox_seq (lv 0) le_int) (la_cons (le_op oo_add (le_ix ox_seq (lv 0) le_int) le_int) la_nil))) (la_cons (le_tup (la_cons (le_ix ox_seq (lv 0) le_int) (la_cons (le_op oo_add (le_ix ox_seq (lv 0) le_int) le_int) la_nil))) la_nil))))
    lss_nil))))))), fun ds S R X n h hW => ?_⟩, T.m_shown, T.F_shown.kp, T.b_shown⟩
  obtain ⟨Q, E, h, rfl, rfl, rfl, rfl⟩ := h
  subst hW
  obtain ⟨f, rfl, q⟩ := h
  cases f with
  | scrape p c sh =>
    conv => whnf
    repeat (refine Need.mk ?_ ?_; exact nd; conv => whnf)
    rw [List.length_map]
    exact Rp q ⟨⟨trivial, trivial, trivial⟩, trivial⟩
  | sold s y =>
    conv => whnf
    repeat (refine Need.mk ?_ ?_; exact nd; conv => whnf)
    exact Rp q trivial
  | year p c f l =>
    conv => whnf
    repeat (refine Need.mk ?_ ?_; exact nd; conv => whnf)
    exact Rp q ⟨⟨trivial, trivial, trivial⟩, trivial⟩
  | _ =>
    conv => whnf
    repeat (refine Need.mk ?_ ?_; exact nd; conv => whnf)
    exact Rp q ⟨⟨trivial, trivial, trivial⟩, ⟨trivial, trivial, trivial⟩, trivial⟩
def sp_sizes_of (a : Ad) : SpP := fun ds Q _ => ∃ fs : List (Int × Fc), ds = [.lst (fs.map nf)] ∧ fs.length ≤ 31 ∧ Q (.dK ((sizesC (fs.map (·.2))).d.map (·.1)) ((sizesC (fs.map (·.2))).d.map (·.2)))
theorem ok_sizes_of (T : Txt K w mg a) (G_shown : Fx P w K mg base 1 a.a_shown a.d_shown "shown" ["fact"] (lp (sp_shown a))) : Fx P w K mg base 2 a.a_sizes_of a.d_sizes_of "sizes_of" ["facts"] (lp (sp_sizes_of a)) := by
  refine ⟨fn_P T.F_sizes_of sc_sizes_of (by (intro ds Q E h; first | (obtain ⟨h, hr⟩ := h; subst h; (try (obtain ⟨_, hr⟩ := hr)); (try (obtain ⟨_, hr⟩ := hr)); (try (obtain ⟨_, hr⟩ := hr)); (try (obtain ⟨_, hr⟩ := hr)); (all_goals exact ⟨rfl, by (repeat' (first | trivial | exact lmD_lt | exact Ev.lt | exact evs_lt _ | exact itDs_lt _ | exact prs_lt _ | exact Wld.lt | exact rows_lt | exact deeds_lt | exact pasts_lt | exact D.lts_ints _ | exact D.lts_strs _ | exact Fc.lt | exact Dd.lt | exact fcs_lt _ | exact nfs_lt _ | exact nf_lt | exact D.pl.lt (by assumption) | exact D.dp.lt (by assumption) | exact D.dps.lt (by assumption) | exact D.pls.lt (by assumption) | assumption | refine ⟨?_, ?_⟩))⟩)) | (obtain ⟨_, h, hr⟩ := h; subst h; (try (obtain ⟨_, hr⟩ := hr)); (try (obtain ⟨_, hr⟩ := hr)); (try (obtain ⟨_, hr⟩ := hr)); (try (obtain ⟨_, hr⟩ := hr)); (all_goals exact ⟨rfl, by (repeat' (first | trivial | exact lmD_lt | exact Ev.lt | exact evs_lt _ | exact itDs_lt _ | exact prs_lt _ | exact Wld.lt | exact rows_lt | exact deeds_lt | exact pasts_lt | exact D.lts_ints _ | exact D.lts_strs _ | exact Fc.lt | exact Dd.lt | exact fcs_lt _ | exact nfs_lt _ | exact nf_lt | exact D.pl.lt (by assumption) | exact D.dp.lt (by assumption) | exact D.dps.lt (by assumption) | exact D.pls.lt (by assumption) | assumption | refine ⟨?_, ?_⟩))⟩)) | (obtain ⟨_, _, h, hr⟩ := h; subst h; (try (obtain ⟨_, hr⟩ := hr)); (try (obtain ⟨_, hr⟩ := hr)); (try (obtain ⟨_, hr⟩ := hr)); (try (obtain ⟨_, hr⟩ := hr)); (all_goals exact ⟨rfl, by (repeat' (first | trivial | exact lmD_lt | exact Ev.lt | exact evs_lt _ | exact itDs_lt _ | exact prs_lt _ | exact Wld.lt | exact rows_lt | exact deeds_lt | exact pasts_lt | exact D.lts_ints _ | exact D.lts_strs _ | exact Fc.lt | exact Dd.lt | exact fcs_lt _ | exact nfs_lt _ | exact nf_lt | exact D.pl.lt (by assumption) | exact D.dp.lt (by assumption) | exact D.dps.lt (by assumption) | exact D.pls.lt (by assumption) | assumption | refine ⟨?_, ?_⟩))⟩)) | (obtain ⟨_, _, _, h, hr⟩ := h; subst h; (try (obtain ⟨_, hr⟩ := hr)); (try (obtain ⟨_, hr⟩ := hr)); (try (obtain ⟨_, hr⟩ := hr)); (try (obtain ⟨_, hr⟩ := hr)); (all_goals exact ⟨rfl, by (repeat' (first | trivial | exact lmD_lt | exact Ev.lt | exact evs_lt _ | exact itDs_lt _ | exact prs_lt _ | exact Wld.lt | exact rows_lt | exact deeds_lt | exact pasts_lt | exact D.lts_ints _ | exact D.lts_strs _ | exact Fc.lt | exact Dd.lt | exact fcs_lt _ | exact nfs_lt _ | exact nf_lt | exact D.pl.lt (by assumption) | exact D.dp.lt (by assumption) | exact D.dps.lt (by assumption) | exact D.pls.lt (by assumption) | assumption | refine ⟨?_, ?_⟩))⟩)) | (obtain ⟨_, _, _, _, h, hr⟩ := h; subst h; (try (obtain ⟨_, hr⟩ := hr)); (try (obtain ⟨_, hr⟩ := hr)); (try (obtain ⟨_, hr⟩ := hr)); (try (obtain ⟨_, hr⟩ := hr)); (all_goals exact ⟨rfl, by (repeat' (first | trivial | exact lmD_lt | exact Ev.lt | exact evs_lt _ | exact itDs_lt _ | exact prs_lt _ | exact Wld.lt | exact rows_lt | exact deeds_lt | exact pasts_lt | exact D.lts_ints _ | exact D.lts_strs _ | exact Fc.lt | exact Dd.lt | exact fcs_lt _ | exact nfs_lt _ | exact nf_lt | exact D.pl.lt (by assumption) | exact D.dp.lt (by assumption) | exact D.dps.lt (by assumption) | exact D.pls.lt (by assumption) | assumption | refine ⟨?_, ?_⟩))⟩)) | (obtain ⟨_, _, _, _, _, h, hr⟩ := h; subst h; (try (obtain ⟨_, hr⟩ := hr)); (try (obtain ⟨_, hr⟩ := hr)); (try (obtain ⟨_, hr⟩ := hr)); (try (obtain ⟨_, hr⟩ := hr)); (all_goals exact ⟨rfl, by (repeat' (first | trivial | exact lmD_lt | exact Ev.lt | exact evs_lt _ | exact itDs_lt _ | exact prs_lt _ | exact Wld.lt | exact rows_lt | exact deeds_lt | exact pasts_lt | exact D.lts_ints _ | exact D.lts_strs _ | exact Fc.lt | exact Dd.lt | exact fcs_lt _ | exact nfs_lt _ | exact nf_lt | exact D.pl.lt (by assumption) | exact D.dp.lt (by assumption) | exact D.dps.lt (by assumption) | exact D.pls.lt (by assumption) | assumption | refine ⟨?_, ?_⟩))⟩)) | (obtain ⟨h, _⟩ := h; exact (by simp at h)))) fun cdv A outer s H E φ T0 W' room wl => ⟨_, (lss_cons (ls_set 1 le_dnew sc_sizes_of.nd)
    (lss_consW [0, 2, 3, 4, 5] (ls_for (passes_of rfl) rfl (li_list (lv 0)) (lg_T (t := (.tp [(.nm 2), (.nm 3)])) (tg_tp rfl (tg_cons (tg_nm 2 sc_sizes_of.nd) (tg_cons (tg_nm 3 sc_sizes_of.nd) tg_nil))))
    (lss_consW [2, 3, 4, 5] (ls_for (passes_of rfl) rfl (li_list (le_fx G_shown (room.mono (by decide)) (takes_of rfl rfl rfl rfl) wl (la_cons (lv 3) la_nil))) (lg_T (t := (.tp [(.nm 4), (.nm 5)])) (tg_tp rfl (tg_cons (tg_nm 4 sc_sizes_of.nd) (tg_cons (tg_nm 5 sc_sizes_of.nd) tg_nil))))
    (lss_consW [4, 5] (ls_asg (le_callB (cc_max2 rfl) rfl T.n_max (by rfl) (la_cons (lv 5) (la_cons (le_bm PySem.F.plainAttrs_dict PySem.F.slot_dict_setdefault PySem.F.type_dict_setdefault mm_setdefault (lv 1) (la_cons (lv 4) (la_cons le_int la_nil))) la_nil))) (lg_sub (lv 1) (lv 4) (st_dict (u1 room.units))))
    lss_nil))
    lss_nil))
    (lss_cons (ls_ret (lv 1))
    lss_nil))), fun ds S R X n h hW => ?_⟩, T.m_sizes_of, T.F_sizes_of.kp, T.b_sizes_of⟩
  obtain ⟨Q, E, h, rfl, rfl, rfl, rfl⟩ := h
  subst hW
  obtain ⟨fs, rfl, hl, q⟩ := h
  conv => whnf
  refine ⟨fun i s' S' => ∃ c : Cnt, c = sizesC ((fs.take i).map (·.2)) ∧ c.length ≤ 2 * i ∧ S' = [.dK c.d] ∧ s' = [some (.lst (fs.map nf)), some (.ref 0), none, none, none, none], ⟨[], rfl, Nat.le_refl _, rfl, rfl⟩, fun _ _ _ _ _ => rfl, ?_, ?_⟩
  · rintro i x s' S' hi ⟨c, hc, hcl, rfl, rfl⟩
    obtain ⟨p, hp, rfl⟩ := map_at hi
    conv => whnf
    refine ⟨_, rfl, ?_⟩
    conv => whnf
    refine ⟨p.2, rfl, ?_⟩
    conv => whnf
    refine ⟨fun j s' S' => ∃ e : Cnt, e = (p.2.shown.take j).foldl addC c ∧ e.length ≤ 2 * i + j ∧ S' = [.dK e.d] ∧ s' = [some (.lst (fs.map nf)), some (.ref 0), some (.int p.1), some p.2.d, none, none], ⟨c, rfl, hcl, rfl, rfl⟩, fun _ _ _ _ _ => rfl, ?_, ?_⟩
    · rintro j x s' S' hj ⟨e, he, hel, rfl, rfl⟩
      obtain ⟨y, hy, rfl⟩ := map_at hj
      conv => whnf
      refine ⟨_, rfl, ?_⟩
      conv => whnf
      have hi31 : i < fs.length := (List.getElem?_eq_some_iff.mp hp).1
      have hj2 : j < p.2.shown.length := (List.getElem?_eq_some_iff.mp hy).1
      have hs2 := shown_len p.2
      refine Need.mk rfl ?_
      conv => whnf
      refine Need.mk (lenD (by omega)) ?_
      cases hv : valD e.d (.inl y.1) with
      | some d =>
        rw [valD_some hv]
        conv => whnf
        refine Need.mk (lenD (by omega)) ?_
        conv => whnf
        refine .inl ⟨addC e y, ?_, Nat.le_trans (addC_len e y) (by omega), ?_, rfl⟩
        · rw [take_snoc hy, List.foldl_append, ← he]; rfl
        · show [O.dK _] = _; exact congrArg (fun z => [O.dK z]) addC_some
      | none =>
        conv => whnf
        rw [putE_C]
        have hl0 := putC_len e y.1 0
        refine Need.mk (lenD (by omega)) ?_
        conv => whnf
        refine .inl ⟨addC e y, ?_, Nat.le_trans (addC_len e y) (by omega), ?_, rfl⟩
        · rw [take_snoc hy, List.foldl_append, ← he]; rfl
        · show [O.dK _] = _; exact congrArg (fun z => [O.dK z]) (addC_none (valD_none hv))
    · rintro s' S' ⟨e, he, hel, rfl, rfl⟩
      conv => whnf
      rw [List.length_map, List.take_length] at he
      rw [List.length_map] at hel
      refine .inl ⟨e, ?_, ?_, rfl, rfl⟩
      · rw [take_snoc hp, List.map_append, List.map_singleton, sizesC_snoc, ← hc, he]
      · have := shown_len p.2; omega
  · rintro s' S' ⟨c, hc, hcl, rfl, rfl⟩
    conv => whnf
    rw [List.length_map, List.take_length] at hc
    subst hc
    exact RpD rfl (Cnt.lts _) q
def sp_counts (a : Ad) : SpP := fun ds Q _ => ∃ fs : List (Int × Fc), ds = [.lst (fs.map nf)] ∧ fs.length ≤ 31 ∧ Q (.tup ((fullC (fs.map (·.2))).map D.int))
theorem ok_counts (T : Txt K w mg a) (G_sizes_of : Fx P w K mg base 2 a.a_sizes_of a.d_sizes_of "sizes_of" ["facts"] (lp (sp_sizes_of a))) : Fx P w K mg base 3 a.a_counts a.d_counts "counts" ["facts"] (lp (sp_counts a)) := by
  refine ⟨fn_P T.F_counts sc_counts (by (intro ds Q E h; first | (obtain ⟨h, hr⟩ := h; subst h; (try (obtain ⟨_, hr⟩ := hr)); (try (obtain ⟨_, hr⟩ := hr)); (try (obtain ⟨_, hr⟩ := hr)); (try (obtain ⟨_, hr⟩ := hr)); (all_goals exact ⟨rfl, by (repeat' (first | trivial | exact lmD_lt | exact Ev.lt | exact evs_lt _ | exact itDs_lt _ | exact prs_lt _ | exact Wld.lt | exact rows_lt | exact deeds_lt | exact pasts_lt | exact D.lts_ints _ | exact D.lts_strs _ | exact Fc.lt | exact Dd.lt | exact fcs_lt _ | exact nfs_lt _ | exact nf_lt | exact D.pl.lt (by assumption) | exact D.dp.lt (by assumption) | exact D.dps.lt (by assumption) | exact D.pls.lt (by assumption) | assumption | refine ⟨?_, ?_⟩))⟩)) | (obtain ⟨_, h, hr⟩ := h; subst h; (try (obtain ⟨_, hr⟩ := hr)); (try (obtain ⟨_, hr⟩ := hr)); (try (obtain ⟨_, hr⟩ := hr)); (try (obtain ⟨_, hr⟩ := hr)); (all_goals exact ⟨rfl, by (repeat' (first | trivial | exact lmD_lt | exact Ev.lt | exact evs_lt _ | exact itDs_lt _ | exact prs_lt _ | exact Wld.lt | exact rows_lt | exact deeds_lt | exact pasts_lt | exact D.lts_ints _ | exact D.lts_strs _ | exact Fc.lt | exact Dd.lt | exact fcs_lt _ | exact nfs_lt _ | exact nf_lt | exact D.pl.lt (by assumption) | exact D.dp.lt (by assumption) | exact D.dps.lt (by assumption) | exact D.pls.lt (by assumption) | assumption | refine ⟨?_, ?_⟩))⟩)) | (obtain ⟨_, _, h, hr⟩ := h; subst h; (try (obtain ⟨_, hr⟩ := hr)); (try (obtain ⟨_, hr⟩ := hr)); (try (obtain ⟨_, hr⟩ := hr)); (try (obtain ⟨_, hr⟩ := hr)); (all_goals exact ⟨rfl, by (repeat' (first | trivial | exact lmD_lt | exact Ev.lt | exact evs_lt _ | exact itDs_lt _ | exact prs_lt _ | exact Wld.lt | exact rows_lt | exact deeds_lt | exact pasts_lt | exact D.lts_ints _ | exact D.lts_strs _ | exact Fc.lt | exact Dd.lt | exact fcs_lt _ | exact nfs_lt _ | exact nf_lt | exact D.pl.lt (by assumption) | exact D.dp.lt (by assumption) | exact D.dps.lt (by assumption) | exact D.pls.lt (by assumption) | assumption | refine ⟨?_, ?_⟩))⟩)) | (obtain ⟨_, _, _, h, hr⟩ := h; subst h; (try (obtain ⟨_, hr⟩ := hr)); (try (obtain ⟨_, hr⟩ := hr)); (try (obtain ⟨_, hr⟩ := hr)); (try (obtain ⟨_, hr⟩ := hr)); (all_goals exact ⟨rfl, by (repeat' (first | trivial | exact lmD_lt | exact Ev.lt | exact evs_lt _ | exact itDs_lt _ | exact prs_lt _ | exact Wld.lt | exact rows_lt | exact deeds_lt | exact pasts_lt | exact D.lts_ints _ | exact D.lts_strs _ | exact Fc.lt | exact Dd.lt | exact fcs_lt _ | exact nfs_lt _ | exact nf_lt | exact D.pl.lt (by assumption) | exact D.dp.lt (by assumption) | exact D.dps.lt (by assumption) | exact D.pls.lt (by assumption) | assumption | refine ⟨?_, ?_⟩))⟩)) | (obtain ⟨_, _, _, _, h, hr⟩ := h; subst h; (try (obtain ⟨_, hr⟩ := hr)); (try (obtain ⟨_, hr⟩ := hr)); (try (obtain ⟨_, hr⟩ := hr)); (try (obtain ⟨_, hr⟩ := hr)); (all_goals exact ⟨rfl, by (repeat' (first | trivial | exact lmD_lt | exact Ev.lt | exact evs_lt _ | exact itDs_lt _ | exact prs_lt _ | exact Wld.lt | exact rows_lt | exact deeds_lt | exact pasts_lt | exact D.lts_ints _ | exact D.lts_strs _ | exact Fc.lt | exact Dd.lt | exact fcs_lt _ | exact nfs_lt _ | exact nf_lt | exact D.pl.lt (by assumption) | exact D.dp.lt (by assumption) | exact D.dps.lt (by assumption) | exact D.pls.lt (by assumption) | assumption | refine ⟨?_, ?_⟩))⟩)) | (obtain ⟨_, _, _, _, _, h, hr⟩ := h; subst h; (try (obtain ⟨_, hr⟩ := hr)); (try (obtain ⟨_, hr⟩ := hr)); (try (obtain ⟨_, hr⟩ := hr)); (try (obtain ⟨_, hr⟩ := hr)); (all_goals exact ⟨rfl, by (repeat' (first | trivial | exact lmD_lt | exact Ev.lt | exact evs_lt _ | exact itDs_lt _ | exact prs_lt _ | exact Wld.lt | exact rows_lt | exact deeds_lt | exact pasts_lt | exact D.lts_ints _ | exact D.lts_strs _ | exact Fc.lt | exact Dd.lt | exact fcs_lt _ | exact nfs_lt _ | exact nf_lt | exact D.pl.lt (by assumption) | exact D.dp.lt (by assumption) | exact D.dps.lt (by assumption) | exact D.pls.lt (by assumption) | assumption | refine ⟨?_, ?_⟩))⟩)) | (obtain ⟨h, _⟩ := h; exact (by simp at h)))) fun cdv A outer s H E φ T0 W' room wl => ⟨_, (lss_consW [0] (ls_set 1 (le_fx G_sizes_of (room.mono (by decide)) (takes_of rfl rfl rfl rfl) wl (la_cons (lv 0) la_nil)) sc_counts.nd)
    (lss_cons (ls_ret (le_callTy cc_tuple rfl T.n_tuple (by rfl) (la_cons (le_lc false [("part", 2)] (.nm 2) rfl sc_counts.nd (li_tup (T.g_PARTS.le rfl)) (by (conv => { arg 1; whnf }); (conv => { arg 2; whnf }); exact ⟨rfl, by decide +kernel, by decide +kernel, by decide +kernel, by decide +kernel⟩) (fun _ _ _ _ _ => (tg_nm 2 sc_counts.nd)) (fun _ _ _ _ _ => lts_nil) (fun _ _ _ _ _ => (le_dget2 (u1 room.units) (lv 1) (lv 2) le_int))) la_nil)))
    lss_nil)), fun ds S R X n h hW => ?_⟩, T.m_counts, T.F_counts.kp, T.b_counts⟩
  obtain ⟨Q, E, h, rfl, rfl, rfl, rfl⟩ := h
  subst hW
  obtain ⟨fs, rfl, hl, q⟩ := h
  conv => whnf
  refine ⟨fs, rfl, hl, ?_⟩
  conv => whnf
  refine lc_map (fun d => match d with | .int i => .int (getC (sizesC (fs.map (·.2))) i) | _ => .non) (by decide) (fun _ => trivial) ?_ ?_
  · intro i d acc hi
    obtain ⟨p, hp, rfl⟩ := int_at (ns := [1, 2, 3, 4]) hi
    refine ⟨_, rfl, trivial, fun R r => ?_⟩
    conv => whnf
    refine Need.mk (by rw [dkOf_C]; rfl) ?_
    conv => whnf
    rw [Cnt.zip, getD_C]
    exact r
  · conv => whnf
    exact Rp q ⟨trivial, trivial, trivial, trivial, trivial⟩
def readF (p c : Int) : Fc → List Int
  | .scrape q a sh => if q = p ∧ 0 ≤ c - a ∧ c - a < sh.length ∧ 0 < sh.getD (c - a).toNat 0 then [sh.getD (c - a).toNat 0] else []
  | _ => []
def readC (p c : Int) (fs : List Fc) : List Int := fs.flatMap (readF p c)
theorem readC_snoc (p c : Int) (fs : List Fc) (f : Fc) : readC p c (fs ++ [f]) = readC p c fs ++ readF p c f := by
  unfold readC; rw [List.flatMap_append]; simp
theorem readF_len (p c : Int) (f : Fc) : (readF p c f).length ≤ 1 := by
  unfold readF
  split
  · split <;> simp
  · simp
theorem readC_len (p c : Int) (fs : List Fc) : (readC p c fs).length ≤ fs.length := by
  induction fs with
  | nil => exact Nat.le_refl _
  | cons f fs ih =>
    have h := readF_len p c f
    show (List.flatMap (readF p c) (f :: fs)).length ≤ _
    rw [List.flatMap_cons, List.length_append, List.length_cons]
    have h2 : (List.flatMap (readF p c) fs).length ≤ fs.length := ih
    omega
theorem at_D {sh : List Int} {k : Int} (h0 : 0 ≤ k) (h1 : k < sh.length) : L2.atI (sh.map D.int) k = some (.int (sh.getD k.toNat 0)) := by
  have h : k.toNat < sh.length := by omega
  refine atI_get h0 ?_
  rw [List.getElem?_map, List.getElem?_eq_getElem h, List.getD_eq_getElem?_getD, List.getElem?_eq_getElem h]; rfl
def sp_shades_read (a : Ad) : SpP := fun ds Q _ => ∃ (fs : List (Int × Fc)) (p c : Int), ds = [.lst (fs.map nf), .int p, .int c] ∧ fs.length ≤ 31 ∧ Q (.lst ((readC p c (fs.map (·.2))).map D.int))
theorem mn_shades_read (a : Ad) : ∀ ds (Q Q' : D → Prop) E, sp_shades_read a ds Q E → (∀ d, Q d → Q' d) → sp_shades_read a ds Q' E := fun _ _ _ _ ⟨fs, p, c, h1, h2, q⟩ i => ⟨fs, p, c, h1, h2, i _ q⟩
theorem ok_shades_read (T : Txt K w mg a)  : Fx P w K mg base 1 a.a_shades_read a.d_shades_read "shades_read" ["facts", "part", "coat"] (lp (sp_shades_read a)) := by
  refine ⟨fn_P T.F_shades_read sc_shades_read (by (intro ds Q E h; first | (obtain ⟨h, hr⟩ := h; subst h; (try (obtain ⟨_, hr⟩ := hr)); (try (obtain ⟨_, hr⟩ := hr)); (try (obtain ⟨_, hr⟩ := hr)); (try (obtain ⟨_, hr⟩ := hr)); (all_goals exact ⟨rfl, by (repeat' (first | trivial | exact lmD_lt | exact Ev.lt | exact evs_lt _ | exact itDs_lt _ | exact prs_lt _ | exact Wld.lt | exact rows_lt | exact deeds_lt | exact pasts_lt | exact D.lts_ints _ | exact D.lts_strs _ | exact Fc.lt | exact Dd.lt | exact fcs_lt _ | exact nfs_lt _ | exact nf_lt | exact D.pl.lt (by assumption) | exact D.dp.lt (by assumption) | exact D.dps.lt (by assumption) | exact D.pls.lt (by assumption) | assumption | refine ⟨?_, ?_⟩))⟩)) | (obtain ⟨_, h, hr⟩ := h; subst h; (try (obtain ⟨_, hr⟩ := hr)); (try (obtain ⟨_, hr⟩ := hr)); (try (obtain ⟨_, hr⟩ := hr)); (try (obtain ⟨_, hr⟩ := hr)); (all_goals exact ⟨rfl, by (repeat' (first | trivial | exact lmD_lt | exact Ev.lt | exact evs_lt _ | exact itDs_lt _ | exact prs_lt _ | exact Wld.lt | exact rows_lt | exact deeds_lt | exact pasts_lt | exact D.lts_ints _ | exact D.lts_strs _ | exact Fc.lt | exact Dd.lt | exact fcs_lt _ | exact nfs_lt _ | exact nf_lt | exact D.pl.lt (by assumption) | exact D.dp.lt (by assumption) | exact D.dps.lt (by assumption) | exact D.pls.lt (by assumption) | assumption | refine ⟨?_, ?_⟩))⟩)) | (obtain ⟨_, _, h, hr⟩ := h; subst h; (try (obtain ⟨_, hr⟩ := hr)); (try (obtain ⟨_, hr⟩ := hr)); (try (obtain ⟨_, hr⟩ := hr)); (try (obtain ⟨_, hr⟩ := hr)); (all_goals exact ⟨rfl, by (repeat' (first | trivial | exact lmD_lt | exact Ev.lt | exact evs_lt _ | exact itDs_lt _ | exact prs_lt _ | exact Wld.lt | exact rows_lt | exact deeds_lt | exact pasts_lt | exact D.lts_ints _ | exact D.lts_strs _ | exact Fc.lt | exact Dd.lt | exact fcs_lt _ | exact nfs_lt _ | exact nf_lt | exact D.pl.lt (by assumption) | exact D.dp.lt (by assumption) | exact D.dps.lt (by assumption) | exact D.pls.lt (by assumption) | assumption | refine ⟨?_, ?_⟩))⟩)) | (obtain ⟨_, _, _, h, hr⟩ := h; subst h; (try (obtain ⟨_, hr⟩ := hr)); (try (obtain ⟨_, hr⟩ := hr)); (try (obtain ⟨_, hr⟩ := hr)); (try (obtain ⟨_, hr⟩ := hr)); (all_goals exact ⟨rfl, by (repeat' (first | trivial | exact lmD_lt | exact Ev.lt | exact evs_lt _ | exact itDs_lt _ | exact prs_lt _ | exact Wld.lt | exact rows_lt | exact deeds_lt | exact pasts_lt | exact D.lts_ints _ | exact D.lts_strs _ | exact Fc.lt | exact Dd.lt | exact fcs_lt _ | exact nfs_lt _ | exact nf_lt | exact D.pl.lt (by assumption) | exact D.dp.lt (by assumption) | exact D.dps.lt (by assumption) | exact D.pls.lt (by assumption) | assumption | refine ⟨?_, ?_⟩))⟩)) | (obtain ⟨_, _, _, _, h, hr⟩ := h; subst h; (try (obtain ⟨_, hr⟩ := hr)); (try (obtain ⟨_, hr⟩ := hr)); (try (obtain ⟨_, hr⟩ := hr)); (try (obtain ⟨_, hr⟩ := hr)); (all_goals exact ⟨rfl, by (repeat' (first | trivial | exact lmD_lt | exact Ev.lt | exact evs_lt _ | exact itDs_lt _ | exact prs_lt _ | exact Wld.lt | exact rows_lt | exact deeds_lt | exact pasts_lt | exact D.lts_ints _ | exact D.lts_strs _ | exact Fc.lt | exact Dd.lt | exact fcs_lt _ | exact nfs_lt _ | exact nf_lt | exact D.pl.lt (by assumption) | exact D.dp.lt (by assumption) | exact D.dps.lt (by assumption) | exact D.pls.lt (by assumption) | assumption | refine ⟨?_, ?_⟩))⟩)) | (obtain ⟨_, _, _, _, _, h, hr⟩ := h; subst h; (try (obtain ⟨_, hr⟩ := hr)); (try (obtain ⟨_, hr⟩ := hr)); (try (obtain ⟨_, hr⟩ := hr)); (try (obtain ⟨_, hr⟩ := hr)); (all_goals exact ⟨rfl, by (repeat' (first | trivial | exact lmD_lt | exact Ev.lt | exact evs_lt _ | exact itDs_lt _ | exact prs_lt _ | exact Wld.lt | exact rows_lt | exact deeds_lt | exact pasts_lt | exact D.lts_ints _ | exact D.lts_strs _ | exact Fc.lt | exact Dd.lt | exact fcs_lt _ | exact nfs_lt _ | exact nf_lt | exact D.pl.lt (by assumption) | exact D.dp.lt (by assumption) | exact D.dps.lt (by assumption) | exact D.pls.lt (by assumption) | assumption | refine ⟨?_, ?_⟩))⟩)) | (obtain ⟨h, _⟩ := h; exact (by simp at h)))) fun cdv A outer s H E φ T0 W' room wl => ⟨_, (lss_cons (ls_set 3 (le_lstM la_nil) sc_shades_read.nd)
    (lss_consW [0, 1, 2, 4, 5, 6] (ls_for (passes_of rfl) rfl (li_list (lv 0)) (lg_T (t := (.tp [(.nm 4), (.nm 5)])) (tg_tp rfl (tg_cons (tg_nm 4 sc_shades_read.nd) (tg_cons (tg_nm 5 sc_shades_read.nd) tg_nil))))
    (lss_consW [4, 5, 6] (ls_if (LW.t (lw_and (lt_cmp (oo_eq room.units) (le_ix ox_seq (lv 5) le_int) le_str (by rfl)) (lw_and1 (lt_cmp (oo_eq room.units) (le_ix ox_seq (lv 5) le_int) (lv 1) (by rfl))))) (lss_consW [4] (ls_set 6 (le_op oo_sub (lv 2) (le_ix ox_seq (lv 5) le_int)) sc_shades_read.nd)
    (lss_consW [5, 6] (ls_if (LW.t (lw_and (lt_chain oo_le oo_lt le_int (lv 6) (le_callB cc_len rfl T.n_len (by rfl) (la_cons (le_ix ox_seq (lv 5) le_int) la_nil))) (lw_and1 (lt_cmp oo_gt (le_ix ox_seq (le_ix ox_seq (lv 5) le_int) (lv 6)) le_int (by rfl))))) (lss_consW [5, 6] (ls_expr (le_bm PySem.F.plainAttrs_list PySem.F.slot_list_append PySem.F.type_list_append mm_append (lv 3) (la_cons (le_ix ox_seq (le_ix ox_seq (lv 5) le_int) (lv 6)) la_nil)))
    lss_nil) lss_nil)
    lss_nil)) lss_nil)
    lss_nil))
    (lss_cons (ls_ret (lv 3))
    lss_nil))), fun ds S R X n h hW => ?_⟩, T.m_shades_read, T.F_shades_read.kp, T.b_shades_read⟩
  obtain ⟨Q, E, h, rfl, rfl, rfl, rfl⟩ := h
  subst hW
  obtain ⟨fs, p, c, rfl, hl, q⟩ := h
  conv => whnf
  refine ⟨fun i s' S' => S' = [.lst ((readC p c ((fs.take i).map (·.2))).map D.int)] ∧ s' = [some (.lst (fs.map nf)), some (.int p), some (.int c), some (.ref 0), none, none, none], ⟨rfl, rfl⟩, fun _ _ _ _ _ => rfl, ?_, ?_⟩
  · rintro i x s' S' hi ⟨rfl, rfl⟩
    obtain ⟨⟨n, f⟩, hp, rfl⟩ := map_at hi
    have hz : (readC p c ((fs.take i).map (·.2))).length ≤ i := by
      have h := readC_len p c ((fs.take i).map (·.2))
      rw [List.length_map, List.length_take] at h
      omega
    have es : readC p c ((fs.take (i + 1)).map (·.2)) = readC p c ((fs.take i).map (·.2)) ++ readF p c f := by
      rw [take_snoc hp, List.map_append, List.map_singleton, readC_snoc]
    conv => whnf
    refine ⟨_, rfl, ?_⟩
    cases f with
    | scrape q' a' sh =>
      conv => whnf
      refine lif (fun hc => ?_) (fun hc => ?_)
      · have hc : decide (q' = p) = true := hc
        have hq := of_decide_eq_true hc
        subst hq
        conv => whnf
        refine lif (fun h0 => ?_) (fun h0 => ?_)
        · have h0 : decide (0 ≤ c - a') = true := h0
          have h0 := of_decide_eq_true h0
          conv => whnf
          refine lif (fun h1 => ?_) (fun h1 => ?_)
          · have h1 : decide (c - a' < ((sh.map D.int).length : Int)) = true := h1
            have h1 := of_decide_eq_true h1
            rw [List.length_map] at h1
            have hz0 := at_D h0 h1
            conv => whnf
            rw [hz0]
            conv => whnf
            refine lif (fun h2 => ?_) (fun h2 => ?_)
            · have h2 : decide (0 < sh.getD (c - a').toNat 0) = true := h2
              have h2 := of_decide_eq_true h2
              conv => whnf
              refine Need.mk rfl ?_
              conv => whnf
              rw [hz0]
              conv => whnf
              refine Need.mk (by rw [List.length_map]; exact Nat.lt_of_le_of_lt hz (Nat.lt_of_lt_of_le (List.getElem?_eq_some_iff.mp hp).1 (Nat.le_trans hl (by decide)))) ?_
              conv => whnf
              refine .inl ⟨?_, rfl⟩
              rw [es, show readF q' c (.scrape q' a' sh) = [sh.getD (c - a').toNat 0] from if_pos ⟨rfl, h0, h1, h2⟩, List.map_append]
              rfl
            · have h2 : decide (0 < sh.getD (c - a').toNat 0) = false := h2
              have h2 := of_decide_eq_false h2
              conv => whnf
              refine .inl ⟨?_, rfl⟩
              rw [es]
              rw [show readF q' c (.scrape q' a' sh) = [] from if_neg fun z => h2 z.2.2.2, List.append_nil]
          · have h1 : decide (c - a' < ((sh.map D.int).length : Int)) = false := h1
            have h1 := of_decide_eq_false h1
            rw [List.length_map] at h1
            conv => whnf
            refine .inl ⟨?_, rfl⟩
            rw [es]
            rw [show readF q' c (.scrape q' a' sh) = [] from if_neg fun z => h1 z.2.2.1, List.append_nil]
        · have h0 : decide (0 ≤ c - a') = false := h0
          have h0 := of_decide_eq_false h0
          conv => whnf
          refine .inl ⟨?_, rfl⟩
          rw [es]
          rw [show readF q' c (.scrape q' a' sh) = [] from if_neg fun z => h0 z.2.1, List.append_nil]
      · have hc : decide (q' = p) = false := hc
        have hq := of_decide_eq_false hc
        conv => whnf
        refine .inl ⟨?_, rfl⟩
        rw [es]
        simp [readF, hq]
    | _ =>
      conv => whnf
      refine .inl ⟨?_, rfl⟩
      rw [es]
      simp [readF]
  · rintro s' S' ⟨rfl, rfl⟩
    conv => whnf
    rw [List.length_map, List.take_length]
    exact RpL rfl (D.lts_ints _) q
def sp_Coats_init (a : Ad) : SpI := fun ds Q E => ∃ (d : D), ds = [d] ∧ ∃ ns : List Int, (d = .lst (ns.map D.int) ∨ d = .tup (ns.map D.int)) ∧ ns.length < 1000000 ∧ (goodN ns → Q [("seen", .tup (ns.map D.int))]) ∧ (¬ goodN ns → E a.c_BadShade [("called", .str "badshade")])
theorem pure_Coats_init {a : Ad} : PureI (sp_Coats_init a) := by
  rintro ds Q E ⟨d, rfl, ns, h1, h2, h3, h4⟩
  refine ⟨⟨by rcases h1 with rfl | rfl <;> exact D.lts_ints ns, trivial⟩, d, rfl, ns, h1, h2, fun g => ⟨⟨D.lts_ints ns, trivial⟩, h3 g⟩, fun g => ⟨⟨trivial, trivial⟩, h4 g⟩⟩
theorem good_all (ns : List Int) : (ns.map fun z => decide (0 ≤ z) && decide (z < 7)).all id = decide (goodN ns) := by
  rw [List.all_map, Bool.eq_iff_iff, List.all_eq_true]
  constructor
  · intro h
    refine decide_eq_true fun z hz => ?_
    have := h z hz
    simp at this
    omega
  · intro h z hz
    have := of_decide_eq_true h z hz
    simp
    omega
theorem ok_Coats_init (T : Txt K w mg a) (Z_BadShade : XcD P w K mg base "BadShade" a.c_BadShade a.a_BadShade_init a.d_BadShade_init ["self"] 0 (fl0 "badshade") (fd0 "badshade") [] []) : MkX P w K mg base 4 "Coats" a.c_Coats a.a_Coats_init a.d_Coats_init ["self", "shades"] (sp_Coats_init a) [] [] := by
  refine ⟨pure_Coats_init, T.mk_Coats, fn_I T.F_Coats_init sc_Coats_init (by (intro ds Q E h; first | (obtain ⟨h, _⟩ := h; subst h; rfl) | (obtain ⟨_, h, _⟩ := h; subst h; rfl) | (obtain ⟨_, _, h, _⟩ := h; subst h; rfl) | (obtain ⟨_, _, _, h, _⟩ := h; subst h; rfl) | (obtain ⟨_, _, _, _, h, _⟩ := h; subst h; rfl) | (obtain ⟨_, _, _, _, _, h, _⟩ := h; subst h; rfl))) fun cdv A outer s H E φ T0 W' room wl => ⟨_, (lss_cons (ls_if (lt_not (lt_truth (le_callB (cc_all rfl) rfl T.n_all (by rfl) (la_cons (le_lc false [("shade", 2)] (.nm 2) rfl sc_Coats_init.nd (li_any (lv 1)) (by (conv => { arg 1; whnf }); (conv => { arg 2; whnf }); exact ⟨rfl, by decide +kernel, by decide +kernel, by decide +kernel, by decide +kernel⟩) (fun _ _ _ _ _ => (tg_nm 2 sc_Coats_init.nd)) (fun _ _ _ _ _ => lts_nil) (fun _ _ _ _ _ => (le_chain oo_le oo_lt le_int (lv 2) (le_callB cc_len rfl T.n_len (by rfl) (la_cons (T.g_SIGNS.le rfl) la_nil))))) la_nil)))) (lss_cons (ls_rz0 Z_BadShade rfl (room.mono (by decide)) (takes_of rfl rfl rfl rfl) wl)
    lss_nil) lss_nil)
    (lss_consW [0, 1] (ls_fldC (C := a.c_Coats) T.o_Coats.is.cl T.na_Coats_seen (lv 0) (le_callTy cc_tuple rfl T.n_tuple (by rfl) (la_cons (lv 1) la_nil)))
    lss_nil)), fun ds S R X n h hW => ?_⟩, T.k_Coats, ⟨[], .nil, T.b_Coats_init⟩, RVc.nil⟩
  obtain ⟨r, Q, E, h, rfl, rfl, rfl, rfl, rfl⟩ := h
  subst hW
  obtain ⟨d, rfl, ns, hd, hn, h1, h2⟩ := h
  conv => whnf
  refine any_at (fun R' h => h) (xs := ns.map D.int) (fun S' => by rcases hd with rfl | rfl <;> rfl) fun keep hk => ?_
  refine lc_map (fun d => match d with | .int z => .bl (decide (0 ≤ z) && decide (z < 7)) | _ => .non) (by rw [List.length_map]; exact Nat.lt_trans hn (by decide)) (fun _ => hk _) ?_ ?_
  · intro i x acc hi
    obtain ⟨z, hz, rfl⟩ := int_at hi
    refine ⟨_, rfl, trivial, fun R r => ?_⟩
    conv => whnf
    repeat (refine Need.mk ?_ ?_; exact nd; conv => whnf)
    refine lif (fun hc => ?_) (fun hc => ?_)
    · conv => whnf
      repeat (refine Need.mk ?_ ?_; exact nd; conv => whnf)
      have hc : decide (0 ≤ z) = true := hc
      exact Eq.mp (by simp only [hc]; rfl) r
    · conv => whnf
      repeat (refine Need.mk ?_ ?_; exact nd; conv => whnf)
      have hc : decide (0 ≤ z) = false := hc
      exact Eq.mp (by simp only [hc]; rfl) r
  · conv => whnf
    repeat (refine Need.mk ?_ ?_; exact nd; conv => whnf)
    rw [List.map_map]
    refine optI (asBs_map (fun z => decide (0 ≤ z) && decide (z < 7)) ns) ?_
    conv => whnf
    repeat (refine Need.mk ?_ ?_; exact nd; conv => whnf)
    rw [good_all]
    refine bnd (fun hg => ?_) (fun hg => ?_)
    · rcases hd with rfl | rfl
      · conv => whnf
        repeat (refine Need.mk ?_ ?_; exact nd; conv => whnf)
        exact ⟨rfl, rfl, _, rfl, RsL.same ⟨D.lts_ints ns, trivial⟩, h1 hg⟩
      · conv => whnf
        repeat (refine Need.mk ?_ ?_; exact nd; conv => whnf)
        exact ⟨rfl, rfl, _, rfl, RsL.same ⟨D.lts_ints ns, trivial⟩, h1 hg⟩
    · conv => whnf
      repeat (refine Need.mk ?_ ?_; exact nd; conv => whnf)
      exact ⟨_, rfl, RsL.same ⟨trivial, trivial⟩, h2 hg⟩
/-- two shades are read of a coat -/
def clashC (p : Int) (fs : List Fc) (c : Nat) : Bool := (readC p c fs).any fun x => (readC p c fs).any fun y => decide (x < y)
def shadeC (p : Int) (fs : List Fc) (c : Nat) : Int := (readC p c fs).foldl max 0
def rowC (p : Int) (fs : List Fc) (n i : Nat) : List Int := (List.range i).map (shadeC p fs) ++ List.replicate (n - i) 0
def clC (p : Int) (fs : List Fc) (i : Nat) : List Int := ((List.range i).filter (clashC p fs)).map fun (c : Nat) => (c : Int)
theorem rowC_len (p : Int) (fs : List Fc) {n i : Nat} (h : i ≤ n) : (rowC p fs n i).length = n := by
  unfold rowC
  rw [List.length_append, List.length_map, List.length_range, List.length_replicate]; omega
theorem rep0 (n : Nat) : (List.replicate n [D.int 0]).flatten = (List.replicate n (0 : Int)).map D.int := by
  induction n with
  | zero => rfl
  | succ n ih => rw [List.replicate_succ, List.replicate_succ, List.flatten_cons, ih]; rfl
theorem rowC_set (p : Int) (fs : List Fc) {n i : Nat} (h : i < n) : (rowC p fs n i).set i (shadeC p fs i) = rowC p fs n (i + 1) := by
  unfold rowC
  rw [List.range_succ, List.map_append, List.append_assoc, List.set_append]
  rw [if_neg (by rw [List.length_map, List.length_range]; omega), List.length_map, List.length_range, Nat.sub_self]
  rw [show n - i = (n - (i + 1)) + 1 by omega, List.replicate_succ]
  rfl
theorem clC_succ (p : Int) (fs : List Fc) (i : Nat) : clC p fs (i + 1) = clC p fs i ++ if clashC p fs i = true then [(i : Int)] else [] := by
  unfold clC
  rw [List.range_succ, List.filter_append, List.map_append]
  congr 1
  by_cases h : clashC p fs i = true
  · rw [if_pos h, List.filter_cons_of_pos h]; rfl
  · rw [if_neg h, List.filter_cons_of_neg h]; rfl
theorem clC_len (p : Int) (fs : List Fc) (i : Nat) : (clC p fs i).length ≤ i := by
  unfold clC
  rw [List.length_map]
  have h := List.length_filter_le (clashC p fs) (List.range i)
  rw [List.length_range] at h
  exact h
theorem m_clash {m r : List Int} (h : m.Pairwise (· < ·)) (e : ∀ z, z ∈ m ↔ z ∈ r) : (r.any fun x => r.any fun y => decide (x < y)) = decide (1 < m.length) := by
  rw [Bool.eq_iff_iff, List.any_eq_true, decide_eq_true_iff]
  constructor
  · rintro ⟨x, hx, hy⟩
    obtain ⟨y, hy, hxy⟩ := List.any_eq_true.mp hy
    have hxy := of_decide_eq_true hxy
    have a1 := (e x).mpr hx
    have a2 := (e y).mpr hy
    match m, a1, a2 with
    | [z], a1, a2 =>
      have := List.mem_singleton.mp a1
      have := List.mem_singleton.mp a2
      omega
    | _ :: _ :: _, _, _ => simp
  · intro hm
    match m, h, hm, e with
    | x :: y :: _, h, _, e =>
      exact ⟨x, (e x).mp List.mem_cons_self, List.any_eq_true.mpr ⟨y, (e y).mp (List.mem_cons_of_mem _ List.mem_cons_self), decide_eq_true ((List.pairwise_cons.mp h).1 y List.mem_cons_self)⟩⟩
theorem max_fold : ∀ (l : List Int) (b : Int), b ≤ l.foldl max b ∧ (∀ z ∈ l, z ≤ l.foldl max b) ∧ (l.foldl max b = b ∨ l.foldl max b ∈ l)
  | [], b => ⟨Int.le_refl _, fun z h => (List.not_mem_nil h).elim, .inl rfl⟩
  | x :: l, b => by
    obtain ⟨h1, h2, h3⟩ := max_fold l (max b x)
    have e : (x :: l).foldl max b = l.foldl max (max b x) := rfl
    rw [e]
    refine ⟨by omega, fun z hz => ?_, ?_⟩
    · rcases List.mem_cons.mp hz with rfl | hz
      · omega
      · exact h2 z hz
    · rcases h3 with h3 | h3
      · rw [h3]
        by_cases hb : b ≤ x
        · exact .inr (by rw [Int.max_eq_right hb]; exact List.mem_cons_self)
        · exact .inl (by omega)
      · exact .inr (List.mem_cons_of_mem _ h3)
theorem m_max {m r : List Int} {x : Int} (e : ∀ z, z ∈ m ↔ z ∈ r) (pos : ∀ z ∈ r, 0 < z ∧ z ≤ 6) (hx : x ∈ m) (ub : ∀ z ∈ m, z ≤ x) : x = r.foldl max 0 := by
  obtain ⟨h1, h2, h3⟩ := max_fold r 0
  have a := h2 x ((e x).mp hx)
  have b := pos x ((e x).mp hx)
  rcases h3 with h3 | h3
  · omega
  · have := ub _ ((e _).mpr h3); omega
theorem m_nil {m r : List Int} (e : ∀ z, z ∈ m ↔ z ∈ r) (h : m = []) : (0 : Int) = r.foldl max 0 := by
  obtain ⟨_, _, h3⟩ := max_fold r 0
  rcases h3 with h3 | h3
  · exact h3.symm
  · have := (e _).mpr h3; rw [h] at this; exact (List.not_mem_nil this).elim
def sp_coats_of (a : Ad) : SpP := fun ds Q E => ∃ (fs : List (Int × Fc)) (p : Int) (n : Nat), ds = [.lst (fs.map nf), .int p] ∧ fs.length ≤ 31 ∧ (¬ (1 ≤ p ∧ p ≤ 4) → E a.c_BadPart [("called", .str "badpart")]) ∧
  ((1 ≤ p ∧ p ≤ 4) → n < 1000 ∧ L2.atI (fullC (fs.map (·.2))) (p - 1) = some (n : Int) ∧ (∀ c < n, ∀ z ∈ readC p c (fs.map (·.2)), 0 < z ∧ z ≤ 6) ∧
    ((∀ c < n, clashC p (fs.map (·.2)) c = false) → Q (.ins a.c_Coats ["seen"] [.tup (((List.range n).map (shadeC p (fs.map (·.2)))).map D.int)])) ∧
    (∀ c < n, clashC p (fs.map (·.2)) c = true → (∀ b < c, clashC p (fs.map (·.2)) b = false) → E a.c_Clash [("coat", .int c), ("part", .int p), ("called", .str "clash")]))
theorem mn_coats_of (a : Ad) : ∀ ds (Q Q' : D → Prop) E, sp_coats_of a ds Q E → (∀ d, Q d → Q' d) → sp_coats_of a ds Q' E := fun _ _ _ _ ⟨fs, p, n, h1, h2, h3, h4⟩ i => ⟨fs, p, n, h1, h2, h3, fun z => let ⟨u, v, w, x, y⟩ := h4 z; ⟨u, v, w, fun k => i _ (x k), y⟩⟩
theorem ok_coats_of (T : Txt K w mg a) (G_need_part : Fx P w K mg base 4 a.a_need_part a.d_need_part "need_part" ["part"] (lp (sp_need_part a))) (G_counts : Fx P w K mg base 3 a.a_counts a.d_counts "counts" ["facts"] (lp (sp_counts a))) (G_shades_read : Fx P w K mg base 1 a.a_shades_read a.d_shades_read "shades_read" ["facts", "part", "coat"] (lp (sp_shades_read a))) (I_Coats : MkX P w K mg base 4 "Coats" a.c_Coats a.a_Coats_init a.d_Coats_init ["self", "shades"] (sp_Coats_init a) [] []) (Z_Clash : XcD P w K mg base "Clash" a.c_Clash a.a_Clash_init a.d_Clash_init ["self", "part", "coat"] 2 (fl2 "clash" "part" "coat") (fd2 "clash" "part" "coat") [] []) : Fx P w K mg base 6 a.a_coats_of a.d_coats_of "coats_of" ["facts", "part"] (lp (sp_coats_of a)) := by
  refine ⟨fn_P T.F_coats_of sc_coats_of (by (intro ds Q E h; first | (obtain ⟨h, hr⟩ := h; subst h; (try (obtain ⟨_, hr⟩ := hr)); (try (obtain ⟨_, hr⟩ := hr)); (try (obtain ⟨_, hr⟩ := hr)); (try (obtain ⟨_, hr⟩ := hr)); (all_goals exact ⟨rfl, by (repeat' (first | trivial | exact lmD_lt | exact Ev.lt | exact evs_lt _ | exact itDs_lt _ | exact prs_lt _ | exact Wld.lt | exact rows_lt | exact deeds_lt | exact pasts_lt | exact D.lts_ints _ | exact D.lts_strs _ | exact Fc.lt | exact Dd.lt | exact fcs_lt _ | exact nfs_lt _ | exact nf_lt | exact D.pl.lt (by assumption) | exact D.dp.lt (by assumption) | exact D.dps.lt (by assumption) | exact D.pls.lt (by assumption) | assumption | refine ⟨?_, ?_⟩))⟩)) | (obtain ⟨_, h, hr⟩ := h; subst h; (try (obtain ⟨_, hr⟩ := hr)); (try (obtain ⟨_, hr⟩ := hr)); (try (obtain ⟨_, hr⟩ := hr)); (try (obtain ⟨_, hr⟩ := hr)); (all_goals exact ⟨rfl, by (repeat' (first | trivial | exact lmD_lt | exact Ev.lt | exact evs_lt _ | exact itDs_lt _ | exact prs_lt _ | exact Wld.lt | exact rows_lt | exact deeds_lt | exact pasts_lt | exact D.lts_ints _ | exact D.lts_strs _ | exact Fc.lt | exact Dd.lt | exact fcs_lt _ | exact nfs_lt _ | exact nf_lt | exact D.pl.lt (by assumption) | exact D.dp.lt (by assumption) | exact D.dps.lt (by assumption) | exact D.pls.lt (by assumption) | assumption | refine ⟨?_, ?_⟩))⟩)) | (obtain ⟨_, _, h, hr⟩ := h; subst h; (try (obtain ⟨_, hr⟩ := hr)); (try (obtain ⟨_, hr⟩ := hr)); (try (obtain ⟨_, hr⟩ := hr)); (try (obtain ⟨_, hr⟩ := hr)); (all_goals exact ⟨rfl, by (repeat' (first | trivial | exact lmD_lt | exact Ev.lt | exact evs_lt _ | exact itDs_lt _ | exact prs_lt _ | exact Wld.lt | exact rows_lt | exact deeds_lt | exact pasts_lt | exact D.lts_ints _ | exact D.lts_strs _ | exact Fc.lt | exact Dd.lt | exact fcs_lt _ | exact nfs_lt _ | exact nf_lt | exact D.pl.lt (by assumption) | exact D.dp.lt (by assumption) | exact D.dps.lt (by assumption) | exact D.pls.lt (by assumption) | assumption | refine ⟨?_, ?_⟩))⟩)) | (obtain ⟨_, _, _, h, hr⟩ := h; subst h; (try (obtain ⟨_, hr⟩ := hr)); (try (obtain ⟨_, hr⟩ := hr)); (try (obtain ⟨_, hr⟩ := hr)); (try (obtain ⟨_, hr⟩ := hr)); (all_goals exact ⟨rfl, by (repeat' (first | trivial | exact lmD_lt | exact Ev.lt | exact evs_lt _ | exact itDs_lt _ | exact prs_lt _ | exact Wld.lt | exact rows_lt | exact deeds_lt | exact pasts_lt | exact D.lts_ints _ | exact D.lts_strs _ | exact Fc.lt | exact Dd.lt | exact fcs_lt _ | exact nfs_lt _ | exact nf_lt | exact D.pl.lt (by assumption) | exact D.dp.lt (by assumption) | exact D.dps.lt (by assumption) | exact D.pls.lt (by assumption) | assumption | refine ⟨?_, ?_⟩))⟩)) | (obtain ⟨_, _, _, _, h, hr⟩ := h; subst h; (try (obtain ⟨_, hr⟩ := hr)); (try (obtain ⟨_, hr⟩ := hr)); (try (obtain ⟨_, hr⟩ := hr)); (try (obtain ⟨_, hr⟩ := hr)); (all_goals exact ⟨rfl, by (repeat' (first | trivial | exact lmD_lt | exact Ev.lt | exact evs_lt _ | exact itDs_lt _ | exact prs_lt _ | exact Wld.lt | exact rows_lt | exact deeds_lt | exact pasts_lt | exact D.lts_ints _ | exact D.lts_strs _ | exact Fc.lt | exact Dd.lt | exact fcs_lt _ | exact nfs_lt _ | exact nf_lt | exact D.pl.lt (by assumption) | exact D.dp.lt (by assumption) | exact D.dps.lt (by assumption) | exact D.pls.lt (by assumption) | assumption | refine ⟨?_, ?_⟩))⟩)) | (obtain ⟨_, _, _, _, _, h, hr⟩ := h; subst h; (try (obtain ⟨_, hr⟩ := hr)); (try (obtain ⟨_, hr⟩ := hr)); (try (obtain ⟨_, hr⟩ := hr)); (try (obtain ⟨_, hr⟩ := hr)); (all_goals exact ⟨rfl, by (repeat' (first | trivial | exact lmD_lt | exact Ev.lt | exact evs_lt _ | exact itDs_lt _ | exact prs_lt _ | exact Wld.lt | exact rows_lt | exact deeds_lt | exact pasts_lt | exact D.lts_ints _ | exact D.lts_strs _ | exact Fc.lt | exact Dd.lt | exact fcs_lt _ | exact nfs_lt _ | exact nf_lt | exact D.pl.lt (by assumption) | exact D.dp.lt (by assumption) | exact D.dps.lt (by assumption) | exact D.pls.lt (by assumption) | assumption | refine ⟨?_, ?_⟩))⟩)) | (obtain ⟨h, _⟩ := h; exact (by simp at h)))) fun cdv A outer s H E φ T0 W' room wl => ⟨_, (lss_cons (ls_expr (le_fx G_need_part (room.mono (by decide)) (takes_of rfl rfl rfl rfl) wl (la_cons (lv 1) la_nil)))
    (lss_cons (ls_set 2 (le_op oo_mulM (le_lst (la_cons le_int la_nil)) (le_ix ox_seq (le_fx G_counts (room.mono (by decide)) (takes_of rfl rfl rfl rfl) wl (la_cons (lv 0) la_nil)) (le_op oo_sub (lv 1) le_int))) sc_coats_of.nd)
    (lss_cons (ls_set 3 (le_lstM la_nil) sc_coats_of.nd)
    (lss_consW [0, 4, 5] (ls_for (passes_of rfl) rfl (li_rng1 rfl T.n_range (la_cons (le_callB cc_len rfl T.n_len (by rfl) (la_cons (lv 2) la_nil)) la_nil)) (lg_name (i := 4) sc_coats_of.nd rfl)
    (lss_cons (ls_set 5 (le_sortSet false rfl rfl T.n_sorted rfl T.n_set (by rfl) (by rfl) (le_fx G_shades_read (room.mono (by decide)) (takes_of rfl rfl rfl rfl) wl (la_cons (lv 0) (la_cons (lv 1) (la_cons (lv 4) la_nil))))) sc_coats_of.nd)
    (lss_consM (ls_if (lt_cmp oo_gt (le_callB cc_len rfl T.n_len (by rfl) (la_cons (lv 5) la_nil)) le_int (by rfl)) (lss_cons (ls_expr (le_bm PySem.F.plainAttrs_list PySem.F.slot_list_append PySem.F.type_list_append mm_append (lv 3) (la_cons (lv 4) la_nil)))
    lss_nil) lss_nil)
    (lss_consW [4, 5] (ls_asg (le_maxD rfl (u1 room.units) rfl T.n_max (by rfl) (lv 5) le_int) (lg_sub (lv 2) (lv 4) st_list))
    lss_nil))))
    (lss_fz (lss_consW [2] (ls_if (lt_cmp (oo_eq room.units) (lv 3) (le_lst la_nil) (by rfl)) (lss_cons (ls_ret (le_mk I_Coats (room.mono (by decide)) (takes_of rfl rfl rfl rfl) wl (la_cons (lv 2) la_nil)))
    lss_nil) lss_nil)
    (lss_cons (ls_rz Z_Clash rfl (room.mono (by decide)) (takes_of rfl rfl rfl rfl) wl (la_cons (lv 1) (la_cons (le_callB (cc_min1 rfl (u1 room.units)) rfl T.n_min (by rfl) (la_cons (lv 3) la_nil)) la_nil)))
    lss_nil))))))), fun ds S R X n h hW => ?_⟩, T.m_coats_of, T.F_coats_of.kp, T.b_coats_of⟩
  obtain ⟨Q, E, h, rfl, rfl, rfl, rfl⟩ := h
  subst hW
  obtain ⟨fs, p, n, rfl, hl, hE, hQ⟩ := h
  conv => whnf
  by_cases hp : 1 ≤ p ∧ p ≤ 4
  · refine ⟨p, rfl, fun _ => ?_, fun z => absurd hp z⟩
    obtain ⟨hn, ha, hg, hQ, hC⟩ := hQ hp
    conv => whnf
    refine ⟨fs, rfl, hl, ?_⟩
    conv => whnf
    rw [atI_map, ha]
    conv => whnf
    refine Need.mk ⟨by omega, by omega, by rw [sizeLine_eq]; simp; omega⟩ ?_
    rw [show ((n : Int)).toNat = n from rfl, rep0]
    conv => whnf
    have en : (List.map D.int (List.replicate n 0)).length = n := by rw [List.length_map, List.length_replicate]
    rw [en]
    refine ⟨by omega, by omega, fun i s' S' => i ≤ n ∧ S' = [.lst ((rowC p (fs.map (·.2)) n i).map D.int), .lst ((clC p (fs.map (·.2)) i).map D.int)] ∧ s' = [some (.lst (fs.map nf)), some (.int p), some (.ref 0), some (.ref 1), none, none], ⟨Nat.zero_le _, rfl, rfl⟩, fun _ _ _ _ _ => trivial, ?_, ?_⟩
    · rintro i x s' S' hi ⟨hin, rfl, rfl⟩
      obtain ⟨hi2, rfl⟩ := rngD_get hi
      have hi3 : i < n := by simpa using hi2
      conv => whnf
      refine ⟨fs, p, (i : Int), ?_, hl, ?_⟩
      · rw [Int.zero_add]; rfl
      conv => whnf
      refine optI (asIs_ints _) ?_
      have hrl := readC_len p (i : Int) (fs.map (·.2))
      rw [List.length_map] at hrl
      refine Need.mk (by omega) fun m m1 m2 => ?_
      have hcl := m_clash m1 m2
      have hpos := hg i hi3
      conv => whnf
      refine sM (fun s2 S2 => S2 = [.lst ((rowC p (fs.map (·.2)) n i).map D.int), .lst ((clC p (fs.map (·.2)) (i + 1)).map D.int)] ∧ s2 = [some (.lst (fs.map nf)), some (.int p), some (.ref 0), some (.ref 1), some (.int (0 + (i : Int))), some (.lst (m.map D.int))]) ?_ ?_
      · conv => whnf
        refine lif (fun hc => ?_) (fun hc => ?_)
        · have hc : decide ((1 : Int) < ((m.map D.int).length : Int)) = true := hc
          have hc := of_decide_eq_true hc
          rw [List.length_map] at hc
          have hcl : clashC p (fs.map (·.2)) i = true := hcl.trans (decide_eq_true (by omega))
          have hl2 := clC_len p (fs.map (·.2)) i
          conv => whnf
          refine Need.mk rfl ?_
          conv => whnf
          refine Need.mk (by rw [List.length_map, sizeLine_eq]; omega) ?_
          conv => whnf
          refine ⟨?_, rfl⟩
          rw [clC_succ, if_pos hcl, List.map_append, Int.zero_add]
          rfl
        · have hc : decide ((1 : Int) < ((m.map D.int).length : Int)) = false := hc
          have hc := of_decide_eq_false hc
          rw [List.length_map] at hc
          have hcl : clashC p (fs.map (·.2)) i = false := hcl.trans (decide_eq_false (by omega))
          conv => whnf
          refine ⟨?_, rfl⟩
          rw [clC_succ, if_neg (by rw [hcl]; decide), List.append_nil]
      · rintro s2 S2 ⟨rfl, rfl⟩
        conv => whnf
        refine optI (asIs_ints _) ⟨fun e0 => ?_, fun x hx ub => ?_⟩
        · have ex : (0 : Int) = shadeC p (fs.map (·.2)) i := m_nil m2 e0
          conv => whnf
          rw [show ixN (0, List.map D.int (rowC p (fs.map (·.2)) n i)).snd.length (0 + (i : Int)) = some i from by
            rw [ixN_is (by omega) (by rw [List.length_map, rowC_len p _ hin]; omega), show (0 + (i : Int)).toNat = i by omega]]
          conv => whnf
          refine .inl ⟨hi3, ?_, rfl⟩
          rw [← rowC_set p _ hi3, ← ex]
          simp only [List.map_set]
          rfl
        · have ex : x = shadeC p (fs.map (·.2)) i := m_max m2 hpos hx ub
          conv => whnf
          rw [show ixN (0, List.map D.int (rowC p (fs.map (·.2)) n i)).snd.length (0 + (i : Int)) = some i from by
            rw [ixN_is (by omega) (by rw [List.length_map, rowC_len p _ hin]; omega), show (0 + (i : Int)).toNat = i by omega]]
          conv => whnf
          refine .inl ⟨hi3, ?_, rfl⟩
          rw [← rowC_set p _ hi3, ← ex]
          simp only [List.map_set]
          rfl
    · rintro s' S' ⟨hin, rfl, rfl⟩
      have en2 : (rngD 0 ((n : Int)).toNat).length = n := by rw [rngD_len]; rfl
      rw [en2]
      conv => whnf
      refine ⟨0, [none, some (.int p), some (.lst ((rowC p (fs.map (·.2)) n n).map D.int)), some (.lst ((clC p (fs.map (·.2)) n).map D.int)), none, none], [], Nat.le_refl _, Nat.zero_le _, ⟨_, _, rfl, _, _, rfl, Rs.same trivial, _, _, rfl, Rs.ofL' (Nat.zero_le _) rfl (D.lts_ints _), _, _, rfl, Rs.ofL' (Nat.zero_le _) rfl (D.lts_ints _), _, _, rfl, _, _, rfl, rfl⟩, rfl, ?_⟩
      have hmem : ∀ c < n, clashC p (fs.map (·.2)) c = true → (c : Int) ∈ clC p (fs.map (·.2)) n := fun c h1 h2 => List.mem_map.mpr ⟨c, List.mem_filter.mpr ⟨List.mem_range.mpr h1, h2⟩, rfl⟩
      have hout : ∀ z ∈ clC p (fs.map (·.2)) n, ∃ c, c < n ∧ clashC p (fs.map (·.2)) c = true ∧ z = (c : Int) := fun z hz => by
        obtain ⟨c, h1, rfl⟩ := List.mem_map.mp hz
        obtain ⟨h2, h3⟩ := List.mem_filter.mp h1
        exact ⟨c, List.mem_range.mp h2, h3, rfl⟩
      have erow : rowC p (fs.map (·.2)) n n = (List.range n).map (shadeC p (fs.map (·.2))) := by unfold rowC; rw [Nat.sub_self]; exact List.append_nil _
      rw [erow]
      generalize hcl : clC p (fs.map (·.2)) n = cl at hmem hout
      cases cl with
      | nil =>
        conv => whnf
        refine Need.mk ⟨by trivial, by trivial⟩ ?_
        conv => whnf
        refine ⟨_, rfl, _, .inl rfl, by rw [List.length_map, List.length_range]; omega, fun g => ?_, fun ng => absurd (fun z hz => ?_) ng⟩
        · conv => whnf
          exact Rp (hQ fun c h1 => Bool.eq_false_iff.mpr fun h2 => List.not_mem_nil (hmem c h1 h2)) ⟨D.lts_ints _, trivial⟩
        · obtain ⟨c, h1, rfl⟩ := List.mem_map.mp hz
          obtain ⟨k1, k2, k3⟩ := max_fold (readC p c (fs.map (·.2))) 0
          have := hg c (List.mem_range.mp h1)
          unfold shadeC
          rcases k3 with k3 | k3
          · omega
          · have := this _ k3; omega
      | cons x l =>
        conv => whnf
        refine Need.mk ⟨D.pls_ints (x :: l), trivial⟩ ?_
        conv => whnf
        refine optI (asIs_ints (x :: l)) ?_
        refine Need.mk (List.cons_ne_nil _ _) fun m hm hub => ?_
        obtain ⟨c, h1, h2, rfl⟩ := hout m hm
        conv => whnf
        exact Xp (fs := [("coat", .int c), ("part", .int p), ("called", .str "clash")]) (hC c h1 h2 fun b hb => Bool.eq_false_iff.mpr fun h3 => by
          have := hub _ (hmem b (Nat.lt_trans hb h1) h3); omega) ⟨trivial, trivial, trivial, trivial⟩
  · refine ⟨p, rfl, fun z => absurd z hp, fun _ => ?_⟩
    exact Xp (fs := [("called", .str "badpart")]) (hE hp)
def sp__law_open (_ : Ad) : SpD := fun ds S Q _ => ∃ (ns : List Int), ds = [.scr ns] ∧ ns.length ≤ 63 ∧ S = [] ∧ Q (.ref 0) [.drw]
theorem ok__law_open (T : Txt K w mg a)  : Fx P w K mg base 1 a.a__law_open a.d__law_open "_law_open" ["_law_script"] (sp__law_open a) := by
  refine ⟨fn_S T.F__law_open sc__law_open (by (intro ds S Q E h; first | (obtain ⟨h, _⟩ := h; subst h; rfl) | (obtain ⟨_, h, _⟩ := h; subst h; rfl) | (obtain ⟨_, _, h, _⟩ := h; subst h; rfl) | (obtain ⟨_, _, _, h, _⟩ := h; subst h; rfl) | (obtain ⟨_, _, _, _, h, _⟩ := h; subst h; rfl) | (obtain ⟨_, _, _, _, _, h, _⟩ := h; subst h; rfl) | (obtain ⟨_, _, _, _, _, _, h, _⟩ := h; subst h; rfl) | (obtain ⟨_, _, _, _, _, _, _, h, _⟩ := h; subst h; rfl) | (obtain ⟨_, _, _, _, _, _, _, _, h, _⟩ := h; subst h; rfl) | (obtain ⟨_, _, _, _, _, _, _, _, _, h, _⟩ := h; subst h; rfl) | (obtain ⟨_, _, _, _, _, _, _, _, _, _, h, _⟩ := h; subst h; rfl))) fun cdv A outer s H E φ T0 W' room wl => ⟨_, (lss_cons (ls_ret (le_lstM (la_cons (le_callTy cc_list rfl T.n_list (by rfl) (la_cons (le_slice (lv 0) lp_none (lp_some le_int)) la_nil)) (la_cons le_int (la_cons le_int (la_cons le_int la_nil))))))
    lss_nil), fun ds S R X n h hW => ?_⟩, T.m__law_open, T.F__law_open.kp, T.b__law_open⟩
  obtain ⟨Q, E, h, hlt, rfl, rfl, rfl⟩ := h
  subst hW
  obtain ⟨ns, rfl, hn, rfl, q⟩ := h
  conv => whnf
  rw [show (63 : Int) = ((63 : Nat) : Int) from rfl, cutD_to (by simpa using hn)]
  exact ⟨1, .ref 0, [.drw], Nat.zero_le _, by simp, ⟨_, _, rfl, ⟨_, RsL.same ⟨D.lts_ints ns, trivial, trivial, trivial, trivial⟩, ns, 0, 0, 31, rfl, by decide, by decide, by decide, by decide⟩, rfl⟩, Rs.same (show 0 < 1 by decide), q⟩
abbrev sp__law_pull (_ : Ad) : SpP := spPull
theorem ok__law_pull (T : Txt K w mg a)  : Fx P w K mg base 1 a.a__law_pull a.d__law_pull "_law_pull" ["_law_draw", "_law_many"] (ld (sp__law_pull a)) := by
  refine ⟨fn_L T.F__law_pull sc__law_pull (by (intro ds Q E h; first | (obtain ⟨h, hr⟩ := h; subst h; (try (obtain ⟨_, hr⟩ := hr)); (try (obtain ⟨_, hr⟩ := hr)); (try (obtain ⟨_, hr⟩ := hr)); (try (obtain ⟨_, hr⟩ := hr)); (all_goals exact ⟨rfl, by (repeat' (first | trivial | exact lmD_lt | exact Ev.lt | exact evs_lt _ | exact itDs_lt _ | exact prs_lt _ | exact Wld.lt | exact rows_lt | exact deeds_lt | exact pasts_lt | exact D.lts_ints _ | exact D.lts_strs _ | exact Fc.lt | exact Dd.lt | exact fcs_lt _ | exact nfs_lt _ | exact nf_lt | exact D.pl.lt (by assumption) | exact D.dp.lt (by assumption) | exact D.dps.lt (by assumption) | exact D.pls.lt (by assumption) | assumption | refine ⟨?_, ?_⟩))⟩)) | (obtain ⟨_, h, hr⟩ := h; subst h; (try (obtain ⟨_, hr⟩ := hr)); (try (obtain ⟨_, hr⟩ := hr)); (try (obtain ⟨_, hr⟩ := hr)); (try (obtain ⟨_, hr⟩ := hr)); (all_goals exact ⟨rfl, by (repeat' (first | trivial | exact lmD_lt | exact Ev.lt | exact evs_lt _ | exact itDs_lt _ | exact prs_lt _ | exact Wld.lt | exact rows_lt | exact deeds_lt | exact pasts_lt | exact D.lts_ints _ | exact D.lts_strs _ | exact Fc.lt | exact Dd.lt | exact fcs_lt _ | exact nfs_lt _ | exact nf_lt | exact D.pl.lt (by assumption) | exact D.dp.lt (by assumption) | exact D.dps.lt (by assumption) | exact D.pls.lt (by assumption) | assumption | refine ⟨?_, ?_⟩))⟩)) | (obtain ⟨_, _, h, hr⟩ := h; subst h; (try (obtain ⟨_, hr⟩ := hr)); (try (obtain ⟨_, hr⟩ := hr)); (try (obtain ⟨_, hr⟩ := hr)); (try (obtain ⟨_, hr⟩ := hr)); (all_goals exact ⟨rfl, by (repeat' (first | trivial | exact lmD_lt | exact Ev.lt | exact evs_lt _ | exact itDs_lt _ | exact prs_lt _ | exact Wld.lt | exact rows_lt | exact deeds_lt | exact pasts_lt | exact D.lts_ints _ | exact D.lts_strs _ | exact Fc.lt | exact Dd.lt | exact fcs_lt _ | exact nfs_lt _ | exact nf_lt | exact D.pl.lt (by assumption) | exact D.dp.lt (by assumption) | exact D.dps.lt (by assumption) | exact D.pls.lt (by assumption) | assumption | refine ⟨?_, ?_⟩))⟩)) | (obtain ⟨_, _, _, h, hr⟩ := h; subst h; (try (obtain ⟨_, hr⟩ := hr)); (try (obtain ⟨_, hr⟩ := hr)); (try (obtain ⟨_, hr⟩ := hr)); (try (obtain ⟨_, hr⟩ := hr)); (all_goals exact ⟨rfl, by (repeat' (first | trivial | exact lmD_lt | exact Ev.lt | exact evs_lt _ | exact itDs_lt _ | exact prs_lt _ | exact Wld.lt | exact rows_lt | exact deeds_lt | exact pasts_lt | exact D.lts_ints _ | exact D.lts_strs _ | exact Fc.lt | exact Dd.lt | exact fcs_lt _ | exact nfs_lt _ | exact nf_lt | exact D.pl.lt (by assumption) | exact D.dp.lt (by assumption) | exact D.dps.lt (by assumption) | exact D.pls.lt (by assumption) | assumption | refine ⟨?_, ?_⟩))⟩)) | (obtain ⟨_, _, _, _, h, hr⟩ := h; subst h; (try (obtain ⟨_, hr⟩ := hr)); (try (obtain ⟨_, hr⟩ := hr)); (try (obtain ⟨_, hr⟩ := hr)); (try (obtain ⟨_, hr⟩ := hr)); (all_goals exact ⟨rfl, by (repeat' (first | trivial | exact lmD_lt | exact Ev.lt | exact evs_lt _ | exact itDs_lt _ | exact prs_lt _ | exact Wld.lt | exact rows_lt | exact deeds_lt | exact pasts_lt | exact D.lts_ints _ | exact D.lts_strs _ | exact Fc.lt | exact Dd.lt | exact fcs_lt _ | exact nfs_lt _ | exact nf_lt | exact D.pl.lt (by assumption) | exact D.dp.lt (by assumption) | exact D.dps.lt (by assumption) | exact D.pls.lt (by assumption) | assumption | refine ⟨?_, ?_⟩))⟩)) | (obtain ⟨_, _, _, _, _, h, hr⟩ := h; subst h; (try (obtain ⟨_, hr⟩ := hr)); (try (obtain ⟨_, hr⟩ := hr)); (try (obtain ⟨_, hr⟩ := hr)); (try (obtain ⟨_, hr⟩ := hr)); (all_goals exact ⟨rfl, by (repeat' (first | trivial | exact lmD_lt | exact Ev.lt | exact evs_lt _ | exact itDs_lt _ | exact prs_lt _ | exact Wld.lt | exact rows_lt | exact deeds_lt | exact pasts_lt | exact D.lts_ints _ | exact D.lts_strs _ | exact Fc.lt | exact Dd.lt | exact fcs_lt _ | exact nfs_lt _ | exact nf_lt | exact D.pl.lt (by assumption) | exact D.dp.lt (by assumption) | exact D.dps.lt (by assumption) | exact D.pls.lt (by assumption) | assumption | refine ⟨?_, ?_⟩))⟩)) | (obtain ⟨h, _⟩ := h; exact (by simp at h)))) (fun _ _ _ h => h) fun cdv A outer s H E φ T0 W' room wl => ⟨_, (lss_consM (ls_if (LW.t (lw_and (lt_cmp oo_lt (le_ix ox_seq (lv 0) le_int) (lv 1) (by rfl)) (lw_and1 (lt_cmp oo_lt (le_ix ox_seq (lv 0) le_int) (le_callB cc_len rfl T.n_len (by rfl) (la_cons (le_ix ox_seq (lv 0) le_int) la_nil)) (by rfl))))) (lss_cons (ls_set 2 (le_ix ox_seq (le_ix ox_seq (lv 0) le_int) (le_ix ox_seq (lv 0) le_int)) sc__law_pull.nd)
    (lss_cons (ls_asg (le_op oo_add (le_ix ox_seq (lv 0) le_int) le_int) (lg_sub (lv 0) le_int st_list))
    (lss_cons (ls_asg le_int (lg_sub (lv 0) le_int st_list))
    (lss_consW [2] (ls_if (lt_cmp oo_ge (lv 2) (le_op oo_pow le_int le_int) (by rfl)) (lss_consW [2] (ls_asg (lv 2) (lg_sub (lv 0) le_int st_list))
    lss_nil) (lss_consW [2] (ls_asg (le_op oo_mod (le_op oo_add (le_op oo_add (le_op oo_mulX (le_ix ox_seq (lv 0) le_int) le_int) (le_op oo_mulX (le_op oo_mod (lv 2) le_int) le_int)) le_int) le_int) (lg_sub (lv 0) le_int st_list))
    lss_nil))
    lss_nil)))) lss_nil)
    (lss_w [2] (lss_consW [3] (ls_if (lt_cmp oo_ge (le_ix ox_seq (lv 0) le_int) (lv 1) (by rfl)) (lss_cons (ls_set 3 (le_op oo_mod (le_ix ox_seq (lv 0) le_int) (lv 1)) sc__law_pull.nd)
    (lss_consW [0, 1] (ls_asg (le_op oo_fdiv (le_ix ox_seq (lv 0) le_int) (lv 1)) (lg_sub (lv 0) le_int st_list))
    (lss_cons (ls_ret (lv 3))
    lss_nil))) lss_nil)
    (lss_cons (ls_asg (le_op oo_mod (le_op oo_add (le_op oo_add (le_op oo_pow (le_ix ox_seq (lv 0) le_int) le_int) (le_op oo_mulX (le_ix ox_seq (lv 0) le_int) le_int)) le_int) le_int) (lg_sub (lv 0) le_int st_list))
    (lss_cons (ls_ret (le_op oo_mod (le_op oo_add (le_op oo_fdiv (le_ix ox_seq (lv 0) le_int) le_int) (le_op oo_mulX (le_op oo_mod (le_ix ox_seq (lv 0) le_int) le_int) le_int)) (lv 1)))
    lss_nil))))), fun ds S R X n h hW => ?_⟩, T.m__law_pull, T.F__law_pull.kp, T.b__law_pull⟩
  obtain ⟨r, Q, E, l, h, rfl, rfl, hl, rfl, rfl, rfl⟩ := h
  subst hW
  obtain ⟨many, rfl, ⟨h1, h2⟩, q⟩ := h
  obtain ⟨ns, i, z, t, rfl, hi, hz, ht, ht2⟩ := hl
  conv => whnf
  repeat (refine Need.mk ?_ ?_; exact nd; conv => whnf)
  refine sM (fun s' S' => ∃ l', DrawL l' ∧ s' = [some (.ref 0), some (.int many), none, none] ∧ S' = [.lst l']) ?_ ?_
  · conv => whnf
    repeat (refine Need.mk ?_ ?_; exact nd; conv => whnf)
    refine brd (fun hc => ?_) (fun hc => ?_)
    · conv => whnf
      repeat (refine Need.mk ?_ ?_; exact nd; conv => whnf)
      refine brd (fun hc => ?_) (fun hc => ?_)
      · have hc : i < ((ns.map D.int).length : Int) := hc
        rw [List.length_map] at hc
        obtain ⟨c, hc1, ha⟩ := atI_ints hi hc
        conv => whnf
        repeat (refine Need.mk ?_ ?_; exact nd; conv => whnf)
        refine optI ha ?_
        conv => whnf
        repeat (refine Need.mk ?_ ?_; exact nd; conv => whnf)
        refine brd (fun hc => ?_) (fun hc => ?_)
        · conv => whnf
          repeat (refine Need.mk ?_ ?_; exact nd; conv => whnf)
          exact ⟨_, ⟨ns, _, _, _, rfl, by omega, Int.le_trans (by decide) hc, ht, ht2⟩, rfl, rfl⟩
        · conv => whnf
          repeat (refine Need.mk ?_ ?_; exact nd; conv => whnf)
          exact ⟨_, ⟨ns, _, _, _, rfl, by omega, by omega, Int.emod_nonneg _ (by decide), Int.emod_lt_of_pos _ (by decide)⟩, rfl, rfl⟩
      · conv => whnf
        repeat (refine Need.mk ?_ ?_; exact nd; conv => whnf)
        exact ⟨_, ⟨ns, _, _, _, rfl, hi, hz, ht, ht2⟩, rfl, rfl⟩
    · conv => whnf
      repeat (refine Need.mk ?_ ?_; exact nd; conv => whnf)
      exact ⟨_, ⟨ns, _, _, _, rfl, hi, hz, ht, ht2⟩, rfl, rfl⟩
  · rintro s' S' ⟨l', ⟨ns, i, z, t, rfl, hi, hz, ht, ht2⟩, rfl, rfl⟩
    conv => whnf
    repeat (refine Need.mk ?_ ?_; exact nd; conv => whnf)
    refine brd (fun hc => ?_) (fun hc => ?_)
    · conv => whnf
      repeat (refine Need.mk ?_ ?_; exact nd; conv => whnf)
      exact ⟨⟨ns, _, _, _, rfl, hi, Int.ediv_nonneg hz (by omega), ht, ht2⟩, trivial, q _ (Int.emod_nonneg _ (by omega)) (Int.emod_lt_of_pos _ (by omega))⟩
    · conv => whnf
      repeat (refine Need.mk ?_ ?_; exact nd; conv => whnf)
      exact ⟨⟨ns, _, _, _, rfl, hi, hz, Int.emod_nonneg _ (by decide), Int.emod_lt_of_pos _ (by decide)⟩, trivial, q _ (Int.emod_nonneg _ (by omega)) (Int.emod_lt_of_pos _ (by omega))⟩
def sp__law_num (_ : Ad) : SpP := fun ds Q _ => ∃ i : Int, ds = [.int i] ∧ Q (.bl true)
theorem ok__law_num (T : Txt K w mg a)  : Fx P w K mg base 1 a.a__law_num a.d__law_num "_law_num" ["_law_found"] (lp (sp__law_num a)) := by
  refine ⟨fn_P T.F__law_num sc__law_num (by (intro ds Q E h; first | (obtain ⟨h, hr⟩ := h; subst h; (try (obtain ⟨_, hr⟩ := hr)); (try (obtain ⟨_, hr⟩ := hr)); (try (obtain ⟨_, hr⟩ := hr)); (try (obtain ⟨_, hr⟩ := hr)); (all_goals exact ⟨rfl, by (repeat' (first | trivial | exact lmD_lt | exact Ev.lt | exact evs_lt _ | exact itDs_lt _ | exact prs_lt _ | exact Wld.lt | exact rows_lt | exact deeds_lt | exact pasts_lt | exact D.lts_ints _ | exact D.lts_strs _ | exact Fc.lt | exact Dd.lt | exact fcs_lt _ | exact nfs_lt _ | exact nf_lt | exact D.pl.lt (by assumption) | exact D.dp.lt (by assumption) | exact D.dps.lt (by assumption) | exact D.pls.lt (by assumption) | assumption | refine ⟨?_, ?_⟩))⟩)) | (obtain ⟨_, h, hr⟩ := h; subst h; (try (obtain ⟨_, hr⟩ := hr)); (try (obtain ⟨_, hr⟩ := hr)); (try (obtain ⟨_, hr⟩ := hr)); (try (obtain ⟨_, hr⟩ := hr)); (all_goals exact ⟨rfl, by (repeat' (first | trivial | exact lmD_lt | exact Ev.lt | exact evs_lt _ | exact itDs_lt _ | exact prs_lt _ | exact Wld.lt | exact rows_lt | exact deeds_lt | exact pasts_lt | exact D.lts_ints _ | exact D.lts_strs _ | exact Fc.lt | exact Dd.lt | exact fcs_lt _ | exact nfs_lt _ | exact nf_lt | exact D.pl.lt (by assumption) | exact D.dp.lt (by assumption) | exact D.dps.lt (by assumption) | exact D.pls.lt (by assumption) | assumption | refine ⟨?_, ?_⟩))⟩)) | (obtain ⟨_, _, h, hr⟩ := h; subst h; (try (obtain ⟨_, hr⟩ := hr)); (try (obtain ⟨_, hr⟩ := hr)); (try (obtain ⟨_, hr⟩ := hr)); (try (obtain ⟨_, hr⟩ := hr)); (all_goals exact ⟨rfl, by (repeat' (first | trivial | exact lmD_lt | exact Ev.lt | exact evs_lt _ | exact itDs_lt _ | exact prs_lt _ | exact Wld.lt | exact rows_lt | exact deeds_lt | exact pasts_lt | exact D.lts_ints _ | exact D.lts_strs _ | exact Fc.lt | exact Dd.lt | exact fcs_lt _ | exact nfs_lt _ | exact nf_lt | exact D.pl.lt (by assumption) | exact D.dp.lt (by assumption) | exact D.dps.lt (by assumption) | exact D.pls.lt (by assumption) | assumption | refine ⟨?_, ?_⟩))⟩)) | (obtain ⟨_, _, _, h, hr⟩ := h; subst h; (try (obtain ⟨_, hr⟩ := hr)); (try (obtain ⟨_, hr⟩ := hr)); (try (obtain ⟨_, hr⟩ := hr)); (try (obtain ⟨_, hr⟩ := hr)); (all_goals exact ⟨rfl, by (repeat' (first | trivial | exact lmD_lt | exact Ev.lt | exact evs_lt _ | exact itDs_lt _ | exact prs_lt _ | exact Wld.lt | exact rows_lt | exact deeds_lt | exact pasts_lt | exact D.lts_ints _ | exact D.lts_strs _ | exact Fc.lt | exact Dd.lt | exact fcs_lt _ | exact nfs_lt _ | exact nf_lt | exact D.pl.lt (by assumption) | exact D.dp.lt (by assumption) | exact D.dps.lt (by assumption) | exact D.pls.lt (by assumption) | assumption | refine ⟨?_, ?_⟩))⟩)) | (obtain ⟨_, _, _, _, h, hr⟩ := h; subst h; (try (obtain ⟨_, hr⟩ := hr)); (try (obtain ⟨_, hr⟩ := hr)); (try (obtain ⟨_, hr⟩ := hr)); (try (obtain ⟨_, hr⟩ := hr)); (all_goals exact ⟨rfl, by (repeat' (first | trivial | exact lmD_lt | exact Ev.lt | exact evs_lt _ | exact itDs_lt _ | exact prs_lt _ | exact Wld.lt | exact rows_lt | exact deeds_lt | exact pasts_lt | exact D.lts_ints _ | exact D.lts_strs _ | exact Fc.lt | exact Dd.lt | exact fcs_lt _ | exact nfs_lt _ | exact nf_lt | exact D.pl.lt (by assumption) | exact D.dp.lt (by assumption) | exact D.dps.lt (by assumption) | exact D.pls.lt (by assumption) | assumption | refine ⟨?_, ?_⟩))⟩)) | (obtain ⟨_, _, _, _, _, h, hr⟩ := h; subst h; (try (obtain ⟨_, hr⟩ := hr)); (try (obtain ⟨_, hr⟩ := hr)); (try (obtain ⟨_, hr⟩ := hr)); (try (obtain ⟨_, hr⟩ := hr)); (all_goals exact ⟨rfl, by (repeat' (first | trivial | exact lmD_lt | exact Ev.lt | exact evs_lt _ | exact itDs_lt _ | exact prs_lt _ | exact Wld.lt | exact rows_lt | exact deeds_lt | exact pasts_lt | exact D.lts_ints _ | exact D.lts_strs _ | exact Fc.lt | exact Dd.lt | exact fcs_lt _ | exact nfs_lt _ | exact nf_lt | exact D.pl.lt (by assumption) | exact D.dp.lt (by assumption) | exact D.dps.lt (by assumption) | exact D.pls.lt (by assumption) | assumption | refine ⟨?_, ?_⟩))⟩)) | (obtain ⟨h, _⟩ := h; exact (by simp at h)))) fun cdv A outer s H E φ T0 W' room wl => ⟨_, (lss_cons (ls_ret (le_and (le_callB cc_isiB rfl T.n_isinstance (by rfl) (la_cons (lv 0) (la_cons (le_ty rfl T.n_int (by rfl)) la_nil))) (le_one (le_not (le_callB cc_isiB rfl T.n_isinstance (by rfl) (la_cons (lv 0) (la_cons (le_ty rfl T.n_bool (by rfl)) la_nil)))))))
    lss_nil), fun ds S R X n h hW => ?_⟩, T.m__law_num, T.F__law_num.kp, T.b__law_num⟩
  obtain ⟨Q, E, h, rfl, rfl, rfl, rfl⟩ := h
  subst hW
  obtain ⟨i, rfl, q⟩ := h
  conv => whnf
  repeat (refine Need.mk ?_ ?_; exact nd; conv => whnf)
  exact Rp q
def sn__law_like : Nat → Ad → SpP
  | 0, _ => fun _ _ _ => False
  | n + 1, _ => fun ds Q _ => ∃ d : D, ds = [d, d] ∧ D.dp d n ∧ Q (.bl true)
abbrev sp__law_like (a : Ad) : SpP := sn__law_like 11 a
theorem like_all {n : Nat} : ((List.replicate n (D.bl true)) : List D) = (List.replicate n true).map D.bl := by rw [List.map_replicate]
theorem st__law_like (T : Txt K w mg a) (G__law_num : Fx P w K mg base 1 a.a__law_num a.d__law_num "_law_num" ["_law_found"] (lp (sp__law_num a))) {n : Nat} (G__law_like : Fx P w K mg base (n + 1) a.a__law_like a.d__law_like "_law_like" ["_law_found", "_law_due_here"] (lp (sn__law_like n a))) : Fx P w K mg base (n + 2) a.a__law_like a.d__law_like "_law_like" ["_law_found", "_law_due_here"] (lp (sn__law_like (n + 1) a)) := by
  refine ⟨fn_P T.F__law_like sc__law_like (by (intro ds Q E h; first | (obtain ⟨h, hr⟩ := h; subst h; (try (obtain ⟨_, hr⟩ := hr)); (try (obtain ⟨_, hr⟩ := hr)); (try (obtain ⟨_, hr⟩ := hr)); (try (obtain ⟨_, hr⟩ := hr)); (all_goals exact ⟨rfl, by (repeat' (first | trivial | exact lmD_lt | exact Ev.lt | exact evs_lt _ | exact itDs_lt _ | exact prs_lt _ | exact Wld.lt | exact rows_lt | exact deeds_lt | exact pasts_lt | exact D.lts_ints _ | exact D.lts_strs _ | exact Fc.lt | exact Dd.lt | exact fcs_lt _ | exact nfs_lt _ | exact nf_lt | exact D.pl.lt (by assumption) | exact D.dp.lt (by assumption) | exact D.dps.lt (by assumption) | exact D.pls.lt (by assumption) | assumption | refine ⟨?_, ?_⟩))⟩)) | (obtain ⟨_, h, hr⟩ := h; subst h; (try (obtain ⟨_, hr⟩ := hr)); (try (obtain ⟨_, hr⟩ := hr)); (try (obtain ⟨_, hr⟩ := hr)); (try (obtain ⟨_, hr⟩ := hr)); (all_goals exact ⟨rfl, by (repeat' (first | trivial | exact lmD_lt | exact Ev.lt | exact evs_lt _ | exact itDs_lt _ | exact prs_lt _ | exact Wld.lt | exact rows_lt | exact deeds_lt | exact pasts_lt | exact D.lts_ints _ | exact D.lts_strs _ | exact Fc.lt | exact Dd.lt | exact fcs_lt _ | exact nfs_lt _ | exact nf_lt | exact D.pl.lt (by assumption) | exact D.dp.lt (by assumption) | exact D.dps.lt (by assumption) | exact D.pls.lt (by assumption) | assumption | refine ⟨?_, ?_⟩))⟩)) | (obtain ⟨_, _, h, hr⟩ := h; subst h; (try (obtain ⟨_, hr⟩ := hr)); (try (obtain ⟨_, hr⟩ := hr)); (try (obtain ⟨_, hr⟩ := hr)); (try (obtain ⟨_, hr⟩ := hr)); (all_goals exact ⟨rfl, by (repeat' (first | trivial | exact lmD_lt | exact Ev.lt | exact evs_lt _ | exact itDs_lt _ | exact prs_lt _ | exact Wld.lt | exact rows_lt | exact deeds_lt | exact pasts_lt | exact D.lts_ints _ | exact D.lts_strs _ | exact Fc.lt | exact Dd.lt | exact fcs_lt _ | exact nfs_lt _ | exact nf_lt | exact D.pl.lt (by assumption) | exact D.dp.lt (by assumption) | exact D.dps.lt (by assumption) | exact D.pls.lt (by assumption) | assumption | refine ⟨?_, ?_⟩))⟩)) | (obtain ⟨_, _, _, h, hr⟩ := h; subst h; (try (obtain ⟨_, hr⟩ := hr)); (try (obtain ⟨_, hr⟩ := hr)); (try (obtain ⟨_, hr⟩ := hr)); (try (obtain ⟨_, hr⟩ := hr)); (all_goals exact ⟨rfl, by (repeat' (first | trivial | exact lmD_lt | exact Ev.lt | exact evs_lt _ | exact itDs_lt _ | exact prs_lt _ | exact Wld.lt | exact rows_lt | exact deeds_lt | exact pasts_lt | exact D.lts_ints _ | exact D.lts_strs _ | exact Fc.lt | exact Dd.lt | exact fcs_lt _ | exact nfs_lt _ | exact nf_lt | exact D.pl.lt (by assumption) | exact D.dp.lt (by assumption) | exact D.dps.lt (by assumption) | exact D.pls.lt (by assumption) | assumption | refine ⟨?_, ?_⟩))⟩)) | (obtain ⟨_, _, _, _, h, hr⟩ := h; subst h; (try (obtain ⟨_, hr⟩ := hr)); (try (obtain ⟨_, hr⟩ := hr)); (try (obtain ⟨_, hr⟩ := hr)); (try (obtain ⟨_, hr⟩ := hr)); (all_goals exact ⟨rfl, by (repeat' (first | trivial | exact lmD_lt | exact Ev.lt | exact evs_lt _ | exact itDs_lt _ | exact prs_lt _ | exact Wld.lt | exact rows_lt | exact deeds_lt | exact pasts_lt | exact D.lts_ints _ | exact D.lts_strs _ | exact Fc.lt | exact Dd.lt | exact fcs_lt _ | exact nfs_lt _ | exact nf_lt | exact D.pl.lt (by assumption) | exact D.dp.lt (by assumption) | exact D.dps.lt (by assumption) | exact D.pls.lt (by assumption) | assumption | refine ⟨?_, ?_⟩))⟩)) | (obtain ⟨_, _, _, _, _, h, hr⟩ := h; subst h; (try (obtain ⟨_, hr⟩ := hr)); (try (obtain ⟨_, hr⟩ := hr)); (try (obtain ⟨_, hr⟩ := hr)); (try (obtain ⟨_, hr⟩ := hr)); (all_goals exact ⟨rfl, by (repeat' (first | trivial | exact lmD_lt | exact Ev.lt | exact evs_lt _ | exact itDs_lt _ | exact prs_lt _ | exact Wld.lt | exact rows_lt | exact deeds_lt | exact pasts_lt | exact D.lts_ints _ | exact D.lts_strs _ | exact Fc.lt | exact Dd.lt | exact fcs_lt _ | exact nfs_lt _ | exact nf_lt | exact D.pl.lt (by assumption) | exact D.dp.lt (by assumption) | exact D.dps.lt (by assumption) | exact D.pls.lt (by assumption) | assumption | refine ⟨?_, ?_⟩))⟩)) | (obtain ⟨h, _⟩ := h; exact (by simp at h)))) fun cdv A outer s H E φ T0 W' room wl => ⟨_, (lss_cons (ls_if (lt_cmp oo_is (lv 1) le_non (by rfl)) (lss_cons (ls_ret (le_cmp oo_is (lv 0) le_non (by rfl)))
    lss_nil) lss_nil)
    (lss_cons (ls_if (lt_truth (le_callB cc_isiB rfl T.n_isinstance (by rfl) (la_cons (lv 1) (la_cons (le_ty rfl T.n_bool (by rfl)) la_nil)))) (lss_cons (ls_ret (le_and (le_callB cc_isiB rfl T.n_isinstance (by rfl) (la_cons (lv 0) (la_cons (le_ty rfl T.n_bool (by rfl)) la_nil))) (le_one (le_cmp (oo_eq room.units) (lv 0) (lv 1) (by rfl)))))
    lss_nil) lss_nil)
    (lss_cons (ls_if (lt_truth (le_callB cc_isiB rfl T.n_isinstance (by rfl) (la_cons (lv 1) (la_cons (le_ty rfl T.n_int (by rfl)) la_nil)))) (lss_cons (ls_ret (le_and (le_fx G__law_num (room.mono (by omega)) (takes_of rfl rfl rfl rfl) wl (la_cons (lv 0) la_nil)) (le_one (le_cmp (oo_eq room.units) (lv 0) (lv 1) (by rfl)))))
    lss_nil) lss_nil)
    (lss_cons (ls_if (lt_truth (le_callB cc_isiB rfl T.n_isinstance (by rfl) (la_cons (lv 1) (la_cons (le_ty rfl T.n_str (by rfl)) la_nil)))) (lss_cons (ls_ret (le_and (le_callB cc_isiB rfl T.n_isinstance (by rfl) (la_cons (lv 0) (la_cons (le_ty rfl T.n_str (by rfl)) la_nil))) (le_one (le_cmp (oo_eq room.units) (lv 0) (lv 1) (by rfl)))))
    lss_nil) lss_nil)
    (lss_cons (ls_if (LW.t (lw_or (lt_cmp (oo_ne room.units) (le_callB cc_isiB rfl T.n_isinstance (by rfl) (la_cons (lv 1) (la_cons (le_ty rfl T.n_tuple (by rfl)) la_nil))) (le_callB cc_isiB rfl T.n_isinstance (by rfl) (la_cons (lv 0) (la_cons (le_ty rfl T.n_tuple (by rfl)) la_nil))) (by rfl)) (lw_or1 (lt_cmp (oo_ne room.units) (le_callB cc_isiB rfl T.n_isinstance (by rfl) (la_cons (lv 1) (la_cons (le_ty rfl T.n_list (by rfl)) la_nil))) (le_callB cc_isiB rfl T.n_isinstance (by rfl) (la_cons (lv 0) (la_cons (le_ty rfl T.n_list (by rfl)) la_nil))) (by rfl))))) (lss_cons (ls_ret le_bl)
    lss_nil) lss_nil)
    (lss_cons (ls_ret (le_and (le_cmp (oo_eq room.units) (le_callB cc_len rfl T.n_len (by rfl) (la_cons (lv 0) la_nil)) (le_callB cc_len rfl T.n_len (by rfl) (la_cons (lv 1) la_nil)) (by rfl)) (le_one (le_callB (cc_all rfl) rfl T.n_all (by rfl) (la_cons (le_lc false [("_law_k", 2)] (.nm 2) rfl sc__law_like.nd (li_rng1 rfl T.n_range (la_cons (le_callB cc_len rfl T.n_len (by rfl) (la_cons (lv 1) la_nil)) la_nil)) (by (conv => { arg 1; whnf }); (conv => { arg 2; whnf }); exact ⟨rfl, by decide +kernel, by decide +kernel, by decide +kernel, by decide +kernel⟩) (fun _ _ _ _ _ => (tg_nm 2 sc__law_like.nd)) (fun _ _ _ _ _ => lts_nil) (fun _ _ _ _ _ => (le_fx G__law_like (room.mono (by omega)) LamX.takes0 WL0 (la_cons (le_ix ox_seq (lv 0) (lv 2)) (la_cons (le_ix ox_seq (lv 1) (lv 2)) la_nil))))) la_nil)))))
    lss_nil)))))), fun ds S R X n h hW => ?_⟩, T.m__law_like, T.F__law_like.kp, T.b__law_like⟩
  obtain ⟨Q, E, h, rfl, rfl, rfl, rfl⟩ := h
  subst hW
  obtain ⟨x, rfl, hd, q⟩ := h
  have fin : ∀ b, b = true → RtP Q (.bl b) [] := fun b e => by subst e; exact Rp q
  cases x with
  | non =>
    conv => whnf
    exact fin _ rfl
  | bl b =>
    conv => whnf
    exact fin _ (by simp [D.seq])
  | int i =>
    conv => whnf
    refine ⟨_, rfl, ?_⟩
    conv => whnf
    exact fin _ (by simp [D.seq])
  | str x =>
    conv => whnf
    exact fin _ (by simp [D.seq])
  | tup xs =>
    cases n with
    | zero => exact hd.elim
    | succ n =>
    conv => whnf
    refine brT rfl ?_
    conv => whnf
    refine ⟨by (have := hd.1; omega), by (have := hd.1; omega), ?_⟩
    refine lc_map (fun _ => .bl true) (by rw [rngD_len]; exact Nat.lt_of_le_of_lt (show _ ≤ 1000000 by (have := hd.1; omega)) (by decide)) (fun _ => trivial) ?_ ?_
    · intro i x acc hi
      obtain ⟨hi2, rfl⟩ := rngD_get hi
      obtain ⟨x, hx⟩ : ∃ x, xs[i]? = some x := ⟨_, List.getElem?_eq_getElem (by omega)⟩
      refine ⟨_, rfl, trivial, fun R r => ?_⟩
      conv => whnf
      refine optI (atI_nat hx) ?_
      conv => whnf
      refine optI (atI_nat hx) ?_
      conv => whnf
      exact ⟨x, rfl, D.dps_mem.mp hd.2 x (List.mem_of_getElem? hx), r⟩
    · conv => whnf
      refine optI (asBs_map (fun _ => true) _) ?_
      exact fin _ (by simp)
  | lst xs =>
    cases n with
    | zero => exact hd.elim
    | succ n =>
    conv => whnf
    refine brT rfl ?_
    conv => whnf
    refine ⟨by (have := hd.1; omega), by (have := hd.1; omega), ?_⟩
    refine lc_map (fun _ => .bl true) (by rw [rngD_len]; exact Nat.lt_of_le_of_lt (show _ ≤ 1000000 by (have := hd.1; omega)) (by decide)) (fun _ => trivial) ?_ ?_
    · intro i x acc hi
      obtain ⟨hi2, rfl⟩ := rngD_get hi
      obtain ⟨x, hx⟩ : ∃ x, xs[i]? = some x := ⟨_, List.getElem?_eq_getElem (by omega)⟩
      refine ⟨_, rfl, trivial, fun R r => ?_⟩
      conv => whnf
      refine optI (atI_nat hx) ?_
      conv => whnf
      refine optI (atI_nat hx) ?_
      conv => whnf
      exact ⟨x, rfl, D.dps_mem.mp hd.2 x (List.mem_of_getElem? hx), r⟩
    · conv => whnf
      refine optI (asBs_map (fun _ => true) _) ?_
      exact fin _ (by simp)
  | _ => exact hd.elim
theorem al__law_like (T : Txt K w mg a) (G__law_num : Fx P w K mg base 1 a.a__law_num a.d__law_num "_law_num" ["_law_found"] (lp (sp__law_num a))) : ∀ n, Fx P w K mg base (n + 1) a.a__law_like a.d__law_like "_law_like" ["_law_found", "_law_due_here"] (lp (sn__law_like n a))
  | 0 => ⟨fn_no fun _ _ _ _ h => h, T.m__law_like, T.F__law_like.kp, T.b__law_like⟩
  | n + 1 => st__law_like T G__law_num (al__law_like T G__law_num n)
theorem ok__law_like (T : Txt K w mg a) (G__law_num : Fx P w K mg base 1 a.a__law_num a.d__law_num "_law_num" ["_law_found"] (lp (sp__law_num a))) : Fx P w K mg base 12 a.a__law_like a.d__law_like "_law_like" ["_law_found", "_law_due_here"] (lp (sp__law_like a)) := al__law_like T G__law_num 11
def sp__law_odd (a : Ad) : SpP := fun ds Q _ => ds = [] ∧ ∀ z : Int, Q (.int z)
theorem ok__law_odd (T : Txt K w mg a) (G__law_pull : Fx P w K mg base 1 a.a__law_pull a.d__law_pull "_law_pull" ["_law_draw", "_law_many"] (ld (sp__law_pull a))) : Fx P w K mg base 2 a.a__law_odd a.d__law_odd "_law_odd" ["_law_draw"] (ld (sp__law_odd a)) := by
  refine ⟨fn_W T.F__law_odd sc__law_odd (by (intro ds Q E h; first | (obtain ⟨h, hr⟩ := h; subst h; (try (obtain ⟨_, hr⟩ := hr)); (try (obtain ⟨_, hr⟩ := hr)); (try (obtain ⟨_, hr⟩ := hr)); (try (obtain ⟨_, hr⟩ := hr)); (all_goals exact ⟨rfl, by (repeat' (first | trivial | exact lmD_lt | exact Ev.lt | exact evs_lt _ | exact itDs_lt _ | exact prs_lt _ | exact Wld.lt | exact rows_lt | exact deeds_lt | exact pasts_lt | exact D.lts_ints _ | exact D.lts_strs _ | exact Fc.lt | exact Dd.lt | exact fcs_lt _ | exact nfs_lt _ | exact nf_lt | exact D.pl.lt (by assumption) | exact D.dp.lt (by assumption) | exact D.dps.lt (by assumption) | exact D.pls.lt (by assumption) | assumption | refine ⟨?_, ?_⟩))⟩)) | (obtain ⟨_, h, hr⟩ := h; subst h; (try (obtain ⟨_, hr⟩ := hr)); (try (obtain ⟨_, hr⟩ := hr)); (try (obtain ⟨_, hr⟩ := hr)); (try (obtain ⟨_, hr⟩ := hr)); (all_goals exact ⟨rfl, by (repeat' (first | trivial | exact lmD_lt | exact Ev.lt | exact evs_lt _ | exact itDs_lt _ | exact prs_lt _ | exact Wld.lt | exact rows_lt | exact deeds_lt | exact pasts_lt | exact D.lts_ints _ | exact D.lts_strs _ | exact Fc.lt | exact Dd.lt | exact fcs_lt _ | exact nfs_lt _ | exact nf_lt | exact D.pl.lt (by assumption) | exact D.dp.lt (by assumption) | exact D.dps.lt (by assumption) | exact D.pls.lt (by assumption) | assumption | refine ⟨?_, ?_⟩))⟩)) | (obtain ⟨_, _, h, hr⟩ := h; subst h; (try (obtain ⟨_, hr⟩ := hr)); (try (obtain ⟨_, hr⟩ := hr)); (try (obtain ⟨_, hr⟩ := hr)); (try (obtain ⟨_, hr⟩ := hr)); (all_goals exact ⟨rfl, by (repeat' (first | trivial | exact lmD_lt | exact Ev.lt | exact evs_lt _ | exact itDs_lt _ | exact prs_lt _ | exact Wld.lt | exact rows_lt | exact deeds_lt | exact pasts_lt | exact D.lts_ints _ | exact D.lts_strs _ | exact Fc.lt | exact Dd.lt | exact fcs_lt _ | exact nfs_lt _ | exact nf_lt | exact D.pl.lt (by assumption) | exact D.dp.lt (by assumption) | exact D.dps.lt (by assumption) | exact D.pls.lt (by assumption) | assumption | refine ⟨?_, ?_⟩))⟩)) | (obtain ⟨_, _, _, h, hr⟩ := h; subst h; (try (obtain ⟨_, hr⟩ := hr)); (try (obtain ⟨_, hr⟩ := hr)); (try (obtain ⟨_, hr⟩ := hr)); (try (obtain ⟨_, hr⟩ := hr)); (all_goals exact ⟨rfl, by (repeat' (first | trivial | exact lmD_lt | exact Ev.lt | exact evs_lt _ | exact itDs_lt _ | exact prs_lt _ | exact Wld.lt | exact rows_lt | exact deeds_lt | exact pasts_lt | exact D.lts_ints _ | exact D.lts_strs _ | exact Fc.lt | exact Dd.lt | exact fcs_lt _ | exact nfs_lt _ | exact nf_lt | exact D.pl.lt (by assumption) | exact D.dp.lt (by assumption) | exact D.dps.lt (by assumption) | exact D.pls.lt (by assumption) | assumption | refine ⟨?_, ?_⟩))⟩)) | (obtain ⟨_, _, _, _, h, hr⟩ := h; subst h; (try (obtain ⟨_, hr⟩ := hr)); (try (obtain ⟨_, hr⟩ := hr)); (try (obtain ⟨_, hr⟩ := hr)); (try (obtain ⟨_, hr⟩ := hr)); (all_goals exact ⟨rfl, by (repeat' (first | trivial | exact lmD_lt | exact Ev.lt | exact evs_lt _ | exact itDs_lt _ | exact prs_lt _ | exact Wld.lt | exact rows_lt | exact deeds_lt | exact pasts_lt | exact D.lts_ints _ | exact D.lts_strs _ | exact Fc.lt | exact Dd.lt | exact fcs_lt _ | exact nfs_lt _ | exact nf_lt | exact D.pl.lt (by assumption) | exact D.dp.lt (by assumption) | exact D.dps.lt (by assumption) | exact D.pls.lt (by assumption) | assumption | refine ⟨?_, ?_⟩))⟩)) | (obtain ⟨_, _, _, _, _, h, hr⟩ := h; subst h; (try (obtain ⟨_, hr⟩ := hr)); (try (obtain ⟨_, hr⟩ := hr)); (try (obtain ⟨_, hr⟩ := hr)); (try (obtain ⟨_, hr⟩ := hr)); (all_goals exact ⟨rfl, by (repeat' (first | trivial | exact lmD_lt | exact Ev.lt | exact evs_lt _ | exact itDs_lt _ | exact prs_lt _ | exact Wld.lt | exact rows_lt | exact deeds_lt | exact pasts_lt | exact D.lts_ints _ | exact D.lts_strs _ | exact Fc.lt | exact Dd.lt | exact fcs_lt _ | exact nfs_lt _ | exact nf_lt | exact D.pl.lt (by assumption) | exact D.dp.lt (by assumption) | exact D.dps.lt (by assumption) | exact D.pls.lt (by assumption) | assumption | refine ⟨?_, ?_⟩))⟩)) | (obtain ⟨h, _⟩ := h; exact (by simp at h)))) fun cdv A outer s H E φ T0 W' room wl => ⟨_, (lss_cons (ls_set 1 (le_fx G__law_pull (room.mono (by decide)) (takes_of rfl rfl rfl rfl) wl (la_cons (lv 0) (la_cons (le_op oo_pow le_int le_int) la_nil))) sc__law_odd.nd)
    (lss_cons (ls_ret (le_ix ox_seq (le_lst (la_cons (le_neg le_int) (la_cons le_int (la_cons le_int (la_cons le_int (la_cons le_int (la_cons le_int (la_cons le_int (la_cons le_int (la_cons le_int (la_cons (lv 1) (la_cons (le_op oo_sub (le_neg le_int) (lv 1)) (la_cons (le_op oo_mulX (lv 1) (le_op oo_pow le_int le_int)) la_nil))))))))))))) (le_fx G__law_pull (room.mono (by decide)) (takes_of rfl rfl rfl rfl) wl (la_cons (lv 0) (la_cons le_int la_nil)))))
    lss_nil)), fun ds S R X n h hW => ?_⟩, T.m__law_odd, T.F__law_odd.kp, T.b__law_odd⟩
  obtain ⟨r, Q, E, h, rfl, rfl, rfl, rfl, rfl⟩ := h
  subst hW
  obtain ⟨rfl, q⟩ := h
  conv => whnf
  repeat (refine Need.mk ?_ ?_; exact nd; conv => whnf)
  refine ⟨_, rfl, ⟨by first | decide | omega, by first | decide | omega⟩, fun n h0 h1 => ?_⟩
  have h1 : n < 1000000000 := h1
  conv => whnf
  repeat (refine Need.mk ?_ ?_; exact nd; conv => whnf)
  refine ⟨_, rfl, ⟨by first | decide | omega, by first | decide | omega⟩, fun m h2 h3 => ?_⟩
  conv => whnf
  repeat (refine Need.mk ?_ ?_; exact nd; conv => whnf)
  obtain ⟨z, _, hz⟩ := atI_ints (ns := [-1, 0, 5, 6, 7, 15, 16, 999, 1000, n, -1 - n, n * 10 ^ 20]) h2 (by show m < 12; omega)
  refine optI hz ?_
  exact Rw (q z) trivial
def sp__law_few (a : Ad) : SpP := fun ds Q _ => ∃ (ps : List Int) (m : Int), ds = [.lst (ps.map D.int), .int m] ∧ ps.length ≤ 60 ∧ 0 ≤ m ∧ ∀ qs rest : List Int, (qs ++ rest).Perm ps → qs.length = min m.toNat ps.length → Q (.lst (qs.map D.int))
theorem ok__law_few (T : Txt K w mg a) (G__law_pull : Fx P w K mg base 1 a.a__law_pull a.d__law_pull "_law_pull" ["_law_draw", "_law_many"] (ld (sp__law_pull a))) : Fx P w K mg base 2 a.a__law_few a.d__law_few "_law_few" ["_law_draw", "_law_pool", "_law_many"] (ld (sp__law_few a)) := by
  refine ⟨fn_W T.F__law_few sc__law_few (by (intro ds Q E h; first | (obtain ⟨h, hr⟩ := h; subst h; (try (obtain ⟨_, hr⟩ := hr)); (try (obtain ⟨_, hr⟩ := hr)); (try (obtain ⟨_, hr⟩ := hr)); (try (obtain ⟨_, hr⟩ := hr)); (all_goals exact ⟨rfl, by (repeat' (first | trivial | exact lmD_lt | exact Ev.lt | exact evs_lt _ | exact itDs_lt _ | exact prs_lt _ | exact Wld.lt | exact rows_lt | exact deeds_lt | exact pasts_lt | exact D.lts_ints _ | exact D.lts_strs _ | exact Fc.lt | exact Dd.lt | exact fcs_lt _ | exact nfs_lt _ | exact nf_lt | exact D.pl.lt (by assumption) | exact D.dp.lt (by assumption) | exact D.dps.lt (by assumption) | exact D.pls.lt (by assumption) | assumption | refine ⟨?_, ?_⟩))⟩)) | (obtain ⟨_, h, hr⟩ := h; subst h; (try (obtain ⟨_, hr⟩ := hr)); (try (obtain ⟨_, hr⟩ := hr)); (try (obtain ⟨_, hr⟩ := hr)); (try (obtain ⟨_, hr⟩ := hr)); (all_goals exact ⟨rfl, by (repeat' (first | trivial | exact lmD_lt | exact Ev.lt | exact evs_lt _ | exact itDs_lt _ | exact prs_lt _ | exact Wld.lt | exact rows_lt | exact deeds_lt | exact pasts_lt | exact D.lts_ints _ | exact D.lts_strs _ | exact Fc.lt | exact Dd.lt | exact fcs_lt _ | exact nfs_lt _ | exact nf_lt | exact D.pl.lt (by assumption) | exact D.dp.lt (by assumption) | exact D.dps.lt (by assumption) | exact D.pls.lt (by assumption) | assumption | refine ⟨?_, ?_⟩))⟩)) | (obtain ⟨_, _, h, hr⟩ := h; subst h; (try (obtain ⟨_, hr⟩ := hr)); (try (obtain ⟨_, hr⟩ := hr)); (try (obtain ⟨_, hr⟩ := hr)); (try (obtain ⟨_, hr⟩ := hr)); (all_goals exact ⟨rfl, by (repeat' (first | trivial | exact lmD_lt | exact Ev.lt | exact evs_lt _ | exact itDs_lt _ | exact prs_lt _ | exact Wld.lt | exact rows_lt | exact deeds_lt | exact pasts_lt | exact D.lts_ints _ | exact D.lts_strs _ | exact Fc.lt | exact Dd.lt | exact fcs_lt _ | exact nfs_lt _ | exact nf_lt | exact D.pl.lt (by assumption) | exact D.dp.lt (by assumption) | exact D.dps.lt (by assumption) | exact D.pls.lt (by assumption) | assumption | refine ⟨?_, ?_⟩))⟩)) | (obtain ⟨_, _, _, h, hr⟩ := h; subst h; (try (obtain ⟨_, hr⟩ := hr)); (try (obtain ⟨_, hr⟩ := hr)); (try (obtain ⟨_, hr⟩ := hr)); (try (obtain ⟨_, hr⟩ := hr)); (all_goals exact ⟨rfl, by (repeat' (first | trivial | exact lmD_lt | exact Ev.lt | exact evs_lt _ | exact itDs_lt _ | exact prs_lt _ | exact Wld.lt | exact rows_lt | exact deeds_lt | exact pasts_lt | exact D.lts_ints _ | exact D.lts_strs _ | exact Fc.lt | exact Dd.lt | exact fcs_lt _ | exact nfs_lt _ | exact nf_lt | exact D.pl.lt (by assumption) | exact D.dp.lt (by assumption) | exact D.dps.lt (by assumption) | exact D.pls.lt (by assumption) | assumption | refine ⟨?_, ?_⟩))⟩)) | (obtain ⟨_, _, _, _, h, hr⟩ := h; subst h; (try (obtain ⟨_, hr⟩ := hr)); (try (obtain ⟨_, hr⟩ := hr)); (try (obtain ⟨_, hr⟩ := hr)); (try (obtain ⟨_, hr⟩ := hr)); (all_goals exact ⟨rfl, by (repeat' (first | trivial | exact lmD_lt | exact Ev.lt | exact evs_lt _ | exact itDs_lt _ | exact prs_lt _ | exact Wld.lt | exact rows_lt | exact deeds_lt | exact pasts_lt | exact D.lts_ints _ | exact D.lts_strs _ | exact Fc.lt | exact Dd.lt | exact fcs_lt _ | exact nfs_lt _ | exact nf_lt | exact D.pl.lt (by assumption) | exact D.dp.lt (by assumption) | exact D.dps.lt (by assumption) | exact D.pls.lt (by assumption) | assumption | refine ⟨?_, ?_⟩))⟩)) | (obtain ⟨_, _, _, _, _, h, hr⟩ := h; subst h; (try (obtain ⟨_, hr⟩ := hr)); (try (obtain ⟨_, hr⟩ := hr)); (try (obtain ⟨_, hr⟩ := hr)); (try (obtain ⟨_, hr⟩ := hr)); (all_goals exact ⟨rfl, by (repeat' (first | trivial | exact lmD_lt | exact Ev.lt | exact evs_lt _ | exact itDs_lt _ | exact prs_lt _ | exact Wld.lt | exact rows_lt | exact deeds_lt | exact pasts_lt | exact D.lts_ints _ | exact D.lts_strs _ | exact Fc.lt | exact Dd.lt | exact fcs_lt _ | exact nfs_lt _ | exact nf_lt | exact D.pl.lt (by assumption) | exact D.dp.lt (by assumption) | exact D.dps.lt (by assumption) | exact D.pls.lt (by assumption) | assumption | refine ⟨?_, ?_⟩))⟩)) | (obtain ⟨h, _⟩ := h; exact (by simp at h)))) fun cdv A outer s H E φ T0 W' room wl => ⟨_, (lss_consW [1] (ls_set 3 (le_callTy cc_listM rfl T.n_list (by rfl) (la_cons (lv 1) la_nil)) sc__law_few.nd)
    (lss_cons (ls_set 4 (le_lstM la_nil) sc__law_few.nd)
    (lss_consW [0, 2, 3, 5] (ls_for (passes_of rfl) rfl (li_rng1 rfl T.n_range (la_cons (le_callB (cc_min2 rfl) rfl T.n_min (by rfl) (la_cons (lv 2) (la_cons (le_callB cc_len rfl T.n_len (by rfl) (la_cons (lv 3) la_nil)) la_nil))) la_nil)) (lg_name (i := 5) sc__law_few.nd rfl)
    (lss_consW [5] (ls_expr (le_bm PySem.F.plainAttrs_list PySem.F.slot_list_append PySem.F.type_list_append mm_append (lv 4) (la_cons (le_bm PySem.F.plainAttrs_list PySem.F.slot_list_pop PySem.F.type_list_pop mm_popAt (lv 3) (la_cons (le_fx G__law_pull (room.mono (by decide)) (takes_of rfl rfl rfl rfl) wl (la_cons (lv 0) (la_cons (le_callB cc_len rfl T.n_len (by rfl) (la_cons (lv 3) la_nil)) la_nil))) la_nil)) la_nil)))
    lss_nil))
    (lss_cons (ls_ret (lv 4))
    lss_nil)))), fun ds S R X n h hW => ?_⟩, T.m__law_few, T.F__law_few.kp, T.b__law_few⟩
  obtain ⟨r, Q, E, h, rfl, rfl, rfl, rfl, rfl⟩ := h
  subst hW
  obtain ⟨ps, m, rfl, hl, hm, q⟩ := h
  conv => whnf
  rw [if_neg Bool.false_ne_true, List.length_map, ite_min]
  refine ⟨by omega, by omega, ?_⟩
  refine ⟨fun i s' S' => ∃ qs rest : List Int, (qs ++ rest).Perm ps ∧ qs.length = i ∧ S' = [.drw, .lst (rest.map D.int), .lst (qs.map D.int)] ∧ s' = [some (.ref 0), none, some (.int m), some (.ref 1), some (.ref 2), none], ⟨[], ps, List.Perm.refl _, rfl, rfl, rfl⟩, fun _ _ _ _ _ => trivial, ?_, ?_⟩
  · rintro i x s' S' hi ⟨qs, rest, hp, hq, rfl, rfl⟩
    obtain ⟨hi, rfl⟩ := rngD_get hi
    have hlen := hp.length_eq
    rw [List.length_append] at hlen
    refine Need.mk rfl ?_
    conv => whnf
    refine Need.mk rfl ?_
    conv => whnf
    rw [List.length_map]
    refine ⟨_, rfl, ⟨by omega, by omega⟩, fun n h2 h3 => ?_⟩
    conv => whnf
    refine Need.mk ⟨h2, by omega, by rw [List.length_map]; exact h3⟩ ?_
    have hn : n.toNat < rest.length := by omega
    refine optI (show (rest.map D.int)[n.toNat]? = some (.int rest[n.toNat]) by simp [List.getElem?_eq_getElem hn]) ?_
    conv => whnf
    refine Need.mk (lenL (by rw [List.length_map]; omega)) ?_
    conv => whnf
    refine .inl ⟨qs ++ [rest[n.toNat]], rest.eraseIdx n.toNat, take_perm hn hp, by simp [hq], ?_, rfl⟩
    show [O.drw, .lst ((rest.map D.int).eraseIdx n.toNat), .lst (qs.map D.int ++ [.int rest[n.toNat]])] = _
    rw [erase_map, List.map_append]; rfl
  · rintro s' S' ⟨qs, rest, hp, hq, rfl, rfl⟩
    rw [rngD_len] at hq
    have hlen := hp.length_eq
    rw [List.length_append] at hlen
    conv => whnf
    exact RwL rfl (by decide) (D.lts_ints _) (q qs rest hp (by omega))
def sp__law_shades (a : Ad) : SpP := fun ds Q _ => ∃ m : Int, ds = [.int m] ∧ 0 ≤ m ∧ m ≤ 40 ∧ ∀ ns : List Int, ns.length = m.toNat → goodN ns → Q (.tup (ns.map D.int))
theorem ok__law_shades (T : Txt K w mg a) (G__law_pull : Fx P w K mg base 1 a.a__law_pull a.d__law_pull "_law_pull" ["_law_draw", "_law_many"] (ld (sp__law_pull a))) : Fx P w K mg base 2 a.a__law_shades a.d__law_shades "_law_shades" ["_law_draw", "_law_many"] (ld (sp__law_shades a)) := by
  refine ⟨fn_W T.F__law_shades sc__law_shades (by (intro ds Q E h; first | (obtain ⟨h, hr⟩ := h; subst h; (try (obtain ⟨_, hr⟩ := hr)); (try (obtain ⟨_, hr⟩ := hr)); (try (obtain ⟨_, hr⟩ := hr)); (try (obtain ⟨_, hr⟩ := hr)); (all_goals exact ⟨rfl, by (repeat' (first | trivial | exact lmD_lt | exact Ev.lt | exact evs_lt _ | exact itDs_lt _ | exact prs_lt _ | exact Wld.lt | exact rows_lt | exact deeds_lt | exact pasts_lt | exact D.lts_ints _ | exact D.lts_strs _ | exact Fc.lt | exact Dd.lt | exact fcs_lt _ | exact nfs_lt _ | exact nf_lt | exact D.pl.lt (by assumption) | exact D.dp.lt (by assumption) | exact D.dps.lt (by assumption) | exact D.pls.lt (by assumption) | assumption | refine ⟨?_, ?_⟩))⟩)) | (obtain ⟨_, h, hr⟩ := h; subst h; (try (obtain ⟨_, hr⟩ := hr)); (try (obtain ⟨_, hr⟩ := hr)); (try (obtain ⟨_, hr⟩ := hr)); (try (obtain ⟨_, hr⟩ := hr)); (all_goals exact ⟨rfl, by (repeat' (first | trivial | exact lmD_lt | exact Ev.lt | exact evs_lt _ | exact itDs_lt _ | exact prs_lt _ | exact Wld.lt | exact rows_lt | exact deeds_lt | exact pasts_lt | exact D.lts_ints _ | exact D.lts_strs _ | exact Fc.lt | exact Dd.lt | exact fcs_lt _ | exact nfs_lt _ | exact nf_lt | exact D.pl.lt (by assumption) | exact D.dp.lt (by assumption) | exact D.dps.lt (by assumption) | exact D.pls.lt (by assumption) | assumption | refine ⟨?_, ?_⟩))⟩)) | (obtain ⟨_, _, h, hr⟩ := h; subst h; (try (obtain ⟨_, hr⟩ := hr)); (try (obtain ⟨_, hr⟩ := hr)); (try (obtain ⟨_, hr⟩ := hr)); (try (obtain ⟨_, hr⟩ := hr)); (all_goals exact ⟨rfl, by (repeat' (first | trivial | exact lmD_lt | exact Ev.lt | exact evs_lt _ | exact itDs_lt _ | exact prs_lt _ | exact Wld.lt | exact rows_lt | exact deeds_lt | exact pasts_lt | exact D.lts_ints _ | exact D.lts_strs _ | exact Fc.lt | exact Dd.lt | exact fcs_lt _ | exact nfs_lt _ | exact nf_lt | exact D.pl.lt (by assumption) | exact D.dp.lt (by assumption) | exact D.dps.lt (by assumption) | exact D.pls.lt (by assumption) | assumption | refine ⟨?_, ?_⟩))⟩)) | (obtain ⟨_, _, _, h, hr⟩ := h; subst h; (try (obtain ⟨_, hr⟩ := hr)); (try (obtain ⟨_, hr⟩ := hr)); (try (obtain ⟨_, hr⟩ := hr)); (try (obtain ⟨_, hr⟩ := hr)); (all_goals exact ⟨rfl, by (repeat' (first | trivial | exact lmD_lt | exact Ev.lt | exact evs_lt _ | exact itDs_lt _ | exact prs_lt _ | exact Wld.lt | exact rows_lt | exact deeds_lt | exact pasts_lt | exact D.lts_ints _ | exact D.lts_strs _ | exact Fc.lt | exact Dd.lt | exact fcs_lt _ | exact nfs_lt _ | exact nf_lt | exact D.pl.lt (by assumption) | exact D.dp.lt (by assumption) | exact D.dps.lt (by assumption) | exact D.pls.lt (by assumption) | assumption | refine ⟨?_, ?_⟩))⟩)) | (obtain ⟨_, _, _, _, h, hr⟩ := h; subst h; (try (obtain ⟨_, hr⟩ := hr)); (try (obtain ⟨_, hr⟩ := hr)); (try (obtain ⟨_, hr⟩ := hr)); (try (obtain ⟨_, hr⟩ := hr)); (all_goals exact ⟨rfl, by (repeat' (first | trivial | exact lmD_lt | exact Ev.lt | exact evs_lt _ | exact itDs_lt _ | exact prs_lt _ | exact Wld.lt | exact rows_lt | exact deeds_lt | exact pasts_lt | exact D.lts_ints _ | exact D.lts_strs _ | exact Fc.lt | exact Dd.lt | exact fcs_lt _ | exact nfs_lt _ | exact nf_lt | exact D.pl.lt (by assumption) | exact D.dp.lt (by assumption) | exact D.dps.lt (by assumption) | exact D.pls.lt (by assumption) | assumption | refine ⟨?_, ?_⟩))⟩)) | (obtain ⟨_, _, _, _, _, h, hr⟩ := h; subst h; (try (obtain ⟨_, hr⟩ := hr)); (try (obtain ⟨_, hr⟩ := hr)); (try (obtain ⟨_, hr⟩ := hr)); (try (obtain ⟨_, hr⟩ := hr)); (all_goals exact ⟨rfl, by (repeat' (first | trivial | exact lmD_lt | exact Ev.lt | exact evs_lt _ | exact itDs_lt _ | exact prs_lt _ | exact Wld.lt | exact rows_lt | exact deeds_lt | exact pasts_lt | exact D.lts_ints _ | exact D.lts_strs _ | exact Fc.lt | exact Dd.lt | exact fcs_lt _ | exact nfs_lt _ | exact nf_lt | exact D.pl.lt (by assumption) | exact D.dp.lt (by assumption) | exact D.dps.lt (by assumption) | exact D.pls.lt (by assumption) | assumption | refine ⟨?_, ?_⟩))⟩)) | (obtain ⟨h, _⟩ := h; exact (by simp at h)))) fun cdv A outer s H E φ T0 W' room wl => ⟨_, (lss_cons (ls_set 2 (le_ix ox_seq (le_tup (la_cons le_int (la_cons le_int la_nil))) (le_fx G__law_pull (room.mono (by decide)) (takes_of rfl rfl rfl rfl) wl (la_cons (lv 0) (la_cons le_int la_nil)))) sc__law_shades.nd)
    (lss_cons (ls_ret (le_callTy cc_tuple rfl T.n_tuple (by rfl) (la_cons (le_lc false [("_law_k", 3)] (.nm 3) rfl sc__law_shades.nd (li_rng1 rfl T.n_range (la_cons (lv 1) la_nil)) (by (conv => { arg 1; whnf }); (conv => { arg 2; whnf }); exact ⟨rfl, by decide +kernel, by decide +kernel, by decide +kernel, by decide +kernel⟩) (fun _ _ _ _ _ => (tg_nm 3 sc__law_shades.nd)) (fun _ _ _ _ _ => lts_nil) (fun _ _ _ _ _ => (le_fx G__law_pull (room.mono (by decide)) LamX.takes0 WL0 (la_cons (lv 0) (la_cons (lv 2) la_nil))))) la_nil)))
    lss_nil)), fun ds S R X n h hW => ?_⟩, T.m__law_shades, T.F__law_shades.kp, T.b__law_shades⟩
  obtain ⟨r, Q, E, h, rfl, rfl, rfl, rfl, rfl⟩ := h
  subst hW
  obtain ⟨m, rfl, h0, h1, q⟩ := h
  conv => whnf
  refine ⟨_, rfl, ⟨by first | decide | omega, by first | decide | omega⟩, fun n h2 h3 => ?_⟩
  conv => whnf
  obtain ⟨k, hk, ha⟩ : ∃ k : Int, (1 ≤ k ∧ k ≤ 7) ∧ L2.atI [D.int 3, D.int 7] n = some (.int k) := by
    have : n = 0 ∨ n = 1 := by omega
    rcases this with rfl | rfl
    · exact ⟨3, by decide, rfl⟩
    · exact ⟨7, by decide, rfl⟩
  refine optI ha ?_
  conv => whnf
  refine ⟨by omega, by omega, ?_⟩
  refine lc_inv (fun i acc => ∃ zs : List Int, acc = zs.map D.int ∧ zs.length = i ∧ goodN zs) ⟨[], rfl, rfl, fun _ h => nomatch h⟩ (by rw [rngD_len]; exact Nat.lt_of_le_of_lt (show m.toNat ≤ 40 by omega) (by decide)) (fun _ => trivial) ?_ ?_
  · rintro i x acc hi ⟨zs, rfl, hz, hg⟩
    obtain ⟨_, rfl⟩ := rngD_get hi
    refine ⟨_, rfl, ?_⟩
    conv => whnf
    refine ⟨_, rfl, ⟨by first | decide | omega, by first | decide | omega⟩, fun z h4 h5 => ?_⟩
    refine ⟨rfl, trivial, zs ++ [z], by simp, by simp [hz], ?_⟩
    intro y hy
    rcases List.mem_append.mp hy with hy | hy
    · exact hg y hy
    · rw [List.mem_singleton.mp hy]; omega
  · rintro acc ⟨zs, rfl, hz, hg⟩
    conv => whnf
    exact Rw (q zs (by rw [hz, rngD_len]) hg) (D.lts_ints _)
theorem words_fact : Txt.split "scrape cover moved year sold ahead same apart scrape scrape" " " = (["scrape", "cover", "moved", "year", "sold", "ahead", "same", "apart", "scrape", "scrape"] : List Str) := by decide +kernel
def sp__law_fact (a : Ad) : SpP := fun ds Q _ => ∃ (ps : List Int) (m : Int), ds = [.lst (ps.map D.int), .int m] ∧ ps ≠ [] ∧ ps.Nodup ∧ ps.length ≤ 60 ∧ 1 ≤ m ∧ m ≤ 40 ∧ ∀ f : Fc, f.good ps m → Q f.d
theorem ok__law_fact (T : Txt K w mg a) (G__law_pull : Fx P w K mg base 1 a.a__law_pull a.d__law_pull "_law_pull" ["_law_draw", "_law_many"] (ld (sp__law_pull a))) (G__law_shades : Fx P w K mg base 2 a.a__law_shades a.d__law_shades "_law_shades" ["_law_draw", "_law_many"] (ld (sp__law_shades a))) : Fx P w K mg base 3 a.a__law_fact a.d__law_fact "_law_fact" ["_law_draw", "_law_parts", "_law_most"] (ld (sp__law_fact a)) := by
  refine ⟨fn_W T.F__law_fact sc__law_fact (by (intro ds Q E h; first | (obtain ⟨h, hr⟩ := h; subst h; (try (obtain ⟨_, hr⟩ := hr)); (try (obtain ⟨_, hr⟩ := hr)); (try (obtain ⟨_, hr⟩ := hr)); (try (obtain ⟨_, hr⟩ := hr)); (all_goals exact ⟨rfl, by (repeat' (first | trivial | exact lmD_lt | exact Ev.lt | exact evs_lt _ | exact itDs_lt _ | exact prs_lt _ | exact Wld.lt | exact rows_lt | exact deeds_lt | exact pasts_lt | exact D.lts_ints _ | exact D.lts_strs _ | exact Fc.lt | exact Dd.lt | exact fcs_lt _ | exact nfs_lt _ | exact nf_lt | exact D.pl.lt (by assumption) | exact D.dp.lt (by assumption) | exact D.dps.lt (by assumption) | exact D.pls.lt (by assumption) | assumption | refine ⟨?_, ?_⟩))⟩)) | (obtain ⟨_, h, hr⟩ := h; subst h; (try (obtain ⟨_, hr⟩ := hr)); (try (obtain ⟨_, hr⟩ := hr)); (try (obtain ⟨_, hr⟩ := hr)); (try (obtain ⟨_, hr⟩ := hr)); (all_goals exact ⟨rfl, by (repeat' (first | trivial | exact lmD_lt | exact Ev.lt | exact evs_lt _ | exact itDs_lt _ | exact prs_lt _ | exact Wld.lt | exact rows_lt | exact deeds_lt | exact pasts_lt | exact D.lts_ints _ | exact D.lts_strs _ | exact Fc.lt | exact Dd.lt | exact fcs_lt _ | exact nfs_lt _ | exact nf_lt | exact D.pl.lt (by assumption) | exact D.dp.lt (by assumption) | exact D.dps.lt (by assumption) | exact D.pls.lt (by assumption) | assumption | refine ⟨?_, ?_⟩))⟩)) | (obtain ⟨_, _, h, hr⟩ := h; subst h; (try (obtain ⟨_, hr⟩ := hr)); (try (obtain ⟨_, hr⟩ := hr)); (try (obtain ⟨_, hr⟩ := hr)); (try (obtain ⟨_, hr⟩ := hr)); (all_goals exact ⟨rfl, by (repeat' (first | trivial | exact lmD_lt | exact Ev.lt | exact evs_lt _ | exact itDs_lt _ | exact prs_lt _ | exact Wld.lt | exact rows_lt | exact deeds_lt | exact pasts_lt | exact D.lts_ints _ | exact D.lts_strs _ | exact Fc.lt | exact Dd.lt | exact fcs_lt _ | exact nfs_lt _ | exact nf_lt | exact D.pl.lt (by assumption) | exact D.dp.lt (by assumption) | exact D.dps.lt (by assumption) | exact D.pls.lt (by assumption) | assumption | refine ⟨?_, ?_⟩))⟩)) | (obtain ⟨_, _, _, h, hr⟩ := h; subst h; (try (obtain ⟨_, hr⟩ := hr)); (try (obtain ⟨_, hr⟩ := hr)); (try (obtain ⟨_, hr⟩ := hr)); (try (obtain ⟨_, hr⟩ := hr)); (all_goals exact ⟨rfl, by (repeat' (first | trivial | exact lmD_lt | exact Ev.lt | exact evs_lt _ | exact itDs_lt _ | exact prs_lt _ | exact Wld.lt | exact rows_lt | exact deeds_lt | exact pasts_lt | exact D.lts_ints _ | exact D.lts_strs _ | exact Fc.lt | exact Dd.lt | exact fcs_lt _ | exact nfs_lt _ | exact nf_lt | exact D.pl.lt (by assumption) | exact D.dp.lt (by assumption) | exact D.dps.lt (by assumption) | exact D.pls.lt (by assumption) | assumption | refine ⟨?_, ?_⟩))⟩)) | (obtain ⟨_, _, _, _, h, hr⟩ := h; subst h; (try (obtain ⟨_, hr⟩ := hr)); (try (obtain ⟨_, hr⟩ := hr)); (try (obtain ⟨_, hr⟩ := hr)); (try (obtain ⟨_, hr⟩ := hr)); (all_goals exact ⟨rfl, by (repeat' (first | trivial | exact lmD_lt | exact Ev.lt | exact evs_lt _ | exact itDs_lt _ | exact prs_lt _ | exact Wld.lt | exact rows_lt | exact deeds_lt | exact pasts_lt | exact D.lts_ints _ | exact D.lts_strs _ | exact Fc.lt | exact Dd.lt | exact fcs_lt _ | exact nfs_lt _ | exact nf_lt | exact D.pl.lt (by assumption) | exact D.dp.lt (by assumption) | exact D.dps.lt (by assumption) | exact D.pls.lt (by assumption) | assumption | refine ⟨?_, ?_⟩))⟩)) | (obtain ⟨_, _, _, _, _, h, hr⟩ := h; subst h; (try (obtain ⟨_, hr⟩ := hr)); (try (obtain ⟨_, hr⟩ := hr)); (try (obtain ⟨_, hr⟩ := hr)); (try (obtain ⟨_, hr⟩ := hr)); (all_goals exact ⟨rfl, by (repeat' (first | trivial | exact lmD_lt | exact Ev.lt | exact evs_lt _ | exact itDs_lt _ | exact prs_lt _ | exact Wld.lt | exact rows_lt | exact deeds_lt | exact pasts_lt | exact D.lts_ints _ | exact D.lts_strs _ | exact Fc.lt | exact Dd.lt | exact fcs_lt _ | exact nfs_lt _ | exact nf_lt | exact D.pl.lt (by assumption) | exact D.dp.lt (by assumption) | exact D.dps.lt (by assumption) | exact D.pls.lt (by assumption) | assumption | refine ⟨?_, ?_⟩))⟩)) | (obtain ⟨h, _⟩ := h; exact (by simp at h)))) fun cdv A outer s H E φ T0 W' room wl => ⟨_, (lss_cons (ls_set 3 (le_ix ox_seq (le_bm PySem.F.plainAttrs_str PySem.F.slot_str_split PySem.F.type_str_split mm_split le_str (la_cons le_str la_nil)) (le_fx G__law_pull (room.mono (by decide)) (takes_of rfl rfl rfl rfl) wl (la_cons (lv 0) (la_cons le_int la_nil)))) sc__law_fact.nd)
    (lss_cons (ls_set 4 (le_ix ox_seq (lv 1) (le_fx G__law_pull (room.mono (by decide)) (takes_of rfl rfl rfl rfl) wl (la_cons (lv 0) (la_cons (le_callB cc_len rfl T.n_len (by rfl) (la_cons (lv 1) la_nil)) la_nil)))) sc__law_fact.nd)
    (lss_cons (ls_set 5 (le_fx G__law_pull (room.mono (by decide)) (takes_of rfl rfl rfl rfl) wl (la_cons (lv 0) (la_cons (lv 2) la_nil))) sc__law_fact.nd)
    (lss_cons (ls_if (LW.t (lw_or (lt_cmp (oo_eq room.units) (lv 3) le_str (by rfl)) (lw_or1 (LW.t (lw_and (lt_cmp oo_lt (le_callB cc_len rfl T.n_len (by rfl) (la_cons (lv 1) la_nil)) le_int (by rfl)) (lw_and1 (lt_cmp oo_in (lv 3) (le_lst (la_cons le_str (la_cons le_str (la_cons le_str (la_cons le_str la_nil))))) (by rfl)))))))) (lss_cons (ls_ret (le_tup (la_cons le_str (la_cons (lv 4) (la_cons (lv 5) (la_cons (le_fx G__law_shades (room.mono (by decide)) (takes_of rfl rfl rfl rfl) wl (la_cons (lv 0) (la_cons (le_op oo_add le_int (le_fx G__law_pull (room.mono (by decide)) (takes_of rfl rfl rfl rfl) wl (la_cons (lv 0) (la_cons (le_op oo_sub (lv 2) (lv 5)) la_nil)))) la_nil))) la_nil))))))
    lss_nil) lss_nil)
    (lss_consW [6] (ls_if (lt_cmp (oo_eq room.units) (lv 3) le_str (by rfl)) (lss_consW [1, 2, 3] (ls_set 6 (le_fx G__law_pull (room.mono (by decide)) (takes_of rfl rfl rfl rfl) wl (la_cons (lv 0) (la_cons (le_ix ox_seq (le_tup (la_cons le_int (la_cons le_int la_nil))) (le_fx G__law_pull (room.mono (by decide)) (takes_of rfl rfl rfl rfl) wl (la_cons (lv 0) (la_cons le_int la_nil)))) la_nil))) sc__law_fact.nd)
    (lss_cons (ls_ret (le_tup (la_cons le_str (la_cons (lv 4) (la_cons (lv 5) (la_cons (lv 6) (la_cons (le_callB (cc_min2 rfl) rfl T.n_min (by rfl) (la_cons le_int (la_cons (le_op oo_add (lv 6) (le_fx G__law_pull (room.mono (by decide)) (takes_of rfl rfl rfl rfl) wl (la_cons (lv 0) (la_cons (le_ix ox_seq (le_tup (la_cons le_int (la_cons le_int la_nil))) (le_fx G__law_pull (room.mono (by decide)) (takes_of rfl rfl rfl rfl) wl (la_cons (lv 0) (la_cons le_int la_nil)))) la_nil)))) la_nil))) la_nil)))))))
    lss_nil)) lss_nil)
    (lss_cons (ls_if (lt_cmp (oo_eq room.units) (lv 3) le_str (by rfl)) (lss_cons (ls_ret (le_tup (la_cons le_str (la_cons (le_op oo_add le_int (le_fx G__law_pull (room.mono (by decide)) (takes_of rfl rfl rfl rfl) wl (la_cons (lv 0) (la_cons le_int la_nil)))) (la_cons (le_fx G__law_pull (room.mono (by decide)) (takes_of rfl rfl rfl rfl) wl (la_cons (lv 0) (la_cons (le_ix ox_seq (le_tup (la_cons le_int (la_cons le_int la_nil))) (le_fx G__law_pull (room.mono (by decide)) (takes_of rfl rfl rfl rfl) wl (la_cons (lv 0) (la_cons le_int la_nil)))) la_nil))) la_nil)))))
    lss_nil) lss_nil)
    (lss_cons (ls_set 7 (le_ix ox_seq (lv 1) (le_fx G__law_pull (room.mono (by decide)) (takes_of rfl rfl rfl rfl) wl (la_cons (lv 0) (la_cons (le_callB cc_len rfl T.n_len (by rfl) (la_cons (lv 1) la_nil)) la_nil)))) sc__law_fact.nd)
    (lss_cons (ls_set 8 (le_fx G__law_pull (room.mono (by decide)) (takes_of rfl rfl rfl rfl) wl (la_cons (lv 0) (la_cons (lv 2) la_nil))) sc__law_fact.nd)
    (lss_cons (ls_if (lt_cmp (oo_eq room.units) (lv 3) le_str (by rfl)) (lss_consW [0, 1, 2, 3] (ls_if (lt_cmp (oo_eq room.units) (le_tup (la_cons (lv 4) (la_cons (lv 5) la_nil))) (le_tup (la_cons (lv 7) (la_cons (lv 8) la_nil))) (by rfl)) (lss_cons (ls_ret (le_tup (la_cons le_str (la_cons (lv 4) (la_cons (lv 5) (la_cons le_int (la_cons le_int la_nil)))))))
    lss_nil) lss_nil)
    (lss_cons (ls_ret (le_tup (la_cons le_str (la_cons (lv 4) (la_cons (lv 5) (la_cons (lv 7) (la_cons (lv 8) la_nil)))))))
    lss_nil)) lss_nil)
    (lss_consM (ls_if (lt_cmp (oo_eq room.units) (lv 4) (lv 7) (by rfl)) (lss_consW [1] (ls_set 7 (le_ix ox_seq (lv 1) (le_op oo_mod (le_op oo_add (le_bm PySem.F.plainAttrs_list PySem.F.slot_list_index PySem.F.type_list_index mm_index (lv 1) (la_cons (lv 4) la_nil)) le_int) (le_callB cc_len rfl T.n_len (by rfl) (la_cons (lv 1) la_nil)))) sc__law_fact.nd)
    lss_nil) lss_nil)
    (lss_w [1] (lss_cons (ls_if (lt_cmp (oo_eq room.units) (lv 3) le_str (by rfl)) (lss_cons (ls_ret (le_tup (la_cons le_str (la_cons (lv 4) (la_cons (lv 7) (la_cons (le_fx G__law_pull (room.mono (by decide)) (takes_of rfl rfl rfl rfl) wl (la_cons (lv 0) (la_cons (le_op oo_add (lv 2) le_int) la_nil))) la_nil))))))
    lss_nil) lss_nil)
    (lss_consW [0, 2] (ls_if (lt_cmp (oo_eq room.units) (lv 3) le_str (by rfl)) (lss_cons (ls_ret (le_tup (la_cons le_str (la_cons (lv 4) (la_cons (le_op oo_add le_int (lv 5)) (la_cons (lv 7) (la_cons (le_fx G__law_pull (room.mono (by decide)) (takes_of rfl rfl rfl rfl) wl (la_cons (lv 0) (la_cons (le_op oo_add (lv 2) le_int) la_nil))) la_nil)))))))
    lss_nil) lss_nil)
    (lss_cons (ls_ret (le_tup (la_cons (lv 3) (la_cons (lv 4) (la_cons (lv 5) (la_cons (lv 7) (la_cons (lv 8) la_nil)))))))
    lss_nil)))))))))))))), fun ds S R X n h hW => ?_⟩, T.m__law_fact, T.F__law_fact.kp, T.b__law_fact⟩
  obtain ⟨r, Q, E, h, rfl, rfl, rfl, rfl, rfl⟩ := h
  subst hW
  obtain ⟨ps, m, rfl, hne, hnd, hl, h1, h2, q⟩ := h
  have hl1 : 1 ≤ ps.length := by cases ps with | nil => exact absurd rfl hne | cons _ _ => simp
  conv => whnf
  repeat (refine Need.mk ?_ ?_; exact nd; conv => whnf)
  rw [words_fact]
  refine ⟨_, rfl, ⟨by decide, by decide⟩, fun n n0 n1 => ?_⟩
  have hn : n = 0 ∨ n = 1 ∨ n = 2 ∨ n = 3 ∨ n = 4 ∨ n = 5 ∨ n = 6 ∨ n = 7 ∨ n = 8 ∨ n = 9 := by omega
  have key : ∀ w : Str, w ∈ (["scrape", "cover", "moved", "year", "sold", "ahead", "same", "apart"] : List Str) → True := fun _ _ => trivial
  rcases hn with rfl | rfl | rfl | rfl | rfl | rfl | rfl | rfl | rfl | rfl
  · conv => whnf
    repeat (refine Need.mk ?_ ?_; exact nd; conv => whnf)
    rw [List.length_map]
    refine ⟨_, rfl, ⟨by omega, by omega⟩, fun i i0 i1 => ?_⟩
    obtain ⟨p, hp, hpa⟩ := atI_ints (ns := ps) i0 (by omega)
    conv => whnf
    repeat (refine Need.mk ?_ ?_; exact nd; conv => whnf)
    refine optI hpa ?_
    conv => whnf
    repeat (refine Need.mk ?_ ?_; exact nd; conv => whnf)
    refine ⟨_, rfl, ⟨by omega, by omega⟩, fun c c0 c1 => ?_⟩
    conv => whnf
    repeat (refine Need.mk ?_ ?_; exact nd; conv => whnf)
    refine ⟨_, rfl, ⟨by (show 1 ≤ m - c; omega), by (show m - c < _; omega)⟩, fun k k0 k1 => ?_⟩
    have k1 : k < m - c := k1
    conv => whnf
    repeat (refine Need.mk ?_ ?_; exact nd; conv => whnf)
    refine ⟨1 + k, rfl, by omega, by omega, fun sh hs hg => ?_⟩
    conv => whnf
    repeat (refine Need.mk ?_ ?_; exact nd; conv => whnf)
    exact Rw (q (.scrape p c sh) ⟨hp, c0, by omega, by omega, hg⟩) (Fc.lt (f := .scrape p c sh))
  · conv => whnf
    repeat (refine Need.mk ?_ ?_; exact nd; conv => whnf)
    rw [List.length_map]
    refine ⟨_, rfl, ⟨by omega, by omega⟩, fun i i0 i1 => ?_⟩
    obtain ⟨p, hp, hpa⟩ := atI_ints (ns := ps) i0 (by omega)
    conv => whnf
    repeat (refine Need.mk ?_ ?_; exact nd; conv => whnf)
    refine optI hpa ?_
    conv => whnf
    repeat (refine Need.mk ?_ ?_; exact nd; conv => whnf)
    refine ⟨_, rfl, ⟨by omega, by omega⟩, fun c c0 c1 => ?_⟩
    conv => whnf
    repeat (refine Need.mk ?_ ?_; exact nd; conv => whnf)
    refine brd (fun hb => ?_) (fun hb => ?_)
    · have hb : ((ps.map D.int).length : Int) < 2 := hb
      rw [List.length_map] at hb
      conv => whnf
      repeat (refine Need.mk ?_ ?_; exact nd; conv => whnf)
      refine ⟨_, rfl, ⟨by (show 1 ≤ m - c; omega), by (show m - c < _; omega)⟩, fun k k0 k1 => ?_⟩
      have k1 : k < m - c := k1
      conv => whnf
      repeat (refine Need.mk ?_ ?_; exact nd; conv => whnf)
      refine ⟨1 + k, rfl, by omega, by omega, fun sh hs hg => ?_⟩
      conv => whnf
      repeat (refine Need.mk ?_ ?_; exact nd; conv => whnf)
      exact Rw (q (.scrape p c sh) ⟨hp, c0, by omega, by omega, hg⟩) (Fc.lt (f := .scrape p c sh))
    · have hb : ¬ ((ps.map D.int).length : Int) < 2 := hb
      rw [List.length_map] at hb
      conv => whnf
      repeat (refine Need.mk ?_ ?_; exact nd; conv => whnf)
      rw [List.length_map]
      refine ⟨_, rfl, ⟨by omega, by omega⟩, fun j j0 j1 => ?_⟩
      obtain ⟨o, ho, hoa⟩ := atI_ints (ns := ps) j0 (by omega)
      conv => whnf
      repeat (refine Need.mk ?_ ?_; exact nd; conv => whnf)
      refine optI hoa ?_
      conv => whnf
      repeat (refine Need.mk ?_ ?_; exact nd; conv => whnf)
      refine ⟨_, rfl, ⟨by omega, by omega⟩, fun d d0 d1 => ?_⟩
      conv => whnf
      repeat (refine Need.mk ?_ ?_; exact nd; conv => whnf)
      refine sM (fun s' S' => S' = [.drw] ∧ ∃ (o : Int) (z : Option D), o ∈ ps ∧ p ≠ o ∧ s' = [some (.ref 0), z, some (.int m), some (.str "cover"), some (.int p), some (.int c), none, some (.int o), some (.int d)]) ?_ ?_
      · conv => whnf
        repeat (refine Need.mk ?_ ?_; exact nd; conv => whnf)
        refine brd (fun hc => ?_) (fun hc => ?_)
        · obtain ⟨j, hj, hj1, o2, ho2, hne2, ha2⟩ := next_part hnd (by omega) hp
          conv => whnf
          repeat (refine Need.mk ?_ ?_; exact nd; conv => whnf)
          refine optI (asIs_ints ps) ?_
          refine optI hj1 ?_
          conv => whnf
          repeat (refine Need.mk ?_ ?_; exact nd; conv => whnf)
          rw [List.length_map]
          refine optI ha2 ?_
          conv => whnf
          repeat (refine Need.mk ?_ ?_; exact nd; conv => whnf)
          exact ⟨rfl, o2, _, ho2, fun z => hne2 z.symm, rfl⟩
        · conv => whnf
          repeat (refine Need.mk ?_ ?_; exact nd; conv => whnf)
          exact ⟨rfl, o, _, ho, hc, rfl⟩
      rintro s' S' ⟨rfl, o, z, ho, hne, rfl⟩
      conv => whnf
      repeat (refine Need.mk ?_ ?_; exact nd; conv => whnf)
      refine ⟨_, rfl, ⟨by omega, by omega⟩, fun e e0 e1 => ?_⟩
      conv => whnf
      repeat (refine Need.mk ?_ ?_; exact nd; conv => whnf)
      exact Rw (q (.cover p o e) ⟨hp, ho, hne, e0, by omega⟩) ⟨trivial, trivial, trivial, trivial, trivial⟩
  · conv => whnf
    repeat (refine Need.mk ?_ ?_; exact nd; conv => whnf)
    rw [List.length_map]
    refine ⟨_, rfl, ⟨by omega, by omega⟩, fun i i0 i1 => ?_⟩
    obtain ⟨p, hp, hpa⟩ := atI_ints (ns := ps) i0 (by omega)
    conv => whnf
    repeat (refine Need.mk ?_ ?_; exact nd; conv => whnf)
    refine optI hpa ?_
    conv => whnf
    repeat (refine Need.mk ?_ ?_; exact nd; conv => whnf)
    refine ⟨_, rfl, ⟨by omega, by omega⟩, fun c c0 c1 => ?_⟩
    conv => whnf
    repeat (refine Need.mk ?_ ?_; exact nd; conv => whnf)
    refine brd (fun hb => ?_) (fun hb => ?_)
    · have hb : ((ps.map D.int).length : Int) < 2 := hb
      rw [List.length_map] at hb
      conv => whnf
      repeat (refine Need.mk ?_ ?_; exact nd; conv => whnf)
      refine ⟨_, rfl, ⟨by (show 1 ≤ m - c; omega), by (show m - c < _; omega)⟩, fun k k0 k1 => ?_⟩
      have k1 : k < m - c := k1
      conv => whnf
      repeat (refine Need.mk ?_ ?_; exact nd; conv => whnf)
      refine ⟨1 + k, rfl, by omega, by omega, fun sh hs hg => ?_⟩
      conv => whnf
      repeat (refine Need.mk ?_ ?_; exact nd; conv => whnf)
      exact Rw (q (.scrape p c sh) ⟨hp, c0, by omega, by omega, hg⟩) (Fc.lt (f := .scrape p c sh))
    · have hb : ¬ ((ps.map D.int).length : Int) < 2 := hb
      rw [List.length_map] at hb
      conv => whnf
      repeat (refine Need.mk ?_ ?_; exact nd; conv => whnf)
      rw [List.length_map]
      refine ⟨_, rfl, ⟨by omega, by omega⟩, fun j j0 j1 => ?_⟩
      obtain ⟨o, ho, hoa⟩ := atI_ints (ns := ps) j0 (by omega)
      conv => whnf
      repeat (refine Need.mk ?_ ?_; exact nd; conv => whnf)
      refine optI hoa ?_
      conv => whnf
      repeat (refine Need.mk ?_ ?_; exact nd; conv => whnf)
      refine ⟨_, rfl, ⟨by omega, by omega⟩, fun d d0 d1 => ?_⟩
      conv => whnf
      repeat (refine Need.mk ?_ ?_; exact nd; conv => whnf)
      refine sM (fun s' S' => S' = [.drw] ∧ ∃ (o : Int) (z : Option D), o ∈ ps ∧ p ≠ o ∧ s' = [some (.ref 0), z, some (.int m), some (.str "moved"), some (.int p), some (.int c), none, some (.int o), some (.int d)]) ?_ ?_
      · conv => whnf
        repeat (refine Need.mk ?_ ?_; exact nd; conv => whnf)
        refine brd (fun hc => ?_) (fun hc => ?_)
        · obtain ⟨j, hj, hj1, o2, ho2, hne2, ha2⟩ := next_part hnd (by omega) hp
          conv => whnf
          repeat (refine Need.mk ?_ ?_; exact nd; conv => whnf)
          refine optI (asIs_ints ps) ?_
          refine optI hj1 ?_
          conv => whnf
          repeat (refine Need.mk ?_ ?_; exact nd; conv => whnf)
          rw [List.length_map]
          refine optI ha2 ?_
          conv => whnf
          repeat (refine Need.mk ?_ ?_; exact nd; conv => whnf)
          exact ⟨rfl, o2, _, ho2, fun z => hne2 z.symm, rfl⟩
        · conv => whnf
          repeat (refine Need.mk ?_ ?_; exact nd; conv => whnf)
          exact ⟨rfl, o, _, ho, hc, rfl⟩
      rintro s' S' ⟨rfl, o, z, ho, hne, rfl⟩
      conv => whnf
      repeat (refine Need.mk ?_ ?_; exact nd; conv => whnf)
      refine ⟨_, rfl, ⟨by omega, by omega⟩, fun e e0 e1 => ?_⟩
      conv => whnf
      repeat (refine Need.mk ?_ ?_; exact nd; conv => whnf)
      exact Rw (q (.moved p (1 + c) o e) ⟨hp, by omega, by omega, ho, hne, e0, by omega⟩) ⟨trivial, trivial, trivial, trivial, trivial, trivial⟩
  · conv => whnf
    repeat (refine Need.mk ?_ ?_; exact nd; conv => whnf)
    rw [List.length_map]
    refine ⟨_, rfl, ⟨by omega, by omega⟩, fun i i0 i1 => ?_⟩
    obtain ⟨p, hp, hpa⟩ := atI_ints (ns := ps) i0 (by omega)
    conv => whnf
    repeat (refine Need.mk ?_ ?_; exact nd; conv => whnf)
    refine optI hpa ?_
    conv => whnf
    repeat (refine Need.mk ?_ ?_; exact nd; conv => whnf)
    refine ⟨_, rfl, ⟨by omega, by omega⟩, fun c c0 c1 => ?_⟩
    conv => whnf
    repeat (refine Need.mk ?_ ?_; exact nd; conv => whnf)
    refine brd (fun hb => ?_) (fun hb => ?_)
    · have hb : ((ps.map D.int).length : Int) < 2 := hb
      rw [List.length_map] at hb
      conv => whnf
      repeat (refine Need.mk ?_ ?_; exact nd; conv => whnf)
      refine ⟨_, rfl, ⟨by omega, by omega⟩, fun b b0 b1 => ?_⟩
      obtain ⟨k, hk, hka⟩ := atI_two (lo := 1) (hi := 1000) b0 b1 (show (1 : Int) ≤ 9 ∧ (9 : Int) ≤ 1000 by decide) (show (1 : Int) ≤ 1000 ∧ (1000 : Int) ≤ 1000 by decide)
      conv => whnf
      repeat (refine Need.mk ?_ ?_; exact nd; conv => whnf)
      refine optI hka ?_
      conv => whnf
      repeat (refine Need.mk ?_ ?_; exact nd; conv => whnf)
      refine ⟨_, rfl, ⟨by omega, by omega⟩, fun f f0 f1 => ?_⟩
      conv => whnf
      repeat (refine Need.mk ?_ ?_; exact nd; conv => whnf)
      refine ⟨_, rfl, ⟨by omega, by omega⟩, fun b b0 b1 => ?_⟩
      obtain ⟨k2, hk2, hka2⟩ := atI_two (lo := 1) (hi := 1000) b0 b1 (show (1 : Int) ≤ 3 ∧ (3 : Int) ≤ 1000 by decide) (show (1 : Int) ≤ 400 ∧ (400 : Int) ≤ 1000 by decide)
      conv => whnf
      repeat (refine Need.mk ?_ ?_; exact nd; conv => whnf)
      refine optI hka2 ?_
      conv => whnf
      repeat (refine Need.mk ?_ ?_; exact nd; conv => whnf)
      refine ⟨_, rfl, ⟨by omega, by omega⟩, fun z z0 z1 => ?_⟩
      conv => whnf
      repeat (refine Need.mk ?_ ?_; exact nd; conv => whnf)
      exact Rw (q (.year p c f (if f + z < 999 then f + z else 999)) ⟨hp, c0, c1, f0, by split <;> omega, by split <;> omega⟩) ⟨trivial, trivial, trivial, trivial, trivial, trivial⟩
    · have hb : ¬ ((ps.map D.int).length : Int) < 2 := hb
      rw [List.length_map] at hb
      conv => whnf
      repeat (refine Need.mk ?_ ?_; exact nd; conv => whnf)
      refine ⟨_, rfl, ⟨by omega, by omega⟩, fun b b0 b1 => ?_⟩
      obtain ⟨k, hk, hka⟩ := atI_two (lo := 1) (hi := 1000) b0 b1 (show (1 : Int) ≤ 9 ∧ (9 : Int) ≤ 1000 by decide) (show (1 : Int) ≤ 1000 ∧ (1000 : Int) ≤ 1000 by decide)
      conv => whnf
      repeat (refine Need.mk ?_ ?_; exact nd; conv => whnf)
      refine optI hka ?_
      conv => whnf
      repeat (refine Need.mk ?_ ?_; exact nd; conv => whnf)
      refine ⟨_, rfl, ⟨by omega, by omega⟩, fun f f0 f1 => ?_⟩
      conv => whnf
      repeat (refine Need.mk ?_ ?_; exact nd; conv => whnf)
      refine ⟨_, rfl, ⟨by omega, by omega⟩, fun b b0 b1 => ?_⟩
      obtain ⟨k2, hk2, hka2⟩ := atI_two (lo := 1) (hi := 1000) b0 b1 (show (1 : Int) ≤ 3 ∧ (3 : Int) ≤ 1000 by decide) (show (1 : Int) ≤ 400 ∧ (400 : Int) ≤ 1000 by decide)
      conv => whnf
      repeat (refine Need.mk ?_ ?_; exact nd; conv => whnf)
      refine optI hka2 ?_
      conv => whnf
      repeat (refine Need.mk ?_ ?_; exact nd; conv => whnf)
      refine ⟨_, rfl, ⟨by omega, by omega⟩, fun z z0 z1 => ?_⟩
      conv => whnf
      repeat (refine Need.mk ?_ ?_; exact nd; conv => whnf)
      exact Rw (q (.year p c f (if f + z < 999 then f + z else 999)) ⟨hp, c0, c1, f0, by split <;> omega, by split <;> omega⟩) ⟨trivial, trivial, trivial, trivial, trivial, trivial⟩
  · conv => whnf
    repeat (refine Need.mk ?_ ?_; exact nd; conv => whnf)
    rw [List.length_map]
    refine ⟨_, rfl, ⟨by omega, by omega⟩, fun i i0 i1 => ?_⟩
    obtain ⟨p, hp, hpa⟩ := atI_ints (ns := ps) i0 (by omega)
    conv => whnf
    repeat (refine Need.mk ?_ ?_; exact nd; conv => whnf)
    refine optI hpa ?_
    conv => whnf
    repeat (refine Need.mk ?_ ?_; exact nd; conv => whnf)
    refine ⟨_, rfl, ⟨by omega, by omega⟩, fun c c0 c1 => ?_⟩
    conv => whnf
    repeat (refine Need.mk ?_ ?_; exact nd; conv => whnf)
    refine brd (fun hb => ?_) (fun hb => ?_)
    · have hb : ((ps.map D.int).length : Int) < 2 := hb
      rw [List.length_map] at hb
      conv => whnf
      repeat (refine Need.mk ?_ ?_; exact nd; conv => whnf)
      refine ⟨_, rfl, ⟨by omega, by omega⟩, fun b b0 b1 => ?_⟩
      conv => whnf
      repeat (refine Need.mk ?_ ?_; exact nd; conv => whnf)
      refine ⟨_, rfl, ⟨by omega, by omega⟩, fun b2 b20 b21 => ?_⟩
      obtain ⟨k, hk, hka⟩ := atI_two (lo := 1) (hi := 1000) b20 b21 (show (1 : Int) ≤ 9 ∧ (9 : Int) ≤ 1000 by decide) (show (1 : Int) ≤ 1000 ∧ (1000 : Int) ≤ 1000 by decide)
      conv => whnf
      repeat (refine Need.mk ?_ ?_; exact nd; conv => whnf)
      refine optI hka ?_
      conv => whnf
      repeat (refine Need.mk ?_ ?_; exact nd; conv => whnf)
      refine ⟨_, rfl, ⟨by omega, by omega⟩, fun y y0 y1 => ?_⟩
      conv => whnf
      repeat (refine Need.mk ?_ ?_; exact nd; conv => whnf)
      exact Rw (q (.sold (1 + b) y) ⟨by omega, by omega, y0, by omega⟩) ⟨trivial, trivial, trivial, trivial⟩
    · have hb : ¬ ((ps.map D.int).length : Int) < 2 := hb
      rw [List.length_map] at hb
      conv => whnf
      repeat (refine Need.mk ?_ ?_; exact nd; conv => whnf)
      refine ⟨_, rfl, ⟨by omega, by omega⟩, fun b b0 b1 => ?_⟩
      conv => whnf
      repeat (refine Need.mk ?_ ?_; exact nd; conv => whnf)
      refine ⟨_, rfl, ⟨by omega, by omega⟩, fun b2 b20 b21 => ?_⟩
      obtain ⟨k, hk, hka⟩ := atI_two (lo := 1) (hi := 1000) b20 b21 (show (1 : Int) ≤ 9 ∧ (9 : Int) ≤ 1000 by decide) (show (1 : Int) ≤ 1000 ∧ (1000 : Int) ≤ 1000 by decide)
      conv => whnf
      repeat (refine Need.mk ?_ ?_; exact nd; conv => whnf)
      refine optI hka ?_
      conv => whnf
      repeat (refine Need.mk ?_ ?_; exact nd; conv => whnf)
      refine ⟨_, rfl, ⟨by omega, by omega⟩, fun y y0 y1 => ?_⟩
      conv => whnf
      repeat (refine Need.mk ?_ ?_; exact nd; conv => whnf)
      exact Rw (q (.sold (1 + b) y) ⟨by omega, by omega, y0, by omega⟩) ⟨trivial, trivial, trivial, trivial⟩
  · conv => whnf
    repeat (refine Need.mk ?_ ?_; exact nd; conv => whnf)
    rw [List.length_map]
    refine ⟨_, rfl, ⟨by omega, by omega⟩, fun i i0 i1 => ?_⟩
    obtain ⟨p, hp, hpa⟩ := atI_ints (ns := ps) i0 (by omega)
    conv => whnf
    repeat (refine Need.mk ?_ ?_; exact nd; conv => whnf)
    refine optI hpa ?_
    conv => whnf
    repeat (refine Need.mk ?_ ?_; exact nd; conv => whnf)
    refine ⟨_, rfl, ⟨by omega, by omega⟩, fun c c0 c1 => ?_⟩
    conv => whnf
    repeat (refine Need.mk ?_ ?_; exact nd; conv => whnf)
    refine brd (fun hb => ?_) (fun hb => ?_)
    · have hb : ((ps.map D.int).length : Int) < 2 := hb
      rw [List.length_map] at hb
      conv => whnf
      repeat (refine Need.mk ?_ ?_; exact nd; conv => whnf)
      rw [List.length_map]
      refine ⟨_, rfl, ⟨by omega, by omega⟩, fun j j0 j1 => ?_⟩
      obtain ⟨o, ho, hoa⟩ := atI_ints (ns := ps) j0 (by omega)
      conv => whnf
      repeat (refine Need.mk ?_ ?_; exact nd; conv => whnf)
      refine optI hoa ?_
      conv => whnf
      repeat (refine Need.mk ?_ ?_; exact nd; conv => whnf)
      refine ⟨_, rfl, ⟨by omega, by omega⟩, fun d d0 d1 => ?_⟩
      conv => whnf
      repeat (refine Need.mk ?_ ?_; exact nd; conv => whnf)
      by_cases he : p = o ∧ c = d
      · refine lifT (by show D.eqd (.tup [.int p, .int c]) (.tup [.int o, .int d]) = true; rw [eqd_pair]; exact decide_eq_true he) ?_
        conv => whnf
        repeat (refine Need.mk ?_ ?_; exact nd; conv => whnf)
        exact Rw (q (.year p c 0 999) ⟨hp, c0, c1, by decide, by decide, by decide⟩) ⟨trivial, trivial, trivial, trivial, trivial, trivial⟩
      · refine lifF (by show D.eqd (.tup [.int p, .int c]) (.tup [.int o, .int d]) = false; rw [eqd_pair]; exact decide_eq_false he) ?_
        conv => whnf
        repeat (refine Need.mk ?_ ?_; exact nd; conv => whnf)
        exact Rw (q (.ahead p c o d) ⟨hp, c0, c1, ho, d0, d1, he⟩) ⟨trivial, trivial, trivial, trivial, trivial, trivial⟩
    · have hb : ¬ ((ps.map D.int).length : Int) < 2 := hb
      rw [List.length_map] at hb
      conv => whnf
      repeat (refine Need.mk ?_ ?_; exact nd; conv => whnf)
      rw [List.length_map]
      refine ⟨_, rfl, ⟨by omega, by omega⟩, fun j j0 j1 => ?_⟩
      obtain ⟨o, ho, hoa⟩ := atI_ints (ns := ps) j0 (by omega)
      conv => whnf
      repeat (refine Need.mk ?_ ?_; exact nd; conv => whnf)
      refine optI hoa ?_
      conv => whnf
      repeat (refine Need.mk ?_ ?_; exact nd; conv => whnf)
      refine ⟨_, rfl, ⟨by omega, by omega⟩, fun d d0 d1 => ?_⟩
      conv => whnf
      repeat (refine Need.mk ?_ ?_; exact nd; conv => whnf)
      by_cases he : p = o ∧ c = d
      · refine lifT (by show D.eqd (.tup [.int p, .int c]) (.tup [.int o, .int d]) = true; rw [eqd_pair]; exact decide_eq_true he) ?_
        conv => whnf
        repeat (refine Need.mk ?_ ?_; exact nd; conv => whnf)
        exact Rw (q (.year p c 0 999) ⟨hp, c0, c1, by decide, by decide, by decide⟩) ⟨trivial, trivial, trivial, trivial, trivial, trivial⟩
      · refine lifF (by show D.eqd (.tup [.int p, .int c]) (.tup [.int o, .int d]) = false; rw [eqd_pair]; exact decide_eq_false he) ?_
        conv => whnf
        repeat (refine Need.mk ?_ ?_; exact nd; conv => whnf)
        exact Rw (q (.ahead p c o d) ⟨hp, c0, c1, ho, d0, d1, he⟩) ⟨trivial, trivial, trivial, trivial, trivial, trivial⟩
  · conv => whnf
    repeat (refine Need.mk ?_ ?_; exact nd; conv => whnf)
    rw [List.length_map]
    refine ⟨_, rfl, ⟨by omega, by omega⟩, fun i i0 i1 => ?_⟩
    obtain ⟨p, hp, hpa⟩ := atI_ints (ns := ps) i0 (by omega)
    conv => whnf
    repeat (refine Need.mk ?_ ?_; exact nd; conv => whnf)
    refine optI hpa ?_
    conv => whnf
    repeat (refine Need.mk ?_ ?_; exact nd; conv => whnf)
    refine ⟨_, rfl, ⟨by omega, by omega⟩, fun c c0 c1 => ?_⟩
    conv => whnf
    repeat (refine Need.mk ?_ ?_; exact nd; conv => whnf)
    refine brd (fun hb => ?_) (fun hb => ?_)
    · have hb : ((ps.map D.int).length : Int) < 2 := hb
      rw [List.length_map] at hb
      conv => whnf
      repeat (refine Need.mk ?_ ?_; exact nd; conv => whnf)
      refine ⟨_, rfl, ⟨by (show 1 ≤ m - c; omega), by (show m - c < _; omega)⟩, fun k k0 k1 => ?_⟩
      have k1 : k < m - c := k1
      conv => whnf
      repeat (refine Need.mk ?_ ?_; exact nd; conv => whnf)
      refine ⟨1 + k, rfl, by omega, by omega, fun sh hs hg => ?_⟩
      conv => whnf
      repeat (refine Need.mk ?_ ?_; exact nd; conv => whnf)
      exact Rw (q (.scrape p c sh) ⟨hp, c0, by omega, by omega, hg⟩) (Fc.lt (f := .scrape p c sh))
    · have hb : ¬ ((ps.map D.int).length : Int) < 2 := hb
      rw [List.length_map] at hb
      conv => whnf
      repeat (refine Need.mk ?_ ?_; exact nd; conv => whnf)
      rw [List.length_map]
      refine ⟨_, rfl, ⟨by omega, by omega⟩, fun j j0 j1 => ?_⟩
      obtain ⟨o, ho, hoa⟩ := atI_ints (ns := ps) j0 (by omega)
      conv => whnf
      repeat (refine Need.mk ?_ ?_; exact nd; conv => whnf)
      refine optI hoa ?_
      conv => whnf
      repeat (refine Need.mk ?_ ?_; exact nd; conv => whnf)
      refine ⟨_, rfl, ⟨by omega, by omega⟩, fun d d0 d1 => ?_⟩
      conv => whnf
      repeat (refine Need.mk ?_ ?_; exact nd; conv => whnf)
      refine sM (fun s' S' => S' = [.drw] ∧ ∃ (o : Int) (z : Option D), o ∈ ps ∧ p ≠ o ∧ s' = [some (.ref 0), z, some (.int m), some (.str "same"), some (.int p), some (.int c), none, some (.int o), some (.int d)]) ?_ ?_
      · conv => whnf
        repeat (refine Need.mk ?_ ?_; exact nd; conv => whnf)
        refine brd (fun hc => ?_) (fun hc => ?_)
        · obtain ⟨j, hj, hj1, o2, ho2, hne2, ha2⟩ := next_part hnd (by omega) hp
          conv => whnf
          repeat (refine Need.mk ?_ ?_; exact nd; conv => whnf)
          refine optI (asIs_ints ps) ?_
          refine optI hj1 ?_
          conv => whnf
          repeat (refine Need.mk ?_ ?_; exact nd; conv => whnf)
          rw [List.length_map]
          refine optI ha2 ?_
          conv => whnf
          repeat (refine Need.mk ?_ ?_; exact nd; conv => whnf)
          exact ⟨rfl, o2, _, ho2, fun z => hne2 z.symm, rfl⟩
        · conv => whnf
          repeat (refine Need.mk ?_ ?_; exact nd; conv => whnf)
          exact ⟨rfl, o, _, ho, hc, rfl⟩
      rintro s' S' ⟨rfl, o, z, ho, hne, rfl⟩
      conv => whnf
      repeat (refine Need.mk ?_ ?_; exact nd; conv => whnf)
      exact Rw (q (.same p c o d) ⟨hp, c0, c1, ho, d0, d1, hne⟩) ⟨trivial, trivial, trivial, trivial, trivial, trivial⟩
  · conv => whnf
    repeat (refine Need.mk ?_ ?_; exact nd; conv => whnf)
    rw [List.length_map]
    refine ⟨_, rfl, ⟨by omega, by omega⟩, fun i i0 i1 => ?_⟩
    obtain ⟨p, hp, hpa⟩ := atI_ints (ns := ps) i0 (by omega)
    conv => whnf
    repeat (refine Need.mk ?_ ?_; exact nd; conv => whnf)
    refine optI hpa ?_
    conv => whnf
    repeat (refine Need.mk ?_ ?_; exact nd; conv => whnf)
    refine ⟨_, rfl, ⟨by omega, by omega⟩, fun c c0 c1 => ?_⟩
    conv => whnf
    repeat (refine Need.mk ?_ ?_; exact nd; conv => whnf)
    refine brd (fun hb => ?_) (fun hb => ?_)
    · have hb : ((ps.map D.int).length : Int) < 2 := hb
      rw [List.length_map] at hb
      conv => whnf
      repeat (refine Need.mk ?_ ?_; exact nd; conv => whnf)
      refine ⟨_, rfl, ⟨by (show 1 ≤ m - c; omega), by (show m - c < _; omega)⟩, fun k k0 k1 => ?_⟩
      have k1 : k < m - c := k1
      conv => whnf
      repeat (refine Need.mk ?_ ?_; exact nd; conv => whnf)
      refine ⟨1 + k, rfl, by omega, by omega, fun sh hs hg => ?_⟩
      conv => whnf
      repeat (refine Need.mk ?_ ?_; exact nd; conv => whnf)
      exact Rw (q (.scrape p c sh) ⟨hp, c0, by omega, by omega, hg⟩) (Fc.lt (f := .scrape p c sh))
    · have hb : ¬ ((ps.map D.int).length : Int) < 2 := hb
      rw [List.length_map] at hb
      conv => whnf
      repeat (refine Need.mk ?_ ?_; exact nd; conv => whnf)
      rw [List.length_map]
      refine ⟨_, rfl, ⟨by omega, by omega⟩, fun j j0 j1 => ?_⟩
      obtain ⟨o, ho, hoa⟩ := atI_ints (ns := ps) j0 (by omega)
      conv => whnf
      repeat (refine Need.mk ?_ ?_; exact nd; conv => whnf)
      refine optI hoa ?_
      conv => whnf
      repeat (refine Need.mk ?_ ?_; exact nd; conv => whnf)
      refine ⟨_, rfl, ⟨by omega, by omega⟩, fun d d0 d1 => ?_⟩
      conv => whnf
      repeat (refine Need.mk ?_ ?_; exact nd; conv => whnf)
      refine sM (fun s' S' => S' = [.drw] ∧ ∃ (o : Int) (z : Option D), o ∈ ps ∧ p ≠ o ∧ s' = [some (.ref 0), z, some (.int m), some (.str "apart"), some (.int p), some (.int c), none, some (.int o), some (.int d)]) ?_ ?_
      · conv => whnf
        repeat (refine Need.mk ?_ ?_; exact nd; conv => whnf)
        refine brd (fun hc => ?_) (fun hc => ?_)
        · obtain ⟨j, hj, hj1, o2, ho2, hne2, ha2⟩ := next_part hnd (by omega) hp
          conv => whnf
          repeat (refine Need.mk ?_ ?_; exact nd; conv => whnf)
          refine optI (asIs_ints ps) ?_
          refine optI hj1 ?_
          conv => whnf
          repeat (refine Need.mk ?_ ?_; exact nd; conv => whnf)
          rw [List.length_map]
          refine optI ha2 ?_
          conv => whnf
          repeat (refine Need.mk ?_ ?_; exact nd; conv => whnf)
          exact ⟨rfl, o2, _, ho2, fun z => hne2 z.symm, rfl⟩
        · conv => whnf
          repeat (refine Need.mk ?_ ?_; exact nd; conv => whnf)
          exact ⟨rfl, o, _, ho, hc, rfl⟩
      rintro s' S' ⟨rfl, o, z, ho, hne, rfl⟩
      conv => whnf
      repeat (refine Need.mk ?_ ?_; exact nd; conv => whnf)
      exact Rw (q (.apart p c o d) ⟨hp, c0, c1, ho, d0, d1, hne⟩) ⟨trivial, trivial, trivial, trivial, trivial, trivial⟩
  · conv => whnf
    repeat (refine Need.mk ?_ ?_; exact nd; conv => whnf)
    rw [List.length_map]
    refine ⟨_, rfl, ⟨by omega, by omega⟩, fun i i0 i1 => ?_⟩
    obtain ⟨p, hp, hpa⟩ := atI_ints (ns := ps) i0 (by omega)
    conv => whnf
    repeat (refine Need.mk ?_ ?_; exact nd; conv => whnf)
    refine optI hpa ?_
    conv => whnf
    repeat (refine Need.mk ?_ ?_; exact nd; conv => whnf)
    refine ⟨_, rfl, ⟨by omega, by omega⟩, fun c c0 c1 => ?_⟩
    conv => whnf
    repeat (refine Need.mk ?_ ?_; exact nd; conv => whnf)
    refine ⟨_, rfl, ⟨by (show 1 ≤ m - c; omega), by (show m - c < _; omega)⟩, fun k k0 k1 => ?_⟩
    have k1 : k < m - c := k1
    conv => whnf
    repeat (refine Need.mk ?_ ?_; exact nd; conv => whnf)
    refine ⟨1 + k, rfl, by omega, by omega, fun sh hs hg => ?_⟩
    conv => whnf
    repeat (refine Need.mk ?_ ?_; exact nd; conv => whnf)
    exact Rw (q (.scrape p c sh) ⟨hp, c0, by omega, by omega, hg⟩) (Fc.lt (f := .scrape p c sh))
  · conv => whnf
    repeat (refine Need.mk ?_ ?_; exact nd; conv => whnf)
    rw [List.length_map]
    refine ⟨_, rfl, ⟨by omega, by omega⟩, fun i i0 i1 => ?_⟩
    obtain ⟨p, hp, hpa⟩ := atI_ints (ns := ps) i0 (by omega)
    conv => whnf
    repeat (refine Need.mk ?_ ?_; exact nd; conv => whnf)
    refine optI hpa ?_
    conv => whnf
    repeat (refine Need.mk ?_ ?_; exact nd; conv => whnf)
    refine ⟨_, rfl, ⟨by omega, by omega⟩, fun c c0 c1 => ?_⟩
    conv => whnf
    repeat (refine Need.mk ?_ ?_; exact nd; conv => whnf)
    refine ⟨_, rfl, ⟨by (show 1 ≤ m - c; omega), by (show m - c < _; omega)⟩, fun k k0 k1 => ?_⟩
    have k1 : k < m - c := k1
    conv => whnf
    repeat (refine Need.mk ?_ ?_; exact nd; conv => whnf)
    refine ⟨1 + k, rfl, by omega, by omega, fun sh hs hg => ?_⟩
    conv => whnf
    repeat (refine Need.mk ?_ ?_; exact nd; conv => whnf)
    exact Rw (q (.scrape p c sh) ⟨hp, c0, by omega, by omega, hg⟩) (Fc.lt (f := .scrape p c sh))
def sp__law_world (a : Ad) : SpP := fun ds Q _ => ∃ (ps : List Int) (m k : Int), ds = [.lst (ps.map D.int), .int m, .int k] ∧ PsOk ps ∧ 1 ≤ m ∧ m ≤ 5 ∧ 0 ≤ k ∧ k ≤ 13 ∧ ∀ w : Wld, w.ps = ps → w.ok m → Q w.d
theorem ok__law_world (T : Txt K w mg a) (G__law_pull : Fx P w K mg base 1 a.a__law_pull a.d__law_pull "_law_pull" ["_law_draw", "_law_many"] (ld (sp__law_pull a))) (G__law_few : Fx P w K mg base 2 a.a__law_few a.d__law_few "_law_few" ["_law_draw", "_law_pool", "_law_many"] (ld (sp__law_few a))) : Fx P w K mg base 3 a.a__law_world a.d__law_world "_law_world" ["_law_draw", "_law_parts", "_law_most", "_law_many"] (ld (sp__law_world a)) := by
  refine ⟨fn_W T.F__law_world sc__law_world (by (intro ds Q E h; first | (obtain ⟨h, hr⟩ := h; subst h; (try (obtain ⟨_, hr⟩ := hr)); (try (obtain ⟨_, hr⟩ := hr)); (try (obtain ⟨_, hr⟩ := hr)); (try (obtain ⟨_, hr⟩ := hr)); (all_goals exact ⟨rfl, by (repeat' (first | trivial | exact lmD_lt | exact Ev.lt | exact evs_lt _ | exact itDs_lt _ | exact prs_lt _ | exact Wld.lt | exact rows_lt | exact deeds_lt | exact pasts_lt | exact D.lts_ints _ | exact D.lts_strs _ | exact Fc.lt | exact Dd.lt | exact fcs_lt _ | exact nfs_lt _ | exact nf_lt | exact D.pl.lt (by assumption) | exact D.dp.lt (by assumption) | exact D.dps.lt (by assumption) | exact D.pls.lt (by assumption) | assumption | refine ⟨?_, ?_⟩))⟩)) | (obtain ⟨_, h, hr⟩ := h; subst h; (try (obtain ⟨_, hr⟩ := hr)); (try (obtain ⟨_, hr⟩ := hr)); (try (obtain ⟨_, hr⟩ := hr)); (try (obtain ⟨_, hr⟩ := hr)); (all_goals exact ⟨rfl, by (repeat' (first | trivial | exact lmD_lt | exact Ev.lt | exact evs_lt _ | exact itDs_lt _ | exact prs_lt _ | exact Wld.lt | exact rows_lt | exact deeds_lt | exact pasts_lt | exact D.lts_ints _ | exact D.lts_strs _ | exact Fc.lt | exact Dd.lt | exact fcs_lt _ | exact nfs_lt _ | exact nf_lt | exact D.pl.lt (by assumption) | exact D.dp.lt (by assumption) | exact D.dps.lt (by assumption) | exact D.pls.lt (by assumption) | assumption | refine ⟨?_, ?_⟩))⟩)) | (obtain ⟨_, _, h, hr⟩ := h; subst h; (try (obtain ⟨_, hr⟩ := hr)); (try (obtain ⟨_, hr⟩ := hr)); (try (obtain ⟨_, hr⟩ := hr)); (try (obtain ⟨_, hr⟩ := hr)); (all_goals exact ⟨rfl, by (repeat' (first | trivial | exact lmD_lt | exact Ev.lt | exact evs_lt _ | exact itDs_lt _ | exact prs_lt _ | exact Wld.lt | exact rows_lt | exact deeds_lt | exact pasts_lt | exact D.lts_ints _ | exact D.lts_strs _ | exact Fc.lt | exact Dd.lt | exact fcs_lt _ | exact nfs_lt _ | exact nf_lt | exact D.pl.lt (by assumption) | exact D.dp.lt (by assumption) | exact D.dps.lt (by assumption) | exact D.pls.lt (by assumption) | assumption | refine ⟨?_, ?_⟩))⟩)) | (obtain ⟨_, _, _, h, hr⟩ := h; subst h; (try (obtain ⟨_, hr⟩ := hr)); (try (obtain ⟨_, hr⟩ := hr)); (try (obtain ⟨_, hr⟩ := hr)); (try (obtain ⟨_, hr⟩ := hr)); (all_goals exact ⟨rfl, by (repeat' (first | trivial | exact lmD_lt | exact Ev.lt | exact evs_lt _ | exact itDs_lt _ | exact prs_lt _ | exact Wld.lt | exact rows_lt | exact deeds_lt | exact pasts_lt | exact D.lts_ints _ | exact D.lts_strs _ | exact Fc.lt | exact Dd.lt | exact fcs_lt _ | exact nfs_lt _ | exact nf_lt | exact D.pl.lt (by assumption) | exact D.dp.lt (by assumption) | exact D.dps.lt (by assumption) | exact D.pls.lt (by assumption) | assumption | refine ⟨?_, ?_⟩))⟩)) | (obtain ⟨_, _, _, _, h, hr⟩ := h; subst h; (try (obtain ⟨_, hr⟩ := hr)); (try (obtain ⟨_, hr⟩ := hr)); (try (obtain ⟨_, hr⟩ := hr)); (try (obtain ⟨_, hr⟩ := hr)); (all_goals exact ⟨rfl, by (repeat' (first | trivial | exact lmD_lt | exact Ev.lt | exact evs_lt _ | exact itDs_lt _ | exact prs_lt _ | exact Wld.lt | exact rows_lt | exact deeds_lt | exact pasts_lt | exact D.lts_ints _ | exact D.lts_strs _ | exact Fc.lt | exact Dd.lt | exact fcs_lt _ | exact nfs_lt _ | exact nf_lt | exact D.pl.lt (by assumption) | exact D.dp.lt (by assumption) | exact D.dps.lt (by assumption) | exact D.pls.lt (by assumption) | assumption | refine ⟨?_, ?_⟩))⟩)) | (obtain ⟨_, _, _, _, _, h, hr⟩ := h; subst h; (try (obtain ⟨_, hr⟩ := hr)); (try (obtain ⟨_, hr⟩ := hr)); (try (obtain ⟨_, hr⟩ := hr)); (try (obtain ⟨_, hr⟩ := hr)); (all_goals exact ⟨rfl, by (repeat' (first | trivial | exact lmD_lt | exact Ev.lt | exact evs_lt _ | exact itDs_lt _ | exact prs_lt _ | exact Wld.lt | exact rows_lt | exact deeds_lt | exact pasts_lt | exact D.lts_ints _ | exact D.lts_strs _ | exact Fc.lt | exact Dd.lt | exact fcs_lt _ | exact nfs_lt _ | exact nf_lt | exact D.pl.lt (by assumption) | exact D.dp.lt (by assumption) | exact D.dps.lt (by assumption) | exact D.pls.lt (by assumption) | assumption | refine ⟨?_, ?_⟩))⟩)) | (obtain ⟨h, _⟩ := h; exact (by simp at h)))) fun cdv A outer s H E φ T0 W' room wl => ⟨_, (lss_cons (ls_set 4 (le_fx G__law_pull (room.mono (by decide)) (takes_of rfl rfl rfl rfl) wl (la_cons (lv 0) (la_cons le_int la_nil))) sc__law_world.nd)
    (lss_consM (ls_set 5 (le_ix ox_seq (le_tup (la_cons le_int (la_cons le_int (la_cons le_int la_nil)))) (le_fx G__law_pull (room.mono (by decide)) (takes_of rfl rfl rfl rfl) wl (la_cons (lv 0) (la_cons le_int la_nil)))) sc__law_world.nd)
    (lss_cons (ls_set 6 (le_lstM la_nil) sc__law_world.nd)
    (lss_cons (ls_set 7 (le_callTy (cc_dictP true rfl) rfl T.n_dict (by rfl) (la_cons (le_lc false [("_law_part", 10)] (.nm 10) rfl sc__law_world.nd (li_list (lv 1)) (by (conv => { arg 1; whnf }); (conv => { arg 2; whnf }); exact ⟨rfl, by decide +kernel, by decide +kernel, by decide +kernel, by decide +kernel⟩) (fun _ _ _ _ _ => (tg_nm 10 sc__law_world.nd)) (fun _ _ _ _ _ => lts_nil) (fun _ _ _ _ _ => (le_tup (la_cons (lv 10) (la_cons le_int la_nil))))) la_nil)) sc__law_world.nd)
    (lss_consW [2, 3, 4, 5, 7, 8, 9, 10] (ls_for (passes_of rfl) rfl (li_rng1 rfl T.n_range (la_cons (lv 3) la_nil)) (lg_name (i := 8) sc__law_world.nd rfl)
    (lss_consM (ls_set 4 (le_callB (cc_min2 rfl) rfl T.n_min (by rfl) (la_cons le_int (la_cons (le_op oo_add (lv 4) (le_fx G__law_pull (room.mono (by decide)) (takes_of rfl rfl rfl rfl) wl (la_cons (lv 0) (la_cons (le_ix ox_seq (le_tup (la_cons le_int (la_cons le_int la_nil))) (le_fx G__law_pull (room.mono (by decide)) (takes_of rfl rfl rfl rfl) wl (la_cons (lv 0) (la_cons le_int la_nil)))) la_nil)))) la_nil))) sc__law_world.nd)
    (lss_w [8] (lss_cons (ls_lc false [("_law_part", 10)] (.nm 10) 9 rfl sc__law_world.nd rfl rfl rfl (li_list (lv 1)) (by (conv => { arg 1; whnf }); (conv => { arg 2; whnf }); exact ⟨rfl, by decide +kernel, by decide +kernel, by decide +kernel, by decide +kernel⟩) (fun _ _ _ _ _ => (tg_nm 10 sc__law_world.nd)) (fun _ _ _ _ _ => (lts_one (LW.t (lw_and (lt_cmp oo_lt (le_dget (u1 room.units) (lv 7) (lv 10)) (lv 2) (by rfl)) (lw_and1 (lt_cmp (oo_eq room.units) (le_fx G__law_pull (room.mono (by decide)) LamX.takes0 WL0 (la_cons (lv 0) (la_cons le_int la_nil))) le_int (by rfl))))))) (fun _ _ _ _ _ => (lv 10)))
    (lss_consW [9] (ls_if (lt_cmp (oo_ne room.units) (lv 9) (le_lst la_nil) (by rfl)) (lss_cons (ls_for (passes_of rfl) rfl (li_list (lv 9)) (lg_name (i := 10) sc__law_world.nd rfl)
    (lss_cons (ls_asg (le_op oo_add (le_dget (u1 room.units) (lv 7) (lv 10)) le_int) (lg_sub (lv 7) (lv 10) (st_dict (u1 room.units))))
    lss_nil))
    (lss_consW [9] (ls_expr (le_bm PySem.F.plainAttrs_list PySem.F.slot_list_append PySem.F.type_list_append mm_append (lv 6) (la_cons (le_tup (la_cons (lv 4) (la_cons (le_op oo_add le_int (le_fx G__law_pull (room.mono (by decide)) (takes_of rfl rfl rfl rfl) wl (la_cons (lv 0) (la_cons (le_op oo_sub (lv 5) le_int) la_nil)))) (la_cons (le_callTy cc_tuple rfl T.n_tuple (by rfl) (la_cons (lv 9) la_nil)) la_nil)))) la_nil)))
    lss_nil)) lss_nil)
    lss_nil)))))
    (lss_cons (ls_set 11 (le_lstM la_nil) sc__law_world.nd)
    (lss_cons (ls_set 12 le_int sc__law_world.nd)
    (lss_consW [0, 10, 12, 13] (ls_for (passes_of rfl) rfl (li_list (le_fx G__law_few (room.mono (by decide)) (takes_of rfl rfl rfl rfl) wl (la_cons (lv 0) (la_cons (lv 1) (la_cons (le_callB cc_len rfl T.n_len (by rfl) (la_cons (lv 1) la_nil)) la_nil))))) (lg_name (i := 10) sc__law_world.nd rfl)
    (lss_consM (ls_set 13 (le_op oo_add (le_lc false [("_law_at", 14), ("_law_event", 15)] (.tp [(.nm 14), (.nm 15)]) rfl sc__law_world.nd (li_enum rfl T.n_enumerate (la_cons (lv 6) la_nil)) (by (conv => { arg 1; whnf }); (conv => { arg 2; whnf }); exact ⟨rfl, by decide +kernel, by decide +kernel, by decide +kernel, by decide +kernel⟩) (fun _ _ _ _ _ => (tg_tp rfl (tg_cons (tg_nm 14 sc__law_world.nd) (tg_cons (tg_nm 15 sc__law_world.nd) tg_nil)))) (fun _ _ _ _ _ => (lts_one (lt_cmp oo_in (lv 10) (le_ix ox_seq (lv 15) le_int) (by rfl)))) (fun _ _ _ _ _ => (lv 14))) (le_lst (la_cons (le_callB cc_len rfl T.n_len (by rfl) (la_cons (lv 6) la_nil)) la_nil))) sc__law_world.nd)
    (lss_cons (ls_set 12 (le_op oo_add (lv 12) (le_fx G__law_pull (room.mono (by decide)) (takes_of rfl rfl rfl rfl) wl (la_cons (lv 0) (la_cons le_int la_nil)))) sc__law_world.nd)
    (lss_consW [10, 13] (ls_expr (le_bm PySem.F.plainAttrs_list PySem.F.slot_list_append PySem.F.type_list_append mm_append (lv 11) (la_cons (le_tup (la_cons (le_callB (cc_min2 rfl) rfl T.n_min (by rfl) (la_cons (lv 12) (la_cons (le_ix ox_seq (lv 13) le_int) la_nil))) (la_cons (le_callB cc_len rfl T.n_len (by rfl) (la_cons (lv 11) la_nil)) (la_cons (lv 10) la_nil)))) la_nil)))
    lss_nil))))
    (lss_cons (ls_ret (le_tup (la_cons (lv 1) (la_cons (lv 6) (la_cons (le_callB (cc_sortedU (d := 3) (b := 1000) (by decide)) rfl T.n_sorted (by rfl) (la_cons (lv 11) la_nil)) la_nil)))))
    lss_nil))))))))), fun ds S R X n h hW => ?_⟩, T.m__law_world, T.F__law_world.kp, T.b__law_world⟩
  obtain ⟨r, Q, E, h, rfl, rfl, rfl, rfl, rfl⟩ := h
  subst hW
  obtain ⟨ps, m, k, rfl, hps, m1, m5, k0, k1, q⟩ := h
  have hpl := hps.len
  conv => whnf
  repeat (refine Need.mk ?_ ?_; exact nd; conv => whnf)
  refine ⟨_, rfl, ⟨by first | decide | omega, by first | decide | omega⟩, fun y y0 y1 => ?_⟩
  have y1 : y < 9 := y1
  conv => whnf
  repeat (refine Need.mk ?_ ?_; exact nd; conv => whnf)
  refine sM (fun s' S' => S' = [.drw] ∧ ∃ w : Int, (2 ≤ w ∧ w ≤ 7) ∧ s' = [some (.ref 0), some (.lst (ps.map D.int)), some (.int m), some (.int k), some (.int y), some (.int w), none, none, none, none, none, none, none, none, none, none]) ?_ ?_
  · conv => whnf
    repeat (refine Need.mk ?_ ?_; exact nd; conv => whnf)
    refine ⟨_, rfl, ⟨by first | decide | omega, by first | decide | omega⟩, fun n n0 n1 => ?_⟩
    have n1 : n < 3 := n1
    conv => whnf
    repeat (refine Need.mk ?_ ?_; exact nd; conv => whnf)
    obtain ⟨w, hw, he⟩ : ∃ w : Int, (2 ≤ w ∧ w ≤ 7) ∧ L2.atI [D.int 2, D.int 3, D.int 7] n = some (.int w) := by
      have : n = 0 ∨ n = 1 ∨ n = 2 := by omega
      rcases this with rfl | rfl | rfl
      · exact ⟨2, by decide, rfl⟩
      · exact ⟨3, by decide, rfl⟩
      · exact ⟨7, by decide, rfl⟩
    refine optI he ?_
    exact ⟨rfl, w, hw, rfl⟩
  rintro s' S' ⟨rfl, w, hw, rfl⟩
  conv => whnf
  repeat (refine Need.mk ?_ ?_; exact nd; conv => whnf)
  refine lc_fmap D.int (fun _ => true) (fun p => .tup [.int p, .int 0]) rfl (ltN (by omega)) (fun _ => rfl) ?_ ?_
  · intro i p acc hi
    refine ⟨_, rfl, ⟨trivial, trivial, trivial⟩, fun R r => r, fun _ R r => ?_⟩
    conv => whnf
    repeat (refine Need.mk ?_ ?_; exact nd; conv => whnf)
    exact r
  conv => whnf
  repeat (refine Need.mk ?_ ?_; exact nd; conv => whnf)
  refine ⟨_, ps.map fun p => ((Sum.inl p : Key), D.int 0), rfl, ?_, ?_⟩
  · rw [List.filter_eq_self.mpr (fun _ _ => rfl), List.map_map]; rfl
  rw [mergeD_tbl hps.nd]
  conv => whnf
  repeat (refine Need.mk ?_ ?_; exact nd; conv => whnf)
  refine ⟨by omega, by omega, ?_⟩
  refine ⟨fun i s' S' => ∃ (row : List Ev) (y : Int) (z10 : Option D), row.length ≤ i ∧ (∀ e ∈ row, EvOk ps e) ∧ (∀ p ∈ ps, (hadL row p : Int) ≤ m) ∧ (0 ≤ y ∧ y ≤ 999) ∧ S' = [.drw, .lst (row.map Ev.d), .dK (tblC ps fun p => (hadL row p : Int)).d] ∧ s' = [some (.ref 0), some (.lst (ps.map D.int)), some (.int m), some (.int k), some (.int y), some (.int w), some (.ref 1), some (.ref 2), none, none, z10, none, none, none, none, none], ⟨[], y, _, Nat.le_refl _, fun _ h => absurd h List.not_mem_nil, fun _ _ => by show ((0 : Nat) : Int) ≤ m; omega, ⟨y0, by omega⟩, rfl, rfl⟩, fun _ _ _ _ _ => trivial, ?_, ?_⟩
  · rintro i x s' S' hi ⟨row, y, z10, rl, rok, rhad, ⟨yy0, yy1⟩, rfl, rfl⟩
    obtain ⟨hik, rfl⟩ := rngD_get hi
    conv => whnf
    repeat (refine Need.mk ?_ ?_; exact nd; conv => whnf)
    refine sM (fun s' S' => S' = [.drw, .lst (row.map Ev.d), .dK (tblC ps fun p => (hadL row p : Int)).d] ∧ ∃ (y : Int), (0 ≤ y ∧ y ≤ 999) ∧ s' = [some (.ref 0), some (.lst (ps.map D.int)), some (.int m), some (.int k), some (.int y), some (.int w), some (.ref 1), some (.ref 2), some (.int (0 + (i : Int))), none, z10, none, none, none, none, none]) ?_ ?_
    · conv => whnf
      repeat (refine Need.mk ?_ ?_; exact nd; conv => whnf)
      refine ⟨_, rfl, ⟨by first | decide | omega, by first | decide | omega⟩, fun n n0 n1 => ?_⟩
      have n1 : n < 2 := n1
      conv => whnf
      repeat (refine Need.mk ?_ ?_; exact nd; conv => whnf)
      obtain ⟨b, hb, he⟩ : ∃ b : Int, (2 ≤ b ∧ b ≤ 90) ∧ L2.atI [D.int 2, D.int 90] n = some (.int b) := by
        have : n = 0 ∨ n = 1 := by omega
        rcases this with rfl | rfl
        · exact ⟨2, by decide, rfl⟩
        · exact ⟨90, by decide, rfl⟩
      refine optI he ?_
      conv => whnf
      repeat (refine Need.mk ?_ ?_; exact nd; conv => whnf)
      refine ⟨_, rfl, ⟨by first | decide | omega, by first | decide | omega⟩, fun z z0 z1 => ?_⟩
      conv => whnf
      repeat (refine Need.mk ?_ ?_; exact nd; conv => whnf)
      refine ⟨rfl, _, ?_, rfl⟩
      rw [if_neg Bool.false_ne_true]
      split <;> omega
    rintro s' S' ⟨rfl, y, hy, rfl⟩
    conv => whnf
    repeat (refine Need.mk ?_ ?_; exact nd; conv => whnf)
    refine ⟨fun i acc => ∃ zs : List Int, acc = zs.map D.int ∧ zs.Sublist (ps.take i) ∧ ∀ z ∈ zs, (hadL row z : Int) < m, ⟨[], rfl, List.nil_sublist _, fun _ h => absurd h List.not_mem_nil⟩, fun _ => rfl, by rw [List.length_map]; exact ltN (by omega), ?_, ?_⟩
    · rintro i x acc hi _ ⟨zs, rfl, hz, hzm⟩
      obtain ⟨p, hp, rfl⟩ := int_at hi
      have hpm : p ∈ ps := List.mem_of_getElem? hp
      refine ⟨_, rfl, ?_⟩
      conv => whnf
      repeat (refine Need.mk ?_ ?_; exact nd; conv => whnf)
      refine optI (valD_tbl hpm) ?_
      conv => whnf
      repeat (refine Need.mk ?_ ?_; exact nd; conv => whnf)
      refine brd (fun hlt => ?_) (fun hlt => ?_)
      · conv => whnf
        repeat (refine Need.mk ?_ ?_; exact nd; conv => whnf)
        refine ⟨_, rfl, ⟨by first | decide | omega, by first | decide | omega⟩, fun n n0 n1 => ?_⟩
        conv => whnf
        repeat (refine Need.mk ?_ ?_; exact nd; conv => whnf)
        rw [if_neg Bool.false_ne_true, seqI]
        have tk : ps.take (i + 1) = ps.take i ++ [p] := take_snoc hp
        refine ⟨rfl, brd (fun hn => ?_) (fun hn => ?_)⟩
        · conv => whnf
          repeat (refine Need.mk ?_ ?_; exact nd; conv => whnf)
          refine ⟨rfl, trivial, zs ++ [p], by rw [List.map_append]; rfl, by rw [tk]; exact hz.append (List.Sublist.refl _), fun z hz' => ?_⟩
          rcases List.mem_append.mp hz' with hz' | hz'
          · exact hzm z hz'
          · rw [List.mem_singleton.mp hz']; exact hlt
        · exact ⟨zs, rfl, by rw [tk]; exact hz.trans (List.sublist_append_left _ _), hzm⟩
      · conv => whnf
        repeat (refine Need.mk ?_ ?_; exact nd; conv => whnf)
        have tk : ps.take (i + 1) = ps.take i ++ [p] := take_snoc hp
        exact ⟨rfl, zs, rfl, by rw [tk]; exact hz.trans (List.sublist_append_left _ _), hzm⟩
    rintro acc ⟨zs, rfl, hz, hzm⟩ hlz
    rw [List.length_map, List.take_length] at hz
    have hzd : zs.Nodup := hps.nd.sublist hz
    have hzs : ∀ z ∈ zs, z ∈ ps := fun z h => hz.subset h
    have hzl : zs.length ≤ 4 := Nat.le_trans hz.length_le hpl
    conv => whnf
    repeat (refine Need.mk ?_ ?_; exact nd; conv => whnf)
    refine Need.mk ⟨D.pls_ints zs, trivial⟩ ?_
    conv => whnf
    repeat (refine Need.mk ?_ ?_; exact nd; conv => whnf)
    rw [if_pos rfl, show (D.see [O.drw, O.lst (row.map Ev.d), O.dK (tblC ps fun p => (hadL row p : Int)).d] (D.lst (zs.map D.int))).eqd (D.see [O.drw, O.lst (row.map Ev.d), O.dK (tblC ps fun p => (hadL row p : Int)).d] (D.lst [])) = decide (zs = []) from D.eqds_ints zs []]
    refine bnd (fun he => ?_) (fun hne => ?_)
    · conv => whnf
      repeat (refine Need.mk ?_ ?_; exact nd; conv => whnf)
      exact .inl ⟨row, y, _, by omega, rok, rhad, hy, rfl, rfl⟩
    conv => whnf
    repeat (refine Need.mk ?_ ?_; exact nd; conv => whnf)
    refine ⟨fun j s' S' => ∃ (z10 : Option D), S' = [.drw, .lst (row.map Ev.d), .dK (tblC ps fun p => (hadL row p : Int) + if p ∈ zs.take j then 1 else 0).d] ∧ s' = [some (.ref 0), some (.lst (ps.map D.int)), some (.int m), some (.int k), some (.int y), some (.int w), some (.ref 1), some (.ref 2), none, some (.lst (zs.map D.int)), z10, none, none, none, none, none], ⟨_, ?_, rfl⟩, fun _ _ _ _ _ => rfl, ?_, ?_⟩
    · have : (fun p => (hadL row p : Int) + if p ∈ zs.take 0 then 1 else 0) = fun p => (hadL row p : Int) := by
        funext p
        rw [List.take_zero, if_neg List.not_mem_nil, Int.add_zero]
      rw [this]
    · rintro j x s' S' hj ⟨z10, rfl, rfl⟩
      obtain ⟨z, hz', rfl⟩ := int_at hj
      have hzp : z ∈ ps := hzs z (List.mem_of_getElem? hz')
      have hnt : z ∉ zs.take j := fun h => by
        obtain ⟨i', hi', e⟩ := List.getElem_of_mem h
        rw [List.length_take] at hi'
        rw [List.getElem_take] at e
        have e2 : zs[i']? = some z := by rw [List.getElem?_eq_getElem (by omega), e]
        have hjl := (List.getElem?_eq_some_iff.mp hz').1
        have := (List.getElem?_inj (by omega) hzd).mp (e2.trans hz'.symm)
        omega
      conv => whnf
      repeat (refine Need.mk ?_ ?_; exact nd; conv => whnf)
      refine optI (valD_tbl hzp) ?_
      conv => whnf
      repeat (refine Need.mk ?_ ?_; exact nd; conv => whnf)
      refine Need.mk (ltN (by rw [Cnt.d_len]; unfold tblC; rw [List.length_map]; omega)) ?_
      conv => whnf
      repeat (refine Need.mk ?_ ?_; exact nd; conv => whnf)
      refine .inl ⟨_, ?_, rfl⟩
      show [O.drw, O.lst (row.map Ev.d), O.dK (putE _ _ _)] = _
      rw [putE_C, putC_tbl hzp]
      have : (fun q => if q = z then (hadL row z : Int) + (if z ∈ zs.take j then 1 else 0) + 1 else (hadL row q : Int) + if q ∈ zs.take j then 1 else 0) = fun q => (hadL row q : Int) + if q ∈ zs.take (j + 1) then 1 else 0 := by
        funext q
        rw [take_snoc hz']
        by_cases hq : q = z
        · subst hq
          rw [if_pos rfl, if_neg hnt, if_pos (List.mem_append_right _ List.mem_cons_self)]; omega
        · rw [if_neg hq]
          by_cases h2 : q ∈ zs.take j
          · rw [if_pos h2, if_pos (List.mem_append_left _ h2)]
          · rw [if_neg h2, if_neg (fun h => (List.mem_append.mp h).elim h2 fun h => hq (List.mem_singleton.mp h))]
      rw [this]
    rintro s' S' ⟨z10, rfl, rfl⟩
    rw [List.length_map, List.take_length]
    conv => whnf
    repeat (refine Need.mk ?_ ?_; exact nd; conv => whnf)
    refine ⟨_, rfl, ⟨by show 1 ≤ w - 1; omega, by show w - 1 < 1073741824; omega⟩, fun n n0 n1 => ?_⟩
    have n1 : n < w - 1 := n1
    conv => whnf
    repeat (refine Need.mk ?_ ?_; exact nd; conv => whnf)
    refine Need.mk (ltN (by show (row.map Ev.d).length ≤ 1000; rw [List.length_map]; omega)) ?_
    conv => whnf
    repeat (refine Need.mk ?_ ?_; exact nd; conv => whnf)
    have eok : EvOk ps ⟨y, 1 + n, zs⟩ := ⟨hy.1, hy.2, by show 1 ≤ 1 + n; omega, by show 1 + n ≤ 6; omega, hne, hzs, hzl⟩
    refine .inl ⟨row ++ [⟨y, 1 + n, zs⟩], y, _, by rw [List.length_append]; show row.length + 1 ≤ i + 1; omega, ?_, ?_, hy, ?_, rfl⟩
    · intro e he
      rcases List.mem_append.mp he with he | he
      · exact rok e he
      · rw [List.mem_singleton.mp he]; exact eok
    · intro p hp
      rw [hadL_snoc]
      have h1 := rhad p hp
      by_cases h2 : p ∈ zs
      · have h3 := hzm p h2
        rw [if_pos (show p ∈ (Ev.mk y (1 + n) zs).ps from h2)]
        omega
      · rw [if_neg (show ¬ p ∈ (Ev.mk y (1 + n) zs).ps from h2)]
        omega
    · have e1 : (fun p => (hadL row p : Int) + if p ∈ zs then 1 else 0) = fun p => ((hadL (row ++ [⟨y, 1 + n, zs⟩]) p : Nat) : Int) := by
        funext p
        rw [hadL_snoc]
        by_cases h2 : p ∈ zs
        · rw [if_pos h2, if_pos (show p ∈ (Ev.mk y (1 + n) zs).ps from h2)]; omega
        · rw [if_neg h2, if_neg (show ¬ p ∈ (Ev.mk y (1 + n) zs).ps from h2)]; omega
      rw [← e1, List.map_append]
      rfl
  · rintro s' S' ⟨row, y, z10, rl, rok, rhad, ⟨yy0, yy1⟩, rfl, rfl⟩
    conv => whnf
    repeat (refine Need.mk ?_ ?_; exact nd; conv => whnf)
    refine ⟨ps, _, rfl, by omega, by rw [List.length_map]; omega, fun qs rest hp hq => ?_⟩
    rw [List.length_map, Int.toNat_natCast, Nat.min_self] at hq
    have hr : rest = [] := by
      have := hp.length_eq
      rw [List.length_append] at this
      exact List.length_eq_zero_iff.mp (by omega)
    subst hr
    rw [List.append_nil] at hp
    have rl13 : row.length ≤ 13 := by rw [rngD_len] at rl; omega
    conv => whnf
    repeat (refine Need.mk ?_ ?_; exact nd; conv => whnf)
    refine ⟨fun i s' S' => ∃ (us : List (Int × Int × Int)) (g : Int) (z10 z14 z15 : Option D), us.map (·.2.2) = qs.take i ∧ us.length = i ∧ (∀ u ∈ us, (0 ≤ u.1 ∧ u.1 ≤ row.length) ∧ 0 ≤ u.2.1 ∧ u.2.1 < 1000) ∧ 0 ≤ g ∧ S' = [.drw, .lst (row.map Ev.d), .dK (tblC ps fun p => (hadL row p : Int)).d, .lst ((us.map fun u => [u.1, u.2.1, u.2.2]).map itD)] ∧ s' = [some (.ref 0), some (.lst (ps.map D.int)), none, none, none, none, some (.ref 1), none, none, none, z10, some (.ref 3), some (.int g), none, z14, z15], ⟨[], 0, _, _, _, rfl, rfl, fun _ h => absurd h List.not_mem_nil, Int.le_refl _, rfl, rfl⟩, fun _ _ _ _ _ => rfl, ?_, ?_⟩
    · rintro i x s' S' hi ⟨us, g, z10, z14, z15, hu, hul, hub, hg, rfl, rfl⟩
      obtain ⟨p, hpi, rfl⟩ := int_at hi
      have hi4 : i < qs.length := (List.getElem?_eq_some_iff.mp hpi).1
      conv => whnf
      repeat (refine Need.mk ?_ ?_; exact nd; conv => whnf)
      refine sM (fun s' S' => S' = [.drw, .lst (row.map Ev.d), .dK (tblC ps fun p => (hadL row p : Int)).d, .lst ((us.map fun u => [u.1, u.2.1, u.2.2]).map itD)] ∧ ∃ (fs : List Int) (z14 z15 : Option D), fs ≠ [] ∧ (∀ f ∈ fs, 0 ≤ f ∧ f ≤ row.length) ∧ s' = [some (.ref 0), some (.lst (ps.map D.int)), none, none, none, none, some (.ref 1), none, none, none, some (.int p), some (.ref 3), some (.int g), some (.lst (fs.map D.int)), z14, z15]) ?_ ?_
      · conv => whnf
        repeat (refine Need.mk ?_ ?_; exact nd; conv => whnf)
        rw [enumD_zip]
        refine lc_fmap (fun e : Ev × Nat => D.tup [.int (0 + (e.2 : Nat)), Ev.d e.1]) (fun e => decide (p ∈ e.1.ps)) (fun e => .int (0 + (e.2 : Nat))) rfl (by rw [List.length_zipIdx]; exact ltN (by omega)) (fun _ => rfl) ?_ ?_
        · intro i e acc hi
          refine ⟨_, rfl, trivial, fun R r => ?_, fun _ R r => ?_⟩
          · conv => whnf
            repeat (refine Need.mk ?_ ?_; exact nd; conv => whnf)
            refine Need.mk ⟨rfl, LC.flats_ints _⟩ ?_
            conv => whnf
            repeat (refine Need.mk ?_ ?_; exact nd; conv => whnf)
            rw [if_neg Bool.false_ne_true, LC.any_ints]
            exact r
          · conv => whnf
            repeat (refine Need.mk ?_ ?_; exact nd; conv => whnf)
            exact r
        conv => whnf
        repeat (refine Need.mk ?_ ?_; exact nd; conv => whnf)
        refine Need.mk (by
          rw [List.length_map]
          have := List.length_filter_le (fun e : Ev × Nat => decide (p ∈ e.1.ps)) row.zipIdx
          rw [List.length_zipIdx] at this
          exact leN (by show _ + 1 ≤ 1000; omega)) ?_
        conv => whnf
        repeat (refine Need.mk ?_ ?_; exact nd; conv => whnf)
        refine ⟨rfl, (row.zipIdx.filter (fun e => decide (p ∈ e.1.ps))).map (fun e => (0 + (e.2 : Nat) : Int)) ++ [(row.length : Int)], z14, z15, ?_, ?_, ?_⟩
        · intro h
          exact absurd (List.append_eq_nil_iff.mp h).2 (by simp)
        · intro f hf
          rcases List.mem_append.mp hf with hf | hf
          · obtain ⟨e, he, rfl⟩ := List.mem_map.mp hf
            have := List.mem_zipIdx (List.mem_filter.mp he).1
            have h2 := this.2.1
            simp at h2
            constructor <;> omega
          · rw [List.mem_singleton.mp hf]
            constructor <;> omega
        · rw [List.map_append, List.map_map, List.length_map]
          rfl
      rintro s' S' ⟨rfl, fs, z14, z15, hfs, hfb, rfl⟩
      conv => whnf
      repeat (refine Need.mk ?_ ?_; exact nd; conv => whnf)
      refine ⟨_, rfl, ⟨by first | decide | omega, by first | decide | omega⟩, fun n n0 n1 => ?_⟩
      conv => whnf
      repeat (refine Need.mk ?_ ?_; exact nd; conv => whnf)
      obtain ⟨f0, ft, rfl⟩ : ∃ f0 ft, fs = f0 :: ft := by
        cases fs with
        | nil => exact absurd rfl hfs
        | cons a t => exact ⟨a, t, rfl⟩
      have hf0 := hfb f0 List.mem_cons_self
      refine optI (x := D.int f0) atI0 ?_
      conv => whnf
      repeat (refine Need.mk ?_ ?_; exact nd; conv => whnf)
      refine Need.mk (ltN (by rw [List.length_map, List.length_map]; omega)) ?_
      conv => whnf
      repeat (refine Need.mk ?_ ?_; exact nd; conv => whnf)
      rw [List.length_map, List.length_map, if_neg Bool.false_ne_true]
      refine .inl ⟨us ++ [((if f0 < g + n then f0 else g + n), (us.length : Int), p)], g + n, none, z14, z15, ?_, ?_, ?_, by omega, ?_, rfl⟩
      · rw [List.map_append, hu, take_snoc hpi]; rfl
      · rw [List.length_append, hul]; rfl
      · intro u hu'
        rcases List.mem_append.mp hu' with hu' | hu'
        · exact hub u hu'
        · rw [List.mem_singleton.mp hu']
          have hi5 : us.length < 5 := by omega
          refine ⟨?_, by show (0 : Int) ≤ (us.length : Int); omega, by show (us.length : Int) < 1000; omega⟩
          show 0 ≤ (if f0 < g + n then f0 else g + n) ∧ (if f0 < g + n then f0 else g + n) ≤ _
          split <;> omega
      · rw [List.map_append, List.map_append]; rfl
    · rintro s' S' ⟨us, g, z10, z14, z15, hu, hul, hub, hg, rfl, rfl⟩
      rw [List.length_map, List.take_length] at hu
      rw [List.length_map] at hul
      conv => whnf
      repeat (refine Need.mk ?_ ?_; exact nd; conv => whnf)
      refine ⟨_, us.map (fun u => [u.1, u.2.1, u.2.2]), rfl, rfl, ?_, fun ns hns => ?_, fun ml hml hpw => ?_⟩
      · rw [List.length_map]
        omega
      · obtain ⟨u, hu', rfl⟩ := List.mem_map.mp hns
        have hb := hub u hu'
        have hp2 : u.2.2 ∈ ps := hp.mem_iff.mp (by rw [← hu]; exact List.mem_map.mpr ⟨u, hu', rfl⟩)
        have hb2 := hps.b _ hp2
        refine ⟨rfl, fun z hz => ?_⟩
        simp only [List.mem_cons, List.not_mem_nil, or_false] at hz
        rcases hz with rfl | rfl | rfl <;> constructor <;> omega
      conv => whnf
      repeat (refine Need.mk ?_ ?_; exact nd; conv => whnf)
      let f : Int × Int × Int → List Int := fun u => [u.1, u.2.1, u.2.2]
      let b : List Int → Int × Int × Int := fun l => match l with | [x, y, z] => (x, y, z) | _ => (0, 0, 0)
      have hml2 : ml = (ml.map b).map f := by
        rw [List.map_map]
        conv => lhs; rw [← List.map_id ml]
        refine List.map_congr_left fun l hl => ?_
        obtain ⟨u, _, rfl⟩ := List.mem_map.mp (hml.mem_iff.mp hl)
        rfl
      have hmb : (ml.map b).Perm us := by
        have := hml.map b
        rw [List.map_map, show (b ∘ fun u : Int × Int × Int => [u.1, u.2.1, u.2.2]) = id from rfl, List.map_id] at this
        exact this
      refine ⟨(Wld.mk ps row ml).d, ⟨_, rfl, _, _, rfl, Rs.same (D.lts_ints ps), _, _, rfl, Rs.ofL' (k := 1) (Nat.le_refl _) rfl (evs_lt row), _, _, rfl, Rs.same (itDs_lt ml), rfl⟩, q ⟨ps, row, ml⟩ rfl ⟨hps, m1, m5, rl13, rok, rhad, ml.map b, hml2, ?_, fun u hu' => (hub u (hmb.mem_iff.mp hu')).1⟩⟩
      exact ((hmb.map _).trans (by rw [hu])).trans hp
def sp__law_had (a : Ad) : SpP := fun ds Q _ => ∃ (row : List Ev) (p : Int) (g : Nat), ds = [.lst (row.map Ev.d), .int p, .int g] ∧ row.length ≤ 1000 ∧ Q (.int (hadL (row.take g) p))
theorem ok__law_had (T : Txt K w mg a)  : Fx P w K mg base 1 a.a__law_had a.d__law_had "_law_had" ["_law_row", "_law_part", "_law_gap"] (lp (sp__law_had a)) := by
  refine ⟨fn_P T.F__law_had sc__law_had (by (intro ds Q E h; first | (obtain ⟨h, hr⟩ := h; subst h; (try (obtain ⟨_, hr⟩ := hr)); (try (obtain ⟨_, hr⟩ := hr)); (try (obtain ⟨_, hr⟩ := hr)); (try (obtain ⟨_, hr⟩ := hr)); (all_goals exact ⟨rfl, by (repeat' (first | trivial | exact lmD_lt | exact Ev.lt | exact evs_lt _ | exact itDs_lt _ | exact prs_lt _ | exact Wld.lt | exact rows_lt | exact deeds_lt | exact pasts_lt | exact D.lts_ints _ | exact D.lts_strs _ | exact Fc.lt | exact Dd.lt | exact fcs_lt _ | exact nfs_lt _ | exact nf_lt | exact D.pl.lt (by assumption) | exact D.dp.lt (by assumption) | exact D.dps.lt (by assumption) | exact D.pls.lt (by assumption) | assumption | refine ⟨?_, ?_⟩))⟩)) | (obtain ⟨_, h, hr⟩ := h; subst h; (try (obtain ⟨_, hr⟩ := hr)); (try (obtain ⟨_, hr⟩ := hr)); (try (obtain ⟨_, hr⟩ := hr)); (try (obtain ⟨_, hr⟩ := hr)); (all_goals exact ⟨rfl, by (repeat' (first | trivial | exact lmD_lt | exact Ev.lt | exact evs_lt _ | exact itDs_lt _ | exact prs_lt _ | exact Wld.lt | exact rows_lt | exact deeds_lt | exact pasts_lt | exact D.lts_ints _ | exact D.lts_strs _ | exact Fc.lt | exact Dd.lt | exact fcs_lt _ | exact nfs_lt _ | exact nf_lt | exact D.pl.lt (by assumption) | exact D.dp.lt (by assumption) | exact D.dps.lt (by assumption) | exact D.pls.lt (by assumption) | assumption | refine ⟨?_, ?_⟩))⟩)) | (obtain ⟨_, _, h, hr⟩ := h; subst h; (try (obtain ⟨_, hr⟩ := hr)); (try (obtain ⟨_, hr⟩ := hr)); (try (obtain ⟨_, hr⟩ := hr)); (try (obtain ⟨_, hr⟩ := hr)); (all_goals exact ⟨rfl, by (repeat' (first | trivial | exact lmD_lt | exact Ev.lt | exact evs_lt _ | exact itDs_lt _ | exact prs_lt _ | exact Wld.lt | exact rows_lt | exact deeds_lt | exact pasts_lt | exact D.lts_ints _ | exact D.lts_strs _ | exact Fc.lt | exact Dd.lt | exact fcs_lt _ | exact nfs_lt _ | exact nf_lt | exact D.pl.lt (by assumption) | exact D.dp.lt (by assumption) | exact D.dps.lt (by assumption) | exact D.pls.lt (by assumption) | assumption | refine ⟨?_, ?_⟩))⟩)) | (obtain ⟨_, _, _, h, hr⟩ := h; subst h; (try (obtain ⟨_, hr⟩ := hr)); (try (obtain ⟨_, hr⟩ := hr)); (try (obtain ⟨_, hr⟩ := hr)); (try (obtain ⟨_, hr⟩ := hr)); (all_goals exact ⟨rfl, by (repeat' (first | trivial | exact lmD_lt | exact Ev.lt | exact evs_lt _ | exact itDs_lt _ | exact prs_lt _ | exact Wld.lt | exact rows_lt | exact deeds_lt | exact pasts_lt | exact D.lts_ints _ | exact D.lts_strs _ | exact Fc.lt | exact Dd.lt | exact fcs_lt _ | exact nfs_lt _ | exact nf_lt | exact D.pl.lt (by assumption) | exact D.dp.lt (by assumption) | exact D.dps.lt (by assumption) | exact D.pls.lt (by assumption) | assumption | refine ⟨?_, ?_⟩))⟩)) | (obtain ⟨_, _, _, _, h, hr⟩ := h; subst h; (try (obtain ⟨_, hr⟩ := hr)); (try (obtain ⟨_, hr⟩ := hr)); (try (obtain ⟨_, hr⟩ := hr)); (try (obtain ⟨_, hr⟩ := hr)); (all_goals exact ⟨rfl, by (repeat' (first | trivial | exact lmD_lt | exact Ev.lt | exact evs_lt _ | exact itDs_lt _ | exact prs_lt _ | exact Wld.lt | exact rows_lt | exact deeds_lt | exact pasts_lt | exact D.lts_ints _ | exact D.lts_strs _ | exact Fc.lt | exact Dd.lt | exact fcs_lt _ | exact nfs_lt _ | exact nf_lt | exact D.pl.lt (by assumption) | exact D.dp.lt (by assumption) | exact D.dps.lt (by assumption) | exact D.pls.lt (by assumption) | assumption | refine ⟨?_, ?_⟩))⟩)) | (obtain ⟨_, _, _, _, _, h, hr⟩ := h; subst h; (try (obtain ⟨_, hr⟩ := hr)); (try (obtain ⟨_, hr⟩ := hr)); (try (obtain ⟨_, hr⟩ := hr)); (try (obtain ⟨_, hr⟩ := hr)); (all_goals exact ⟨rfl, by (repeat' (first | trivial | exact lmD_lt | exact Ev.lt | exact evs_lt _ | exact itDs_lt _ | exact prs_lt _ | exact Wld.lt | exact rows_lt | exact deeds_lt | exact pasts_lt | exact D.lts_ints _ | exact D.lts_strs _ | exact Fc.lt | exact Dd.lt | exact fcs_lt _ | exact nfs_lt _ | exact nf_lt | exact D.pl.lt (by assumption) | exact D.dp.lt (by assumption) | exact D.dps.lt (by assumption) | exact D.pls.lt (by assumption) | assumption | refine ⟨?_, ?_⟩))⟩)) | (obtain ⟨h, _⟩ := h; exact (by simp at h)))) fun cdv A outer s H E φ T0 W' room wl => ⟨_, (lss_cons (ls_ret (le_callB cc_len rfl T.n_len (by rfl) (la_cons (le_lc false [("_law_event", 3)] (.nm 3) rfl sc__law_had.nd (li_list (le_slice (lv 0) lp_none (lp_some (lv 2)))) (by (conv => { arg 1; whnf }); (conv => { arg 2; whnf }); exact ⟨rfl, by decide +kernel, by decide +kernel, by decide +kernel, by decide +kernel⟩) (fun _ _ _ _ _ => (tg_nm 3 sc__law_had.nd)) (fun _ _ _ _ _ => (lts_one (lt_cmp oo_in (lv 1) (le_ix ox_seq (lv 3) le_int) (by rfl)))) (fun _ _ _ _ _ => le_int)) la_nil)))
    lss_nil), fun ds S R X n h hW => ?_⟩, T.m__law_had, T.F__law_had.kp, T.b__law_had⟩
  obtain ⟨Q, E, h, rfl, rfl, rfl, rfl⟩ := h
  subst hW
  obtain ⟨row, p, g, rfl, hl, q⟩ := h
  conv => whnf
  repeat (refine Need.mk ?_ ?_; exact nd; conv => whnf)
  rw [cutD_take, ← List.map_take]
  refine lc_fmap Ev.d (fun e => decide (p ∈ e.ps)) (fun _ => .int 1) rfl (by rw [List.length_take]; exact ltN (by omega)) (fun _ => rfl) ?_ ?_
  · intro i e acc hi
    refine ⟨_, rfl, trivial, fun R r => ?_, fun _ R r => ?_⟩
    · conv => whnf
      repeat (refine Need.mk ?_ ?_; exact nd; conv => whnf)
      refine Need.mk ⟨rfl, LC.flats_ints _⟩ ?_
      conv => whnf
      repeat (refine Need.mk ?_ ?_; exact nd; conv => whnf)
      rw [if_neg Bool.false_ne_true, LC.any_ints]
      exact r
    · conv => whnf
      repeat (refine Need.mk ?_ ?_; exact nd; conv => whnf)
      exact r
  conv => whnf
  repeat (refine Need.mk ?_ ?_; exact nd; conv => whnf)
  rw [List.length_map]
  exact Rp q
def sp__law_spot (a : Ad) : SpP := fun ds Q _ => ∃ (row : List Ev) (p c : Int), ds = [.lst (row.map Ev.d), .int p, .int c] ∧ row.length ≤ 1000 ∧ 0 ≤ c ∧ c < hadL row p ∧ ∀ n : Nat, (spotsL row p)[c.toNat]? = some n → Q (.int n)
theorem ok__law_spot (T : Txt K w mg a)  : Fx P w K mg base 1 a.a__law_spot a.d__law_spot "_law_spot" ["_law_row", "_law_part", "_law_coat"] (lp (sp__law_spot a)) := by
  refine ⟨fn_P T.F__law_spot sc__law_spot (by (intro ds Q E h; first | (obtain ⟨h, hr⟩ := h; subst h; (try (obtain ⟨_, hr⟩ := hr)); (try (obtain ⟨_, hr⟩ := hr)); (try (obtain ⟨_, hr⟩ := hr)); (try (obtain ⟨_, hr⟩ := hr)); (all_goals exact ⟨rfl, by (repeat' (first | trivial | exact lmD_lt | exact Ev.lt | exact evs_lt _ | exact itDs_lt _ | exact prs_lt _ | exact Wld.lt | exact rows_lt | exact deeds_lt | exact pasts_lt | exact D.lts_ints _ | exact D.lts_strs _ | exact Fc.lt | exact Dd.lt | exact fcs_lt _ | exact nfs_lt _ | exact nf_lt | exact D.pl.lt (by assumption) | exact D.dp.lt (by assumption) | exact D.dps.lt (by assumption) | exact D.pls.lt (by assumption) | assumption | refine ⟨?_, ?_⟩))⟩)) | (obtain ⟨_, h, hr⟩ := h; subst h; (try (obtain ⟨_, hr⟩ := hr)); (try (obtain ⟨_, hr⟩ := hr)); (try (obtain ⟨_, hr⟩ := hr)); (try (obtain ⟨_, hr⟩ := hr)); (all_goals exact ⟨rfl, by (repeat' (first | trivial | exact lmD_lt | exact Ev.lt | exact evs_lt _ | exact itDs_lt _ | exact prs_lt _ | exact Wld.lt | exact rows_lt | exact deeds_lt | exact pasts_lt | exact D.lts_ints _ | exact D.lts_strs _ | exact Fc.lt | exact Dd.lt | exact fcs_lt _ | exact nfs_lt _ | exact nf_lt | exact D.pl.lt (by assumption) | exact D.dp.lt (by assumption) | exact D.dps.lt (by assumption) | exact D.pls.lt (by assumption) | assumption | refine ⟨?_, ?_⟩))⟩)) | (obtain ⟨_, _, h, hr⟩ := h; subst h; (try (obtain ⟨_, hr⟩ := hr)); (try (obtain ⟨_, hr⟩ := hr)); (try (obtain ⟨_, hr⟩ := hr)); (try (obtain ⟨_, hr⟩ := hr)); (all_goals exact ⟨rfl, by (repeat' (first | trivial | exact lmD_lt | exact Ev.lt | exact evs_lt _ | exact itDs_lt _ | exact prs_lt _ | exact Wld.lt | exact rows_lt | exact deeds_lt | exact pasts_lt | exact D.lts_ints _ | exact D.lts_strs _ | exact Fc.lt | exact Dd.lt | exact fcs_lt _ | exact nfs_lt _ | exact nf_lt | exact D.pl.lt (by assumption) | exact D.dp.lt (by assumption) | exact D.dps.lt (by assumption) | exact D.pls.lt (by assumption) | assumption | refine ⟨?_, ?_⟩))⟩)) | (obtain ⟨_, _, _, h, hr⟩ := h; subst h; (try (obtain ⟨_, hr⟩ := hr)); (try (obtain ⟨_, hr⟩ := hr)); (try (obtain ⟨_, hr⟩ := hr)); (try (obtain ⟨_, hr⟩ := hr)); (all_goals exact ⟨rfl, by (repeat' (first | trivial | exact lmD_lt | exact Ev.lt | exact evs_lt _ | exact itDs_lt _ | exact prs_lt _ | exact Wld.lt | exact rows_lt | exact deeds_lt | exact pasts_lt | exact D.lts_ints _ | exact D.lts_strs _ | exact Fc.lt | exact Dd.lt | exact fcs_lt _ | exact nfs_lt _ | exact nf_lt | exact D.pl.lt (by assumption) | exact D.dp.lt (by assumption) | exact D.dps.lt (by assumption) | exact D.pls.lt (by assumption) | assumption | refine ⟨?_, ?_⟩))⟩)) | (obtain ⟨_, _, _, _, h, hr⟩ := h; subst h; (try (obtain ⟨_, hr⟩ := hr)); (try (obtain ⟨_, hr⟩ := hr)); (try (obtain ⟨_, hr⟩ := hr)); (try (obtain ⟨_, hr⟩ := hr)); (all_goals exact ⟨rfl, by (repeat' (first | trivial | exact lmD_lt | exact Ev.lt | exact evs_lt _ | exact itDs_lt _ | exact prs_lt _ | exact Wld.lt | exact rows_lt | exact deeds_lt | exact pasts_lt | exact D.lts_ints _ | exact D.lts_strs _ | exact Fc.lt | exact Dd.lt | exact fcs_lt _ | exact nfs_lt _ | exact nf_lt | exact D.pl.lt (by assumption) | exact D.dp.lt (by assumption) | exact D.dps.lt (by assumption) | exact D.pls.lt (by assumption) | assumption | refine ⟨?_, ?_⟩))⟩)) | (obtain ⟨_, _, _, _, _, h, hr⟩ := h; subst h; (try (obtain ⟨_, hr⟩ := hr)); (try (obtain ⟨_, hr⟩ := hr)); (try (obtain ⟨_, hr⟩ := hr)); (try (obtain ⟨_, hr⟩ := hr)); (all_goals exact ⟨rfl, by (repeat' (first | trivial | exact lmD_lt | exact Ev.lt | exact evs_lt _ | exact itDs_lt _ | exact prs_lt _ | exact Wld.lt | exact rows_lt | exact deeds_lt | exact pasts_lt | exact D.lts_ints _ | exact D.lts_strs _ | exact Fc.lt | exact Dd.lt | exact fcs_lt _ | exact nfs_lt _ | exact nf_lt | exact D.pl.lt (by assumption) | exact D.dp.lt (by assumption) | exact D.dps.lt (by assumption) | exact D.pls.lt (by assumption) | assumption | refine ⟨?_, ?_⟩))⟩)) | (obtain ⟨h, _⟩ := h; exact (by simp at h)))) fun cdv A outer s H E φ T0 W' room wl => ⟨_, (lss_cons (ls_ret (le_ix ox_seq (le_lc false [("_law_at", 3), ("_law_event", 4)] (.tp [(.nm 3), (.nm 4)]) rfl sc__law_spot.nd (li_enum rfl T.n_enumerate (la_cons (lv 0) la_nil)) (by (conv => { arg 1; whnf }); (conv => { arg 2; whnf }); exact ⟨rfl, by decide +kernel, by decide +kernel, by decide +kernel, by decide +kernel⟩) (fun _ _ _ _ _ => (tg_tp rfl (tg_cons (tg_nm 3 sc__law_spot.nd) (tg_cons (tg_nm 4 sc__law_spot.nd) tg_nil)))) (fun _ _ _ _ _ => (lts_one (lt_cmp oo_in (lv 1) (le_ix ox_seq (lv 4) le_int) (by rfl)))) (fun _ _ _ _ _ => (lv 3))) (lv 2)))
    lss_nil), fun ds S R X n h hW => ?_⟩, T.m__law_spot, T.F__law_spot.kp, T.b__law_spot⟩
  obtain ⟨Q, E, h, rfl, rfl, rfl, rfl⟩ := h
  subst hW
  obtain ⟨row, p, c, rfl, hl, h0, h1, q⟩ := h
  conv => whnf
  repeat (refine Need.mk ?_ ?_; exact nd; conv => whnf)
  rw [enumD_zip]
  refine lc_fmap (fun e : Ev × Nat => D.tup [.int (0 + (e.2 : Nat)), Ev.d e.1]) (fun e => decide (p ∈ e.1.ps)) (fun e => .int (0 + (e.2 : Nat))) rfl (by rw [List.length_zipIdx]; exact ltN (by omega)) (fun _ => rfl) ?_ ?_
  · intro i e acc hi
    refine ⟨_, rfl, trivial, fun R r => ?_, fun _ R r => ?_⟩
    · conv => whnf
      repeat (refine Need.mk ?_ ?_; exact nd; conv => whnf)
      refine Need.mk ⟨rfl, LC.flats_ints _⟩ ?_
      conv => whnf
      repeat (refine Need.mk ?_ ?_; exact nd; conv => whnf)
      rw [if_neg Bool.false_ne_true, LC.any_ints]
      exact r
    · conv => whnf
      repeat (refine Need.mk ?_ ?_; exact nd; conv => whnf)
      exact r
  conv => whnf
  repeat (refine Need.mk ?_ ?_; exact nd; conv => whnf)
  have hl2 : c.toNat < (spotsL row p).length := by rw [spotsL_len]; omega
  have hz := List.getElem?_eq_getElem hl2
  generalize (spotsL row p)[c.toNat] = n at hz
  refine optI (atI_get h0 (d := D.int n) ?_) ?_
  · have e : (row.zipIdx.filter fun e => decide (p ∈ e.1.ps)).map (fun e => D.int (0 + (e.2 : Nat))) = (spotsL row p).map (fun n => D.int (n : Nat)) := by
      unfold spotsL
      rw [List.map_map]
      exact List.map_congr_left fun x _ => by show D.int (0 + _) = D.int _; rw [Int.zero_add]
    rw [e, List.getElem?_map, hz]; rfl
  conv => whnf
  repeat (refine Need.mk ?_ ?_; exact nd; conv => whnf)
  exact Rp (q n hz)
def prI (c : Int × Int) : D := .tup [.int c.1, .int c.2]
def sp__law_true_pair (a : Ad) : SpP := fun ds Q _ => ∃ (w : Wld) (m : Int) (cs : List (Int × Int)), ds = [w.d, .lst (cs.map pr)] ∧ w.ok m ∧ cs ≠ [] ∧ cs.length ≤ 100 ∧ (∀ c ∈ cs, c.1 ∈ w.ps ∧ 0 ≤ c.2 ∧ c.2 < hadL w.row c.1) ∧ ∀ f : Fc, f.good w.ps m → Q f.d
theorem ok__law_true_pair (T : Txt K w mg a) (G__law_pull : Fx P w K mg base 1 a.a__law_pull a.d__law_pull "_law_pull" ["_law_draw", "_law_many"] (ld (sp__law_pull a))) (G__law_spot : Fx P w K mg base 1 a.a__law_spot a.d__law_spot "_law_spot" ["_law_row", "_law_part", "_law_coat"] (lp (sp__law_spot a))) : Fx P w K mg base 2 a.a__law_true_pair a.d__law_true_pair "_law_true_pair" ["_law_draw", "_law_world_here", "_law_coats"] (ld (sp__law_true_pair a)) := by
  refine ⟨fn_W T.F__law_true_pair sc__law_true_pair (by (intro ds Q E h; first | (obtain ⟨h, hr⟩ := h; subst h; (try (obtain ⟨_, hr⟩ := hr)); (try (obtain ⟨_, hr⟩ := hr)); (try (obtain ⟨_, hr⟩ := hr)); (try (obtain ⟨_, hr⟩ := hr)); (all_goals exact ⟨rfl, by (repeat' (first | trivial | exact lmD_lt | exact Ev.lt | exact evs_lt _ | exact itDs_lt _ | exact prs_lt _ | exact Wld.lt | exact rows_lt | exact deeds_lt | exact pasts_lt | exact D.lts_ints _ | exact D.lts_strs _ | exact Fc.lt | exact Dd.lt | exact fcs_lt _ | exact nfs_lt _ | exact nf_lt | exact D.pl.lt (by assumption) | exact D.dp.lt (by assumption) | exact D.dps.lt (by assumption) | exact D.pls.lt (by assumption) | assumption | refine ⟨?_, ?_⟩))⟩)) | (obtain ⟨_, h, hr⟩ := h; subst h; (try (obtain ⟨_, hr⟩ := hr)); (try (obtain ⟨_, hr⟩ := hr)); (try (obtain ⟨_, hr⟩ := hr)); (try (obtain ⟨_, hr⟩ := hr)); (all_goals exact ⟨rfl, by (repeat' (first | trivial | exact lmD_lt | exact Ev.lt | exact evs_lt _ | exact itDs_lt _ | exact prs_lt _ | exact Wld.lt | exact rows_lt | exact deeds_lt | exact pasts_lt | exact D.lts_ints _ | exact D.lts_strs _ | exact Fc.lt | exact Dd.lt | exact fcs_lt _ | exact nfs_lt _ | exact nf_lt | exact D.pl.lt (by assumption) | exact D.dp.lt (by assumption) | exact D.dps.lt (by assumption) | exact D.pls.lt (by assumption) | assumption | refine ⟨?_, ?_⟩))⟩)) | (obtain ⟨_, _, h, hr⟩ := h; subst h; (try (obtain ⟨_, hr⟩ := hr)); (try (obtain ⟨_, hr⟩ := hr)); (try (obtain ⟨_, hr⟩ := hr)); (try (obtain ⟨_, hr⟩ := hr)); (all_goals exact ⟨rfl, by (repeat' (first | trivial | exact lmD_lt | exact Ev.lt | exact evs_lt _ | exact itDs_lt _ | exact prs_lt _ | exact Wld.lt | exact rows_lt | exact deeds_lt | exact pasts_lt | exact D.lts_ints _ | exact D.lts_strs _ | exact Fc.lt | exact Dd.lt | exact fcs_lt _ | exact nfs_lt _ | exact nf_lt | exact D.pl.lt (by assumption) | exact D.dp.lt (by assumption) | exact D.dps.lt (by assumption) | exact D.pls.lt (by assumption) | assumption | refine ⟨?_, ?_⟩))⟩)) | (obtain ⟨_, _, _, h, hr⟩ := h; subst h; (try (obtain ⟨_, hr⟩ := hr)); (try (obtain ⟨_, hr⟩ := hr)); (try (obtain ⟨_, hr⟩ := hr)); (try (obtain ⟨_, hr⟩ := hr)); (all_goals exact ⟨rfl, by (repeat' (first | trivial | exact lmD_lt | exact Ev.lt | exact evs_lt _ | exact itDs_lt _ | exact prs_lt _ | exact Wld.lt | exact rows_lt | exact deeds_lt | exact pasts_lt | exact D.lts_ints _ | exact D.lts_strs _ | exact Fc.lt | exact Dd.lt | exact fcs_lt _ | exact nfs_lt _ | exact nf_lt | exact D.pl.lt (by assumption) | exact D.dp.lt (by assumption) | exact D.dps.lt (by assumption) | exact D.pls.lt (by assumption) | assumption | refine ⟨?_, ?_⟩))⟩)) | (obtain ⟨_, _, _, _, h, hr⟩ := h; subst h; (try (obtain ⟨_, hr⟩ := hr)); (try (obtain ⟨_, hr⟩ := hr)); (try (obtain ⟨_, hr⟩ := hr)); (try (obtain ⟨_, hr⟩ := hr)); (all_goals exact ⟨rfl, by (repeat' (first | trivial | exact lmD_lt | exact Ev.lt | exact evs_lt _ | exact itDs_lt _ | exact prs_lt _ | exact Wld.lt | exact rows_lt | exact deeds_lt | exact pasts_lt | exact D.lts_ints _ | exact D.lts_strs _ | exact Fc.lt | exact Dd.lt | exact fcs_lt _ | exact nfs_lt _ | exact nf_lt | exact D.pl.lt (by assumption) | exact D.dp.lt (by assumption) | exact D.dps.lt (by assumption) | exact D.pls.lt (by assumption) | assumption | refine ⟨?_, ?_⟩))⟩)) | (obtain ⟨_, _, _, _, _, h, hr⟩ := h; subst h; (try (obtain ⟨_, hr⟩ := hr)); (try (obtain ⟨_, hr⟩ := hr)); (try (obtain ⟨_, hr⟩ := hr)); (try (obtain ⟨_, hr⟩ := hr)); (all_goals exact ⟨rfl, by (repeat' (first | trivial | exact lmD_lt | exact Ev.lt | exact evs_lt _ | exact itDs_lt _ | exact prs_lt _ | exact Wld.lt | exact rows_lt | exact deeds_lt | exact pasts_lt | exact D.lts_ints _ | exact D.lts_strs _ | exact Fc.lt | exact Dd.lt | exact fcs_lt _ | exact nfs_lt _ | exact nf_lt | exact D.pl.lt (by assumption) | exact D.dp.lt (by assumption) | exact D.dps.lt (by assumption) | exact D.pls.lt (by assumption) | assumption | refine ⟨?_, ?_⟩))⟩)) | (obtain ⟨h, _⟩ := h; exact (by simp at h)))) fun cdv A outer s H E φ T0 W' room wl => ⟨_, (lss_consW [1, 3, 5] (ls_asg (lv 1) (lg_T (t := (.tp [(.nm 3), (.nm 4), (.nm 5)])) (tg_tp rfl (tg_cons (tg_nm 3 sc__law_true_pair.nd) (tg_cons (tg_nm 4 sc__law_true_pair.nd) (tg_cons (tg_nm 5 sc__law_true_pair.nd) tg_nil))))))
    (lss_cons (ls_set 6 (le_ix ox_seq (lv 2) (le_fx G__law_pull (room.mono (by decide)) (takes_of rfl rfl rfl rfl) wl (la_cons (lv 0) (la_cons (le_callB cc_len rfl T.n_len (by rfl) (la_cons (lv 2) la_nil)) la_nil)))) sc__law_true_pair.nd)
    (lss_consM (ls_set 7 (le_ix ox_seq (lv 2) (le_fx G__law_pull (room.mono (by decide)) (takes_of rfl rfl rfl rfl) wl (la_cons (lv 0) (la_cons (le_callB cc_len rfl T.n_len (by rfl) (la_cons (lv 2) la_nil)) la_nil)))) sc__law_true_pair.nd)
    (lss_w [2] (lss_cons (ls_set 8 (le_fx G__law_spot (room.mono (by decide)) (takes_of rfl rfl rfl rfl) wl (la_cons (lv 4) (la_cons (le_ix ox_seq (lv 6) le_int) (la_cons (le_ix ox_seq (lv 6) le_int) la_nil)))) sc__law_true_pair.nd)
    (lss_consM (ls_set 9 (le_fx G__law_spot (room.mono (by decide)) (takes_of rfl rfl rfl rfl) wl (la_cons (lv 4) (la_cons (le_ix ox_seq (lv 7) le_int) (la_cons (le_ix ox_seq (lv 7) le_int) la_nil)))) sc__law_true_pair.nd)
    (lss_cons (ls_if (lt_cmp oo_lt (lv 8) (lv 9) (by rfl)) (lss_cons (ls_ret (le_op oo_add (le_op oo_add (le_tup (la_cons le_str la_nil)) (lv 6)) (lv 7)))
    lss_nil) lss_nil)
    (lss_consW [7, 9] (ls_if (lt_cmp (oo_ne room.units) (le_ix ox_seq (lv 6) le_int) (le_ix ox_seq (lv 7) le_int) (by rfl)) (lss_cons (ls_ret (le_op oo_add (le_op oo_add (le_tup (la_cons (le_if (lt_cmp (oo_eq room.units) (lv 8) (lv 9) (by rfl)) le_str le_str) la_nil)) (lv 6)) (lv 7)))
    lss_nil) lss_nil)
    (lss_consW [4, 8] (ls_set 10 (le_ix ox_seq (le_ix ox_seq (lv 4) (lv 8)) le_int) sc__law_true_pair.nd)
    (lss_cons (ls_ret (le_op oo_add (le_op oo_add (le_tup (la_cons le_str la_nil)) (lv 6)) (le_tup (la_cons (le_callB (cc_max2 rfl) rfl T.n_max (by rfl) (la_cons le_int (la_cons (le_op oo_sub (lv 10) (le_fx G__law_pull (room.mono (by decide)) (takes_of rfl rfl rfl rfl) wl (la_cons (lv 0) (la_cons le_int la_nil)))) la_nil))) (la_cons (le_callB (cc_min2 rfl) rfl T.n_min (by rfl) (la_cons le_int (la_cons (le_op oo_add (lv 10) (le_fx G__law_pull (room.mono (by decide)) (takes_of rfl rfl rfl rfl) wl (la_cons (lv 0) (la_cons le_int la_nil)))) la_nil))) la_nil)))))
    lss_nil)))))))))), fun ds S R X n h hW => ?_⟩, T.m__law_true_pair, T.F__law_true_pair.kp, T.b__law_true_pair⟩
  obtain ⟨r, Q, E, h, rfl, rfl, rfl, rfl, rfl⟩ := h
  subst hW
  obtain ⟨⟨ps, row, ups⟩, m, cs, rfl, hok, hne, hcl, hcs, q⟩ := h
  have hlen : row.length ≤ 13 := hok.len
  have hrow : ∀ e ∈ row, EvOk ps e := hok.row
  have hhad : ∀ p ∈ ps, (hadL row p : Int) ≤ m := hok.had
  have hm5 := hok.m5
  have hcs : ∀ c ∈ cs, c.1 ∈ ps ∧ 0 ≤ c.2 ∧ c.2 < hadL row c.1 := hcs
  have q : ∀ f : Fc, f.good ps m → Q f.d := q
  have hc1 : 1 ≤ cs.length := List.length_pos_iff.mpr hne
  conv => whnf
  repeat (refine Need.mk ?_ ?_; exact nd; conv => whnf)
  refine ⟨_, rfl, ?_⟩
  conv => whnf
  repeat (refine Need.mk ?_ ?_; exact nd; conv => whnf)
  rw [List.length_map]
  refine ⟨_, rfl, ⟨by omega, by omega⟩, fun i i0 i1 => ?_⟩
  have hi : i.toNat < cs.length := by omega
  have ei : (cs.map pr)[i.toNat]? = some (pr cs[i.toNat]) := by rw [List.getElem?_map, List.getElem?_eq_getElem hi]; rfl
  have mi := hcs _ (List.getElem_mem hi)
  generalize cs[i.toNat] = c at ei mi
  conv => whnf
  repeat (refine Need.mk ?_ ?_; exact nd; conv => whnf)
  refine optI (atI_get i0 ei) ?_
  conv => whnf
  repeat (refine Need.mk ?_ ?_; exact nd; conv => whnf)
  refine sM (fun s' S' => S' = [.drw] ∧ ∃ (e : Int × Int) (t1 t3 t5 : Option D), (e.1 ∈ ps ∧ 0 ≤ e.2 ∧ e.2 < hadL row e.1) ∧ s' = [some (.ref 0), t1, some (.lst (cs.map pr)), t3, some (.lst (row.map Ev.d)), t5, some (pr c), some (pr e), none, none, none]) ?_ ?_
  · conv => whnf
    repeat (refine Need.mk ?_ ?_; exact nd; conv => whnf)
    rw [List.length_map]
    refine ⟨_, rfl, ⟨by omega, by omega⟩, fun j j0 j1 => ?_⟩
    have hj : j.toNat < cs.length := by omega
    have ej : (cs.map pr)[j.toNat]? = some (pr cs[j.toNat]) := by rw [List.getElem?_map, List.getElem?_eq_getElem hj]; rfl
    have mj := hcs _ (List.getElem_mem hj)
    generalize cs[j.toNat] = e at ej mj
    conv => whnf
    repeat (refine Need.mk ?_ ?_; exact nd; conv => whnf)
    refine optI (atI_get j0 ej) ?_
    exact ⟨rfl, e, _, _, _, mj, rfl⟩
  rintro s' S' ⟨rfl, e, t1, t3, t5, mj, rfl⟩
  conv => whnf
  repeat (refine Need.mk ?_ ?_; exact nd; conv => whnf)
  refine ⟨row, c.1, c.2, rfl, by omega, mi.2.1, mi.2.2, fun n hn => ?_⟩
  conv => whnf
  repeat (refine Need.mk ?_ ?_; exact nd; conv => whnf)
  refine sM (fun s' S' => S' = [.drw] ∧ ∃ (k : Nat) (t1 t2 t3 t5 : Option D), (spotsL row e.1)[e.2.toNat]? = some k ∧ s' = [some (.ref 0), t1, t2, t3, some (.lst (row.map Ev.d)), t5, some (pr c), some (pr e), some (.int n), some (.int k), none]) ?_ ?_
  · conv => whnf
    repeat (refine Need.mk ?_ ?_; exact nd; conv => whnf)
    refine ⟨row, e.1, e.2, rfl, by omega, mj.2.1, mj.2.2, fun k hk => ?_⟩
    exact ⟨rfl, k, _, _, _, _, hk, rfl⟩
  rintro s' S' ⟨rfl, k, t1, t2, t3, t5, hk, rfl⟩
  conv => whnf
  repeat (refine Need.mk ?_ ?_; exact nd; conv => whnf)
  have hcm := hhad _ mi.1
  have hem := hhad _ mj.1
  refine brd (fun hlt => ?_) (fun hlt => ?_)
  · have hlt : (n : Int) < (k : Int) := hlt
    conv => whnf
    repeat (refine Need.mk ?_ ?_; exact nd; conv => whnf)
    refine Need.mk ⟨List.cons_ne_nil _ _, leN (Nat.le_of_ble_eq_true rfl)⟩ ?_
    conv => whnf
    repeat (refine Need.mk ?_ ?_; exact nd; conv => whnf)
    refine Need.mk ⟨List.cons_ne_nil _ _, leN (Nat.le_of_ble_eq_true rfl)⟩ ?_
    conv => whnf
    repeat (refine Need.mk ?_ ?_; exact nd; conv => whnf)
    refine RwF (f := .ahead c.1 c.2 e.1 e.2) (q _ ⟨mi.1, mi.2.1, by omega, mj.1, mj.2.1, by omega, fun h => ?_⟩)
    rw [h.1, h.2, hk] at hn
    have := Option.some.inj hn
    omega
  conv => whnf
  repeat (refine Need.mk ?_ ?_; exact nd; conv => whnf)
  rw [if_pos rfl, seqI]
  refine bnd (fun heq => ?_) (fun hne2 => ?_)
  · conv => whnf
    repeat (refine Need.mk ?_ ?_; exact nd; conv => whnf)
    obtain ⟨ev, he, _⟩ := spotsL_at hn
    have eok := hrow ev (List.mem_of_getElem? he)
    have ey := eok.y0
    have ey2 := eok.y1
    refine optI (atI_get (by omega) (show (row.map Ev.d)[((n : Nat) : Int).toNat]? = some ev.d by rw [Int.toNat_natCast, List.getElem?_map, he]; rfl)) ?_
    conv => whnf
    repeat (refine Need.mk ?_ ?_; exact nd; conv => whnf)
    refine Need.mk ⟨List.cons_ne_nil _ _, leN (Nat.le_of_ble_eq_true rfl)⟩ ?_
    conv => whnf
    repeat (refine Need.mk ?_ ?_; exact nd; conv => whnf)
    refine ⟨_, rfl, ⟨by first | decide | omega, by first | decide | omega⟩, fun x x0 x1 => ?_⟩
    have x1 : x < 5 := x1
    conv => whnf
    repeat (refine Need.mk ?_ ?_; exact nd; conv => whnf)
    refine ⟨_, rfl, ⟨by first | decide | omega, by first | decide | omega⟩, fun z z0 z1 => ?_⟩
    have z1 : z < 5 := z1
    conv => whnf
    repeat (refine Need.mk ?_ ?_; exact nd; conv => whnf)
    rw [if_pos rfl, if_neg Bool.false_ne_true]
    refine Need.mk ⟨List.cons_ne_nil _ _, leN (Nat.le_of_ble_eq_true rfl)⟩ ?_
    conv => whnf
    repeat (refine Need.mk ?_ ?_; exact nd; conv => whnf)
    refine RwF (f := .year c.1 c.2 (if ev.y - x > 0 then ev.y - x else 0) (if ev.y + z < 999 then ev.y + z else 999)) (q _ ⟨mi.1, mi.2.1, by omega, ?_, ?_, ?_⟩)
    · split <;> omega
    · split <;> split <;> omega
    · split <;> omega
  · conv => whnf
    repeat (refine Need.mk ?_ ?_; exact nd; conv => whnf)
    rw [if_neg Bool.false_ne_true, seqI]
    refine brd (fun heq => ?_) (fun hneq => ?_)
    · conv => whnf
      repeat (refine Need.mk ?_ ?_; exact nd; conv => whnf)
      refine Need.mk ⟨List.cons_ne_nil _ _, leN (Nat.le_of_ble_eq_true rfl)⟩ ?_
      conv => whnf
      repeat (refine Need.mk ?_ ?_; exact nd; conv => whnf)
      refine Need.mk ⟨List.cons_ne_nil _ _, leN (Nat.le_of_ble_eq_true rfl)⟩ ?_
      conv => whnf
      repeat (refine Need.mk ?_ ?_; exact nd; conv => whnf)
      exact RwF (f := .same c.1 c.2 e.1 e.2) (q _ ⟨mi.1, mi.2.1, by omega, mj.1, mj.2.1, by omega, hne2⟩)
    · conv => whnf
      repeat (refine Need.mk ?_ ?_; exact nd; conv => whnf)
      refine Need.mk ⟨List.cons_ne_nil _ _, leN (Nat.le_of_ble_eq_true rfl)⟩ ?_
      conv => whnf
      repeat (refine Need.mk ?_ ?_; exact nd; conv => whnf)
      refine Need.mk ⟨List.cons_ne_nil _ _, leN (Nat.le_of_ble_eq_true rfl)⟩ ?_
      conv => whnf
      repeat (refine Need.mk ?_ ?_; exact nd; conv => whnf)
      exact RwF (f := .apart c.1 c.2 e.1 e.2) (q _ ⟨mi.1, mi.2.1, by omega, mj.1, mj.2.1, by omega, hne2⟩)
def sp__law_true_put (a : Ad) : SpP := fun ds Q _ => ∃ (w : Wld) (m : Int), ds = [w.d] ∧ w.ok m ∧ ∀ f : Fc, f.good w.ps m → Q f.d
theorem ok__law_true_put (T : Txt K w mg a) (G__law_pull : Fx P w K mg base 1 a.a__law_pull a.d__law_pull "_law_pull" ["_law_draw", "_law_many"] (ld (sp__law_pull a))) (G__law_had : Fx P w K mg base 1 a.a__law_had a.d__law_had "_law_had" ["_law_row", "_law_part", "_law_gap"] (lp (sp__law_had a))) (G__law_spot : Fx P w K mg base 1 a.a__law_spot a.d__law_spot "_law_spot" ["_law_row", "_law_part", "_law_coat"] (lp (sp__law_spot a))) : Fx P w K mg base 2 a.a__law_true_put a.d__law_true_put "_law_true_put" ["_law_draw", "_law_world_here"] (ld (sp__law_true_put a)) := by
  refine ⟨fn_W T.F__law_true_put sc__law_true_put (by (intro ds Q E h; first | (obtain ⟨h, hr⟩ := h; subst h; (try (obtain ⟨_, hr⟩ := hr)); (try (obtain ⟨_, hr⟩ := hr)); (try (obtain ⟨_, hr⟩ := hr)); (try (obtain ⟨_, hr⟩ := hr)); (all_goals exact ⟨rfl, by (repeat' (first | trivial | exact lmD_lt | exact Ev.lt | exact evs_lt _ | exact itDs_lt _ | exact prs_lt _ | exact Wld.lt | exact rows_lt | exact deeds_lt | exact pasts_lt | exact D.lts_ints _ | exact D.lts_strs _ | exact Fc.lt | exact Dd.lt | exact fcs_lt _ | exact nfs_lt _ | exact nf_lt | exact D.pl.lt (by assumption) | exact D.dp.lt (by assumption) | exact D.dps.lt (by assumption) | exact D.pls.lt (by assumption) | assumption | refine ⟨?_, ?_⟩))⟩)) | (obtain ⟨_, h, hr⟩ := h; subst h; (try (obtain ⟨_, hr⟩ := hr)); (try (obtain ⟨_, hr⟩ := hr)); (try (obtain ⟨_, hr⟩ := hr)); (try (obtain ⟨_, hr⟩ := hr)); (all_goals exact ⟨rfl, by (repeat' (first | trivial | exact lmD_lt | exact Ev.lt | exact evs_lt _ | exact itDs_lt _ | exact prs_lt _ | exact Wld.lt | exact rows_lt | exact deeds_lt | exact pasts_lt | exact D.lts_ints _ | exact D.lts_strs _ | exact Fc.lt | exact Dd.lt | exact fcs_lt _ | exact nfs_lt _ | exact nf_lt | exact D.pl.lt (by assumption) | exact D.dp.lt (by assumption) | exact D.dps.lt (by assumption) | exact D.pls.lt (by assumption) | assumption | refine ⟨?_, ?_⟩))⟩)) | (obtain ⟨_, _, h, hr⟩ := h; subst h; (try (obtain ⟨_, hr⟩ := hr)); (try (obtain ⟨_, hr⟩ := hr)); (try (obtain ⟨_, hr⟩ := hr)); (try (obtain ⟨_, hr⟩ := hr)); (all_goals exact ⟨rfl, by (repeat' (first | trivial | exact lmD_lt | exact Ev.lt | exact evs_lt _ | exact itDs_lt _ | exact prs_lt _ | exact Wld.lt | exact rows_lt | exact deeds_lt | exact pasts_lt | exact D.lts_ints _ | exact D.lts_strs _ | exact Fc.lt | exact Dd.lt | exact fcs_lt _ | exact nfs_lt _ | exact nf_lt | exact D.pl.lt (by assumption) | exact D.dp.lt (by assumption) | exact D.dps.lt (by assumption) | exact D.pls.lt (by assumption) | assumption | refine ⟨?_, ?_⟩))⟩)) | (obtain ⟨_, _, _, h, hr⟩ := h; subst h; (try (obtain ⟨_, hr⟩ := hr)); (try (obtain ⟨_, hr⟩ := hr)); (try (obtain ⟨_, hr⟩ := hr)); (try (obtain ⟨_, hr⟩ := hr)); (all_goals exact ⟨rfl, by (repeat' (first | trivial | exact lmD_lt | exact Ev.lt | exact evs_lt _ | exact itDs_lt _ | exact prs_lt _ | exact Wld.lt | exact rows_lt | exact deeds_lt | exact pasts_lt | exact D.lts_ints _ | exact D.lts_strs _ | exact Fc.lt | exact Dd.lt | exact fcs_lt _ | exact nfs_lt _ | exact nf_lt | exact D.pl.lt (by assumption) | exact D.dp.lt (by assumption) | exact D.dps.lt (by assumption) | exact D.pls.lt (by assumption) | assumption | refine ⟨?_, ?_⟩))⟩)) | (obtain ⟨_, _, _, _, h, hr⟩ := h; subst h; (try (obtain ⟨_, hr⟩ := hr)); (try (obtain ⟨_, hr⟩ := hr)); (try (obtain ⟨_, hr⟩ := hr)); (try (obtain ⟨_, hr⟩ := hr)); (all_goals exact ⟨rfl, by (repeat' (first | trivial | exact lmD_lt | exact Ev.lt | exact evs_lt _ | exact itDs_lt _ | exact prs_lt _ | exact Wld.lt | exact rows_lt | exact deeds_lt | exact pasts_lt | exact D.lts_ints _ | exact D.lts_strs _ | exact Fc.lt | exact Dd.lt | exact fcs_lt _ | exact nfs_lt _ | exact nf_lt | exact D.pl.lt (by assumption) | exact D.dp.lt (by assumption) | exact D.dps.lt (by assumption) | exact D.pls.lt (by assumption) | assumption | refine ⟨?_, ?_⟩))⟩)) | (obtain ⟨_, _, _, _, _, h, hr⟩ := h; subst h; (try (obtain ⟨_, hr⟩ := hr)); (try (obtain ⟨_, hr⟩ := hr)); (try (obtain ⟨_, hr⟩ := hr)); (try (obtain ⟨_, hr⟩ := hr)); (all_goals exact ⟨rfl, by (repeat' (first | trivial | exact lmD_lt | exact Ev.lt | exact evs_lt _ | exact itDs_lt _ | exact prs_lt _ | exact Wld.lt | exact rows_lt | exact deeds_lt | exact pasts_lt | exact D.lts_ints _ | exact D.lts_strs _ | exact Fc.lt | exact Dd.lt | exact fcs_lt _ | exact nfs_lt _ | exact nf_lt | exact D.pl.lt (by assumption) | exact D.dp.lt (by assumption) | exact D.dps.lt (by assumption) | exact D.pls.lt (by assumption) | assumption | refine ⟨?_, ?_⟩))⟩)) | (obtain ⟨h, _⟩ := h; exact (by simp at h)))) fun cdv A outer s H E φ T0 W' room wl => ⟨_, (lss_consW [1, 2] (ls_asg (lv 1) (lg_T (t := (.tp [(.nm 2), (.nm 3), (.nm 4)])) (tg_tp rfl (tg_cons (tg_nm 2 sc__law_true_put.nd) (tg_cons (tg_nm 3 sc__law_true_put.nd) (tg_cons (tg_nm 4 sc__law_true_put.nd) tg_nil))))))
    (lss_cons (ls_set 5 (le_fx G__law_pull (room.mono (by decide)) (takes_of rfl rfl rfl rfl) wl (la_cons (lv 0) (la_cons (le_callB cc_len rfl T.n_len (by rfl) (la_cons (lv 4) la_nil)) la_nil))) sc__law_true_put.nd)
    (lss_consM (ls_set 6 (le_fx G__law_pull (room.mono (by decide)) (takes_of rfl rfl rfl rfl) wl (la_cons (lv 0) (la_cons (le_callB cc_len rfl T.n_len (by rfl) (la_cons (lv 4) la_nil)) la_nil))) sc__law_true_put.nd)
    (lss_consW [8] (ls_asg (le_ix ox_seq (lv 4) (le_callB (cc_max2 rfl) rfl T.n_max (by rfl) (la_cons (lv 5) (la_cons (lv 6) la_nil)))) (lg_T (t := (.tp [(.nm 7), (.nm 8), (.nm 9)])) (tg_tp rfl (tg_cons (tg_nm 7 sc__law_true_put.nd) (tg_cons (tg_nm 8 sc__law_true_put.nd) (tg_cons (tg_nm 9 sc__law_true_put.nd) tg_nil))))))
    (lss_consW [4] (ls_set 10 (le_ix ox_seq (le_ix ox_seq (lv 4) (le_callB (cc_min2 rfl) rfl T.n_min (by rfl) (la_cons (lv 5) (la_cons (lv 6) la_nil)))) le_int) sc__law_true_put.nd)
    (lss_consM (ls_set 11 (le_fx G__law_had (room.mono (by decide)) (takes_of rfl rfl rfl rfl) wl (la_cons (lv 3) (la_cons (lv 9) (la_cons (le_callB cc_len rfl T.n_len (by rfl) (la_cons (lv 3) la_nil)) la_nil)))) sc__law_true_put.nd)
    (lss_consW [5, 6] (ls_if (lt_cmp (oo_eq room.units) (lv 5) (lv 6) (by rfl)) (lss_cons (ls_ret (le_tup (la_cons le_str (la_cons (lv 9) (la_cons le_int (la_cons (le_op oo_mulX (le_tup (la_cons le_int la_nil)) (le_callB (cc_max2 rfl) rfl T.n_max (by rfl) (la_cons le_int (la_cons (lv 11) la_nil)))) la_nil))))))
    lss_nil) lss_nil)
    (lss_consW [0, 11, 12] (ls_if (LW.t (lw_and (lt_cmp oo_gt (lv 11) le_int (by rfl)) (lw_and1 (lt_cmp (oo_eq room.units) (le_fx G__law_pull (room.mono (by decide)) (takes_of rfl rfl rfl rfl) wl (la_cons (lv 0) (la_cons le_int la_nil))) le_int (by rfl))))) (lss_consW [0, 7, 11] (ls_set 12 (le_op oo_add le_int (le_fx G__law_pull (room.mono (by decide)) (takes_of rfl rfl rfl rfl) wl (la_cons (lv 0) (la_cons (lv 11) la_nil)))) sc__law_true_put.nd)
    (lss_cons (ls_set 7 (le_op oo_add (le_fx G__law_spot (room.mono (by decide)) (takes_of rfl rfl rfl rfl) wl (la_cons (lv 3) (la_cons (lv 9) (la_cons (le_op oo_sub (lv 12) le_int) la_nil)))) le_int) sc__law_true_put.nd)
    (lss_cons (ls_ret (le_tup (la_cons le_str (la_cons (lv 9) (la_cons (lv 12) (la_cons (lv 10) (la_cons (le_fx G__law_had (room.mono (by decide)) (takes_of rfl rfl rfl rfl) wl (la_cons (lv 3) (la_cons (lv 10) (la_cons (lv 7) la_nil)))) la_nil)))))))
    lss_nil))) lss_nil)
    (lss_cons (ls_ret (le_tup (la_cons le_str (la_cons (lv 9) (la_cons (lv 10) (la_cons (le_fx G__law_had (room.mono (by decide)) (takes_of rfl rfl rfl rfl) wl (la_cons (lv 3) (la_cons (lv 10) (la_cons (lv 7) la_nil)))) la_nil))))))
    lss_nil))))))))), fun ds S R X n h hW => ?_⟩, T.m__law_true_put, T.F__law_true_put.kp, T.b__law_true_put⟩
  obtain ⟨r, Q, E, h, rfl, rfl, rfl, rfl, rfl⟩ := h
  subst hW
  obtain ⟨⟨ps, row, ups⟩, m, rfl, hok, q⟩ := h
  have hlen : row.length ≤ 13 := hok.len
  have hrow : ∀ e ∈ row, EvOk ps e := hok.row
  have hhad : ∀ p ∈ ps, (hadL row p : Int) ≤ m := hok.had
  have hm5 := hok.m5
  have hm1 := hok.m1
  have hps : PsOk ps := hok.ps
  obtain ⟨us, hus, hup, hub⟩ := hok.ups
  have hus : ups = us.map (fun u => [u.1, u.2.1, u.2.2]) := hus
  have hup : (us.map (·.2.2)).Perm ps := hup
  have hul : us.length = ps.length := by have := hup.length_eq; rw [List.length_map] at this; exact this
  have hul1 : 1 ≤ us.length := by rw [hul]; exact List.length_pos_iff.mpr hps.ne
  have hul4 := hps.len
  have q : ∀ f : Fc, f.good ps m → Q f.d := q
  subst hus
  conv => whnf
  repeat (refine Need.mk ?_ ?_; exact nd; conv => whnf)
  refine ⟨_, rfl, ?_⟩
  conv => whnf
  repeat (refine Need.mk ?_ ?_; exact nd; conv => whnf)
  rw [List.length_map, List.length_map]
  refine ⟨_, rfl, ⟨by omega, by omega⟩, fun i i0 i1 => ?_⟩
  conv => whnf
  repeat (refine Need.mk ?_ ?_; exact nd; conv => whnf)
  refine sM (fun s' S' => S' = [.drw] ∧ ∃ (j : Int) (t1 t2 : Option D), (0 ≤ j ∧ j < us.length) ∧ s' = [some (.ref 0), t1, t2, some (.lst (row.map Ev.d)), some (.lst ((us.map (fun u => [u.1, u.2.1, u.2.2])).map itD)), some (.int i), some (.int j), none, none, none, none, none, none]) ?_ ?_
  · conv => whnf
    repeat (refine Need.mk ?_ ?_; exact nd; conv => whnf)
    rw [List.length_map, List.length_map]
    refine ⟨_, rfl, ⟨by omega, by omega⟩, fun j j0 j1 => ?_⟩
    exact ⟨rfl, j, _, _, ⟨j0, j1⟩, rfl⟩
  rintro s' S' ⟨rfl, j, t1, t2, ⟨j0, j1⟩, rfl⟩
  conv => whnf
  repeat (refine Need.mk ?_ ?_; exact nd; conv => whnf)
  rw [if_pos rfl]
  have big : ∀ t : Int, 0 ≤ t → t < us.length → ∃ u ∈ us, us[t.toNat]? = some u ∧ L2.atI ((us.map (fun u => [u.1, u.2.1, u.2.2])).map itD) t = some (itD [u.1, u.2.1, u.2.2]) := fun t h0 h1 => by
    have hl : t.toNat < us.length := by omega
    refine ⟨_, List.getElem_mem hl, List.getElem?_eq_getElem hl, atI_get h0 ?_⟩
    rw [List.getElem?_map, List.getElem?_map, List.getElem?_eq_getElem hl]; rfl
  have hia : 0 ≤ (if j > i then j else i) ∧ (if j > i then j else i) < us.length := by split <;> omega
  have hib : 0 ≤ (if j < i then j else i) ∧ (if j < i then j else i) < us.length := by split <;> omega
  obtain ⟨u, hu, hu2, eu⟩ := big _ hia.1 hia.2
  obtain ⟨v, hv, hv2, ev⟩ := big _ hib.1 hib.2
  have hpu : u.2.2 ∈ ps := hup.mem_iff.mp (List.mem_map.mpr ⟨u, hu, rfl⟩)
  have hpv : v.2.2 ∈ ps := hup.mem_iff.mp (List.mem_map.mpr ⟨v, hv, rfl⟩)
  have hdiff : i ≠ j → u.2.2 ≠ v.2.2 := fun hij h => by
    have hnd : (us.map (·.2.2)).Nodup := hup.nodup_iff.mpr hps.nd
    have e1 : (us.map (·.2.2))[(if j > i then j else i).toNat]? = some u.2.2 := by rw [List.getElem?_map, hu2]; rfl
    have e2 : (us.map (·.2.2))[(if j < i then j else i).toNat]? = some v.2.2 := by rw [List.getElem?_map, hv2]; rfl
    have := (List.getElem?_inj (by rw [List.length_map]; omega) hnd).mp (e1.trans (by rw [h]; exact e2.symm))
    revert this
    split <;> split <;> omega
  refine optI eu ?_
  conv => whnf
  repeat (refine Need.mk ?_ ?_; exact nd; conv => whnf)
  refine ⟨_, rfl, ?_⟩
  conv => whnf
  repeat (refine Need.mk ?_ ?_; exact nd; conv => whnf)
  rw [if_neg Bool.false_ne_true]
  refine optI ev ?_
  conv => whnf
  repeat (refine Need.mk ?_ ?_; exact nd; conv => whnf)
  refine sM (fun s' S' => S' = [.drw] ∧ ∃ (t1 t2 t4 t8 : Option D), s' = [some (.ref 0), t1, t2, some (.lst (row.map Ev.d)), t4, some (.int i), some (.int j), some (.int u.1), t8, some (.int u.2.2), some (.int v.2.2), some (.int (hadL row u.2.2)), none]) ?_ ?_
  · conv => whnf
    repeat (refine Need.mk ?_ ?_; exact nd; conv => whnf)
    refine ⟨row, u.2.2, row.length, by rw [List.length_map]; rfl, by omega, ?_⟩
    rw [List.take_length]
    exact ⟨rfl, _, _, _, _, rfl⟩
  rintro s' S' ⟨rfl, t1, t2, t4, t8, rfl⟩
  conv => whnf
  repeat (refine Need.mk ?_ ?_; exact nd; conv => whnf)
  rw [if_neg Bool.false_ne_true, seqI]
  have hm := hhad _ hpu
  have hmv := hhad _ hpv
  refine brd (fun hij => ?_) (fun hij => ?_)
  · conv => whnf
    repeat (refine Need.mk ?_ ?_; exact nd; conv => whnf)
    rw [if_pos rfl]
    have hmx : 1 ≤ (if (hadL row u.2.2 : Int) > 1 then (hadL row u.2.2 : Int) else 1) ∧ (if (hadL row u.2.2 : Int) > 1 then (hadL row u.2.2 : Int) else 1) ≤ m := by split <;> omega
    generalize (if (hadL row u.2.2 : Int) > 1 then (hadL row u.2.2 : Int) else 1) = mx at hmx ⊢
    refine Need.mk ⟨List.cons_ne_nil _ _, hmx.1, by omega, Nat.le_of_ble_eq_true rfl⟩ ?_
    conv => whnf
    repeat (refine Need.mk ?_ ?_; exact nd; conv => whnf)
    have e : (List.replicate mx.toNat [D.int 0]).flatten = (List.replicate mx.toNat (0 : Int)).map D.int := by
      generalize mx.toNat = n
      induction n with
      | zero => rfl
      | succ n ih => rw [List.replicate_succ, List.flatten_cons, ih]; rfl
    rw [e]
    exact RwF (f := .scrape u.2.2 0 (List.replicate mx.toNat 0)) (q _ ⟨hpu, Int.le_refl _, by rw [List.length_replicate]; omega, by rw [List.length_replicate]; omega, fun z hz => by rw [(List.mem_replicate.mp hz).2]; decide⟩)
  · have hd := hdiff hij
    have cov : ∀ S, RtW Q (Fc.cover u.2.2 v.2.2 (hadL (row.take u.1.toNat) v.2.2)).d (O.drw :: S) := fun S => RwF (f := .cover u.2.2 v.2.2 (hadL (row.take u.1.toNat) v.2.2)) (q _ ⟨hpu, hpv, hd, by omega, by have := hadL_take (row := row) (p := v.2.2) u.1.toNat; omega⟩)
    have hu0 := (hub u hu).1
    have cvr : ∀ R : D → List O → Prop, (∀ S, R (Fc.cover u.2.2 v.2.2 (hadL (row.take u.1.toNat) v.2.2)).d (O.drw :: S)) → ∃ (row_1 : List Ev) (p : Int) (g : Nat), [D.lst (row.map Ev.d), D.int v.2.2, D.int u.1] ++ [] = [D.lst (row_1.map Ev.d), D.int p, D.int g] ∧ row_1.length ≤ 1000 ∧ R (.tup [.str "cover", .int u.2.2, .int v.2.2, .int (hadL (row_1.take g) p)]) [O.drw] := fun R h => ⟨row, v.2.2, u.1.toNat, by rw [Int.toNat_of_nonneg hu0]; rfl, by omega, h []⟩
    conv => whnf
    repeat (refine Need.mk ?_ ?_; exact nd; conv => whnf)
    refine brd (fun hm0 => ?_) (fun hm0 => ?_)
    · have hm0 : (0 : Int) < hadL row u.2.2 := hm0
      conv => whnf
      repeat (refine Need.mk ?_ ?_; exact nd; conv => whnf)
      refine ⟨_, rfl, ⟨by first | decide | omega, by first | decide | omega⟩, fun n n0 n1 => ?_⟩
      conv => whnf
      repeat (refine Need.mk ?_ ?_; exact nd; conv => whnf)
      rw [if_neg Bool.false_ne_true, seqI]
      refine brd (fun hn => ?_) (fun hn => ?_)
      · conv => whnf
        repeat (refine Need.mk ?_ ?_; exact nd; conv => whnf)
        refine ⟨_, rfl, ⟨by omega, by omega⟩, fun c c0 c1 => ?_⟩
        conv => whnf
        repeat (refine Need.mk ?_ ?_; exact nd; conv => whnf)
        refine ⟨row, u.2.2, c, by show [_, _, D.int (1 + c - 1)] ++ [] = _; rw [show 1 + c - 1 = c by omega]; rfl, by omega, c0, c1, fun k hk => ?_⟩
        conv => whnf
        repeat (refine Need.mk ?_ ?_; exact nd; conv => whnf)
        refine ⟨row, v.2.2, k + 1, rfl, by omega, ?_⟩
        conv => whnf
        repeat (refine Need.mk ?_ ?_; exact nd; conv => whnf)
        have := hadL_take (row := row) (p := v.2.2) (k + 1)
        exact RwF (f := .moved u.2.2 (1 + c) v.2.2 (hadL (row.take (k + 1)) v.2.2)) (q _ ⟨hpu, by omega, by omega, hpv, hd, by omega, by omega⟩)
      · conv => whnf
        repeat (refine Need.mk ?_ ?_; exact nd; conv => whnf)
        exact cvr (fun d S => RtW Q d S) cov
    · conv => whnf
      repeat (refine Need.mk ?_ ?_; exact nd; conv => whnf)
      exact cvr (fun d S => RtW Q d S) cov
def sp__law_true_scrape (a : Ad) : SpP := fun ds Q _ => ∃ (w : Wld) (m p : Int), ds = [w.d, .int p] ∧ w.ok m ∧ p ∈ w.ps ∧ 1 ≤ hadL w.row p ∧ ∀ f : Fc, f.good w.ps m → Q f.d
theorem ok__law_true_scrape (T : Txt K w mg a) (G__law_had : Fx P w K mg base 1 a.a__law_had a.d__law_had "_law_had" ["_law_row", "_law_part", "_law_gap"] (lp (sp__law_had a))) (G__law_pull : Fx P w K mg base 1 a.a__law_pull a.d__law_pull "_law_pull" ["_law_draw", "_law_many"] (ld (sp__law_pull a))) (G__law_spot : Fx P w K mg base 1 a.a__law_spot a.d__law_spot "_law_spot" ["_law_row", "_law_part", "_law_coat"] (lp (sp__law_spot a))) : Fx P w K mg base 2 a.a__law_true_scrape a.d__law_true_scrape "_law_true_scrape" ["_law_draw", "_law_world_here", "_law_part"] (ld (sp__law_true_scrape a)) := by
  refine ⟨fn_W T.F__law_true_scrape sc__law_true_scrape (by (intro ds Q E h; first | (obtain ⟨h, hr⟩ := h; subst h; (try (obtain ⟨_, hr⟩ := hr)); (try (obtain ⟨_, hr⟩ := hr)); (try (obtain ⟨_, hr⟩ := hr)); (try (obtain ⟨_, hr⟩ := hr)); (all_goals exact ⟨rfl, by (repeat' (first | trivial | exact lmD_lt | exact Ev.lt | exact evs_lt _ | exact itDs_lt _ | exact prs_lt _ | exact Wld.lt | exact rows_lt | exact deeds_lt | exact pasts_lt | exact D.lts_ints _ | exact D.lts_strs _ | exact Fc.lt | exact Dd.lt | exact fcs_lt _ | exact nfs_lt _ | exact nf_lt | exact D.pl.lt (by assumption) | exact D.dp.lt (by assumption) | exact D.dps.lt (by assumption) | exact D.pls.lt (by assumption) | assumption | refine ⟨?_, ?_⟩))⟩)) | (obtain ⟨_, h, hr⟩ := h; subst h; (try (obtain ⟨_, hr⟩ := hr)); (try (obtain ⟨_, hr⟩ := hr)); (try (obtain ⟨_, hr⟩ := hr)); (try (obtain ⟨_, hr⟩ := hr)); (all_goals exact ⟨rfl, by (repeat' (first | trivial | exact lmD_lt | exact Ev.lt | exact evs_lt _ | exact itDs_lt _ | exact prs_lt _ | exact Wld.lt | exact rows_lt | exact deeds_lt | exact pasts_lt | exact D.lts_ints _ | exact D.lts_strs _ | exact Fc.lt | exact Dd.lt | exact fcs_lt _ | exact nfs_lt _ | exact nf_lt | exact D.pl.lt (by assumption) | exact D.dp.lt (by assumption) | exact D.dps.lt (by assumption) | exact D.pls.lt (by assumption) | assumption | refine ⟨?_, ?_⟩))⟩)) | (obtain ⟨_, _, h, hr⟩ := h; subst h; (try (obtain ⟨_, hr⟩ := hr)); (try (obtain ⟨_, hr⟩ := hr)); (try (obtain ⟨_, hr⟩ := hr)); (try (obtain ⟨_, hr⟩ := hr)); (all_goals exact ⟨rfl, by (repeat' (first | trivial | exact lmD_lt | exact Ev.lt | exact evs_lt _ | exact itDs_lt _ | exact prs_lt _ | exact Wld.lt | exact rows_lt | exact deeds_lt | exact pasts_lt | exact D.lts_ints _ | exact D.lts_strs _ | exact Fc.lt | exact Dd.lt | exact fcs_lt _ | exact nfs_lt _ | exact nf_lt | exact D.pl.lt (by assumption) | exact D.dp.lt (by assumption) | exact D.dps.lt (by assumption) | exact D.pls.lt (by assumption) | assumption | refine ⟨?_, ?_⟩))⟩)) | (obtain ⟨_, _, _, h, hr⟩ := h; subst h; (try (obtain ⟨_, hr⟩ := hr)); (try (obtain ⟨_, hr⟩ := hr)); (try (obtain ⟨_, hr⟩ := hr)); (try (obtain ⟨_, hr⟩ := hr)); (all_goals exact ⟨rfl, by (repeat' (first | trivial | exact lmD_lt | exact Ev.lt | exact evs_lt _ | exact itDs_lt _ | exact prs_lt _ | exact Wld.lt | exact rows_lt | exact deeds_lt | exact pasts_lt | exact D.lts_ints _ | exact D.lts_strs _ | exact Fc.lt | exact Dd.lt | exact fcs_lt _ | exact nfs_lt _ | exact nf_lt | exact D.pl.lt (by assumption) | exact D.dp.lt (by assumption) | exact D.dps.lt (by assumption) | exact D.pls.lt (by assumption) | assumption | refine ⟨?_, ?_⟩))⟩)) | (obtain ⟨_, _, _, _, h, hr⟩ := h; subst h; (try (obtain ⟨_, hr⟩ := hr)); (try (obtain ⟨_, hr⟩ := hr)); (try (obtain ⟨_, hr⟩ := hr)); (try (obtain ⟨_, hr⟩ := hr)); (all_goals exact ⟨rfl, by (repeat' (first | trivial | exact lmD_lt | exact Ev.lt | exact evs_lt _ | exact itDs_lt _ | exact prs_lt _ | exact Wld.lt | exact rows_lt | exact deeds_lt | exact pasts_lt | exact D.lts_ints _ | exact D.lts_strs _ | exact Fc.lt | exact Dd.lt | exact fcs_lt _ | exact nfs_lt _ | exact nf_lt | exact D.pl.lt (by assumption) | exact D.dp.lt (by assumption) | exact D.dps.lt (by assumption) | exact D.pls.lt (by assumption) | assumption | refine ⟨?_, ?_⟩))⟩)) | (obtain ⟨_, _, _, _, _, h, hr⟩ := h; subst h; (try (obtain ⟨_, hr⟩ := hr)); (try (obtain ⟨_, hr⟩ := hr)); (try (obtain ⟨_, hr⟩ := hr)); (try (obtain ⟨_, hr⟩ := hr)); (all_goals exact ⟨rfl, by (repeat' (first | trivial | exact lmD_lt | exact Ev.lt | exact evs_lt _ | exact itDs_lt _ | exact prs_lt _ | exact Wld.lt | exact rows_lt | exact deeds_lt | exact pasts_lt | exact D.lts_ints _ | exact D.lts_strs _ | exact Fc.lt | exact Dd.lt | exact fcs_lt _ | exact nfs_lt _ | exact nf_lt | exact D.pl.lt (by assumption) | exact D.dp.lt (by assumption) | exact D.dps.lt (by assumption) | exact D.pls.lt (by assumption) | assumption | refine ⟨?_, ?_⟩))⟩)) | (obtain ⟨h, _⟩ := h; exact (by simp at h)))) fun cdv A outer s H E φ T0 W' room wl => ⟨_, (lss_consW [1, 3, 5] (ls_asg (lv 1) (lg_T (t := (.tp [(.nm 3), (.nm 4), (.nm 5)])) (tg_tp rfl (tg_cons (tg_nm 3 sc__law_true_scrape.nd) (tg_cons (tg_nm 4 sc__law_true_scrape.nd) (tg_cons (tg_nm 5 sc__law_true_scrape.nd) tg_nil))))))
    (lss_cons (ls_set 6 (le_fx G__law_had (room.mono (by decide)) (takes_of rfl rfl rfl rfl) wl (la_cons (lv 4) (la_cons (lv 2) (la_cons (le_callB cc_len rfl T.n_len (by rfl) (la_cons (lv 4) la_nil)) la_nil)))) sc__law_true_scrape.nd)
    (lss_consM (ls_set 7 (le_if (lt_cmp (oo_eq room.units) (le_fx G__law_pull (room.mono (by decide)) (takes_of rfl rfl rfl rfl) wl (la_cons (lv 0) (la_cons le_int la_nil))) le_int (by rfl)) (le_fx G__law_pull (room.mono (by decide)) (takes_of rfl rfl rfl rfl) wl (la_cons (lv 0) (la_cons (lv 6) la_nil))) le_int) sc__law_true_scrape.nd)
    (lss_consM (ls_set 8 (le_ix ox_seq (le_tup (la_cons le_int (la_cons le_int la_nil))) (le_fx G__law_pull (room.mono (by decide)) (takes_of rfl rfl rfl rfl) wl (la_cons (lv 0) (la_cons le_int la_nil)))) sc__law_true_scrape.nd)
    (lss_cons (ls_set 9 (le_lstM la_nil) sc__law_true_scrape.nd)
    (lss_consW [0, 4, 6, 8, 10, 11] (ls_for (passes_of rfl) rfl (li_rng2 rfl T.n_range (la_cons (lv 7) (la_cons (lv 6) la_nil))) (lg_name (i := 10) sc__law_true_scrape.nd rfl)
    (lss_consW [10] (ls_set 11 (le_ix ox_seq (le_ix ox_seq (lv 4) (le_fx G__law_spot (room.mono (by decide)) (takes_of rfl rfl rfl rfl) wl (la_cons (lv 4) (la_cons (lv 2) (la_cons (lv 10) la_nil))))) le_int) sc__law_true_scrape.nd)
    (lss_consW [11] (ls_expr (le_bm PySem.F.plainAttrs_list PySem.F.slot_list_append PySem.F.type_list_append mm_append (lv 9) (la_cons (le_if (lt_cmp (oo_eq room.units) (le_fx G__law_pull (room.mono (by decide)) (takes_of rfl rfl rfl rfl) wl (la_cons (lv 0) (la_cons (lv 8) la_nil))) le_int (by rfl)) le_int (lv 11)) la_nil)))
    lss_nil)))
    (lss_cons (ls_ret (le_tup (la_cons le_str (la_cons (lv 2) (la_cons (lv 7) (la_cons (le_callTy cc_tuple rfl T.n_tuple (by rfl) (la_cons (lv 9) la_nil)) la_nil))))))
    lss_nil))))))), fun ds S R X n h hW => ?_⟩, T.m__law_true_scrape, T.F__law_true_scrape.kp, T.b__law_true_scrape⟩
  obtain ⟨r, Q, E, h, rfl, rfl, rfl, rfl, rfl⟩ := h
  subst hW
  obtain ⟨⟨ps, row, ups⟩, m, p, rfl, hok, hp, h1, q⟩ := h
  have hlen : row.length ≤ 13 := hok.len
  have hrow : ∀ e ∈ row, EvOk ps e := hok.row
  have hhad : (hadL row p : Int) ≤ m := hok.had p hp
  have hp : p ∈ ps := hp
  have h1 : 1 ≤ hadL row p := h1
  have hm5 := hok.m5
  have q : ∀ f : Fc, f.good ps m → Q f.d := q
  conv => whnf
  repeat (refine Need.mk ?_ ?_; exact nd; conv => whnf)
  refine ⟨_, rfl, ?_⟩
  conv => whnf
  repeat (refine Need.mk ?_ ?_; exact nd; conv => whnf)
  refine ⟨row, p, row.length, by rw [List.length_map]; rfl, by omega, ?_⟩
  rw [List.take_length]
  conv => whnf
  repeat (refine Need.mk ?_ ?_; exact nd; conv => whnf)
  refine sM (fun s' S' => S' = [.drw] ∧ ∃ c : Int, (0 ≤ c ∧ c < hadL row p) ∧ s' = [some (.ref 0), none, some (.int p), none, some (.lst (row.map Ev.d)), none, some (.int (hadL row p)), some (.int c), none, none, none, none]) ?_ ?_
  · conv => whnf
    repeat (refine Need.mk ?_ ?_; exact nd; conv => whnf)
    refine ⟨_, rfl, ⟨by first | decide | omega, by first | decide | omega⟩, fun n n0 n1 => ?_⟩
    conv => whnf
    repeat (refine Need.mk ?_ ?_; exact nd; conv => whnf)
    rw [if_neg Bool.false_ne_true, seqI]
    refine brd (fun hn => ?_) (fun hn => ?_)
    · conv => whnf
      repeat (refine Need.mk ?_ ?_; exact nd; conv => whnf)
      refine ⟨_, rfl, ⟨by omega, by omega⟩, fun c c0 c1 => ?_⟩
      conv => whnf
      repeat (refine Need.mk ?_ ?_; exact nd; conv => whnf)
      exact ⟨rfl, c, ⟨c0, c1⟩, rfl⟩
    · conv => whnf
      repeat (refine Need.mk ?_ ?_; exact nd; conv => whnf)
      exact ⟨rfl, 0, ⟨by omega, by omega⟩, rfl⟩
  rintro s' S' ⟨rfl, c, hc, rfl⟩
  conv => whnf
  repeat (refine Need.mk ?_ ?_; exact nd; conv => whnf)
  refine sM (fun s' S' => S' = [.drw] ∧ ∃ d : Int, (2 ≤ d ∧ d ≤ 9) ∧ s' = [some (.ref 0), none, some (.int p), none, some (.lst (row.map Ev.d)), none, some (.int (hadL row p)), some (.int c), some (.int d), none, none, none]) ?_ ?_
  · conv => whnf
    repeat (refine Need.mk ?_ ?_; exact nd; conv => whnf)
    refine ⟨_, rfl, ⟨by first | decide | omega, by first | decide | omega⟩, fun n n0 n1 => ?_⟩
    have n1 : n < 2 := n1
    conv => whnf
    repeat (refine Need.mk ?_ ?_; exact nd; conv => whnf)
    obtain ⟨b, hb, he⟩ : ∃ b : Int, (2 ≤ b ∧ b ≤ 9) ∧ L2.atI [D.int 2, D.int 9] n = some (.int b) := by
      have : n = 0 ∨ n = 1 := by omega
      rcases this with rfl | rfl
      · exact ⟨2, by decide, rfl⟩
      · exact ⟨9, by decide, rfl⟩
    refine optI he ?_
    exact ⟨rfl, b, hb, rfl⟩
  rintro s' S' ⟨rfl, d, hd, rfl⟩
  conv => whnf
  repeat (refine Need.mk ?_ ?_; exact nd; conv => whnf)
  refine ⟨⟨by omega, by omega, by omega, by omega⟩, ?_⟩
  refine ⟨fun i s' S' => ∃ sh : List Int, sh.length = i ∧ goodN sh ∧ S' = [.drw, .lst (sh.map D.int)] ∧ s' = [some (.ref 0), none, some (.int p), none, some (.lst (row.map Ev.d)), none, some (.int (hadL row p)), some (.int c), some (.int d), some (.ref 1), none, none], ⟨[], rfl, fun _ h => absurd h List.not_mem_nil, rfl, rfl⟩, fun _ _ _ _ _ => trivial, ?_, ?_⟩
  · rintro i x s' S' hi ⟨sh, hs, hg, rfl, rfl⟩
    obtain ⟨hi2, rfl⟩ := rngD_get hi
    conv => whnf
    repeat (refine Need.mk ?_ ?_; exact nd; conv => whnf)
    refine ⟨row, p, c + (i : Int), rfl, by omega, by omega, by omega, fun n hn => ?_⟩
    conv => whnf
    repeat (refine Need.mk ?_ ?_; exact nd; conv => whnf)
    obtain ⟨e, he, hpe⟩ := spotsL_at hn
    have eok := hrow e (List.mem_of_getElem? he)
    refine optI (atI_get (by omega) (show (row.map Ev.d)[((n : Nat) : Int).toNat]? = some e.d by rw [Int.toNat_natCast, List.getElem?_map, he]; rfl)) ?_
    conv => whnf
    repeat (refine Need.mk ?_ ?_; exact nd; conv => whnf)
    refine ⟨_, rfl, ⟨by omega, by omega⟩, fun k k0 k1 => ?_⟩
    conv => whnf
    repeat (refine Need.mk ?_ ?_; exact nd; conv => whnf)
    rw [if_neg Bool.false_ne_true, seqI]
    have es : 0 ≤ e.s ∧ e.s ≤ 6 := ⟨by have := eok.s0; omega, eok.s1⟩
    have gs : ∀ z : Int, 0 ≤ z ∧ z ≤ 6 → goodN (sh ++ [z]) := fun z hz y hy => by
      rcases List.mem_append.mp hy with hy | hy
      · exact hg y hy
      · rw [List.mem_singleton.mp hy]; exact hz
    refine brd (fun hn => ?_) (fun hn => ?_)
    · conv => whnf
      repeat (refine Need.mk ?_ ?_; exact nd; conv => whnf)
      refine Need.mk (ltN (by rw [List.length_map]; omega)) ?_
      conv => whnf
      repeat (refine Need.mk ?_ ?_; exact nd; conv => whnf)
      exact .inl ⟨sh ++ [0], by rw [List.length_append, hs]; rfl, gs 0 (by decide), by rw [List.map_append]; rfl, rfl⟩
    · conv => whnf
      repeat (refine Need.mk ?_ ?_; exact nd; conv => whnf)
      refine Need.mk (ltN (by rw [List.length_map]; omega)) ?_
      conv => whnf
      repeat (refine Need.mk ?_ ?_; exact nd; conv => whnf)
      exact .inl ⟨sh ++ [e.s], by rw [List.length_append, hs]; rfl, gs e.s es, by rw [List.map_append]; rfl, rfl⟩
  · rintro s' S' ⟨sh, hs, hg, rfl, rfl⟩
    rw [rngD_len] at hs
    conv => whnf
    repeat (refine Need.mk ?_ ?_; exact nd; conv => whnf)
    exact RwF (f := .scrape p c sh) (q _ ⟨hp, hc.1, by omega, by omega, hg⟩)
def sp__law_true_facts (a : Ad) : SpP := fun ds Q _ => ∃ (w : Wld) (m k : Int), ds = [w.d, .int k] ∧ w.ok m ∧ 0 ≤ k ∧ k ≤ 7 ∧ ∀ fs : List Fc, (∀ f ∈ fs, f.good w.ps m) → fs.length ≤ 40 → Q (.lst (fs.map Fc.d))
theorem mn__law_true_facts (a : Ad) : ∀ ds (Q Q' : D → Prop) E, sp__law_true_facts a ds Q E → (∀ d, Q d → Q' d) → sp__law_true_facts a ds Q' E := fun _ _ _ _ ⟨w, m, k, h1, h2, h3, h4, q⟩ i => ⟨w, m, k, h1, h2, h3, h4, fun fs g l => i _ (q fs g l)⟩
theorem ok__law_true_facts (T : Txt K w mg a) (G__law_had : Fx P w K mg base 1 a.a__law_had a.d__law_had "_law_had" ["_law_row", "_law_part", "_law_gap"] (lp (sp__law_had a))) (G__law_true_scrape : Fx P w K mg base 2 a.a__law_true_scrape a.d__law_true_scrape "_law_true_scrape" ["_law_draw", "_law_world_here", "_law_part"] (ld (sp__law_true_scrape a))) (G__law_pull : Fx P w K mg base 1 a.a__law_pull a.d__law_pull "_law_pull" ["_law_draw", "_law_many"] (ld (sp__law_pull a))) (G__law_true_pair : Fx P w K mg base 2 a.a__law_true_pair a.d__law_true_pair "_law_true_pair" ["_law_draw", "_law_world_here", "_law_coats"] (ld (sp__law_true_pair a))) (G__law_true_put : Fx P w K mg base 2 a.a__law_true_put a.d__law_true_put "_law_true_put" ["_law_draw", "_law_world_here"] (ld (sp__law_true_put a))) : Fx P w K mg base 3 a.a__law_true_facts a.d__law_true_facts "_law_true_facts" ["_law_draw", "_law_world_here", "_law_many"] (ldM (sp__law_true_facts a)) := by
  refine ⟨fn_WM T.F__law_true_facts sc__law_true_facts (by (intro ds Q E h; first | (obtain ⟨h, hr⟩ := h; subst h; (try (obtain ⟨_, hr⟩ := hr)); (try (obtain ⟨_, hr⟩ := hr)); (try (obtain ⟨_, hr⟩ := hr)); (try (obtain ⟨_, hr⟩ := hr)); (all_goals exact ⟨rfl, by (repeat' (first | trivial | exact lmD_lt | exact Ev.lt | exact evs_lt _ | exact itDs_lt _ | exact prs_lt _ | exact Wld.lt | exact rows_lt | exact deeds_lt | exact pasts_lt | exact D.lts_ints _ | exact D.lts_strs _ | exact Fc.lt | exact Dd.lt | exact fcs_lt _ | exact nfs_lt _ | exact nf_lt | exact D.pl.lt (by assumption) | exact D.dp.lt (by assumption) | exact D.dps.lt (by assumption) | exact D.pls.lt (by assumption) | assumption | refine ⟨?_, ?_⟩))⟩)) | (obtain ⟨_, h, hr⟩ := h; subst h; (try (obtain ⟨_, hr⟩ := hr)); (try (obtain ⟨_, hr⟩ := hr)); (try (obtain ⟨_, hr⟩ := hr)); (try (obtain ⟨_, hr⟩ := hr)); (all_goals exact ⟨rfl, by (repeat' (first | trivial | exact lmD_lt | exact Ev.lt | exact evs_lt _ | exact itDs_lt _ | exact prs_lt _ | exact Wld.lt | exact rows_lt | exact deeds_lt | exact pasts_lt | exact D.lts_ints _ | exact D.lts_strs _ | exact Fc.lt | exact Dd.lt | exact fcs_lt _ | exact nfs_lt _ | exact nf_lt | exact D.pl.lt (by assumption) | exact D.dp.lt (by assumption) | exact D.dps.lt (by assumption) | exact D.pls.lt (by assumption) | assumption | refine ⟨?_, ?_⟩))⟩)) | (obtain ⟨_, _, h, hr⟩ := h; subst h; (try (obtain ⟨_, hr⟩ := hr)); (try (obtain ⟨_, hr⟩ := hr)); (try (obtain ⟨_, hr⟩ := hr)); (try (obtain ⟨_, hr⟩ := hr)); (all_goals exact ⟨rfl, by (repeat' (first | trivial | exact lmD_lt | exact Ev.lt | exact evs_lt _ | exact itDs_lt _ | exact prs_lt _ | exact Wld.lt | exact rows_lt | exact deeds_lt | exact pasts_lt | exact D.lts_ints _ | exact D.lts_strs _ | exact Fc.lt | exact Dd.lt | exact fcs_lt _ | exact nfs_lt _ | exact nf_lt | exact D.pl.lt (by assumption) | exact D.dp.lt (by assumption) | exact D.dps.lt (by assumption) | exact D.pls.lt (by assumption) | assumption | refine ⟨?_, ?_⟩))⟩)) | (obtain ⟨_, _, _, h, hr⟩ := h; subst h; (try (obtain ⟨_, hr⟩ := hr)); (try (obtain ⟨_, hr⟩ := hr)); (try (obtain ⟨_, hr⟩ := hr)); (try (obtain ⟨_, hr⟩ := hr)); (all_goals exact ⟨rfl, by (repeat' (first | trivial | exact lmD_lt | exact Ev.lt | exact evs_lt _ | exact itDs_lt _ | exact prs_lt _ | exact Wld.lt | exact rows_lt | exact deeds_lt | exact pasts_lt | exact D.lts_ints _ | exact D.lts_strs _ | exact Fc.lt | exact Dd.lt | exact fcs_lt _ | exact nfs_lt _ | exact nf_lt | exact D.pl.lt (by assumption) | exact D.dp.lt (by assumption) | exact D.dps.lt (by assumption) | exact D.pls.lt (by assumption) | assumption | refine ⟨?_, ?_⟩))⟩)) | (obtain ⟨_, _, _, _, h, hr⟩ := h; subst h; (try (obtain ⟨_, hr⟩ := hr)); (try (obtain ⟨_, hr⟩ := hr)); (try (obtain ⟨_, hr⟩ := hr)); (try (obtain ⟨_, hr⟩ := hr)); (all_goals exact ⟨rfl, by (repeat' (first | trivial | exact lmD_lt | exact Ev.lt | exact evs_lt _ | exact itDs_lt _ | exact prs_lt _ | exact Wld.lt | exact rows_lt | exact deeds_lt | exact pasts_lt | exact D.lts_ints _ | exact D.lts_strs _ | exact Fc.lt | exact Dd.lt | exact fcs_lt _ | exact nfs_lt _ | exact nf_lt | exact D.pl.lt (by assumption) | exact D.dp.lt (by assumption) | exact D.dps.lt (by assumption) | exact D.pls.lt (by assumption) | assumption | refine ⟨?_, ?_⟩))⟩)) | (obtain ⟨_, _, _, _, _, h, hr⟩ := h; subst h; (try (obtain ⟨_, hr⟩ := hr)); (try (obtain ⟨_, hr⟩ := hr)); (try (obtain ⟨_, hr⟩ := hr)); (try (obtain ⟨_, hr⟩ := hr)); (all_goals exact ⟨rfl, by (repeat' (first | trivial | exact lmD_lt | exact Ev.lt | exact evs_lt _ | exact itDs_lt _ | exact prs_lt _ | exact Wld.lt | exact rows_lt | exact deeds_lt | exact pasts_lt | exact D.lts_ints _ | exact D.lts_strs _ | exact Fc.lt | exact Dd.lt | exact fcs_lt _ | exact nfs_lt _ | exact nf_lt | exact D.pl.lt (by assumption) | exact D.dp.lt (by assumption) | exact D.dps.lt (by assumption) | exact D.pls.lt (by assumption) | assumption | refine ⟨?_, ?_⟩))⟩)) | (obtain ⟨h, _⟩ := h; exact (by simp at h)))) (mn__law_true_facts a) fun cdv A outer s H E φ T0 W' room wl => ⟨_, (lss_consW [5] (ls_asg (lv 1) (lg_T (t := (.tp [(.nm 3), (.nm 4), (.nm 5)])) (tg_tp rfl (tg_cons (tg_nm 3 sc__law_true_facts.nd) (tg_cons (tg_nm 4 sc__law_true_facts.nd) (tg_cons (tg_nm 5 sc__law_true_facts.nd) tg_nil))))))
    (lss_cons (ls_set 6 (le_lst la_nil) sc__law_true_facts.nd)
    (lss_consW [7] (ls_for (passes_of rfl) rfl (li_list (lv 3)) (lg_name (i := 7) sc__law_true_facts.nd rfl)
    (lss_consW [7] (ls_set 6 (le_op oo_add (lv 6) (le_lc false [("_law_coat", 13)] (.nm 13) rfl sc__law_true_facts.nd (li_rng1 rfl T.n_range (la_cons (le_fx G__law_had (room.mono (by decide)) (takes_of rfl rfl rfl rfl) wl (la_cons (lv 4) (la_cons (lv 7) (la_cons (le_callB cc_len rfl T.n_len (by rfl) (la_cons (lv 4) la_nil)) la_nil)))) la_nil)) (by (conv => { arg 1; whnf }); (conv => { arg 2; whnf }); exact ⟨rfl, by decide +kernel, by decide +kernel, by decide +kernel, by decide +kernel⟩) (fun _ _ _ _ _ => (tg_nm 13 sc__law_true_facts.nd)) (fun _ _ _ _ _ => lts_nil) (fun _ _ _ _ _ => (le_tup (la_cons (lv 7) (la_cons (lv 13) la_nil)))))) sc__law_true_facts.nd)
    lss_nil))
    (lss_cons (ls_set 8 (le_lstM la_nil) sc__law_true_facts.nd)
    (lss_consW [3, 7] (ls_for (passes_of rfl) rfl (li_list (lv 3)) (lg_name (i := 7) sc__law_true_facts.nd rfl)
    (lss_consW [7] (ls_if (lt_cmp (oo_inD (units65 room)) (le_tup (la_cons (lv 7) (la_cons le_int la_nil))) (lv 6) (by rfl)) (lss_consW [7] (ls_expr (le_bm PySem.F.plainAttrs_list PySem.F.slot_list_append PySem.F.type_list_append mm_append (lv 8) (la_cons (le_fx G__law_true_scrape (room.mono (by decide)) (takes_of rfl rfl rfl rfl) wl (la_cons (lv 0) (la_cons (lv 1) (la_cons (lv 7) la_nil)))) la_nil)))
    lss_nil) lss_nil)
    lss_nil))
    (lss_consW [0, 1, 2, 4, 6, 9, 10, 11, 12] (ls_for (passes_of rfl) rfl (li_rng1 rfl T.n_range (la_cons (lv 2) la_nil)) (lg_name (i := 9) sc__law_true_facts.nd rfl)
    (lss_consM (ls_set 10 (le_fx G__law_pull (room.mono (by decide)) (takes_of rfl rfl rfl rfl) wl (la_cons (lv 0) (la_cons le_int la_nil))) sc__law_true_facts.nd)
    (lss_w [9] (lss_consM (ls_if (LW.t (lw_and (lt_cmp (oo_eq room.units) (lv 10) le_int (by rfl)) (lw_and1 (lt_cmp (oo_ne room.units) (lv 6) (le_lst la_nil) (by rfl))))) (lss_cons (ls_expr (le_bm PySem.F.plainAttrs_list PySem.F.slot_list_append PySem.F.type_list_append mm_append (lv 8) (la_cons (le_fx G__law_true_pair (room.mono (by decide)) (takes_of rfl rfl rfl rfl) wl (la_cons (lv 0) (la_cons (lv 1) (la_cons (lv 6) la_nil)))) la_nil)))
    lss_nil) lss_nil)
    (lss_consM (ls_if (lt_cmp (oo_eq room.units) (lv 10) le_int (by rfl)) (lss_cons (ls_set 11 (le_fx G__law_true_put (room.mono (by decide)) (takes_of rfl rfl rfl rfl) wl (la_cons (lv 0) (la_cons (lv 1) la_nil))) sc__law_true_facts.nd)
    (lss_consW [11] (ls_if (LW.t (lw_or (lt_cmp (oo_ne room.units) (le_ix ox_seq (lv 11) le_int) le_str (by rfl)) (lw_or1 (lt_cmp (oo_inD (units65 room)) (le_tup (la_cons (le_ix ox_seq (lv 11) le_int) (la_cons le_int la_nil))) (lv 6) (by rfl))))) (lss_consW [11] (ls_expr (le_bm PySem.F.plainAttrs_list PySem.F.slot_list_append PySem.F.type_list_append mm_append (lv 8) (la_cons (lv 11) la_nil)))
    lss_nil) lss_nil)
    lss_nil)) lss_nil)
    (lss_w [11] (lss_consM (ls_if (LW.t (lw_and (lt_cmp (oo_eq room.units) (lv 10) le_int (by rfl)) (lw_and1 (lt_cmp (oo_ne room.units) (lv 6) (le_lst la_nil) (by rfl))))) (lss_cons (ls_set 12 (le_ix ox_seq (le_ix ox_seq (lv 4) (le_fx G__law_pull (room.mono (by decide)) (takes_of rfl rfl rfl rfl) wl (la_cons (lv 0) (la_cons (le_callB cc_len rfl T.n_len (by rfl) (la_cons (lv 4) la_nil)) la_nil)))) le_int) sc__law_true_facts.nd)
    (lss_consW [12] (ls_expr (le_bm PySem.F.plainAttrs_list PySem.F.slot_list_append PySem.F.type_list_append mm_append (lv 8) (la_cons (le_tup (la_cons le_str (la_cons (lv 12) (la_cons (le_callB (cc_min1 rfl (u1 room.units)) rfl T.n_min (by rfl) (la_cons (le_lc false [("_law_event", 14)] (.nm 14) rfl sc__law_true_facts.nd (li_list (lv 4)) (by (conv => { arg 1; whnf }); (conv => { arg 2; whnf }); exact ⟨rfl, by decide +kernel, by decide +kernel, by decide +kernel, by decide +kernel⟩) (fun _ _ _ _ _ => (tg_nm 14 sc__law_true_facts.nd)) (fun _ _ _ _ _ => (lts_one (lt_cmp (oo_eq room.units) (le_ix ox_seq (lv 14) le_int) (lv 12) (by rfl)))) (fun _ _ _ _ _ => (le_ix ox_seq (lv 14) le_int))) la_nil)) la_nil)))) la_nil)))
    lss_nil)) lss_nil)
    (lss_w [12] (lss_consW [10] (ls_if (LW.t (lw_and (lt_cmp (oo_eq room.units) (lv 10) le_int (by rfl)) (lw_and1 (lt_cmp (oo_ne room.units) (lv 6) (le_lst la_nil) (by rfl))))) (lss_consW [10] (ls_expr (le_bm PySem.F.plainAttrs_list PySem.F.slot_list_append PySem.F.type_list_append mm_append (lv 8) (la_cons (le_fx G__law_true_scrape (room.mono (by decide)) (takes_of rfl rfl rfl rfl) wl (la_cons (lv 0) (la_cons (lv 1) (la_cons (le_ix ox_seq (le_ix ox_seq (lv 6) (le_fx G__law_pull (room.mono (by decide)) (takes_of rfl rfl rfl rfl) wl (la_cons (lv 0) (la_cons (le_callB cc_len rfl T.n_len (by rfl) (la_cons (lv 6) la_nil)) la_nil)))) le_int) la_nil)))) la_nil)))
    lss_nil) lss_nil)
    lss_nil)))))))))
    (lss_cons (ls_ret (lv 8))
    lss_nil))))))), fun ds S R X n h hW => ?_⟩, T.m__law_true_facts, T.F__law_true_facts.kp, T.b__law_true_facts⟩
  obtain ⟨r, Q, E, h, rfl, rfl, rfl, rfl, rfl⟩ := h
  subst hW
  obtain ⟨⟨ps, row, ups⟩, m, k, rfl, hok, k0, k1, q⟩ := h
  have hlen : row.length ≤ 13 := hok.len
  have hrow : ∀ e ∈ row, EvOk ps e := hok.row
  have hhad : ∀ p ∈ ps, (hadL row p : Int) ≤ m := hok.had
  have hm5 := hok.m5
  have hps : PsOk ps := hok.ps
  have q : ∀ fs : List Fc, (∀ f ∈ fs, f.good ps m) → fs.length ≤ 40 → Q (.lst (fs.map Fc.d)) := q
  have hpl := hps.len
  conv => whnf
  repeat (refine Need.mk ?_ ?_; exact nd; conv => whnf)
  refine ⟨_, rfl, ?_⟩
  conv => whnf
  repeat (refine Need.mk ?_ ?_; exact nd; conv => whnf)
  refine ⟨fun i s' S' => S' = [.drw] ∧ ∃ (cs : List (Int × Int)) (t5 t7 t13 : Option D), cs.length ≤ 5 * i ∧ (∀ c ∈ cs, c.1 ∈ ps ∧ 0 ≤ c.2 ∧ c.2 < hadL row c.1) ∧ s' = [some (.ref 0), some (Wld.mk ps row ups).d, some (.int k), some (.lst (ps.map D.int)), some (.lst (row.map Ev.d)), t5, some (.lst (cs.map pr)), t7, none, none, none, none, none, t13, none], ⟨rfl, [], _, _, _, Nat.zero_le _, fun _ h => absurd h List.not_mem_nil, rfl⟩, fun _ _ _ _ _ => rfl, ?_, ?_⟩
  · rintro i x s' S' hi ⟨rfl, cs, t5, t7, t13, hcl, hcs, rfl⟩
    obtain ⟨p, hp, rfl⟩ := int_at (show (ps.map D.int)[i]? = some x from hi)
    have hpi : i < ps.length := (List.getElem?_eq_some_iff.mp hp).1
    have hpm : p ∈ ps := List.mem_of_getElem? hp
    have hh := hhad p hpm
    conv => whnf
    repeat (refine Need.mk ?_ ?_; exact nd; conv => whnf)
    refine ⟨row, p, row.length, by rw [List.length_map]; rfl, by omega, ?_⟩
    rw [List.take_length]
    conv => whnf
    repeat (refine Need.mk ?_ ?_; exact nd; conv => whnf)
    refine ⟨by omega, by omega, ?_⟩
    refine lc_fmap (fun i : Nat => D.int (0 + (i : Int))) (fun _ => true) (fun i => pr (p, 0 + (i : Int))) rfl (by rw [List.length_range]; exact ltN (by omega)) (fun _ => trivial) ?_ ?_
    · intro j z acc hz
      refine ⟨_, rfl, ⟨trivial, trivial, trivial⟩, fun R r => r, fun _ R r => ?_⟩
      conv => whnf
      repeat (refine Need.mk ?_ ?_; exact nd; conv => whnf)
      exact r
    have hrl : ((List.range (hadL row p : Int).toNat).filter fun _ => true).length = hadL row p := by rw [List.filter_eq_self.mpr (fun _ _ => rfl), List.length_range, Int.toNat_natCast]
    conv => whnf
    repeat (refine Need.mk ?_ ?_; exact nd; conv => whnf)
    refine Need.mk (by rw [List.length_map, List.length_map, hrl]; exact leN (by omega)) ?_
    conv => whnf
    repeat (refine Need.mk ?_ ?_; exact nd; conv => whnf)
    have e : cs.map pr ++ ((List.range (hadL row p : Int).toNat).filter fun _ => true).map (fun i : Nat => pr (p, 0 + (i : Int))) = (cs ++ ((List.range (hadL row p : Int).toNat).filter fun _ => true).map (fun i : Nat => (p, 0 + (i : Int)))).map pr := by
      rw [List.map_append, List.map_map]; rfl
    rw [e]
    have h1 : (cs ++ ((List.range (hadL row p : Int).toNat).filter fun _ => true).map (fun i : Nat => (p, 0 + (i : Int)))).length ≤ 5 * (i + 1) := by
      rw [List.length_append, List.length_map, hrl]; omega
    exact .inl ⟨rfl, _, _, _, _, h1, fun c hc => (List.mem_append.mp hc).elim (hcs c) fun hc => by
        obtain ⟨j, hj, rfl⟩ := List.mem_map.mp hc
        have := List.mem_range.mp (List.mem_filter.mp hj).1
        exact ⟨hpm, by show 0 ≤ 0 + (j : Int); omega, by show 0 + (j : Int) < (hadL row p : Int); omega⟩, rfl⟩
  rintro s' S' ⟨rfl, cs, t5, t7, t13, hcl, hcs, rfl⟩
  have hcl : cs.length ≤ 5 * ps.length := by rw [List.length_map] at hcl; exact hcl
  have hcl : cs.length ≤ 20 := by omega
  conv => whnf
  repeat (refine Need.mk ?_ ?_; exact nd; conv => whnf)
  refine ⟨fun i s' S' => ∃ (fs : List Fc) (t5 t7 t13 : Option D), fs.length ≤ i ∧ (∀ f ∈ fs, f.good ps m) ∧ S' = [.drw, .lst (fs.map Fc.d)] ∧ s' = [some (.ref 0), some (Wld.mk ps row ups).d, some (.int k), some (.lst (ps.map D.int)), some (.lst (row.map Ev.d)), t5, some (.lst (cs.map pr)), t7, some (.ref 1), none, none, none, none, t13, none], ⟨[], _, _, _, Nat.zero_le _, fun _ h => absurd h List.not_mem_nil, rfl, rfl⟩, fun _ _ _ _ _ => rfl, ?_, ?_⟩
  · rintro i x s' S' hi ⟨fs, t5, t7, t13, hfl, hfs, rfl, rfl⟩
    obtain ⟨p, hp, rfl⟩ := int_at (show (ps.map D.int)[i]? = some x from hi)
    have hpi : i < ps.length := (List.getElem?_eq_some_iff.mp hp).1
    have hpm : p ∈ ps := List.mem_of_getElem? hp
    conv => whnf
    repeat (refine Need.mk ?_ ?_; exact nd; conv => whnf)
    refine Need.mk ⟨⟨trivial, trivial, trivial⟩, prs_pl cs⟩ ?_
    conv => whnf
    repeat (refine Need.mk ?_ ?_; exact nd; conv => whnf)
    rw [if_neg Bool.false_ne_true, any_prs]
    refine brd (fun hin => ?_) (fun hin => ?_)
    · conv => whnf
      repeat (refine Need.mk ?_ ?_; exact nd; conv => whnf)
      refine ⟨_, m, p, rfl, hok, hpm, by have h2 : (0 : Int) < hadL row p := ((hcs _ hin).2).2; show 1 ≤ hadL row p; omega, fun f hf => ?_⟩
      have hf : f.good ps m := hf
      conv => whnf
      repeat (refine Need.mk ?_ ?_; exact nd; conv => whnf)
      refine Need.mk (ltN (by rw [List.length_map]; omega)) ?_
      conv => whnf
      repeat (refine Need.mk ?_ ?_; exact nd; conv => whnf)
      refine .inl ⟨fs ++ [f], _, _, _, by rw [List.length_append]; show fs.length + 1 ≤ i + 1; omega, fun g hg => (List.mem_append.mp hg).elim (hfs g) fun hg => by rw [List.mem_singleton.mp hg]; exact hf, by rw [List.map_append]; rfl, rfl⟩
    · conv => whnf
      repeat (refine Need.mk ?_ ?_; exact nd; conv => whnf)
      exact .inl ⟨fs, _, _, _, by omega, hfs, rfl, rfl⟩
  rintro s' S' ⟨fs, t5, t7, t13, hfl, hfs, rfl, rfl⟩
  have hfl : fs.length ≤ ps.length := by rw [List.length_map] at hfl; exact hfl
  conv => whnf
  repeat (refine Need.mk ?_ ?_; exact nd; conv => whnf)
  refine ⟨by omega, by omega, ?_⟩
  refine ⟨fun i s' S' => ∃ (fs : List Fc) (t2 t3 t5 t7 t9 t11 t12 t13 t14 : Option D), fs.length ≤ 4 + 4 * i ∧ (∀ f ∈ fs, f.good ps m) ∧ S' = [.drw, .lst (fs.map Fc.d)] ∧ s' = [some (.ref 0), some (Wld.mk ps row ups).d, t2, t3, some (.lst (row.map Ev.d)), t5, some (.lst (cs.map pr)), t7, some (.ref 1), t9, none, t11, t12, t13, t14], ⟨fs, _, _, _, _, _, _, _, _, _, by omega, hfs, rfl, rfl⟩, fun _ _ _ _ _ => trivial, ?_, ?_⟩
  · rintro i x s' S' hi ⟨fs, t2, t3, t5, t7, t9, t11, t12, t13, t14, hfl, hfs, rfl, rfl⟩
    obtain ⟨hik, rfl⟩ := rngD_get hi
    conv => whnf
    repeat (refine Need.mk ?_ ?_; exact nd; conv => whnf)
    refine sM (fun s' S' => ∃ (way : Int) (fs : List Fc) (t2 t3 t5 t7 t9 t11 t12 t13 t14 : Option D), fs.length ≤ 4 + 4 * i ∧ (∀ f ∈ fs, f.good ps m) ∧ S' = [.drw, .lst (fs.map Fc.d)] ∧ s' = [some (.ref 0), some (Wld.mk ps row ups).d, t2, t3, some (.lst (row.map Ev.d)), t5, some (.lst (cs.map pr)), t7, some (.ref 1), t9, some (.int way), t11, t12, t13, t14]) ?_ ?_
    · conv => whnf
      repeat (refine Need.mk ?_ ?_; exact nd; conv => whnf)
      refine ⟨_, rfl, ⟨by first | decide | omega, by first | decide | omega⟩, fun n n0 n1 => ?_⟩
      exact ⟨n, fs, _, _, _, _, _, _, _, _, _, hfl, hfs, rfl, rfl⟩
    rintro s' S' ⟨way, fs, t2, t3, t5, t7, t9, t11, t12, t13, t14, hfl, hfs, rfl, rfl⟩
    conv => whnf
    repeat (refine Need.mk ?_ ?_; exact nd; conv => whnf)
    refine sM (fun s' S' => ∃ (fs : List Fc) (t2 t3 t5 t7 t9 t11 t12 t13 t14 : Option D), fs.length ≤ 4 + 4 * i + 1 ∧ (∀ f ∈ fs, f.good ps m) ∧ S' = [.drw, .lst (fs.map Fc.d)] ∧ s' = [some (.ref 0), some (Wld.mk ps row ups).d, t2, t3, some (.lst (row.map Ev.d)), t5, some (.lst (cs.map pr)), t7, some (.ref 1), t9, some (.int way), t11, t12, t13, t14]) ?_ ?_
    · conv => whnf
      repeat (refine Need.mk ?_ ?_; exact nd; conv => whnf)
      rw [if_neg Bool.false_ne_true, seqI]
      refine brd (fun hw => ?_) (fun hw => ?_)
      · conv => whnf
        repeat (refine Need.mk ?_ ?_; exact nd; conv => whnf)
        refine Need.mk ⟨prs_pl cs, trivial⟩ ?_
        conv => whnf
        repeat (refine Need.mk ?_ ?_; exact nd; conv => whnf)
        rw [if_pos rfl, show (D.see [O.drw, O.lst (fs.map Fc.d)] (D.lst (cs.map pr))).eqd (D.see [O.drw, O.lst (fs.map Fc.d)] (D.lst [])) = decide (cs.map pr = []) from eqds_nil0 _]
        refine bnd (fun he => ?_) (fun hne => ?_)
        · conv => whnf
          repeat (refine Need.mk ?_ ?_; exact nd; conv => whnf)
          exact ⟨fs, _, _, _, _, _, _, _, _, _, by omega, hfs, rfl, rfl⟩
        · conv => whnf
          repeat (refine Need.mk ?_ ?_; exact nd; conv => whnf)
          refine ⟨_, m, cs, rfl, hok, fun h => hne (by rw [h]; rfl), by omega, hcs, fun f hf => ?_⟩
          have hf : f.good ps m := hf
          conv => whnf
          repeat (refine Need.mk ?_ ?_; exact nd; conv => whnf)
          refine Need.mk (ltN (by rw [List.length_map]; omega)) ?_
          conv => whnf
          repeat (refine Need.mk ?_ ?_; exact nd; conv => whnf)
          exact ⟨fs ++ [f], _, _, _, _, _, _, _, _, _, by rw [List.length_append]; show fs.length + 1 ≤ _; omega, fun g hg => (List.mem_append.mp hg).elim (hfs g) fun hg => by rw [List.mem_singleton.mp hg]; exact hf, by rw [List.map_append]; rfl, rfl⟩
      · conv => whnf
        repeat (refine Need.mk ?_ ?_; exact nd; conv => whnf)
        exact ⟨fs, _, _, _, _, _, _, _, _, _, by omega, hfs, rfl, rfl⟩
    rintro s' S' ⟨fs, t2, t3, t5, t7, t9, t11, t12, t13, t14, hfl, hfs, rfl, rfl⟩
    conv => whnf
    repeat (refine Need.mk ?_ ?_; exact nd; conv => whnf)
    refine sM (fun s' S' => ∃ (fs : List Fc) (t2 t3 t5 t7 t9 t11 t12 t13 t14 : Option D), fs.length ≤ 4 + 4 * i + 2 ∧ (∀ f ∈ fs, f.good ps m) ∧ S' = [.drw, .lst (fs.map Fc.d)] ∧ s' = [some (.ref 0), some (Wld.mk ps row ups).d, t2, t3, some (.lst (row.map Ev.d)), t5, some (.lst (cs.map pr)), t7, some (.ref 1), t9, some (.int way), t11, t12, t13, t14]) ?_ ?_
    · conv => whnf
      repeat (refine Need.mk ?_ ?_; exact nd; conv => whnf)
      rw [if_neg Bool.false_ne_true, seqI]
      refine brd (fun hw => ?_) (fun hw => ?_)
      · conv => whnf
        repeat (refine Need.mk ?_ ?_; exact nd; conv => whnf)
        refine ⟨_, m, rfl, hok, fun f hf => ?_⟩
        have hf : f.good ps m := hf
        cases f with
        | scrape p c sh =>
          conv => whnf
          repeat (refine Need.mk ?_ ?_; exact nd; conv => whnf)
          refine Need.mk ⟨⟨trivial, trivial, trivial⟩, prs_pl cs⟩ ?_
          conv => whnf
          repeat (refine Need.mk ?_ ?_; exact nd; conv => whnf)
          rw [if_neg Bool.false_ne_true, any_prs]
          refine brd (fun hin => ?_) (fun hin => ?_)
          · conv => whnf
            repeat (refine Need.mk ?_ ?_; exact nd; conv => whnf)
            refine Need.mk (ltN (by rw [List.length_map]; omega)) ?_
            conv => whnf
            repeat (refine Need.mk ?_ ?_; exact nd; conv => whnf)
            exact ⟨fs ++ [.scrape p c sh], _, _, _, _, _, _, _, _, _, by rw [List.length_append]; show fs.length + 1 ≤ _; omega, fun g hg => (List.mem_append.mp hg).elim (hfs g) fun hg => by rw [List.mem_singleton.mp hg]; exact hf, by rw [List.map_append]; rfl, rfl⟩
          · conv => whnf
            repeat (refine Need.mk ?_ ?_; exact nd; conv => whnf)
            exact ⟨fs, _, _, _, _, _, _, _, _, _, by omega, hfs, rfl, rfl⟩
        | cover p l d =>
          conv => whnf
          repeat (refine Need.mk ?_ ?_; exact nd; conv => whnf)
          refine Need.mk (ltN (by rw [List.length_map]; omega)) ?_
          conv => whnf
          repeat (refine Need.mk ?_ ?_; exact nd; conv => whnf)
          exact ⟨fs ++ [(.cover p l d)], _, _, _, _, _, _, _, _, _, by rw [List.length_append]; show fs.length + 1 ≤ _; omega, fun g hg => (List.mem_append.mp hg).elim (hfs g) fun hg => by rw [List.mem_singleton.mp hg]; exact hf, by rw [List.map_append]; rfl, rfl⟩
        | moved p c l d =>
          conv => whnf
          repeat (refine Need.mk ?_ ?_; exact nd; conv => whnf)
          refine Need.mk (ltN (by rw [List.length_map]; omega)) ?_
          conv => whnf
          repeat (refine Need.mk ?_ ?_; exact nd; conv => whnf)
          exact ⟨fs ++ [(.moved p c l d)], _, _, _, _, _, _, _, _, _, by rw [List.length_append]; show fs.length + 1 ≤ _; omega, fun g hg => (List.mem_append.mp hg).elim (hfs g) fun hg => by rw [List.mem_singleton.mp hg]; exact hf, by rw [List.map_append]; rfl, rfl⟩
        | year p c f l =>
          conv => whnf
          repeat (refine Need.mk ?_ ?_; exact nd; conv => whnf)
          refine Need.mk (ltN (by rw [List.length_map]; omega)) ?_
          conv => whnf
          repeat (refine Need.mk ?_ ?_; exact nd; conv => whnf)
          exact ⟨fs ++ [(.year p c f l)], _, _, _, _, _, _, _, _, _, by rw [List.length_append]; show fs.length + 1 ≤ _; omega, fun g hg => (List.mem_append.mp hg).elim (hfs g) fun hg => by rw [List.mem_singleton.mp hg]; exact hf, by rw [List.map_append]; rfl, rfl⟩
        | sold s y =>
          conv => whnf
          repeat (refine Need.mk ?_ ?_; exact nd; conv => whnf)
          refine Need.mk (ltN (by rw [List.length_map]; omega)) ?_
          conv => whnf
          repeat (refine Need.mk ?_ ?_; exact nd; conv => whnf)
          exact ⟨fs ++ [(.sold s y)], _, _, _, _, _, _, _, _, _, by rw [List.length_append]; show fs.length + 1 ≤ _; omega, fun g hg => (List.mem_append.mp hg).elim (hfs g) fun hg => by rw [List.mem_singleton.mp hg]; exact hf, by rw [List.map_append]; rfl, rfl⟩
        | ahead p c o d =>
          conv => whnf
          repeat (refine Need.mk ?_ ?_; exact nd; conv => whnf)
          refine Need.mk (ltN (by rw [List.length_map]; omega)) ?_
          conv => whnf
          repeat (refine Need.mk ?_ ?_; exact nd; conv => whnf)
          exact ⟨fs ++ [(.ahead p c o d)], _, _, _, _, _, _, _, _, _, by rw [List.length_append]; show fs.length + 1 ≤ _; omega, fun g hg => (List.mem_append.mp hg).elim (hfs g) fun hg => by rw [List.mem_singleton.mp hg]; exact hf, by rw [List.map_append]; rfl, rfl⟩
        | same p c o d =>
          conv => whnf
          repeat (refine Need.mk ?_ ?_; exact nd; conv => whnf)
          refine Need.mk (ltN (by rw [List.length_map]; omega)) ?_
          conv => whnf
          repeat (refine Need.mk ?_ ?_; exact nd; conv => whnf)
          exact ⟨fs ++ [(.same p c o d)], _, _, _, _, _, _, _, _, _, by rw [List.length_append]; show fs.length + 1 ≤ _; omega, fun g hg => (List.mem_append.mp hg).elim (hfs g) fun hg => by rw [List.mem_singleton.mp hg]; exact hf, by rw [List.map_append]; rfl, rfl⟩
        | apart p c o d =>
          conv => whnf
          repeat (refine Need.mk ?_ ?_; exact nd; conv => whnf)
          refine Need.mk (ltN (by rw [List.length_map]; omega)) ?_
          conv => whnf
          repeat (refine Need.mk ?_ ?_; exact nd; conv => whnf)
          exact ⟨fs ++ [(.apart p c o d)], _, _, _, _, _, _, _, _, _, by rw [List.length_append]; show fs.length + 1 ≤ _; omega, fun g hg => (List.mem_append.mp hg).elim (hfs g) fun hg => by rw [List.mem_singleton.mp hg]; exact hf, by rw [List.map_append]; rfl, rfl⟩
      · conv => whnf
        repeat (refine Need.mk ?_ ?_; exact nd; conv => whnf)
        exact ⟨fs, _, _, _, _, _, _, _, _, _, by omega, hfs, rfl, rfl⟩
    rintro s' S' ⟨fs, t2, t3, t5, t7, t9, t11, t12, t13, t14, hfl, hfs, rfl, rfl⟩
    conv => whnf
    repeat (refine Need.mk ?_ ?_; exact nd; conv => whnf)
    refine sM (fun s' S' => ∃ (fs : List Fc) (t2 t3 t5 t7 t9 t11 t12 t13 t14 : Option D), fs.length ≤ 4 + 4 * i + 3 ∧ (∀ f ∈ fs, f.good ps m) ∧ S' = [.drw, .lst (fs.map Fc.d)] ∧ s' = [some (.ref 0), some (Wld.mk ps row ups).d, t2, t3, some (.lst (row.map Ev.d)), t5, some (.lst (cs.map pr)), t7, some (.ref 1), t9, some (.int way), t11, t12, t13, t14]) ?_ ?_
    · conv => whnf
      repeat (refine Need.mk ?_ ?_; exact nd; conv => whnf)
      rw [if_neg Bool.false_ne_true, seqI]
      refine brd (fun hw => ?_) (fun hw => ?_)
      · conv => whnf
        repeat (refine Need.mk ?_ ?_; exact nd; conv => whnf)
        refine Need.mk ⟨prs_pl cs, trivial⟩ ?_
        conv => whnf
        repeat (refine Need.mk ?_ ?_; exact nd; conv => whnf)
        rw [if_pos rfl, show (D.see [O.drw, O.lst (fs.map Fc.d)] (D.lst (cs.map pr))).eqd (D.see [O.drw, O.lst (fs.map Fc.d)] (D.lst [])) = decide (cs.map pr = []) from eqds_nil0 _]
        refine bnd (fun he => ?_) (fun hne => ?_)
        · conv => whnf
          repeat (refine Need.mk ?_ ?_; exact nd; conv => whnf)
          exact ⟨fs, _, _, _, _, _, _, _, _, _, by omega, hfs, rfl, rfl⟩
        · conv => whnf
          repeat (refine Need.mk ?_ ?_; exact nd; conv => whnf)
          have hr1 : 1 ≤ row.length := by
            cases hcs' : cs with
            | nil => exact absurd (by rw [hcs']; rfl) hne
            | cons c r =>
              have h1 := (hcs c (by rw [hcs']; exact List.mem_cons_self)).2
              have h2 := hadL_le (row := row) (p := c.1)
              omega
          rw [List.length_map]
          refine ⟨_, rfl, ⟨by omega, by omega⟩, fun j j0 j1 => ?_⟩
          have hj : j.toNat < row.length := by omega
          have ej : (row.map Ev.d)[j.toNat]? = some (Ev.d row[j.toNat]) := by rw [List.getElem?_map, List.getElem?_eq_getElem hj]; rfl
          have mj := List.getElem_mem hj
          generalize row[j.toNat] = e at ej mj
          have eok := hrow e mj
          conv => whnf
          repeat (refine Need.mk ?_ ?_; exact nd; conv => whnf)
          refine optI (atI_get j0 ej) ?_
          conv => whnf
          repeat (refine Need.mk ?_ ?_; exact nd; conv => whnf)
          refine lc_fmap Ev.d (fun x => decide (x.s = e.s)) (fun x => .int x.y) rfl (ltN (by omega)) (fun _ => rfl) ?_ ?_
          · intro i x acc hi
            refine ⟨_, rfl, trivial, fun R r => ?_, fun _ R r => ?_⟩
            · conv => whnf
              repeat (refine Need.mk ?_ ?_; exact nd; conv => whnf)
              rw [if_neg Bool.false_ne_true, seqI]
              exact r
            · conv => whnf
              repeat (refine Need.mk ?_ ?_; exact nd; conv => whnf)
              exact r
          conv => whnf
          repeat (refine Need.mk ?_ ?_; exact nd; conv => whnf)
          refine optI (asIs_map (fun x : Ev => x.y) _) ?_
          have hmem : e ∈ row.filter fun x => decide (x.s = e.s) := List.mem_filter.mpr ⟨mj, decide_eq_true rfl⟩
          conv => whnf
          repeat (refine Need.mk ?_ ?_; exact nd; conv => whnf)
          refine Need.mk (fun h => by rw [List.map_eq_nil_iff.mp h] at hmem; exact absurd hmem List.not_mem_nil) ?_
          intro mn hmn _
          obtain ⟨x, hx, rfl⟩ := List.mem_map.mp hmn
          have xok := hrow x (List.mem_filter.mp hx).1
          have hf : (Fc.sold e.s x.y).good ps m := ⟨eok.s0, eok.s1, xok.y0, xok.y1⟩
          conv => whnf
          repeat (refine Need.mk ?_ ?_; exact nd; conv => whnf)
          refine Need.mk (ltN (by rw [List.length_map]; omega)) ?_
          conv => whnf
          repeat (refine Need.mk ?_ ?_; exact nd; conv => whnf)
          exact ⟨fs ++ [(.sold e.s x.y)], _, _, _, _, _, _, _, _, _, by rw [List.length_append]; show fs.length + 1 ≤ _; omega, fun g hg => (List.mem_append.mp hg).elim (hfs g) fun hg => by rw [List.mem_singleton.mp hg]; exact hf, by rw [List.map_append]; rfl, rfl⟩
      · conv => whnf
        repeat (refine Need.mk ?_ ?_; exact nd; conv => whnf)
        exact ⟨fs, _, _, _, _, _, _, _, _, _, by omega, hfs, rfl, rfl⟩
    rintro s' S' ⟨fs, t2, t3, t5, t7, t9, t11, t12, t13, t14, hfl, hfs, rfl, rfl⟩
    conv => whnf
    repeat (refine Need.mk ?_ ?_; exact nd; conv => whnf)
    rw [if_neg Bool.false_ne_true, seqI]
    refine brd (fun hw => ?_) (fun hw => ?_)
    · conv => whnf
      repeat (refine Need.mk ?_ ?_; exact nd; conv => whnf)
      refine Need.mk ⟨prs_pl cs, trivial⟩ ?_
      conv => whnf
      repeat (refine Need.mk ?_ ?_; exact nd; conv => whnf)
      rw [if_pos rfl, show (D.see [O.drw, O.lst (fs.map Fc.d)] (D.lst (cs.map pr))).eqd (D.see [O.drw, O.lst (fs.map Fc.d)] (D.lst [])) = decide (cs.map pr = []) from eqds_nil0 _]
      refine bnd (fun he => ?_) (fun hne => ?_)
      · conv => whnf
        repeat (refine Need.mk ?_ ?_; exact nd; conv => whnf)
        exact .inl ⟨fs, _, _, _, _, _, _, _, _, _, by omega, hfs, rfl, rfl⟩
      · conv => whnf
        repeat (refine Need.mk ?_ ?_; exact nd; conv => whnf)
        have hc1 : 1 ≤ cs.length := List.length_pos_iff.mpr fun h => hne (by rw [h]; rfl)
        rw [List.length_map]
        refine ⟨_, rfl, ⟨by omega, by omega⟩, fun j j0 j1 => ?_⟩
        have hj : j.toNat < cs.length := by omega
        have ej : (cs.map pr)[j.toNat]? = some (pr cs[j.toNat]) := by rw [List.getElem?_map, List.getElem?_eq_getElem hj]; rfl
        have mj := hcs _ (List.getElem_mem hj)
        generalize cs[j.toNat] = e at ej mj
        conv => whnf
        repeat (refine Need.mk ?_ ?_; exact nd; conv => whnf)
        refine optI (atI_get j0 ej) ?_
        conv => whnf
        repeat (refine Need.mk ?_ ?_; exact nd; conv => whnf)
        refine ⟨_, m, e.1, rfl, hok, mj.1, by have := mj.2.1; have h2 := mj.2.2; show 1 ≤ hadL row e.1; omega, fun f hf => ?_⟩
        have hf : f.good ps m := hf
        conv => whnf
        repeat (refine Need.mk ?_ ?_; exact nd; conv => whnf)
        refine Need.mk (ltN (by rw [List.length_map]; omega)) ?_
        conv => whnf
        repeat (refine Need.mk ?_ ?_; exact nd; conv => whnf)
        exact .inl ⟨fs ++ [f], _, _, _, _, _, _, _, _, _, by rw [List.length_append]; show fs.length + 1 ≤ _; omega, fun g hg => (List.mem_append.mp hg).elim (hfs g) fun hg => by rw [List.mem_singleton.mp hg]; exact hf, by rw [List.map_append]; rfl, rfl⟩
    · conv => whnf
      repeat (refine Need.mk ?_ ?_; exact nd; conv => whnf)
      exact .inl ⟨fs, _, _, _, _, _, _, _, _, _, by omega, hfs, rfl, rfl⟩
  · rintro s' S' ⟨fs, t2, t3, t5, t7, t9, t11, t12, t13, t14, hfl, hfs, rfl, rfl⟩
    conv => whnf
    repeat (refine Need.mk ?_ ?_; exact nd; conv => whnf)
    rw [rngD_len] at hfl
    exact ⟨rfl, fcs_lt _, q fs hfs (by omega)⟩
def sp__law_numbered (a : Ad) : SpP := fun ds Q _ => ∃ fs : List Fc, ds = [.lst (fs.map Fc.d)] ∧ fs.length ≤ 1000 ∧ ∀ gs : List (Int × Fc), gs.map (·.2) = fs.take 24 → (gs.map (·.1)).Pairwise (· < ·) → (∀ z ∈ gs.map (·.1), 1 ≤ z) → Q (.lst (gs.map nf))
theorem ok__law_numbered (T : Txt K w mg a) (G__law_pull : Fx P w K mg base 1 a.a__law_pull a.d__law_pull "_law_pull" ["_law_draw", "_law_many"] (ld (sp__law_pull a))) : Fx P w K mg base 2 a.a__law_numbered a.d__law_numbered "_law_numbered" ["_law_draw", "_law_rows"] (ld (sp__law_numbered a)) := by
  refine ⟨fn_W T.F__law_numbered sc__law_numbered (by (intro ds Q E h; first | (obtain ⟨h, hr⟩ := h; subst h; (try (obtain ⟨_, hr⟩ := hr)); (try (obtain ⟨_, hr⟩ := hr)); (try (obtain ⟨_, hr⟩ := hr)); (try (obtain ⟨_, hr⟩ := hr)); (all_goals exact ⟨rfl, by (repeat' (first | trivial | exact lmD_lt | exact Ev.lt | exact evs_lt _ | exact itDs_lt _ | exact prs_lt _ | exact Wld.lt | exact rows_lt | exact deeds_lt | exact pasts_lt | exact D.lts_ints _ | exact D.lts_strs _ | exact Fc.lt | exact Dd.lt | exact fcs_lt _ | exact nfs_lt _ | exact nf_lt | exact D.pl.lt (by assumption) | exact D.dp.lt (by assumption) | exact D.dps.lt (by assumption) | exact D.pls.lt (by assumption) | assumption | refine ⟨?_, ?_⟩))⟩)) | (obtain ⟨_, h, hr⟩ := h; subst h; (try (obtain ⟨_, hr⟩ := hr)); (try (obtain ⟨_, hr⟩ := hr)); (try (obtain ⟨_, hr⟩ := hr)); (try (obtain ⟨_, hr⟩ := hr)); (all_goals exact ⟨rfl, by (repeat' (first | trivial | exact lmD_lt | exact Ev.lt | exact evs_lt _ | exact itDs_lt _ | exact prs_lt _ | exact Wld.lt | exact rows_lt | exact deeds_lt | exact pasts_lt | exact D.lts_ints _ | exact D.lts_strs _ | exact Fc.lt | exact Dd.lt | exact fcs_lt _ | exact nfs_lt _ | exact nf_lt | exact D.pl.lt (by assumption) | exact D.dp.lt (by assumption) | exact D.dps.lt (by assumption) | exact D.pls.lt (by assumption) | assumption | refine ⟨?_, ?_⟩))⟩)) | (obtain ⟨_, _, h, hr⟩ := h; subst h; (try (obtain ⟨_, hr⟩ := hr)); (try (obtain ⟨_, hr⟩ := hr)); (try (obtain ⟨_, hr⟩ := hr)); (try (obtain ⟨_, hr⟩ := hr)); (all_goals exact ⟨rfl, by (repeat' (first | trivial | exact lmD_lt | exact Ev.lt | exact evs_lt _ | exact itDs_lt _ | exact prs_lt _ | exact Wld.lt | exact rows_lt | exact deeds_lt | exact pasts_lt | exact D.lts_ints _ | exact D.lts_strs _ | exact Fc.lt | exact Dd.lt | exact fcs_lt _ | exact nfs_lt _ | exact nf_lt | exact D.pl.lt (by assumption) | exact D.dp.lt (by assumption) | exact D.dps.lt (by assumption) | exact D.pls.lt (by assumption) | assumption | refine ⟨?_, ?_⟩))⟩)) | (obtain ⟨_, _, _, h, hr⟩ := h; subst h; (try (obtain ⟨_, hr⟩ := hr)); (try (obtain ⟨_, hr⟩ := hr)); (try (obtain ⟨_, hr⟩ := hr)); (try (obtain ⟨_, hr⟩ := hr)); (all_goals exact ⟨rfl, by (repeat' (first | trivial | exact lmD_lt | exact Ev.lt | exact evs_lt _ | exact itDs_lt _ | exact prs_lt _ | exact Wld.lt | exact rows_lt | exact deeds_lt | exact pasts_lt | exact D.lts_ints _ | exact D.lts_strs _ | exact Fc.lt | exact Dd.lt | exact fcs_lt _ | exact nfs_lt _ | exact nf_lt | exact D.pl.lt (by assumption) | exact D.dp.lt (by assumption) | exact D.dps.lt (by assumption) | exact D.pls.lt (by assumption) | assumption | refine ⟨?_, ?_⟩))⟩)) | (obtain ⟨_, _, _, _, h, hr⟩ := h; subst h; (try (obtain ⟨_, hr⟩ := hr)); (try (obtain ⟨_, hr⟩ := hr)); (try (obtain ⟨_, hr⟩ := hr)); (try (obtain ⟨_, hr⟩ := hr)); (all_goals exact ⟨rfl, by (repeat' (first | trivial | exact lmD_lt | exact Ev.lt | exact evs_lt _ | exact itDs_lt _ | exact prs_lt _ | exact Wld.lt | exact rows_lt | exact deeds_lt | exact pasts_lt | exact D.lts_ints _ | exact D.lts_strs _ | exact Fc.lt | exact Dd.lt | exact fcs_lt _ | exact nfs_lt _ | exact nf_lt | exact D.pl.lt (by assumption) | exact D.dp.lt (by assumption) | exact D.dps.lt (by assumption) | exact D.pls.lt (by assumption) | assumption | refine ⟨?_, ?_⟩))⟩)) | (obtain ⟨_, _, _, _, _, h, hr⟩ := h; subst h; (try (obtain ⟨_, hr⟩ := hr)); (try (obtain ⟨_, hr⟩ := hr)); (try (obtain ⟨_, hr⟩ := hr)); (try (obtain ⟨_, hr⟩ := hr)); (all_goals exact ⟨rfl, by (repeat' (first | trivial | exact lmD_lt | exact Ev.lt | exact evs_lt _ | exact itDs_lt _ | exact prs_lt _ | exact Wld.lt | exact rows_lt | exact deeds_lt | exact pasts_lt | exact D.lts_ints _ | exact D.lts_strs _ | exact Fc.lt | exact Dd.lt | exact fcs_lt _ | exact nfs_lt _ | exact nf_lt | exact D.pl.lt (by assumption) | exact D.dp.lt (by assumption) | exact D.dps.lt (by assumption) | exact D.pls.lt (by assumption) | assumption | refine ⟨?_, ?_⟩))⟩)) | (obtain ⟨h, _⟩ := h; exact (by simp at h)))) fun cdv A outer s H E φ T0 W' room wl => ⟨_, (lss_cons (ls_set 2 (le_lstM la_nil) sc__law_numbered.nd)
    (lss_cons (ls_set 3 le_int sc__law_numbered.nd)
    (lss_consW [0, 1, 3, 4] (ls_for (passes_of rfl) rfl (li_list (le_slice (lv 1) lp_none (lp_some le_int))) (lg_name (i := 4) sc__law_numbered.nd rfl)
    (lss_cons (ls_set 3 (le_op oo_add (le_op oo_add (le_op oo_add (lv 3) le_int) (le_op oo_fdiv (le_fx G__law_pull (room.mono (by decide)) (takes_of rfl rfl rfl rfl) wl (la_cons (lv 0) (la_cons le_int la_nil))) le_int)) (le_dget2 (u1 room.units) (le_disp (lps_cons le_int (le_op oo_pow le_int le_int) (lps_cons le_int le_int lps_nil))) (le_fx G__law_pull (room.mono (by decide)) (takes_of rfl rfl rfl rfl) wl (la_cons (lv 0) (la_cons le_int la_nil))) le_int)) sc__law_numbered.nd)
    (lss_consW [4] (ls_expr (le_bm PySem.F.plainAttrs_list PySem.F.slot_list_append PySem.F.type_list_append mm_append (lv 2) (la_cons (le_tup (la_cons (lv 3) (la_cons (lv 4) la_nil))) la_nil)))
    lss_nil)))
    (lss_cons (ls_ret (lv 2))
    lss_nil)))), fun ds S R X n h hW => ?_⟩, T.m__law_numbered, T.F__law_numbered.kp, T.b__law_numbered⟩
  obtain ⟨r, Q, E, h, rfl, rfl, rfl, rfl, rfl⟩ := h
  subst hW
  obtain ⟨fs, rfl, hl, q⟩ := h
  conv => whnf
  rw [show (24 : Int) = ((24 : Nat) : Int) from rfl, cutD_take, ← List.map_take]
  have hl24 : (fs.take 24).length ≤ 24 := List.length_take_le _ _
  generalize fs.take 24 = us at *
  refine ⟨fun i s' S' => ∃ (gs : List (Int × Fc)) (N : Int) (z : Option D), 0 ≤ N ∧ gs.map (·.2) = us.take i ∧ (gs.map (·.1)).Pairwise (· < ·) ∧ (∀ z ∈ gs.map (·.1), 1 ≤ z ∧ z ≤ N) ∧ S' = [.drw, .lst (gs.map nf)] ∧ s' = [some (.ref 0), z, some (.ref 1), some (.int N), none], ⟨[], 0, _, by decide, rfl, List.Pairwise.nil, (fun _ h => nomatch h), rfl, rfl⟩, fun _ _ _ _ _ => rfl, ?_, ?_⟩
  · rintro i x s' S' hi ⟨gs, N, z, hN, hg, hpw, hb, rfl, rfl⟩
    obtain ⟨f, hf, rfl⟩ := map_at hi
    conv => whnf
    refine ⟨_, rfl, ⟨by first | decide | omega, by first | decide | omega⟩, fun a1 a2 a3 => ?_⟩
    conv => whnf
    refine Need.mk (show (0 : Int) < 2 ∧ (2 : Int) < 1073741824 by decide) ?_
    conv => whnf
    refine Need.mk (show (0 : Int) ≤ 28 ∧ (28 : Int) ≤ 1000000 ∧ (10 : Int).natAbs < 2 ^ 64 by decide) ?_
    conv => whnf
    refine Need.mk ⟨rfl, by decide⟩ ?_
    conv => whnf
    refine Need.mk rfl ?_
    conv => whnf
    refine ⟨_, rfl, ⟨by first | decide | omega, by first | decide | omega⟩, fun b1 b2 b3 => ?_⟩
    conv => whnf
    obtain ⟨y, hy, ey⟩ := getC_two (n := b1) (x := (10 : Int) ^ (28 : Int).toNat) (y := 997) (by decide) (by decide)
    rw [show (valD (mergeD [] ([Sum.inl 0, Sum.inl 1].zip (List.map (fun x => x.snd) [(D.int 0, D.int ((fun i j : Int => i ^ j.toNat) 10 28)), (D.int 1, D.int 997)]))) (Sum.inl b1)).getD (D.int 0) = .int y from (congrArg (fun l => (valD l (Sum.inl b1)).getD (D.int 0)) (merge01 _ _)).trans ey]
    conv => whnf
    refine Need.mk rfl ?_
    conv => whnf
    refine Need.mk (lenL (by have h1 := congrArg List.length hg; rw [List.length_map, List.length_take] at h1; rw [List.length_map]; omega)) ?_
    conv => whnf
    have hd : 0 ≤ a1 / 2 := Int.ediv_nonneg a2 (by decide)
    have hf2 : us.take (i + 1) = us.take i ++ [f] := take_snoc hf
    refine .inr ⟨2, [some (.ref 0), none, some (.ref 1), some (.int (N + 1 + a1 / 2 + y)), none], [.drw, .lst ((gs ++ [(N + 1 + a1 / 2 + y, f)]).map nf)], by decide, ?_, ⟨_, _, rfl, ⟨rfl, by decide⟩, _, _, rfl, _, _, rfl, ⟨rfl, by decide⟩, _, _, rfl, rfl, _, _, rfl, rfl⟩, ⟨_, _, rfl, trivial, _, _, rfl, ?_, rfl⟩, gs ++ [(N + 1 + a1 / 2 + y, f)], N + 1 + a1 / 2 + y, none, by omega, ?_, ?_, ?_, rfl, rfl⟩
    · show 2 ≤ 3; decide
    · show RsL 2 _ ((gs ++ [(N + 1 + a1 / 2 + y, f)]).map nf) (gs.map nf ++ [nf (N + 1 + a1 / 2 + y, f)])
      rw [List.map_append]
      exact RsL.same (by have := nfs_lt (n := 2) (gs ++ [(N + 1 + a1 / 2 + y, f)]); rw [List.map_append] at this; exact this)
    · rw [List.map_append, hg, hf2]; rfl
    · rw [List.map_append, List.pairwise_append]
      refine ⟨hpw, List.pairwise_singleton _ _, fun u hu v hv => ?_⟩
      have hv : v = N + 1 + a1 / 2 + y := by simpa using hv
      have := hb u hu
      omega
    · intro u hu
      rw [List.map_append] at hu
      rcases List.mem_append.mp hu with hu | hu
      · have := hb u hu
        omega
      · have hu : u = N + 1 + a1 / 2 + y := by simpa using hu
        omega
  · rintro s' S' ⟨gs, N, z, hN, hg, hpw, hb, rfl, rfl⟩
    rw [List.length_map, List.take_length] at hg
    conv => whnf
    exact RwL rfl (by decide) (nfs_lt _) (q gs hg hpw fun z hz => (hb z hz).1)
def houseQ (Q : D → Prop) (hi : List Int) : Prop := ∀ (gs : List (Int × Fc)) (ps : List Int) (m : Int), PsOk ps → m ∈ hi → (∀ g ∈ gs, g.2.good ps m) → gs.length ≤ 24 → (gs.map (·.1)).Pairwise (· < ·) → (∀ z ∈ gs.map (·.1), 1 ≤ z) → Q (.lst (gs.map nf))
def sp__law_house (a : Ad) : SpP := fun ds Q _ => ∃ (mp wd : Int) (hi : List Int), ds = [.int mp, .tup (hi.map D.int), .int wd] ∧ 1 ≤ mp ∧ mp ≤ 4 ∧ hi.length = 4 ∧ (∀ z ∈ hi, 1 ≤ z ∧ z ≤ 5) ∧ 1 ≤ wd ∧ wd ≤ 10 ∧ houseQ Q hi
theorem ok__law_house (T : Txt K w mg a) (G__law_few : Fx P w K mg base 2 a.a__law_few a.d__law_few "_law_few" ["_law_draw", "_law_pool", "_law_many"] (ld (sp__law_few a))) (G__law_pull : Fx P w K mg base 1 a.a__law_pull a.d__law_pull "_law_pull" ["_law_draw", "_law_many"] (ld (sp__law_pull a))) (G__law_world : Fx P w K mg base 3 a.a__law_world a.d__law_world "_law_world" ["_law_draw", "_law_parts", "_law_most", "_law_many"] (ld (sp__law_world a))) (G__law_true_facts : Fx P w K mg base 3 a.a__law_true_facts a.d__law_true_facts "_law_true_facts" ["_law_draw", "_law_world_here", "_law_many"] (ldM (sp__law_true_facts a))) (G__law_fact : Fx P w K mg base 3 a.a__law_fact a.d__law_fact "_law_fact" ["_law_draw", "_law_parts", "_law_most"] (ld (sp__law_fact a))) (G__law_numbered : Fx P w K mg base 2 a.a__law_numbered a.d__law_numbered "_law_numbered" ["_law_draw", "_law_rows"] (ld (sp__law_numbered a))) : Fx P w K mg base 4 a.a__law_house a.d__law_house "_law_house" ["_law_draw", "_law_most_parts", "_law_most", "_law_wild"] (ld (sp__law_house a)) := by
  refine ⟨fn_W T.F__law_house sc__law_house (by (intro ds Q E h; first | (obtain ⟨h, hr⟩ := h; subst h; (try (obtain ⟨_, hr⟩ := hr)); (try (obtain ⟨_, hr⟩ := hr)); (try (obtain ⟨_, hr⟩ := hr)); (try (obtain ⟨_, hr⟩ := hr)); (all_goals exact ⟨rfl, by (repeat' (first | trivial | exact lmD_lt | exact Ev.lt | exact evs_lt _ | exact itDs_lt _ | exact prs_lt _ | exact Wld.lt | exact rows_lt | exact deeds_lt | exact pasts_lt | exact D.lts_ints _ | exact D.lts_strs _ | exact Fc.lt | exact Dd.lt | exact fcs_lt _ | exact nfs_lt _ | exact nf_lt | exact D.pl.lt (by assumption) | exact D.dp.lt (by assumption) | exact D.dps.lt (by assumption) | exact D.pls.lt (by assumption) | assumption | refine ⟨?_, ?_⟩))⟩)) | (obtain ⟨_, h, hr⟩ := h; subst h; (try (obtain ⟨_, hr⟩ := hr)); (try (obtain ⟨_, hr⟩ := hr)); (try (obtain ⟨_, hr⟩ := hr)); (try (obtain ⟨_, hr⟩ := hr)); (all_goals exact ⟨rfl, by (repeat' (first | trivial | exact lmD_lt | exact Ev.lt | exact evs_lt _ | exact itDs_lt _ | exact prs_lt _ | exact Wld.lt | exact rows_lt | exact deeds_lt | exact pasts_lt | exact D.lts_ints _ | exact D.lts_strs _ | exact Fc.lt | exact Dd.lt | exact fcs_lt _ | exact nfs_lt _ | exact nf_lt | exact D.pl.lt (by assumption) | exact D.dp.lt (by assumption) | exact D.dps.lt (by assumption) | exact D.pls.lt (by assumption) | assumption | refine ⟨?_, ?_⟩))⟩)) | (obtain ⟨_, _, h, hr⟩ := h; subst h; (try (obtain ⟨_, hr⟩ := hr)); (try (obtain ⟨_, hr⟩ := hr)); (try (obtain ⟨_, hr⟩ := hr)); (try (obtain ⟨_, hr⟩ := hr)); (all_goals exact ⟨rfl, by (repeat' (first | trivial | exact lmD_lt | exact Ev.lt | exact evs_lt _ | exact itDs_lt _ | exact prs_lt _ | exact Wld.lt | exact rows_lt | exact deeds_lt | exact pasts_lt | exact D.lts_ints _ | exact D.lts_strs _ | exact Fc.lt | exact Dd.lt | exact fcs_lt _ | exact nfs_lt _ | exact nf_lt | exact D.pl.lt (by assumption) | exact D.dp.lt (by assumption) | exact D.dps.lt (by assumption) | exact D.pls.lt (by assumption) | assumption | refine ⟨?_, ?_⟩))⟩)) | (obtain ⟨_, _, _, h, hr⟩ := h; subst h; (try (obtain ⟨_, hr⟩ := hr)); (try (obtain ⟨_, hr⟩ := hr)); (try (obtain ⟨_, hr⟩ := hr)); (try (obtain ⟨_, hr⟩ := hr)); (all_goals exact ⟨rfl, by (repeat' (first | trivial | exact lmD_lt | exact Ev.lt | exact evs_lt _ | exact itDs_lt _ | exact prs_lt _ | exact Wld.lt | exact rows_lt | exact deeds_lt | exact pasts_lt | exact D.lts_ints _ | exact D.lts_strs _ | exact Fc.lt | exact Dd.lt | exact fcs_lt _ | exact nfs_lt _ | exact nf_lt | exact D.pl.lt (by assumption) | exact D.dp.lt (by assumption) | exact D.dps.lt (by assumption) | exact D.pls.lt (by assumption) | assumption | refine ⟨?_, ?_⟩))⟩)) | (obtain ⟨_, _, _, _, h, hr⟩ := h; subst h; (try (obtain ⟨_, hr⟩ := hr)); (try (obtain ⟨_, hr⟩ := hr)); (try (obtain ⟨_, hr⟩ := hr)); (try (obtain ⟨_, hr⟩ := hr)); (all_goals exact ⟨rfl, by (repeat' (first | trivial | exact lmD_lt | exact Ev.lt | exact evs_lt _ | exact itDs_lt _ | exact prs_lt _ | exact Wld.lt | exact rows_lt | exact deeds_lt | exact pasts_lt | exact D.lts_ints _ | exact D.lts_strs _ | exact Fc.lt | exact Dd.lt | exact fcs_lt _ | exact nfs_lt _ | exact nf_lt | exact D.pl.lt (by assumption) | exact D.dp.lt (by assumption) | exact D.dps.lt (by assumption) | exact D.pls.lt (by assumption) | assumption | refine ⟨?_, ?_⟩))⟩)) | (obtain ⟨_, _, _, _, _, h, hr⟩ := h; subst h; (try (obtain ⟨_, hr⟩ := hr)); (try (obtain ⟨_, hr⟩ := hr)); (try (obtain ⟨_, hr⟩ := hr)); (try (obtain ⟨_, hr⟩ := hr)); (all_goals exact ⟨rfl, by (repeat' (first | trivial | exact lmD_lt | exact Ev.lt | exact evs_lt _ | exact itDs_lt _ | exact prs_lt _ | exact Wld.lt | exact rows_lt | exact deeds_lt | exact pasts_lt | exact D.lts_ints _ | exact D.lts_strs _ | exact Fc.lt | exact Dd.lt | exact fcs_lt _ | exact nfs_lt _ | exact nf_lt | exact D.pl.lt (by assumption) | exact D.dp.lt (by assumption) | exact D.dps.lt (by assumption) | exact D.pls.lt (by assumption) | assumption | refine ⟨?_, ?_⟩))⟩)) | (obtain ⟨h, _⟩ := h; exact (by simp at h)))) fun cdv A outer s H E φ T0 W' room wl => ⟨_, (lss_consW [1] (ls_set 4 (le_callB (cc_sorted rfl) rfl T.n_sorted (by rfl) (la_cons (le_fx G__law_few (room.mono (by decide)) (takes_of rfl rfl rfl rfl) wl (la_cons (lv 0) (la_cons (le_lst (la_cons le_int (la_cons le_int (la_cons le_int (la_cons le_int la_nil))))) (la_cons (le_op oo_add le_int (le_fx G__law_pull (room.mono (by decide)) (takes_of rfl rfl rfl rfl) wl (la_cons (lv 0) (la_cons (lv 1) la_nil)))) la_nil)))) la_nil)) sc__law_house.nd)
    (lss_consM (ls_set 5 (le_ix ox_seq (lv 2) (le_op oo_sub (le_callB cc_len rfl T.n_len (by rfl) (la_cons (lv 4) la_nil)) le_int)) sc__law_house.nd)
    (lss_w [2] (lss_cons (ls_set 6 (le_fx G__law_world (room.mono (by decide)) (takes_of rfl rfl rfl rfl) wl (la_cons (lv 0) (la_cons (lv 4) (la_cons (lv 5) (la_cons (le_fx G__law_pull (room.mono (by decide)) (takes_of rfl rfl rfl rfl) wl (la_cons (lv 0) (la_cons (le_op oo_add le_int (le_op oo_mulX le_int (lv 5))) la_nil))) la_nil))))) sc__law_house.nd)
    (lss_consW [6] (ls_set 7 (le_fx G__law_true_facts (room.mono (by decide)) (takes_of rfl rfl rfl rfl) wl (la_cons (lv 0) (la_cons (lv 6) (la_cons (le_fx G__law_pull (room.mono (by decide)) (takes_of rfl rfl rfl rfl) wl (la_cons (lv 0) (la_cons le_int la_nil))) la_nil)))) sc__law_house.nd)
    (lss_consW [3, 4, 5, 8, 9] (ls_for (passes_of rfl) rfl (li_rng1 rfl T.n_range (la_cons (le_fx G__law_pull (room.mono (by decide)) (takes_of rfl rfl rfl rfl) wl (la_cons (lv 0) (la_cons (lv 3) la_nil))) la_nil)) (lg_name (i := 8) sc__law_house.nd rfl)
    (lss_consW [8] (ls_set 9 (le_fx G__law_pull (room.mono (by decide)) (takes_of rfl rfl rfl rfl) wl (la_cons (lv 0) (la_cons (le_op oo_add (le_callB cc_len rfl T.n_len (by rfl) (la_cons (lv 7) la_nil)) le_int) la_nil))) sc__law_house.nd)
    (lss_consW [9] (ls_expr (le_bm PySem.F.plainAttrs_list PySem.F.slot_list_insert PySem.F.type_list_insert mm_insert (lv 7) (la_cons (lv 9) (la_cons (le_fx G__law_fact (room.mono (by decide)) (takes_of rfl rfl rfl rfl) wl (la_cons (lv 0) (la_cons (lv 4) (la_cons (lv 5) la_nil)))) la_nil))))
    lss_nil)))
    (lss_fz (lss_cons (ls_ret (le_fx G__law_numbered (room.mono (by decide)) (takes_of rfl rfl rfl rfl) wl (la_cons (lv 0) (la_cons (lv 7) la_nil))))
    lss_nil)))))))), fun ds S R X n h hW => ?_⟩, T.m__law_house, T.F__law_house.kp, T.b__law_house⟩
  obtain ⟨r, Q, E, h, rfl, rfl, rfl, rfl, rfl⟩ := h
  subst hW
  obtain ⟨mp, wd, hi, rfl, mp1, mp4, hil, hib, w1, w10, q⟩ := h
  conv => whnf
  repeat (refine Need.mk ?_ ?_; exact nd; conv => whnf)
  refine ⟨_, rfl, ⟨by omega, by omega⟩, fun n n0 n1 => ?_⟩
  conv => whnf
  repeat (refine Need.mk ?_ ?_; exact nd; conv => whnf)
  refine ⟨[1, 2, 3, 4], 1 + n, rfl, by decide, by omega, fun qs rest hp hq => ?_⟩
  have hq4 : qs.length ≤ 4 := by rw [hq]; exact Nat.min_le_right _ _
  have hq1 : 1 ≤ qs.length := by
    rw [hq]
    show 1 ≤ min (1 + n).toNat 4
    omega
  have hps : PsOk (sortI qs) := by
    have hnd : (qs ++ rest).Nodup := hp.nodup_iff.mpr (by decide)
    refine ⟨fun h => ?_, (sortI_perm qs).nodup_iff.mpr (List.nodup_append.mp hnd).1, by rw [sortI_len]; exact hq4, fun p hp' => ?_⟩
    · have := sortI_len qs
      rw [h] at this
      have h0 : ([] : List Int).length = 0 := rfl
      omega
    · have h1 : p ∈ ([1, 2, 3, 4] : List Int) := hp.mem_iff.mp (List.mem_append_left _ ((sortI_perm qs).mem_iff.mp hp'))
      simp only [List.mem_cons, List.not_mem_nil, or_false] at h1
      omega
  conv => whnf
  repeat (refine Need.mk ?_ ?_; exact nd; conv => whnf)
  refine optI (x := qs) (by show asIs (qs.map D.int) = some qs; exact asIs_ints qs) ?_
  conv => whnf
  repeat (refine Need.mk ?_ ?_; exact nd; conv => whnf)
  refine Need.mk (by omega) ?_
  conv => whnf
  repeat (refine Need.mk ?_ ?_; exact nd; conv => whnf)
  have hsl := sortI_len qs
  generalize sortI qs = ps at hps hsl
  refine sM (fun s' S' => S' = [.drw] ∧ ∃ (m : Int) (t1 t2 : Option D), m ∈ hi ∧ s' = [some (.ref 0), t1, t2, some (.int wd), some (.lst (ps.map D.int)), some (.int m), none, none, none, none]) ?_ ?_
  · conv => whnf
    repeat (refine Need.mk ?_ ?_; exact nd; conv => whnf)
    rw [List.length_map]
    have hj : ((ps.length : Int) - 1).toNat < hi.length := by omega
    have ej : (hi.map D.int)[((ps.length : Int) - 1).toNat]? = some (.int hi[((ps.length : Int) - 1).toNat]) := by rw [List.getElem?_map, List.getElem?_eq_getElem hj]; rfl
    refine optI (atI_get (by show 0 ≤ (ps.length : Int) - 1; omega) ej) ?_
    exact ⟨rfl, _, _, _, List.getElem_mem hj, rfl⟩
  rintro s' S' ⟨rfl, m, t1, t2, hm, rfl⟩
  have hmb := hib m hm
  conv => whnf
  repeat (refine Need.mk ?_ ?_; exact nd; conv => whnf)
  refine ⟨_, rfl, ⟨by omega, by omega⟩, fun k k0 k1 => ?_⟩
  conv => whnf
  repeat (refine Need.mk ?_ ?_; exact nd; conv => whnf)
  refine ⟨ps, m, k, rfl, hps, hmb.1, hmb.2, k0, by omega, fun w hw hok => ?_⟩
  conv => whnf
  repeat (refine Need.mk ?_ ?_; exact nd; conv => whnf)
  refine ⟨_, rfl, ⟨by first | decide | omega, by first | decide | omega⟩, fun l l0 l1 => ?_⟩
  have l1 : l < 7 := l1
  conv => whnf
  repeat (refine Need.mk ?_ ?_; exact nd; conv => whnf)
  refine ⟨w, m, l, rfl, hok, l0, by omega, fun fs hfs hfl => ?_⟩
  rw [hw] at hfs
  conv => whnf
  repeat (refine Need.mk ?_ ?_; exact nd; conv => whnf)
  refine ⟨_, rfl, ⟨by omega, by omega⟩, fun c c0 c1 => ?_⟩
  conv => whnf
  repeat (refine Need.mk ?_ ?_; exact nd; conv => whnf)
  refine ⟨by omega, by omega, ?_⟩
  refine ⟨fun i s' S' => ∃ (fs : List Fc) (t1 t2 t6 t8 t9 : Option D), fs.length ≤ 40 + i ∧ (∀ f ∈ fs, f.good ps m) ∧ S' = [.drw, .lst (fs.map Fc.d)] ∧ s' = [some (.ref 0), t1, t2, some (.int wd), some (.lst (ps.map D.int)), some (.int m), t6, some (.ref 1), t8, t9], ⟨fs, _, _, _, _, _, hfl, hfs, rfl, rfl⟩, fun _ _ _ _ _ => trivial, ?_, ?_⟩
  · rintro i x s' S' hi2 ⟨fs, t1, t2, t6, t8, t9, hfl, hfs, rfl, rfl⟩
    obtain ⟨hik, rfl⟩ := rngD_get hi2
    conv => whnf
    repeat (refine Need.mk ?_ ?_; exact nd; conv => whnf)
    rw [List.length_map]
    refine ⟨_, rfl, ⟨by omega, by omega⟩, fun j j0 j1 => ?_⟩
    conv => whnf
    repeat (refine Need.mk ?_ ?_; exact nd; conv => whnf)
    refine ⟨ps, m, rfl, hps.ne, hps.nd, by have := hps.len; omega, hmb.1, by omega, fun f hf => ?_⟩
    conv => whnf
    repeat (refine Need.mk ?_ ?_; exact nd; conv => whnf)
    refine Need.mk ⟨by rw [List.length_map]; exact ltN (by omega), j0, by omega⟩ ?_
    conv => whnf
    repeat (refine Need.mk ?_ ?_; exact nd; conv => whnf)
    refine .inl ⟨fs.take j.toNat ++ [f] ++ fs.drop j.toNat, _, _, _, _, _, ?_, fun g hg => ?_, ?_, rfl⟩
    · rw [List.length_append, List.length_append, List.length_take, List.length_drop]
      show min j.toNat fs.length + 1 + (fs.length - j.toNat) ≤ 40 + (i + 1)
      omega
    · rcases List.mem_append.mp hg with hg | hg
      · rcases List.mem_append.mp hg with hg | hg
        · exact hfs g (List.mem_of_mem_take hg)
        · rw [List.mem_singleton.mp hg]; exact hf
      · exact hfs g (List.mem_of_mem_drop hg)
    · rw [List.map_append, List.map_append, List.map_take, List.map_drop]
      rfl
  rintro s' S' ⟨fs, t1, t2, t6, t8, t9, hfl, hfs, rfl, rfl⟩
  rw [rngD_len] at hfl
  conv => whnf
  repeat (refine Need.mk ?_ ?_; exact nd; conv => whnf)
  refine ⟨1, [some (.ref 0), none, none, none, none, none, none, some (.lst (fs.map Fc.d)), none, none], [.drw], Nat.le_refl _, by show 1 ≤ 2; decide, ⟨_, _, rfl, ⟨rfl, by decide⟩, _, _, rfl, _, _, rfl, _, _, rfl, _, _, rfl, _, _, rfl, _, _, rfl, _, _, rfl, Rs.ofL' (k := 1) (Nat.le_refl _) rfl (fcs_lt fs), _, _, rfl, _, _, rfl, rfl⟩, ⟨_, _, rfl, trivial, rfl⟩, ?_⟩
  conv => whnf
  repeat (refine Need.mk ?_ ?_; exact nd; conv => whnf)
  refine ⟨fs, rfl, by omega, fun gs h1 h2 h3 => ?_⟩
  conv => whnf
  repeat (refine Need.mk ?_ ?_; exact nd; conv => whnf)
  refine Rw (q gs ps m hps hm (fun g hg => ?_) ?_ h2 h3) (nfs_lt _)
  · have : g.2 ∈ gs.map (·.2) := List.mem_map.mpr ⟨g, hg, rfl⟩
    rw [h1] at this
    exact hfs _ (List.mem_of_mem_take this)
  · have := congrArg List.length h1
    rw [List.length_map, List.length_take] at this
    omega
def sp__law_small (a : Ad) : SpP := fun ds Q _ => ds = [] ∧ houseQ Q [4, 3, 2, 1]
theorem ok__law_small (T : Txt K w mg a) (G__law_house : Fx P w K mg base 4 a.a__law_house a.d__law_house "_law_house" ["_law_draw", "_law_most_parts", "_law_most", "_law_wild"] (ld (sp__law_house a))) : Fx P w K mg base 5 a.a__law_small a.d__law_small "_law_small" ["_law_draw"] (ld (sp__law_small a)) := by
  refine ⟨fn_W T.F__law_small sc__law_small (by (intro ds Q E h; first | (obtain ⟨h, hr⟩ := h; subst h; (try (obtain ⟨_, hr⟩ := hr)); (try (obtain ⟨_, hr⟩ := hr)); (try (obtain ⟨_, hr⟩ := hr)); (try (obtain ⟨_, hr⟩ := hr)); (all_goals exact ⟨rfl, by (repeat' (first | trivial | exact lmD_lt | exact Ev.lt | exact evs_lt _ | exact itDs_lt _ | exact prs_lt _ | exact Wld.lt | exact rows_lt | exact deeds_lt | exact pasts_lt | exact D.lts_ints _ | exact D.lts_strs _ | exact Fc.lt | exact Dd.lt | exact fcs_lt _ | exact nfs_lt _ | exact nf_lt | exact D.pl.lt (by assumption) | exact D.dp.lt (by assumption) | exact D.dps.lt (by assumption) | exact D.pls.lt (by assumption) | assumption | refine ⟨?_, ?_⟩))⟩)) | (obtain ⟨_, h, hr⟩ := h; subst h; (try (obtain ⟨_, hr⟩ := hr)); (try (obtain ⟨_, hr⟩ := hr)); (try (obtain ⟨_, hr⟩ := hr)); (try (obtain ⟨_, hr⟩ := hr)); (all_goals exact ⟨rfl, by (repeat' (first | trivial | exact lmD_lt | exact Ev.lt | exact evs_lt _ | exact itDs_lt _ | exact prs_lt _ | exact Wld.lt | exact rows_lt | exact deeds_lt | exact pasts_lt | exact D.lts_ints _ | exact D.lts_strs _ | exact Fc.lt | exact Dd.lt | exact fcs_lt _ | exact nfs_lt _ | exact nf_lt | exact D.pl.lt (by assumption) | exact D.dp.lt (by assumption) | exact D.dps.lt (by assumption) | exact D.pls.lt (by assumption) | assumption | refine ⟨?_, ?_⟩))⟩)) | (obtain ⟨_, _, h, hr⟩ := h; subst h; (try (obtain ⟨_, hr⟩ := hr)); (try (obtain ⟨_, hr⟩ := hr)); (try (obtain ⟨_, hr⟩ := hr)); (try (obtain ⟨_, hr⟩ := hr)); (all_goals exact ⟨rfl, by (repeat' (first | trivial | exact lmD_lt | exact Ev.lt | exact evs_lt _ | exact itDs_lt _ | exact prs_lt _ | exact Wld.lt | exact rows_lt | exact deeds_lt | exact pasts_lt | exact D.lts_ints _ | exact D.lts_strs _ | exact Fc.lt | exact Dd.lt | exact fcs_lt _ | exact nfs_lt _ | exact nf_lt | exact D.pl.lt (by assumption) | exact D.dp.lt (by assumption) | exact D.dps.lt (by assumption) | exact D.pls.lt (by assumption) | assumption | refine ⟨?_, ?_⟩))⟩)) | (obtain ⟨_, _, _, h, hr⟩ := h; subst h; (try (obtain ⟨_, hr⟩ := hr)); (try (obtain ⟨_, hr⟩ := hr)); (try (obtain ⟨_, hr⟩ := hr)); (try (obtain ⟨_, hr⟩ := hr)); (all_goals exact ⟨rfl, by (repeat' (first | trivial | exact lmD_lt | exact Ev.lt | exact evs_lt _ | exact itDs_lt _ | exact prs_lt _ | exact Wld.lt | exact rows_lt | exact deeds_lt | exact pasts_lt | exact D.lts_ints _ | exact D.lts_strs _ | exact Fc.lt | exact Dd.lt | exact fcs_lt _ | exact nfs_lt _ | exact nf_lt | exact D.pl.lt (by assumption) | exact D.dp.lt (by assumption) | exact D.dps.lt (by assumption) | exact D.pls.lt (by assumption) | assumption | refine ⟨?_, ?_⟩))⟩)) | (obtain ⟨_, _, _, _, h, hr⟩ := h; subst h; (try (obtain ⟨_, hr⟩ := hr)); (try (obtain ⟨_, hr⟩ := hr)); (try (obtain ⟨_, hr⟩ := hr)); (try (obtain ⟨_, hr⟩ := hr)); (all_goals exact ⟨rfl, by (repeat' (first | trivial | exact lmD_lt | exact Ev.lt | exact evs_lt _ | exact itDs_lt _ | exact prs_lt _ | exact Wld.lt | exact rows_lt | exact deeds_lt | exact pasts_lt | exact D.lts_ints _ | exact D.lts_strs _ | exact Fc.lt | exact Dd.lt | exact fcs_lt _ | exact nfs_lt _ | exact nf_lt | exact D.pl.lt (by assumption) | exact D.dp.lt (by assumption) | exact D.dps.lt (by assumption) | exact D.pls.lt (by assumption) | assumption | refine ⟨?_, ?_⟩))⟩)) | (obtain ⟨_, _, _, _, _, h, hr⟩ := h; subst h; (try (obtain ⟨_, hr⟩ := hr)); (try (obtain ⟨_, hr⟩ := hr)); (try (obtain ⟨_, hr⟩ := hr)); (try (obtain ⟨_, hr⟩ := hr)); (all_goals exact ⟨rfl, by (repeat' (first | trivial | exact lmD_lt | exact Ev.lt | exact evs_lt _ | exact itDs_lt _ | exact prs_lt _ | exact Wld.lt | exact rows_lt | exact deeds_lt | exact pasts_lt | exact D.lts_ints _ | exact D.lts_strs _ | exact Fc.lt | exact Dd.lt | exact fcs_lt _ | exact nfs_lt _ | exact nf_lt | exact D.pl.lt (by assumption) | exact D.dp.lt (by assumption) | exact D.dps.lt (by assumption) | exact D.pls.lt (by assumption) | assumption | refine ⟨?_, ?_⟩))⟩)) | (obtain ⟨h, _⟩ := h; exact (by simp at h)))) fun cdv A outer s H E φ T0 W' room wl => ⟨_, (lss_cons (ls_ret (le_fx G__law_house (room.mono (by decide)) (takes_of rfl rfl rfl rfl) wl (la_cons (lv 0) (la_cons le_int (la_cons (le_tup (la_cons le_int (la_cons le_int (la_cons le_int (la_cons le_int la_nil))))) (la_cons le_int la_nil))))))
    lss_nil), fun ds S R X n h hW => ?_⟩, T.m__law_small, T.F__law_small.kp, T.b__law_small⟩
  obtain ⟨r, Q, E, h, rfl, rfl, rfl, rfl, rfl⟩ := h
  subst hW
  obtain ⟨rfl, q⟩ := h
  conv => whnf
  repeat (refine Need.mk ?_ ?_; exact nd; conv => whnf)
  refine ⟨4, 3, [4, 3, 2, 1], rfl, by decide, by decide, rfl, by decide, by decide, by decide, fun gs ps m h1 h2 h3 h4 h5 h6 => ?_⟩
  conv => whnf
  repeat (refine Need.mk ?_ ?_; exact nd; conv => whnf)
  exact Rw (q gs ps m h1 h2 h3 h4 h5 h6) (nfs_lt _)
def sp__law_sizes (a : Ad) : SpP := fun ds Q _ => ∃ fs : List (Int × Fc), ds = [.lst (fs.map nf)] ∧ fs.length ≤ 31 ∧ Q (.dK ((sizesC (fs.map (·.2))).d.map (·.1)) ((sizesC (fs.map (·.2))).d.map (·.2)))
theorem ok__law_sizes (T : Txt K w mg a)  : Fx P w K mg base 1 a.a__law_sizes a.d__law_sizes "_law_sizes" ["_law_facts"] (lp (sp__law_sizes a)) := by
  refine ⟨fn_P T.F__law_sizes sc__law_sizes (by (intro ds Q E h; first | (obtain ⟨h, hr⟩ := h; subst h; (try (obtain ⟨_, hr⟩ := hr)); (try (obtain ⟨_, hr⟩ := hr)); (try (obtain ⟨_, hr⟩ := hr)); (try (obtain ⟨_, hr⟩ := hr)); (all_goals exact ⟨rfl, by (repeat' (first | trivial | exact lmD_lt | exact Ev.lt | exact evs_lt _ | exact itDs_lt _ | exact prs_lt _ | exact Wld.lt | exact rows_lt | exact deeds_lt | exact pasts_lt | exact D.lts_ints _ | exact D.lts_strs _ | exact Fc.lt | exact Dd.lt | exact fcs_lt _ | exact nfs_lt _ | exact nf_lt | exact D.pl.lt (by assumption) | exact D.dp.lt (by assumption) | exact D.dps.lt (by assumption) | exact D.pls.lt (by assumption) | assumption | refine ⟨?_, ?_⟩))⟩)) | (obtain ⟨_, h, hr⟩ := h; subst h; (try (obtain ⟨_, hr⟩ := hr)); (try (obtain ⟨_, hr⟩ := hr)); (try (obtain ⟨_, hr⟩ := hr)); (try (obtain ⟨_, hr⟩ := hr)); (all_goals exact ⟨rfl, by (repeat' (first | trivial | exact lmD_lt | exact Ev.lt | exact evs_lt _ | exact itDs_lt _ | exact prs_lt _ | exact Wld.lt | exact rows_lt | exact deeds_lt | exact pasts_lt | exact D.lts_ints _ | exact D.lts_strs _ | exact Fc.lt | exact Dd.lt | exact fcs_lt _ | exact nfs_lt _ | exact nf_lt | exact D.pl.lt (by assumption) | exact D.dp.lt (by assumption) | exact D.dps.lt (by assumption) | exact D.pls.lt (by assumption) | assumption | refine ⟨?_, ?_⟩))⟩)) | (obtain ⟨_, _, h, hr⟩ := h; subst h; (try (obtain ⟨_, hr⟩ := hr)); (try (obtain ⟨_, hr⟩ := hr)); (try (obtain ⟨_, hr⟩ := hr)); (try (obtain ⟨_, hr⟩ := hr)); (all_goals exact ⟨rfl, by (repeat' (first | trivial | exact lmD_lt | exact Ev.lt | exact evs_lt _ | exact itDs_lt _ | exact prs_lt _ | exact Wld.lt | exact rows_lt | exact deeds_lt | exact pasts_lt | exact D.lts_ints _ | exact D.lts_strs _ | exact Fc.lt | exact Dd.lt | exact fcs_lt _ | exact nfs_lt _ | exact nf_lt | exact D.pl.lt (by assumption) | exact D.dp.lt (by assumption) | exact D.dps.lt (by assumption) | exact D.pls.lt (by assumption) | assumption | refine ⟨?_, ?_⟩))⟩)) | (obtain ⟨_, _, _, h, hr⟩ := h; subst h; (try (obtain ⟨_, hr⟩ := hr)); (try (obtain ⟨_, hr⟩ := hr)); (try (obtain ⟨_, hr⟩ := hr)); (try (obtain ⟨_, hr⟩ := hr)); (all_goals exact ⟨rfl, by (repeat' (first | trivial | exact lmD_lt | exact Ev.lt | exact evs_lt _ | exact itDs_lt _ | exact prs_lt _ | exact Wld.lt | exact rows_lt | exact deeds_lt | exact pasts_lt | exact D.lts_ints _ | exact D.lts_strs _ | exact Fc.lt | exact Dd.lt | exact fcs_lt _ | exact nfs_lt _ | exact nf_lt | exact D.pl.lt (by assumption) | exact D.dp.lt (by assumption) | exact D.dps.lt (by assumption) | exact D.pls.lt (by assumption) | assumption | refine ⟨?_, ?_⟩))⟩)) | (obtain ⟨_, _, _, _, h, hr⟩ := h; subst h; (try (obtain ⟨_, hr⟩ := hr)); (try (obtain ⟨_, hr⟩ := hr)); (try (obtain ⟨_, hr⟩ := hr)); (try (obtain ⟨_, hr⟩ := hr)); (all_goals exact ⟨rfl, by (repeat' (first | trivial | exact lmD_lt | exact Ev.lt | exact evs_lt _ | exact itDs_lt _ | exact prs_lt _ | exact Wld.lt | exact rows_lt | exact deeds_lt | exact pasts_lt | exact D.lts_ints _ | exact D.lts_strs _ | exact Fc.lt | exact Dd.lt | exact fcs_lt _ | exact nfs_lt _ | exact nf_lt | exact D.pl.lt (by assumption) | exact D.dp.lt (by assumption) | exact D.dps.lt (by assumption) | exact D.pls.lt (by assumption) | assumption | refine ⟨?_, ?_⟩))⟩)) | (obtain ⟨_, _, _, _, _, h, hr⟩ := h; subst h; (try (obtain ⟨_, hr⟩ := hr)); (try (obtain ⟨_, hr⟩ := hr)); (try (obtain ⟨_, hr⟩ := hr)); (try (obtain ⟨_, hr⟩ := hr)); (all_goals exact ⟨rfl, by (repeat' (first | trivial | exact lmD_lt | exact Ev.lt | exact evs_lt _ | exact itDs_lt _ | exact prs_lt _ | exact Wld.lt | exact rows_lt | exact deeds_lt | exact pasts_lt | exact D.lts_ints _ | exact D.lts_strs _ | exact Fc.lt | exact Dd.lt | exact fcs_lt _ | exact nfs_lt _ | exact nf_lt | exact D.pl.lt (by assumption) | exact D.dp.lt (by assumption) | exact D.dps.lt (by assumption) | exact D.pls.lt (by assumption) | assumption | refine ⟨?_, ?_⟩))⟩)) | (obtain ⟨h, _⟩ := h; exact (by simp at h)))) fun cdv A outer s H E φ T0 W' room wl => ⟨_, (lss_cons (ls_set 1 le_dnew sc__law_sizes.nd)
    (lss_consW [0, 2, 3, 4, 5, 6] (ls_for (passes_of rfl) rfl (li_list (lv 0)) (lg_T (t := (.tp [(.nm 2), (.nm 3)])) (tg_tp rfl (tg_cons (tg_nm 2 sc__law_sizes.nd) (tg_cons (tg_nm 3 sc__law_sizes.nd) tg_nil))))
    (lss_consW [2, 5, 6] (ls_set 4 (le_lst la_nil) sc__law_sizes.nd)
    (lss_consM (ls_if (lt_cmp (oo_eq room.units) (le_ix ox_seq (lv 3) le_int) le_str (by rfl)) (lss_cons (ls_set 4 (le_lst (la_cons (le_tup (la_cons (le_ix ox_seq (lv 3) le_int) (la_cons (le_op oo_add (le_ix ox_seq (lv 3) le_int) (le_callB cc_len rfl T.n_len (by rfl) (la_cons (le_ix ox_seq (lv 3) le_int) la_nil))) la_nil))) la_nil)) sc__law_sizes.nd)
    lss_nil) lss_nil)
    (lss_consM (ls_if (lt_cmp (oo_eq room.units) (le_ix ox_seq (lv 3) le_int) le_str (by rfl)) (lss_cons (ls_set 4 (le_lst (la_cons (le_tup (la_cons (le_ix ox_seq (lv 3) le_int) (la_cons le_int la_nil))) (la_cons (le_tup (la_cons (le_ix ox_seq (lv 3) le_int) (la_cons (le_ix ox_seq (lv 3) le_int) la_nil))) la_nil))) sc__law_sizes.nd)
    lss_nil) lss_nil)
    (lss_consM (ls_if (lt_cmp (oo_eq room.units) (le_ix ox_seq (lv 3) le_int) le_str (by rfl)) (lss_cons (ls_set 4 (le_lst (la_cons (le_tup (la_cons (le_ix ox_seq (lv 3) le_int) (la_cons (le_ix ox_seq (lv 3) le_int) la_nil))) (la_cons (le_tup (la_cons (le_ix ox_seq (lv 3) le_int) (la_cons (le_ix ox_seq (lv 3) le_int) la_nil))) la_nil))) sc__law_sizes.nd)
    lss_nil) lss_nil)
    (lss_consM (ls_if (lt_cmp (oo_eq room.units) (le_ix ox_seq (lv 3) le_int) le_str (by rfl)) (lss_cons (ls_set 4 (le_lst (la_cons (le_tup (la_cons (le_ix ox_seq (lv 3) le_int) (la_cons (le_op oo_add (le_ix ox_seq (lv 3) le_int) le_int) la_nil))) la_nil)) sc__law_sizes.nd)
    lss_nil) lss_nil)
    (lss_consM (ls_if (lt_cmp oo_in (le_ix ox_seq (lv 3) le_int) (le_lst (la_cons le_str (la_cons le_str (la_cons le_str la_nil)))) (by rfl)) (lss_consW [3] (ls_set 4 (le_lst (la_cons (le_tup (la_cons (le_ix ox_seq (lv 3) le_int) (la_cons (le_op oo_add (le_ix ox_seq (lv 3) le_int) le_int) la_nil))) (la_cons (le_tup (la_cons (le_ix ox_seq (lv 3) le_int) (la_cons (le_op oo_add (le_ix ox_seq (lv 3) le_int) le_int) la_nil))) la_nil))) sc__law_sizes.nd)
    lss_nil) lss_nil)
    (lss_w [3] (lss_consW [4, 5, 6] (ls_for (passes_of rfl) rfl (li_list (lv 4)) (lg_T (t := (.tp [(.nm 5), (.nm 6)])) (tg_tp rfl (tg_cons (tg_nm 5 sc__law_sizes.nd) (tg_cons (tg_nm 6 sc__law_sizes.nd) tg_nil))))
    (lss_consW [5, 6] (ls_asg (le_callB (cc_max2 rfl) rfl T.n_max (by rfl) (la_cons (lv 6) (la_cons (le_dget2 (u1 room.units) (lv 1) (lv 5) le_int) la_nil))) (lg_sub (lv 1) (lv 5) (st_dict (u1 room.units))))
    lss_nil))
    lss_nil)))))))))
    (lss_cons (ls_ret (lv 1))
    lss_nil))), fun ds S R X n h hW => ?_⟩, T.m__law_sizes, T.F__law_sizes.kp, T.b__law_sizes⟩
  obtain ⟨Q, E, h, rfl, rfl, rfl, rfl⟩ := h
  subst hW
  obtain ⟨fs, rfl, hl, q⟩ := h
  conv => whnf
  refine ⟨fun i s' S' => ∃ (c : Cnt) (z2 z3 : Option D), c = sizesC ((fs.take i).map (·.2)) ∧ c.length ≤ 2 * i ∧ S' = [.dK c.d] ∧ s' = [some (.lst (fs.map nf)), some (.ref 0), z2, z3, none, none, none], ⟨[], none, none, rfl, Nat.le_refl _, rfl, rfl⟩, fun _ _ _ _ _ => rfl, ?_, ?_⟩
  · rintro i x s' S' hi ⟨c, z2, z3, hc, hcl, rfl, rfl⟩
    obtain ⟨p, hp, rfl⟩ := map_at hi
    conv => whnf
    refine ⟨_, rfl, ?_⟩
    conv => whnf
    obtain ⟨n, f⟩ := p
    obtain ⟨f0, hf0⟩ : ∃ f0 : Fc, f0 = f := ⟨f, rfl⟩
    cases f
    all_goals (repeat (first | (refine sD ?_; (conv => whnf)) | (refine Need.mk ⟨rfl, rfl⟩ ?_; (conv => whnf))))
    all_goals (try rw [List.length_map])
    all_goals refine ⟨fun j s' S' => ∃ (e : Cnt) (z2 z3 z4 : Option D), e = (f0.shown.take j).foldl addC c ∧ e.length ≤ 2 * i + j ∧ S' = [.dK e.d] ∧ s' = [some (.lst (fs.map nf)), some (.ref 0), z2, z3, z4, none, none], ⟨c, _, _, _, rfl, hcl, rfl, rfl⟩, fun _ _ _ _ _ => rfl, ?_, ?_⟩
    all_goals first
      | (rintro j x s' S' hj ⟨e, z2, z3, z4, he, hel, rfl, rfl⟩
         obtain ⟨y, hy, rfl⟩ : ∃ y, f0.shown[j]? = some y ∧ x = pr y := by subst hf0; exact map_at (g := pr) (l := Fc.shown _) hj
         conv => whnf
         refine ⟨_, rfl, ?_⟩
         conv => whnf
         refine Need.mk (by rfl) ?_
         conv => whnf
         rw [getD_C]
         have hi31 : i < fs.length := (List.getElem?_eq_some_iff.mp hp).1
         have hj2 : j < f0.shown.length := (List.getElem?_eq_some_iff.mp hy).1
         have hs2 := shown_len f0
         conv => whnf
         refine Need.mk (lenD (by omega)) ?_
         conv => whnf
         refine .inl ⟨addC e y, z2, z3, z4, ?_, Nat.le_trans (addC_len e y) (by omega), ?_, rfl⟩
         · rw [take_snoc hy, List.foldl_append, ← he]; rfl
         · show [O.dK _] = _; exact congrArg (fun z => [O.dK z]) addC_some)
      | (rintro s' S' ⟨e, z2, z3, z4, he, hel, rfl, rfl⟩
         conv => whnf
         have hlen : (f0.shown.map pr).length = f0.shown.length := List.length_map _
         have hs := shown_len f0
         have he : e = (f0.shown.take (f0.shown.map pr).length).foldl addC c := by subst hf0; exact he
         have hel : e.length ≤ 2 * i + (f0.shown.map pr).length := by subst hf0; exact hel
         rw [hlen, List.take_length] at he
         rw [hlen] at hel
         refine .inl ⟨e, _, _, ?_, by omega, rfl, rfl⟩
         rw [take_snoc hp, List.map_append, List.map_singleton, sizesC_snoc, ← hc, he, hf0])
  · rintro s' S' ⟨c, z2, z3, hc, hcl, rfl, rfl⟩
    conv => whnf
    rw [List.length_map, List.take_length] at hc
    subst hc
    exact RpD rfl (Cnt.lts _) q
def sp__law_full (a : Ad) : SpP := fun ds Q _ => ∃ fs : List (Int × Fc), ds = [.lst (fs.map nf)] ∧ fs.length ≤ 31 ∧ Q (.tup ((fullC (fs.map (·.2))).map D.int))
theorem ok__law_full (T : Txt K w mg a) (G__law_sizes : Fx P w K mg base 1 a.a__law_sizes a.d__law_sizes "_law_sizes" ["_law_facts"] (lp (sp__law_sizes a))) : Fx P w K mg base 2 a.a__law_full a.d__law_full "_law_full" ["_law_facts"] (lp (sp__law_full a)) := by
  refine ⟨fn_P T.F__law_full sc__law_full (by (intro ds Q E h; first | (obtain ⟨h, hr⟩ := h; subst h; (try (obtain ⟨_, hr⟩ := hr)); (try (obtain ⟨_, hr⟩ := hr)); (try (obtain ⟨_, hr⟩ := hr)); (try (obtain ⟨_, hr⟩ := hr)); (all_goals exact ⟨rfl, by (repeat' (first | trivial | exact lmD_lt | exact Ev.lt | exact evs_lt _ | exact itDs_lt _ | exact prs_lt _ | exact Wld.lt | exact rows_lt | exact deeds_lt | exact pasts_lt | exact D.lts_ints _ | exact D.lts_strs _ | exact Fc.lt | exact Dd.lt | exact fcs_lt _ | exact nfs_lt _ | exact nf_lt | exact D.pl.lt (by assumption) | exact D.dp.lt (by assumption) | exact D.dps.lt (by assumption) | exact D.pls.lt (by assumption) | assumption | refine ⟨?_, ?_⟩))⟩)) | (obtain ⟨_, h, hr⟩ := h; subst h; (try (obtain ⟨_, hr⟩ := hr)); (try (obtain ⟨_, hr⟩ := hr)); (try (obtain ⟨_, hr⟩ := hr)); (try (obtain ⟨_, hr⟩ := hr)); (all_goals exact ⟨rfl, by (repeat' (first | trivial | exact lmD_lt | exact Ev.lt | exact evs_lt _ | exact itDs_lt _ | exact prs_lt _ | exact Wld.lt | exact rows_lt | exact deeds_lt | exact pasts_lt | exact D.lts_ints _ | exact D.lts_strs _ | exact Fc.lt | exact Dd.lt | exact fcs_lt _ | exact nfs_lt _ | exact nf_lt | exact D.pl.lt (by assumption) | exact D.dp.lt (by assumption) | exact D.dps.lt (by assumption) | exact D.pls.lt (by assumption) | assumption | refine ⟨?_, ?_⟩))⟩)) | (obtain ⟨_, _, h, hr⟩ := h; subst h; (try (obtain ⟨_, hr⟩ := hr)); (try (obtain ⟨_, hr⟩ := hr)); (try (obtain ⟨_, hr⟩ := hr)); (try (obtain ⟨_, hr⟩ := hr)); (all_goals exact ⟨rfl, by (repeat' (first | trivial | exact lmD_lt | exact Ev.lt | exact evs_lt _ | exact itDs_lt _ | exact prs_lt _ | exact Wld.lt | exact rows_lt | exact deeds_lt | exact pasts_lt | exact D.lts_ints _ | exact D.lts_strs _ | exact Fc.lt | exact Dd.lt | exact fcs_lt _ | exact nfs_lt _ | exact nf_lt | exact D.pl.lt (by assumption) | exact D.dp.lt (by assumption) | exact D.dps.lt (by assumption) | exact D.pls.lt (by assumption) | assumption | refine ⟨?_, ?_⟩))⟩)) | (obtain ⟨_, _, _, h, hr⟩ := h; subst h; (try (obtain ⟨_, hr⟩ := hr)); (try (obtain ⟨_, hr⟩ := hr)); (try (obtain ⟨_, hr⟩ := hr)); (try (obtain ⟨_, hr⟩ := hr)); (all_goals exact ⟨rfl, by (repeat' (first | trivial | exact lmD_lt | exact Ev.lt | exact evs_lt _ | exact itDs_lt _ | exact prs_lt _ | exact Wld.lt | exact rows_lt | exact deeds_lt | exact pasts_lt | exact D.lts_ints _ | exact D.lts_strs _ | exact Fc.lt | exact Dd.lt | exact fcs_lt _ | exact nfs_lt _ | exact nf_lt | exact D.pl.lt (by assumption) | exact D.dp.lt (by assumption) | exact D.dps.lt (by assumption) | exact D.pls.lt (by assumption) | assumption | refine ⟨?_, ?_⟩))⟩)) | (obtain ⟨_, _, _, _, h, hr⟩ := h; subst h; (try (obtain ⟨_, hr⟩ := hr)); (try (obtain ⟨_, hr⟩ := hr)); (try (obtain ⟨_, hr⟩ := hr)); (try (obtain ⟨_, hr⟩ := hr)); (all_goals exact ⟨rfl, by (repeat' (first | trivial | exact lmD_lt | exact Ev.lt | exact evs_lt _ | exact itDs_lt _ | exact prs_lt _ | exact Wld.lt | exact rows_lt | exact deeds_lt | exact pasts_lt | exact D.lts_ints _ | exact D.lts_strs _ | exact Fc.lt | exact Dd.lt | exact fcs_lt _ | exact nfs_lt _ | exact nf_lt | exact D.pl.lt (by assumption) | exact D.dp.lt (by assumption) | exact D.dps.lt (by assumption) | exact D.pls.lt (by assumption) | assumption | refine ⟨?_, ?_⟩))⟩)) | (obtain ⟨_, _, _, _, _, h, hr⟩ := h; subst h; (try (obtain ⟨_, hr⟩ := hr)); (try (obtain ⟨_, hr⟩ := hr)); (try (obtain ⟨_, hr⟩ := hr)); (try (obtain ⟨_, hr⟩ := hr)); (all_goals exact ⟨rfl, by (repeat' (first | trivial | exact lmD_lt | exact Ev.lt | exact evs_lt _ | exact itDs_lt _ | exact prs_lt _ | exact Wld.lt | exact rows_lt | exact deeds_lt | exact pasts_lt | exact D.lts_ints _ | exact D.lts_strs _ | exact Fc.lt | exact Dd.lt | exact fcs_lt _ | exact nfs_lt _ | exact nf_lt | exact D.pl.lt (by assumption) | exact D.dp.lt (by assumption) | exact D.dps.lt (by assumption) | exact D.pls.lt (by assumption) | assumption | refine ⟨?_, ?_⟩))⟩)) | (obtain ⟨h, _⟩ := h; exact (by simp at h)))) fun cdv A outer s H E φ T0 W' room wl => ⟨_, (lss_consW [0] (ls_set 1 (le_fx G__law_sizes (room.mono (by decide)) (takes_of rfl rfl rfl rfl) wl (la_cons (lv 0) la_nil)) sc__law_full.nd)
    (lss_cons (ls_ret (le_callTy cc_tuple rfl T.n_tuple (by rfl) (la_cons (le_lc false [("_law_part", 2)] (.nm 2) rfl sc__law_full.nd (li_tup (le_tup (la_cons le_int (la_cons le_int (la_cons le_int (la_cons le_int la_nil)))))) (by (conv => { arg 1; whnf }); (conv => { arg 2; whnf }); exact ⟨rfl, by decide +kernel, by decide +kernel, by decide +kernel, by decide +kernel⟩) (fun _ _ _ _ _ => (tg_nm 2 sc__law_full.nd)) (fun _ _ _ _ _ => lts_nil) (fun _ _ _ _ _ => (le_dget2 (u1 room.units) (lv 1) (lv 2) le_int))) la_nil)))
    lss_nil)), fun ds S R X n h hW => ?_⟩, T.m__law_full, T.F__law_full.kp, T.b__law_full⟩
  obtain ⟨Q, E, h, rfl, rfl, rfl, rfl⟩ := h
  subst hW
  obtain ⟨fs, rfl, hl, q⟩ := h
  conv => whnf
  refine ⟨fs, rfl, hl, ?_⟩
  conv => whnf
  refine lc_map (fun d => match d with | .int i => .int (getC (sizesC (fs.map (·.2))) i) | _ => .non) (by decide) (fun _ => trivial) ?_ ?_
  · intro i d acc hi
    obtain ⟨p, hp, rfl⟩ := int_at (ns := [1, 2, 3, 4]) hi
    refine ⟨_, rfl, trivial, fun R r => ?_⟩
    conv => whnf
    refine Need.mk (by rw [dkOf_C]; rfl) ?_
    conv => whnf
    rw [Cnt.zip, getD_C]
    exact r
  · conv => whnf
    exact Rp q ⟨trivial, trivial, trivial, trivial, trivial⟩
theorem RpT {Q : D → Prop} {k : Nat} {l : List (List Key × D)} {S : List O} (h : S[k]? = some (.dT l)) (z : D.lts 0 (l.map (·.2))) (q : Q (.dT (l.map (·.1)) (l.map (·.2)))) : RtP Q (.ref k) S := ⟨.dT (l.map (·.1)) (l.map (·.2)), .inr ⟨k, l, rfl, Nat.zero_le _, h, rfl, RsL.same z⟩, q⟩
/-- what is kept of a coat's shades -/
def rd : List Int → Option D
  | [] => none
  | x :: l => some (.lst ((x :: l).map D.int))
def readsOk (l : List (List Key × D)) (fs : List Fc) : Prop := ∀ p c : Int, valD l [.inl p, .inl c] = rd (readC p c fs)
def sp__law_reads (a : Ad) : SpP := fun ds Q _ => ∃ fs : List (Int × Fc), ds = [.lst (fs.map nf)] ∧ fs.length ≤ 31 ∧ (∀ f ∈ fs, ∀ q c sh, f.2 = .scrape q c sh → sh.length ≤ 10) ∧ ∀ l, readsOk l (fs.map (·.2)) → D.lts 0 (l.map (·.2)) → Q (.dT (l.map (·.1)) (l.map (·.2)))
theorem mn__law_reads (a : Ad) : ∀ ds (Q Q' : D → Prop) E, sp__law_reads a ds Q E → (∀ d, Q d → Q' d) → sp__law_reads a ds Q' E := fun _ _ _ _ ⟨fs, h1, h2, h3, q⟩ i => ⟨fs, h1, h2, h3, fun l h g => i _ (q l h g)⟩
theorem any_val {κ : Type} [DecidableEq κ] (k : κ) : ∀ l : List (κ × D), (l.any fun p => decide (p.1 = k)) = (valD l k).isSome
  | [] => rfl
  | p :: l => by
    have ih := any_val k l
    unfold valD at ih ⊢
    rw [List.any_cons, List.find?_cons, ih]
    by_cases h : p.1 = k <;> simp [h]
theorem valD_mapE {κ : Type} [DecidableEq κ] (k k' : κ) (d : D) : ∀ l : List (κ × D), valD (l.map fun p => if p.1 = k then (p.1, d) else p) k' = if k' = k then (valD l k').map (fun _ => d) else valD l k'
  | [] => by simp [valD]
  | p :: l => by
    have ih := valD_mapE k k' d l
    unfold valD at ih ⊢
    rw [List.map_cons, List.find?_cons, List.find?_cons]
    by_cases h2 : p.1 = k'
    · by_cases h1 : p.1 = k
      · rw [if_pos h1, decide_eq_true h2, if_pos (h2.symm.trans h1)] <;> rfl
      · rw [if_neg h1, decide_eq_true h2, if_neg (fun z => h1 (h2.trans z))] <;> rfl
    · have e : decide ((if p.1 = k then (p.1, d) else p).1 = k') = false := by
        by_cases h1 : p.1 = k
        · rw [if_pos h1]; exact decide_eq_false h2
        · rw [if_neg h1]; exact decide_eq_false h2
      rw [e, decide_eq_false h2]
      exact ih
theorem valD_putE {κ : Type} [DecidableEq κ] (l : List (κ × D)) (k k' : κ) (d : D) : valD (putE l k d) k' = if k' = k then some d else valD l k' := by
  unfold putE
  have ha := any_val k l
  by_cases h : (l.any fun p => decide (p.1 = k)) = true
  · rw [if_pos h, valD_mapE]
    by_cases hk : k' = k
    · subst hk
      rw [if_pos rfl, if_pos rfl]
      rw [h] at ha
      obtain ⟨v, hv⟩ := Option.isSome_iff_exists.mp ha.symm
      rw [hv]; rfl
    · rw [if_neg hk, if_neg hk]
  · rw [if_neg h]
    have hn : (valD l k) = none := by
      rw [Bool.not_eq_true] at h
      rw [h] at ha
      exact Option.not_isSome_iff_eq_none.mp (by rw [← ha]; decide)
    unfold valD at hn ⊢
    rw [List.find?_append]
    by_cases hk : k' = k
    · subst hk
      rw [if_pos rfl]
      rw [Option.map_eq_none_iff] at hn
      rw [hn]; simp
    · rw [if_neg hk]
      have : ¬ k = k' := fun z => hk z.symm
      simp [this]
theorem putE_le {κ : Type} [DecidableEq κ] (l : List (κ × D)) (k : κ) (d : D) : (putE l k d).length ≤ l.length + 1 := by
  unfold putE
  split
  · rw [List.length_map]; omega
  · rw [List.length_append]; exact Nat.le_refl _
theorem putE_lts {κ : Type} [DecidableEq κ] {l : List (κ × D)} {k : κ} {d : D} {n : Nat} (h : D.lts n (l.map (·.2))) (hd : D.lt n d) : D.lts n ((putE l k d).map (·.2)) := by
  unfold putE
  split
  · induction l with
    | nil => trivial
    | cons p l ih =>
      rw [List.map_cons, List.map_cons]
      refine ⟨?_, ?_⟩
      · by_cases e : p.1 = k
        · rw [if_pos e]; exact hd
        · rw [if_neg e]; exact h.1
      · rename_i hh
        clear ih hh
        replace h := h.2
        induction l with
        | nil => trivial
        | cons q l ih =>
          rw [List.map_cons, List.map_cons]
          refine ⟨?_, ih h.2⟩
          by_cases e : q.1 = k
          · rw [if_pos e]; exact hd
          · rw [if_neg e]; exact h.1
  · rw [List.map_append]
    induction l with
    | nil => exact ⟨hd, trivial⟩
    | cons p l ih => exact ⟨h.1, ih h.2 (by simp_all)⟩
theorem take_getD {sh : List Int} {j k : Nat} (h : k < j) : (sh.take j).getD k 0 = sh.getD k 0 := by
  rw [List.getD_eq_getElem?_getD, List.getD_eq_getElem?_getD, List.getElem?_take, if_pos h]
theorem readF_take {q a p c : Int} {sh : List Int} {j : Nat} {s : Int} (h : sh[j]? = some s) : readF p c (.scrape q a (sh.take (j + 1))) = readF p c (.scrape q a (sh.take j)) ++ if q = p ∧ c = a + j ∧ 0 < s then [s] else [] := by
  have hj := (List.getElem?_eq_some_iff.mp h).1
  have l1 : (sh.take (j + 1)).length = j + 1 := by rw [List.length_take]; omega
  have l2 : (sh.take j).length = j := by rw [List.length_take]; omega
  unfold readF
  simp only [l1, l2]
  by_cases hc : c = a + j
  · subst hc
    have e : (a + (j : Int) - a).toNat = j := by omega
    rw [e, take_getD (Nat.lt_succ_self j), List.getD_eq_getElem?_getD, h]
    rw [if_neg (c := q = p ∧ 0 ≤ a + (j : Int) - a ∧ a + (j : Int) - a < (j : Int) ∧ _) (fun z => by have := z.2.2.1; omega), List.nil_append]
    by_cases hq : q = p ∧ 0 < s
    · rw [if_pos ⟨hq.1, by omega, by omega, hq.2⟩, if_pos ⟨hq.1, rfl, hq.2⟩]; rfl
    · rw [if_neg (fun z => hq ⟨z.1, z.2.2.2⟩), if_neg (fun z => hq ⟨z.1, z.2.2⟩)]
  · rw [if_neg (c := q = p ∧ c = a + (j : Int) ∧ 0 < s) (fun z => hc z.2.1), List.append_nil]
    by_cases hb : 0 ≤ c - a ∧ c - a < (j : Int)
    · rw [take_getD (by omega), take_getD (by omega)]
      by_cases hq : q = p ∧ 0 < sh.getD (c - a).toNat 0
      · rw [if_pos ⟨hq.1, hb.1, by omega, hq.2⟩, if_pos ⟨hq.1, hb.1, hb.2, hq.2⟩]
      · rw [if_neg (fun z => hq ⟨z.1, z.2.2.2⟩), if_neg (fun z => hq ⟨z.1, z.2.2.2⟩)]
    · rw [if_neg (fun z => by have := z.2.1; have := z.2.2.1; exact hb ⟨by omega, by omega⟩), if_neg (fun z => hb ⟨z.2.1, z.2.2.1⟩)]
theorem ok__law_reads (T : Txt K w mg a)  : Fx P w K mg base 1 a.a__law_reads a.d__law_reads "_law_reads" ["_law_facts"] (lp (sp__law_reads a)) := by
  refine ⟨fn_P T.F__law_reads sc__law_reads (by (intro ds Q E h; first | (obtain ⟨h, hr⟩ := h; subst h; (try (obtain ⟨_, hr⟩ := hr)); (try (obtain ⟨_, hr⟩ := hr)); (try (obtain ⟨_, hr⟩ := hr)); (try (obtain ⟨_, hr⟩ := hr)); (all_goals exact ⟨rfl, by (repeat' (first | trivial | exact lmD_lt | exact Ev.lt | exact evs_lt _ | exact itDs_lt _ | exact prs_lt _ | exact Wld.lt | exact rows_lt | exact deeds_lt | exact pasts_lt | exact D.lts_ints _ | exact D.lts_strs _ | exact Fc.lt | exact Dd.lt | exact fcs_lt _ | exact nfs_lt _ | exact nf_lt | exact D.pl.lt (by assumption) | exact D.dp.lt (by assumption) | exact D.dps.lt (by assumption) | exact D.pls.lt (by assumption) | assumption | refine ⟨?_, ?_⟩))⟩)) | (obtain ⟨_, h, hr⟩ := h; subst h; (try (obtain ⟨_, hr⟩ := hr)); (try (obtain ⟨_, hr⟩ := hr)); (try (obtain ⟨_, hr⟩ := hr)); (try (obtain ⟨_, hr⟩ := hr)); (all_goals exact ⟨rfl, by (repeat' (first | trivial | exact lmD_lt | exact Ev.lt | exact evs_lt _ | exact itDs_lt _ | exact prs_lt _ | exact Wld.lt | exact rows_lt | exact deeds_lt | exact pasts_lt | exact D.lts_ints _ | exact D.lts_strs _ | exact Fc.lt | exact Dd.lt | exact fcs_lt _ | exact nfs_lt _ | exact nf_lt | exact D.pl.lt (by assumption) | exact D.dp.lt (by assumption) | exact D.dps.lt (by assumption) | exact D.pls.lt (by assumption) | assumption | refine ⟨?_, ?_⟩))⟩)) | (obtain ⟨_, _, h, hr⟩ := h; subst h; (try (obtain ⟨_, hr⟩ := hr)); (try (obtain ⟨_, hr⟩ := hr)); (try (obtain ⟨_, hr⟩ := hr)); (try (obtain ⟨_, hr⟩ := hr)); (all_goals exact ⟨rfl, by (repeat' (first | trivial | exact lmD_lt | exact Ev.lt | exact evs_lt _ | exact itDs_lt _ | exact prs_lt _ | exact Wld.lt | exact rows_lt | exact deeds_lt | exact pasts_lt | exact D.lts_ints _ | exact D.lts_strs _ | exact Fc.lt | exact Dd.lt | exact fcs_lt _ | exact nfs_lt _ | exact nf_lt | exact D.pl.lt (by assumption) | exact D.dp.lt (by assumption) | exact D.dps.lt (by assumption) | exact D.pls.lt (by assumption) | assumption | refine ⟨?_, ?_⟩))⟩)) | (obtain ⟨_, _, _, h, hr⟩ := h; subst h; (try (obtain ⟨_, hr⟩ := hr)); (try (obtain ⟨_, hr⟩ := hr)); (try (obtain ⟨_, hr⟩ := hr)); (try (obtain ⟨_, hr⟩ := hr)); (all_goals exact ⟨rfl, by (repeat' (first | trivial | exact lmD_lt | exact Ev.lt | exact evs_lt _ | exact itDs_lt _ | exact prs_lt _ | exact Wld.lt | exact rows_lt | exact deeds_lt | exact pasts_lt | exact D.lts_ints _ | exact D.lts_strs _ | exact Fc.lt | exact Dd.lt | exact fcs_lt _ | exact nfs_lt _ | exact nf_lt | exact D.pl.lt (by assumption) | exact D.dp.lt (by assumption) | exact D.dps.lt (by assumption) | exact D.pls.lt (by assumption) | assumption | refine ⟨?_, ?_⟩))⟩)) | (obtain ⟨_, _, _, _, h, hr⟩ := h; subst h; (try (obtain ⟨_, hr⟩ := hr)); (try (obtain ⟨_, hr⟩ := hr)); (try (obtain ⟨_, hr⟩ := hr)); (try (obtain ⟨_, hr⟩ := hr)); (all_goals exact ⟨rfl, by (repeat' (first | trivial | exact lmD_lt | exact Ev.lt | exact evs_lt _ | exact itDs_lt _ | exact prs_lt _ | exact Wld.lt | exact rows_lt | exact deeds_lt | exact pasts_lt | exact D.lts_ints _ | exact D.lts_strs _ | exact Fc.lt | exact Dd.lt | exact fcs_lt _ | exact nfs_lt _ | exact nf_lt | exact D.pl.lt (by assumption) | exact D.dp.lt (by assumption) | exact D.dps.lt (by assumption) | exact D.pls.lt (by assumption) | assumption | refine ⟨?_, ?_⟩))⟩)) | (obtain ⟨_, _, _, _, _, h, hr⟩ := h; subst h; (try (obtain ⟨_, hr⟩ := hr)); (try (obtain ⟨_, hr⟩ := hr)); (try (obtain ⟨_, hr⟩ := hr)); (try (obtain ⟨_, hr⟩ := hr)); (all_goals exact ⟨rfl, by (repeat' (first | trivial | exact lmD_lt | exact Ev.lt | exact evs_lt _ | exact itDs_lt _ | exact prs_lt _ | exact Wld.lt | exact rows_lt | exact deeds_lt | exact pasts_lt | exact D.lts_ints _ | exact D.lts_strs _ | exact Fc.lt | exact Dd.lt | exact fcs_lt _ | exact nfs_lt _ | exact nf_lt | exact D.pl.lt (by assumption) | exact D.dp.lt (by assumption) | exact D.dps.lt (by assumption) | exact D.pls.lt (by assumption) | assumption | refine ⟨?_, ?_⟩))⟩)) | (obtain ⟨h, _⟩ := h; exact (by simp at h)))) fun cdv A outer s H E φ T0 W' room wl => ⟨_, (lss_cons (ls_set 1 le_dnewT sc__law_reads.nd)
    (lss_consW [0, 2, 3, 4, 5] (ls_for (passes_of rfl) rfl (li_list (lv 0)) (lg_T (t := (.tp [(.nm 2), (.nm 3)])) (tg_tp rfl (tg_cons (tg_nm 2 sc__law_reads.nd) (tg_cons (tg_nm 3 sc__law_reads.nd) tg_nil))))
    (lss_consW [2, 3, 4, 5] (ls_if (lt_cmp (oo_eq room.units) (le_ix ox_seq (lv 3) le_int) le_str (by rfl)) (lss_consW [2, 3, 4, 5] (ls_for (passes_of rfl) rfl (li_rng1 rfl T.n_range (la_cons (le_callB cc_len rfl T.n_len (by rfl) (la_cons (le_ix ox_seq (lv 3) le_int) la_nil)) la_nil)) (lg_name (i := 4) sc__law_reads.nd rfl)
    (lss_consW [4, 5] (ls_if (lt_cmp oo_gt (le_ix ox_seq (le_ix ox_seq (lv 3) le_int) (lv 4)) le_int (by rfl)) (lss_cons (ls_set 5 (le_tup (la_cons (le_ix ox_seq (lv 3) le_int) (la_cons (le_op oo_add (le_ix ox_seq (lv 3) le_int) (lv 4)) la_nil))) sc__law_reads.nd)
    (lss_consW [4, 5] (ls_asg (le_op oo_add (le_tget2 (u1 room.units) (lv 1) (lv 5) (le_lst la_nil)) (le_lst (la_cons (le_ix ox_seq (le_ix ox_seq (lv 3) le_int) (lv 4)) la_nil))) (lg_sub (lv 1) (lv 5) (st_dictT (u1 room.units))))
    lss_nil)) lss_nil)
    lss_nil))
    lss_nil) lss_nil)
    lss_nil))
    (lss_cons (ls_ret (lv 1))
    lss_nil))), fun ds S R X n h hW => ?_⟩, T.m__law_reads, T.F__law_reads.kp, T.b__law_reads⟩
  obtain ⟨Q, E, h, rfl, rfl, rfl, rfl⟩ := h
  subst hW
  obtain ⟨fs, rfl, hl, hs, q⟩ := h
  conv => whnf
  refine ⟨fun i s' S' => ∃ l, readsOk l ((fs.take i).map (·.2)) ∧ l.length ≤ 10 * i ∧ D.lts 0 (l.map (·.2)) ∧ S' = [.dT l] ∧ s' = [some (.lst (fs.map nf)), some (.ref 0), none, none, none, none], ⟨[], fun _ _ => rfl, Nat.le_refl _, trivial, rfl, rfl⟩, fun _ _ _ _ _ => rfl, ?_, ?_⟩
  · rintro i x s' S' hi ⟨l, hr, hll, hlt, rfl, rfl⟩
    obtain ⟨⟨n, f⟩, hp, rfl⟩ := map_at hi
    conv => whnf
    refine ⟨_, rfl, ?_⟩
    cases f with
    | scrape q' a' sh =>
      have hz := hs _ (List.mem_of_getElem? hp) q' a' sh rfl
      have hi31 : i < fs.length := (List.getElem?_eq_some_iff.mp hp).1
      conv => whnf
      have en : (List.map D.int sh).length = sh.length := List.length_map ..
      rw [en]
      refine ⟨by omega, by omega, fun j s' S' => ∃ l2, readsOk l2 ((fs.take i).map (·.2) ++ [.scrape q' a' (sh.take j)]) ∧ l2.length ≤ 10 * i + j ∧ D.lts 0 (l2.map (·.2)) ∧ S' = [.dT l2] ∧ s' = [some (.lst (fs.map nf)), some (.ref 0), some (.int n), some (Fc.scrape q' a' sh).d, none, none], ⟨l, ?_, by omega, hlt, rfl, rfl⟩, fun _ _ _ _ _ => trivial, ?_, ?_⟩
      · intro p c
        rw [readC_snoc, hr p c, show readF p c (.scrape q' a' (sh.take 0)) = [] from if_neg fun z => by
          have h1 := z.2.1
          have h2 := z.2.2.1
          rw [List.take_zero, List.length_nil] at h2
          omega, List.append_nil]
      · rintro j x s' S' hj ⟨l2, hr2, hl2, ht2, rfl, rfl⟩
        obtain ⟨hj2, rfl⟩ := rngD_get hj
        have hj3 : j < sh.length := by simpa using hj2
        conv => whnf
        have hz0 : L2.atI (sh.map D.int) (0 + (j : Int)) = some (.int sh[j]) := atI_nat (by rw [List.getElem?_map, List.getElem?_eq_getElem hj3]; rfl)
        rw [hz0]
        conv => whnf
        refine lif (fun hc => ?_) (fun hc => ?_)
        · have hc := of_decide_eq_true (show decide (0 < sh[j]) = true from hc)
          conv => whnf
          refine Need.mk rfl ?_
          conv => whnf
          have hv := hr2 q' (a' + (0 + (j : Int)))
          have hol := readC_len q' (a' + (0 + (j : Int))) ((fs.take i).map (·.2) ++ [.scrape q' a' (sh.take j)])
          have hol2 : ((fs.take i).map (·.2) ++ [Fc.scrape q' a' (sh.take j)]).length ≤ 32 := by rw [List.length_append, List.length_map, List.length_take]; simp; omega
          generalize hold : readC q' (a' + (0 + (j : Int))) ((fs.take i).map (·.2) ++ [.scrape q' a' (sh.take j)]) = old at hv hol
          rw [show valD l2 [Sum.inl q', Sum.inl (a' + (0 + (j : Int)))] = rd old from hv]
          have ho : (rd old).getD (.lst []) = .lst (old.map D.int) := by cases old <;> rfl
          rw [ho, hz0]
          conv => whnf
          refine Need.mk (by rw [List.length_map, sizeLine_eq]; show old.length + 1 ≤ _; omega) ?_
          conv => whnf
          refine Need.mk (by show l2.length < _; rw [sizeLine_eq]; omega) ?_
          refine .inl ⟨putE l2 [Sum.inl q', Sum.inl (a' + (0 + (j : Int)))] (.lst ((old ++ [sh[j]]).map D.int)), ?_, by have := putE_le l2 [Sum.inl q', Sum.inl (a' + (0 + (j : Int)))] (.lst ((old ++ [sh[j]]).map D.int)); omega, putE_lts ht2 (D.lts_ints _), ?_, rfl⟩
          · intro p c
            rw [valD_putE, readC_snoc, readF_take (List.getElem?_eq_getElem hj3), ← List.append_assoc, ← readC_snoc, hr2 p c]
            by_cases hk : ([Sum.inl p, Sum.inl c] : List Key) = [Sum.inl q', Sum.inl (a' + (0 + (j : Int)))]
            · rw [if_pos hk]
              injection hk with h1 h2
              injection h2 with h2 _
              cases h1; cases h2
              have hcd : q' = q' ∧ a' + (0 + (j : Int)) = a' + (j : Int) ∧ 0 < sh[j] := ⟨rfl, by omega, hc⟩
              rw [if_pos hcd, hold]
              cases old <;> rfl
            · rw [if_neg hk, if_neg (fun z => hk (by obtain ⟨rfl, rfl, _⟩ := z; rw [Int.zero_add])), List.append_nil]
          · rw [List.map_append]
            rfl
        · have hc := of_decide_eq_false (show decide (0 < sh[j]) = false from hc)
          conv => whnf
          refine .inl ⟨l2, ?_, by omega, ht2, rfl, rfl⟩
          intro p c
          rw [readC_snoc, readF_take (List.getElem?_eq_getElem hj3), if_neg (fun z => hc z.2.2), List.append_nil, ← readC_snoc]
          exact hr2 p c
      · rintro s' S' ⟨l2, hr2, hl2, ht2, rfl, rfl⟩
        conv => whnf
        have en3 : (rngD 0 ((sh.length : Int)).toNat).length = sh.length := by rw [rngD_len]; rfl
        rw [en3] at hr2 hl2
        rw [List.take_length] at hr2
        refine .inl ⟨l2, ?_, by omega, ht2, rfl, rfl⟩
        rw [take_snoc hp, List.map_append, List.map_singleton]
        exact hr2
    | _ =>
      conv => whnf
      refine .inl ⟨l, ?_, by omega, hlt, rfl, rfl⟩
      rw [take_snoc hp, List.map_append, List.map_singleton]
      intro p c
      rw [readC_snoc, hr p c]
      simp [readF]
  · rintro s' S' ⟨l, hr, hll, hlt, rfl, rfl⟩
    conv => whnf
    rw [List.length_map, List.take_length] at hr
    exact RpT rfl hlt (q l hr hlt)
/-- what a law says of a coat's shades -/
def shadeL : List Int → Int
  | [] => 0
  | x :: l => if (x :: l).all (fun y => decide (y = x)) = true then x else -1
theorem shadeL_ok {r : List Int} {lo hi : Int} {x : Int} {l : List Int} (e : r = x :: l) (h1 : lo ∈ r) (h2 : ∀ z ∈ r, lo ≤ z) (h3 : hi ∈ r) (h4 : ∀ z ∈ r, z ≤ hi) : shadeL r = if lo = hi then x else -1 := by
  subst e
  show (if _ then x else -1) = _
  by_cases h : lo = hi
  · rw [if_pos h, if_pos]
    refine List.all_eq_true.mpr fun y hy => decide_eq_true ?_
    have := h2 y hy
    have := h4 y hy
    have := h2 x List.mem_cons_self
    have := h4 x List.mem_cons_self
    omega
  · rw [if_neg h, if_neg]
    intro g
    have g := List.all_eq_true.mp g
    exact h ((of_decide_eq_true (g _ h1)).trans (of_decide_eq_true (g _ h3)).symm)
theorem shadeL_cl {p : Int} {fs : List Fc} {c : Nat} (h : ∀ z ∈ readC p c fs, 0 < z ∧ z ≤ 6) : shadeL (readC p c fs) = if clashC p fs c = true then -1 else shadeC p fs c := by
  unfold clashC shadeC
  generalize readC p c fs = r at h
  cases r with
  | nil => rfl
  | cons x l =>
    obtain ⟨m1, m2, m3⟩ := max_fold (x :: l) 0
    have hx := h x List.mem_cons_self
    show (if _ then x else -1) = _
    by_cases g : (x :: l).all (fun y => decide (y = x)) = true
    · rw [if_pos g]
      have g := fun y hy => of_decide_eq_true (List.all_eq_true.mp g y hy)
      rw [if_neg]
      · rcases m3 with m3 | m3
        · have := m2 x List.mem_cons_self; omega
        · exact (g _ m3).symm
      · intro hh
        obtain ⟨y, hy, hh⟩ := List.any_eq_true.mp hh
        obtain ⟨z, hz, hh⟩ := List.any_eq_true.mp hh
        have hh := of_decide_eq_true hh
        have := g y hy
        have := g z hz
        omega
    · rw [if_neg g, if_pos]
      rw [Bool.not_eq_true, List.all_eq_false] at g
      obtain ⟨y, hy, g⟩ := g
      have g : ¬ y = x := fun e => g (decide_eq_true e)
      rcases Int.lt_or_lt_of_ne g with hh | hh
      · exact List.any_eq_true.mpr ⟨y, hy, List.any_eq_true.mpr ⟨x, List.mem_cons_self, decide_eq_true hh⟩⟩
      · exact List.any_eq_true.mpr ⟨x, List.mem_cons_self, List.any_eq_true.mpr ⟨y, hy, decide_eq_true hh⟩⟩
def sp__law_shade_of (a : Ad) : SpP := fun ds Q _ => ∃ (l : List (List Key × D)) (p c : Int) (r : List Int), ds = [.dT (l.map (·.1)) (l.map (·.2)), .lst [.tup [.int p, .int c]]] ∧ D.lts 0 (l.map (·.2)) ∧ valD l [.inl p, .inl c] = rd r ∧ r.length ≤ 100 ∧ Q (.int (shadeL r))
theorem mn__law_shade_of (a : Ad) : ∀ ds (Q Q' : D → Prop) E, sp__law_shade_of a ds Q E → (∀ d, Q d → Q' d) → sp__law_shade_of a ds Q' E := fun _ _ _ _ ⟨l, p, c, r, h1, h2, h3, h4, q⟩ i => ⟨l, p, c, r, h1, h2, h3, h4, i _ q⟩
theorem ok__law_shade_of (T : Txt K w mg a)  : Fx P w K mg base 1 a.a__law_shade_of a.d__law_shade_of "_law_shade_of" ["_law_reads_here", "_law_coats"] (lp (sp__law_shade_of a)) := by
  refine ⟨fn_P T.F__law_shade_of sc__law_shade_of (by (intro ds Q E h; first | (obtain ⟨h, hr⟩ := h; subst h; (try (obtain ⟨_, hr⟩ := hr)); (try (obtain ⟨_, hr⟩ := hr)); (try (obtain ⟨_, hr⟩ := hr)); (try (obtain ⟨_, hr⟩ := hr)); (all_goals exact ⟨rfl, by (repeat' (first | trivial | exact lmD_lt | exact Ev.lt | exact evs_lt _ | exact itDs_lt _ | exact prs_lt _ | exact Wld.lt | exact rows_lt | exact deeds_lt | exact pasts_lt | exact D.lts_ints _ | exact D.lts_strs _ | exact Fc.lt | exact Dd.lt | exact fcs_lt _ | exact nfs_lt _ | exact nf_lt | exact D.pl.lt (by assumption) | exact D.dp.lt (by assumption) | exact D.dps.lt (by assumption) | exact D.pls.lt (by assumption) | assumption | refine ⟨?_, ?_⟩))⟩)) | (obtain ⟨_, h, hr⟩ := h; subst h; (try (obtain ⟨_, hr⟩ := hr)); (try (obtain ⟨_, hr⟩ := hr)); (try (obtain ⟨_, hr⟩ := hr)); (try (obtain ⟨_, hr⟩ := hr)); (all_goals exact ⟨rfl, by (repeat' (first | trivial | exact lmD_lt | exact Ev.lt | exact evs_lt _ | exact itDs_lt _ | exact prs_lt _ | exact Wld.lt | exact rows_lt | exact deeds_lt | exact pasts_lt | exact D.lts_ints _ | exact D.lts_strs _ | exact Fc.lt | exact Dd.lt | exact fcs_lt _ | exact nfs_lt _ | exact nf_lt | exact D.pl.lt (by assumption) | exact D.dp.lt (by assumption) | exact D.dps.lt (by assumption) | exact D.pls.lt (by assumption) | assumption | refine ⟨?_, ?_⟩))⟩)) | (obtain ⟨_, _, h, hr⟩ := h; subst h; (try (obtain ⟨_, hr⟩ := hr)); (try (obtain ⟨_, hr⟩ := hr)); (try (obtain ⟨_, hr⟩ := hr)); (try (obtain ⟨_, hr⟩ := hr)); (all_goals exact ⟨rfl, by (repeat' (first | trivial | exact lmD_lt | exact Ev.lt | exact evs_lt _ | exact itDs_lt _ | exact prs_lt _ | exact Wld.lt | exact rows_lt | exact deeds_lt | exact pasts_lt | exact D.lts_ints _ | exact D.lts_strs _ | exact Fc.lt | exact Dd.lt | exact fcs_lt _ | exact nfs_lt _ | exact nf_lt | exact D.pl.lt (by assumption) | exact D.dp.lt (by assumption) | exact D.dps.lt (by assumption) | exact D.pls.lt (by assumption) | assumption | refine ⟨?_, ?_⟩))⟩)) | (obtain ⟨_, _, _, h, hr⟩ := h; subst h; (try (obtain ⟨_, hr⟩ := hr)); (try (obtain ⟨_, hr⟩ := hr)); (try (obtain ⟨_, hr⟩ := hr)); (try (obtain ⟨_, hr⟩ := hr)); (all_goals exact ⟨rfl, by (repeat' (first | trivial | exact lmD_lt | exact Ev.lt | exact evs_lt _ | exact itDs_lt _ | exact prs_lt _ | exact Wld.lt | exact rows_lt | exact deeds_lt | exact pasts_lt | exact D.lts_ints _ | exact D.lts_strs _ | exact Fc.lt | exact Dd.lt | exact fcs_lt _ | exact nfs_lt _ | exact nf_lt | exact D.pl.lt (by assumption) | exact D.dp.lt (by assumption) | exact D.dps.lt (by assumption) | exact D.pls.lt (by assumption) | assumption | refine ⟨?_, ?_⟩))⟩)) | (obtain ⟨_, _, _, _, h, hr⟩ := h; subst h; (try (obtain ⟨_, hr⟩ := hr)); (try (obtain ⟨_, hr⟩ := hr)); (try (obtain ⟨_, hr⟩ := hr)); (try (obtain ⟨_, hr⟩ := hr)); (all_goals exact ⟨rfl, by (repeat' (first | trivial | exact lmD_lt | exact Ev.lt | exact evs_lt _ | exact itDs_lt _ | exact prs_lt _ | exact Wld.lt | exact rows_lt | exact deeds_lt | exact pasts_lt | exact D.lts_ints _ | exact D.lts_strs _ | exact Fc.lt | exact Dd.lt | exact fcs_lt _ | exact nfs_lt _ | exact nf_lt | exact D.pl.lt (by assumption) | exact D.dp.lt (by assumption) | exact D.dps.lt (by assumption) | exact D.pls.lt (by assumption) | assumption | refine ⟨?_, ?_⟩))⟩)) | (obtain ⟨_, _, _, _, _, h, hr⟩ := h; subst h; (try (obtain ⟨_, hr⟩ := hr)); (try (obtain ⟨_, hr⟩ := hr)); (try (obtain ⟨_, hr⟩ := hr)); (try (obtain ⟨_, hr⟩ := hr)); (all_goals exact ⟨rfl, by (repeat' (first | trivial | exact lmD_lt | exact Ev.lt | exact evs_lt _ | exact itDs_lt _ | exact prs_lt _ | exact Wld.lt | exact rows_lt | exact deeds_lt | exact pasts_lt | exact D.lts_ints _ | exact D.lts_strs _ | exact Fc.lt | exact Dd.lt | exact fcs_lt _ | exact nfs_lt _ | exact nf_lt | exact D.pl.lt (by assumption) | exact D.dp.lt (by assumption) | exact D.dps.lt (by assumption) | exact D.pls.lt (by assumption) | assumption | refine ⟨?_, ?_⟩))⟩)) | (obtain ⟨h, _⟩ := h; exact (by simp at h)))) fun cdv A outer s H E φ T0 W' room wl => ⟨_, (lss_cons (ls_set 2 (le_lst la_nil) sc__law_shade_of.nd)
    (lss_consW [0, 1, 3] (ls_for (passes_of rfl) rfl (li_list (lv 1)) (lg_name (i := 3) sc__law_shade_of.nd rfl)
    (lss_consW [3] (ls_set 2 (le_op oo_add (lv 2) (le_tget2 (u1 room.units) (lv 0) (lv 3) (le_lst la_nil))) sc__law_shade_of.nd)
    lss_nil))
    (lss_cons (ls_if (lt_cmp (oo_eq room.units) (lv 2) (le_lst la_nil) (by rfl)) (lss_cons (ls_ret le_int)
    lss_nil) lss_nil)
    (lss_cons (ls_ret (le_if (lt_cmp (oo_eq room.units) (le_callB (cc_min1 rfl (u1 room.units)) rfl T.n_min (by rfl) (la_cons (lv 2) la_nil)) (le_callB (cc_max1 rfl (u1 room.units)) rfl T.n_max (by rfl) (la_cons (lv 2) la_nil)) (by rfl)) (le_ix ox_seq (lv 2) le_int) (le_neg le_int)))
    lss_nil)))), fun ds S R X n h hW => ?_⟩, T.m__law_shade_of, T.F__law_shade_of.kp, T.b__law_shade_of⟩
  obtain ⟨Q, E, h, rfl, rfl, rfl, rfl⟩ := h
  subst hW
  obtain ⟨l, p, c, r, rfl, hlt, hv, hl, q⟩ := h
  conv => whnf
  have ho : ∀ S : List O, itemsOf S (D.lst [D.tup [D.int p, D.int c]]) = some [D.tup [D.int p, D.int c]] := fun _ => rfl
  refine ⟨fun i s' S' => S' = [] ∧ s' = [some (.dT (l.map (·.1)) (l.map (·.2))), some (.lst [.tup [.int p, .int c]]), some (.lst ((if i = 0 then [] else r).map D.int)), none], ⟨rfl, rfl⟩, fun _ _ _ _ _ => rfl, ?_, ?_⟩
  · rintro i x s' S' hi ⟨rfl, rfl⟩
    have hi0 : i = 0 := by
      have := (List.getElem?_eq_some_iff.mp hi).1
      simp at this
      omega
    subst hi0
    have hx : x = .tup [.int p, .int c] := by simpa using hi.symm
    subst hx
    conv => whnf
    refine Need.mk rfl ?_
    conv => whnf
    rw [zip_un, hv]
    have hrd : (rd r).getD (.lst []) = .lst (r.map D.int) := by cases r <;> rfl
    rw [hrd]
    conv => whnf
    refine Need.mk (by rw [sizeLine_eq, List.length_map]; simp; omega) ?_
    conv => whnf
    exact .inl ⟨rfl, rfl⟩
  · rintro s' S' ⟨rfl, rfl⟩
    rw [show (if [D.tup [D.int p, D.int c]].length = 0 then [] else r) = r from rfl]
    conv => whnf
    refine Need.mk ⟨D.pls_ints _, trivial⟩ ?_
    conv => whnf
    cases r with
    | nil =>
      conv => whnf
      exact Rp q
    | cons x r =>
      conv => whnf
      refine optI (asIs_ints (x :: r)) ?_
      refine Need.mk (List.cons_ne_nil _ _) fun lo h1 h2 => ?_
      conv => whnf
      refine optI (asIs_ints (x :: r)) ?_
      refine Need.mk (List.cons_ne_nil _ _) fun hi h3 h4 => ?_
      have hs := shadeL_ok rfl h1 h2 h3 h4
      conv => whnf
      refine brd (fun hc => ?_) (fun hc => ?_)
      · have hc : lo = hi := hc
        rw [if_pos hc] at hs
        rw [hs] at q
        conv => whnf
        refine optI (x := .int x) (atI_get (by decide) rfl) ?_
        exact Rp q
      · have hc : ¬ lo = hi := hc
        rw [if_neg hc] at hs
        rw [hs] at q
        conv => whnf
        exact Rp q
def sp_Coats_len (a : Ad) : SpP := fun ds Q E => ∃ ns : List Int, ds = [cts a.c_Coats ns] ∧ Q (.int ns.length)
theorem ok_Coats_len (T : Txt K w mg a)  : Mx P w K mg base 1 a.c_Coats "__len__" a.a_Coats_len a.d_Coats_len ["self"] (lp (sp_Coats_len a)) [] [] := by
  refine ⟨fn_P T.F_Coats_len sc_Coats_len (by (intro ds Q E h; first | (obtain ⟨h, hr⟩ := h; subst h; (try (obtain ⟨_, hr⟩ := hr)); (try (obtain ⟨_, hr⟩ := hr)); (try (obtain ⟨_, hr⟩ := hr)); (try (obtain ⟨_, hr⟩ := hr)); (all_goals exact ⟨rfl, by (repeat' (first | trivial | exact lmD_lt | exact Ev.lt | exact evs_lt _ | exact itDs_lt _ | exact prs_lt _ | exact Wld.lt | exact rows_lt | exact deeds_lt | exact pasts_lt | exact D.lts_ints _ | exact D.lts_strs _ | exact Fc.lt | exact Dd.lt | exact fcs_lt _ | exact nfs_lt _ | exact nf_lt | exact D.pl.lt (by assumption) | exact D.dp.lt (by assumption) | exact D.dps.lt (by assumption) | exact D.pls.lt (by assumption) | assumption | refine ⟨?_, ?_⟩))⟩)) | (obtain ⟨_, h, hr⟩ := h; subst h; (try (obtain ⟨_, hr⟩ := hr)); (try (obtain ⟨_, hr⟩ := hr)); (try (obtain ⟨_, hr⟩ := hr)); (try (obtain ⟨_, hr⟩ := hr)); (all_goals exact ⟨rfl, by (repeat' (first | trivial | exact lmD_lt | exact Ev.lt | exact evs_lt _ | exact itDs_lt _ | exact prs_lt _ | exact Wld.lt | exact rows_lt | exact deeds_lt | exact pasts_lt | exact D.lts_ints _ | exact D.lts_strs _ | exact Fc.lt | exact Dd.lt | exact fcs_lt _ | exact nfs_lt _ | exact nf_lt | exact D.pl.lt (by assumption) | exact D.dp.lt (by assumption) | exact D.dps.lt (by assumption) | exact D.pls.lt (by assumption) | assumption | refine ⟨?_, ?_⟩))⟩)) | (obtain ⟨_, _, h, hr⟩ := h; subst h; (try (obtain ⟨_, hr⟩ := hr)); (try (obtain ⟨_, hr⟩ := hr)); (try (obtain ⟨_, hr⟩ := hr)); (try (obtain ⟨_, hr⟩ := hr)); (all_goals exact ⟨rfl, by (repeat' (first | trivial | exact lmD_lt | exact Ev.lt | exact evs_lt _ | exact itDs_lt _ | exact prs_lt _ | exact Wld.lt | exact rows_lt | exact deeds_lt | exact pasts_lt | exact D.lts_ints _ | exact D.lts_strs _ | exact Fc.lt | exact Dd.lt | exact fcs_lt _ | exact nfs_lt _ | exact nf_lt | exact D.pl.lt (by assumption) | exact D.dp.lt (by assumption) | exact D.dps.lt (by assumption) | exact D.pls.lt (by assumption) | assumption | refine ⟨?_, ?_⟩))⟩)) | (obtain ⟨_, _, _, h, hr⟩ := h; subst h; (try (obtain ⟨_, hr⟩ := hr)); (try (obtain ⟨_, hr⟩ := hr)); (try (obtain ⟨_, hr⟩ := hr)); (try (obtain ⟨_, hr⟩ := hr)); (all_goals exact ⟨rfl, by (repeat' (first | trivial | exact lmD_lt | exact Ev.lt | exact evs_lt _ | exact itDs_lt _ | exact prs_lt _ | exact Wld.lt | exact rows_lt | exact deeds_lt | exact pasts_lt | exact D.lts_ints _ | exact D.lts_strs _ | exact Fc.lt | exact Dd.lt | exact fcs_lt _ | exact nfs_lt _ | exact nf_lt | exact D.pl.lt (by assumption) | exact D.dp.lt (by assumption) | exact D.dps.lt (by assumption) | exact D.pls.lt (by assumption) | assumption | refine ⟨?_, ?_⟩))⟩)) | (obtain ⟨_, _, _, _, h, hr⟩ := h; subst h; (try (obtain ⟨_, hr⟩ := hr)); (try (obtain ⟨_, hr⟩ := hr)); (try (obtain ⟨_, hr⟩ := hr)); (try (obtain ⟨_, hr⟩ := hr)); (all_goals exact ⟨rfl, by (repeat' (first | trivial | exact lmD_lt | exact Ev.lt | exact evs_lt _ | exact itDs_lt _ | exact prs_lt _ | exact Wld.lt | exact rows_lt | exact deeds_lt | exact pasts_lt | exact D.lts_ints _ | exact D.lts_strs _ | exact Fc.lt | exact Dd.lt | exact fcs_lt _ | exact nfs_lt _ | exact nf_lt | exact D.pl.lt (by assumption) | exact D.dp.lt (by assumption) | exact D.dps.lt (by assumption) | exact D.pls.lt (by assumption) | assumption | refine ⟨?_, ?_⟩))⟩)) | (obtain ⟨_, _, _, _, _, h, hr⟩ := h; subst h; (try (obtain ⟨_, hr⟩ := hr)); (try (obtain ⟨_, hr⟩ := hr)); (try (obtain ⟨_, hr⟩ := hr)); (try (obtain ⟨_, hr⟩ := hr)); (all_goals exact ⟨rfl, by (repeat' (first | trivial | exact lmD_lt | exact Ev.lt | exact evs_lt _ | exact itDs_lt _ | exact prs_lt _ | exact Wld.lt | exact rows_lt | exact deeds_lt | exact pasts_lt | exact D.lts_ints _ | exact D.lts_strs _ | exact Fc.lt | exact Dd.lt | exact fcs_lt _ | exact nfs_lt _ | exact nf_lt | exact D.pl.lt (by assumption) | exact D.dp.lt (by assumption) | exact D.dps.lt (by assumption) | exact D.pls.lt (by assumption) | assumption | refine ⟨?_, ?_⟩))⟩)) | (obtain ⟨h, _⟩ := h; exact (by simp at h)))) fun cdv A outer s H E φ T0 W' room wl => ⟨_, (lss_cons (ls_ret (le_callB cc_len rfl T.n_len (by rfl) (la_cons (le_fldC (C := a.c_Coats) T.o_Coats.is.cl T.na_Coats_seen (lv 0)) la_nil)))
    lss_nil), fun ds S R X n h hW => ?_⟩, T.o_Coats.is.cl, T.i_Coats_len, ⟨[], .nil, T.b_Coats_len⟩, RVc.nil⟩
  obtain ⟨Q, E, h, rfl, rfl, rfl, rfl⟩ := h
  subst hW
  obtain ⟨ns, rfl, q⟩ := h
  conv => whnf
  repeat (refine Need.mk ?_ ?_; exact nd; conv => whnf)
  rw [List.length_map]
  exact Rp q
def sp_Coats_shade (a : Ad) : SpP := fun ds Q E => ∃ (ns : List Int) (i : Int), ds = [cts a.c_Coats ns, .int i] ∧ (∀ z, 0 ≤ i → ns[i.toNat]? = some z → Q (.int z)) ∧ (¬ (0 ≤ i ∧ i < ns.length) → E a.c_BadCoat [("called", .str "badcoat")])
theorem ok_Coats_shade (T : Txt K w mg a) (Z_BadCoat : XcD P w K mg base "BadCoat" a.c_BadCoat a.a_BadCoat_init a.d_BadCoat_init ["self"] 0 (fl0 "badcoat") (fd0 "badcoat") [] []) : Mx P w K mg base 4 a.c_Coats "shade" a.a_Coats_shade a.d_Coats_shade ["self", "at"] (lp (sp_Coats_shade a)) [] [] := by
  refine ⟨fn_P T.F_Coats_shade sc_Coats_shade (by (intro ds Q E h; first | (obtain ⟨h, hr⟩ := h; subst h; (try (obtain ⟨_, hr⟩ := hr)); (try (obtain ⟨_, hr⟩ := hr)); (try (obtain ⟨_, hr⟩ := hr)); (try (obtain ⟨_, hr⟩ := hr)); (all_goals exact ⟨rfl, by (repeat' (first | trivial | exact lmD_lt | exact Ev.lt | exact evs_lt _ | exact itDs_lt _ | exact prs_lt _ | exact Wld.lt | exact rows_lt | exact deeds_lt | exact pasts_lt | exact D.lts_ints _ | exact D.lts_strs _ | exact Fc.lt | exact Dd.lt | exact fcs_lt _ | exact nfs_lt _ | exact nf_lt | exact D.pl.lt (by assumption) | exact D.dp.lt (by assumption) | exact D.dps.lt (by assumption) | exact D.pls.lt (by assumption) | assumption | refine ⟨?_, ?_⟩))⟩)) | (obtain ⟨_, h, hr⟩ := h; subst h; (try (obtain ⟨_, hr⟩ := hr)); (try (obtain ⟨_, hr⟩ := hr)); (try (obtain ⟨_, hr⟩ := hr)); (try (obtain ⟨_, hr⟩ := hr)); (all_goals exact ⟨rfl, by (repeat' (first | trivial | exact lmD_lt | exact Ev.lt | exact evs_lt _ | exact itDs_lt _ | exact prs_lt _ | exact Wld.lt | exact rows_lt | exact deeds_lt | exact pasts_lt | exact D.lts_ints _ | exact D.lts_strs _ | exact Fc.lt | exact Dd.lt | exact fcs_lt _ | exact nfs_lt _ | exact nf_lt | exact D.pl.lt (by assumption) | exact D.dp.lt (by assumption) | exact D.dps.lt (by assumption) | exact D.pls.lt (by assumption) | assumption | refine ⟨?_, ?_⟩))⟩)) | (obtain ⟨_, _, h, hr⟩ := h; subst h; (try (obtain ⟨_, hr⟩ := hr)); (try (obtain ⟨_, hr⟩ := hr)); (try (obtain ⟨_, hr⟩ := hr)); (try (obtain ⟨_, hr⟩ := hr)); (all_goals exact ⟨rfl, by (repeat' (first | trivial | exact lmD_lt | exact Ev.lt | exact evs_lt _ | exact itDs_lt _ | exact prs_lt _ | exact Wld.lt | exact rows_lt | exact deeds_lt | exact pasts_lt | exact D.lts_ints _ | exact D.lts_strs _ | exact Fc.lt | exact Dd.lt | exact fcs_lt _ | exact nfs_lt _ | exact nf_lt | exact D.pl.lt (by assumption) | exact D.dp.lt (by assumption) | exact D.dps.lt (by assumption) | exact D.pls.lt (by assumption) | assumption | refine ⟨?_, ?_⟩))⟩)) | (obtain ⟨_, _, _, h, hr⟩ := h; subst h; (try (obtain ⟨_, hr⟩ := hr)); (try (obtain ⟨_, hr⟩ := hr)); (try (obtain ⟨_, hr⟩ := hr)); (try (obtain ⟨_, hr⟩ := hr)); (all_goals exact ⟨rfl, by (repeat' (first | trivial | exact lmD_lt | exact Ev.lt | exact evs_lt _ | exact itDs_lt _ | exact prs_lt _ | exact Wld.lt | exact rows_lt | exact deeds_lt | exact pasts_lt | exact D.lts_ints _ | exact D.lts_strs _ | exact Fc.lt | exact Dd.lt | exact fcs_lt _ | exact nfs_lt _ | exact nf_lt | exact D.pl.lt (by assumption) | exact D.dp.lt (by assumption) | exact D.dps.lt (by assumption) | exact D.pls.lt (by assumption) | assumption | refine ⟨?_, ?_⟩))⟩)) | (obtain ⟨_, _, _, _, h, hr⟩ := h; subst h; (try (obtain ⟨_, hr⟩ := hr)); (try (obtain ⟨_, hr⟩ := hr)); (try (obtain ⟨_, hr⟩ := hr)); (try (obtain ⟨_, hr⟩ := hr)); (all_goals exact ⟨rfl, by (repeat' (first | trivial | exact lmD_lt | exact Ev.lt | exact evs_lt _ | exact itDs_lt _ | exact prs_lt _ | exact Wld.lt | exact rows_lt | exact deeds_lt | exact pasts_lt | exact D.lts_ints _ | exact D.lts_strs _ | exact Fc.lt | exact Dd.lt | exact fcs_lt _ | exact nfs_lt _ | exact nf_lt | exact D.pl.lt (by assumption) | exact D.dp.lt (by assumption) | exact D.dps.lt (by assumption) | exact D.pls.lt (by assumption) | assumption | refine ⟨?_, ?_⟩))⟩)) | (obtain ⟨_, _, _, _, _, h, hr⟩ := h; subst h; (try (obtain ⟨_, hr⟩ := hr)); (try (obtain ⟨_, hr⟩ := hr)); (try (obtain ⟨_, hr⟩ := hr)); (try (obtain ⟨_, hr⟩ := hr)); (all_goals exact ⟨rfl, by (repeat' (first | trivial | exact lmD_lt | exact Ev.lt | exact evs_lt _ | exact itDs_lt _ | exact prs_lt _ | exact Wld.lt | exact rows_lt | exact deeds_lt | exact pasts_lt | exact D.lts_ints _ | exact D.lts_strs _ | exact Fc.lt | exact Dd.lt | exact fcs_lt _ | exact nfs_lt _ | exact nf_lt | exact D.pl.lt (by assumption) | exact D.dp.lt (by assumption) | exact D.dps.lt (by assumption) | exact D.pls.lt (by assumption) | assumption | refine ⟨?_, ?_⟩))⟩)) | (obtain ⟨h, _⟩ := h; exact (by simp at h)))) fun cdv A outer s H E φ T0 W' room wl => ⟨_, (lss_cons (ls_if (LW.t (lw_or (lt_cmp oo_lt (lv 1) le_int (by rfl)) (lw_or1 (lt_cmp oo_ge (lv 1) (le_callB cc_len rfl T.n_len (by rfl) (la_cons (le_fldC (C := a.c_Coats) T.o_Coats.is.cl T.na_Coats_seen (lv 0)) la_nil)) (by rfl))))) (lss_cons (ls_rz0 Z_BadCoat rfl (room.mono (by decide)) (takes_of rfl rfl rfl rfl) wl)
    lss_nil) lss_nil)
    (lss_cons (ls_ret (le_ix ox_seq (le_fldC (C := a.c_Coats) T.o_Coats.is.cl T.na_Coats_seen (lv 0)) (lv 1)))
    lss_nil)), fun ds S R X n h hW => ?_⟩, T.o_Coats.is.cl, T.i_Coats_shade, ⟨[], .nil, T.b_Coats_shade⟩, RVc.nil⟩
  obtain ⟨Q, E, h, rfl, rfl, rfl, rfl⟩ := h
  subst hW
  obtain ⟨ns, i, rfl, h1, h2⟩ := h
  conv => whnf
  repeat (refine Need.mk ?_ ?_; exact nd; conv => whnf)
  refine brd (fun hc => ?_) (fun hc => ?_)
  · conv => whnf
    repeat (refine Need.mk ?_ ?_; exact nd; conv => whnf)
    exact Xp (h2 fun h => by (have hc : i < 0 := hc; omega))
  · conv => whnf
    repeat (refine Need.mk ?_ ?_; exact nd; conv => whnf)
    refine brd (fun hd => ?_) (fun hd => ?_)
    · conv => whnf
      repeat (refine Need.mk ?_ ?_; exact nd; conv => whnf)
      have hd : ((ns.map D.int).length : Int) ≤ i := hd
      rw [List.length_map] at hd
      exact Xp (h2 fun h => by omega)
    · conv => whnf
      repeat (refine Need.mk ?_ ?_; exact nd; conv => whnf)
      have hc : ¬ i < 0 := hc
      have hd : ¬ ((ns.map D.int).length : Int) ≤ i := hd
      rw [List.length_map] at hd
      have hl : i.toNat < ns.length := by omega
      refine optI (atI_get (by omega) (show (ns.map D.int)[i.toNat]? = some (.int ns[i.toNat]) by simp [List.getElem?_eq_getElem hl])) ?_
      conv => whnf
      repeat (refine Need.mk ?_ ?_; exact nd; conv => whnf)
      exact Rp (h1 _ (by omega) (List.getElem?_eq_getElem hl))
/-- what a call tells: the shades, or the refusal -/
inductive Cl where
  | row (ns : List Int) | clash (p : Int) (c : Nat) | bad
def Cl.d : Cl → D
  | .row ns => .lst (ns.map D.int)
  | .clash p c => .tup [.str "clash", .int p, .int c]
  | .bad => .str "badpart"
/-- it is so -/
def Cl.so (fs : List Fc) (p : Int) : Cl → Prop
  | .bad => ¬ (1 ≤ p ∧ p ≤ 4)
  | .row ns => ∃ n : Nat, (1 ≤ p ∧ p ≤ 4) ∧ n < 1000 ∧ L2.atI (fullC fs) (p - 1) = some (n : Int) ∧ (∀ c < n, clashC p fs c = false) ∧ ns = (List.range n).map (shadeC p fs)
  | .clash q c => ∃ n : Nat, (1 ≤ p ∧ p ≤ 4) ∧ n < 1000 ∧ L2.atI (fullC fs) (p - 1) = some (n : Int) ∧ q = p ∧ c < n ∧ clashC p fs c = true ∧ ∀ b < c, clashC p fs b = false
theorem Cl.one {fs : List Fc} {p : Int} {y z : Cl} (hy : y.so fs p) (hz : z.so fs p) : y = z := by
  cases y with
  | bad =>
    cases z with
    | bad => rfl
    | row ns => obtain ⟨n, h, _⟩ := hz; exact absurd h hy
    | clash p c => obtain ⟨n, h, _⟩ := hz; exact absurd h hy
  | row ns =>
    obtain ⟨n, h, h2, h3, h4, rfl⟩ := hy
    cases z with
    | bad => exact absurd h hz
    | row ms =>
      obtain ⟨m, g, g2, g3, g4, rfl⟩ := hz
      rw [h3] at g3
      have : n = m := by injection g3 with g3; exact Int.ofNat.inj g3
      rw [this]
    | clash q c =>
      obtain ⟨m, g, g2, g3, g4, g5, g6, _⟩ := hz
      rw [h3] at g3
      have : n = m := by injection g3 with g3; exact Int.ofNat.inj g3
      rw [h4 c (by omega)] at g6; cases g6
  | clash q c =>
    obtain ⟨n, h, h2, h3, rfl, h5, h6, h7⟩ := hy
    cases z with
    | bad => exact absurd h hz
    | row ms =>
      obtain ⟨m, g, g2, g3, g4, rfl⟩ := hz
      rw [h3] at g3
      have : n = m := by injection g3 with g3; exact Int.ofNat.inj g3
      rw [g4 c (by omega)] at h6; cases h6
    | clash q2 d =>
      obtain ⟨m, g, g2, g3, rfl, g5, g6, g7⟩ := hz
      have : c = d := by
        rcases Nat.lt_trichotomy c d with hh | hh | hh
        · rw [g7 c hh] at h6; cases h6
        · exact hh
        · rw [h7 d hh] at g6; cases g6
      rw [this]
theorem Cl.lt : ∀ {z : Cl} {n : Nat}, D.lt n z.d
  | .row ns, _ => D.lts_ints ns
  | .clash _ _, _ => ⟨trivial, trivial, trivial, trivial⟩
  | .bad, _ => trivial
def sp__law_told (a : Ad) : SpP := fun ds Q _ => ∃ (fs : List (Int × Fc)) (p : Int) (n : Nat), ds = [.lst (fs.map nf), .int p] ∧ fs.length ≤ 31 ∧
  ((1 ≤ p ∧ p ≤ 4) → n < 1000 ∧ L2.atI (fullC (fs.map (·.2))) (p - 1) = some (n : Int) ∧ (∀ c < n, ∀ z ∈ readC p c (fs.map (·.2)), 0 < z ∧ z ≤ 6)) ∧ ∀ z : Cl, z.so (fs.map (·.2)) p → Q z.d
theorem mn__law_told (a : Ad) : ∀ ds (Q Q' : D → Prop) E, sp__law_told a ds Q E → (∀ d, Q d → Q' d) → sp__law_told a ds Q' E := fun _ _ _ _ ⟨fs, p, n, h1, h2, h3, q⟩ i => ⟨fs, p, n, h1, h2, h3, fun z hz => i _ (q z hz)⟩
theorem ok__law_told (T : Txt K w mg a) (G_coats_of : Fx P w K mg base 6 a.a_coats_of a.d_coats_of "coats_of" ["facts", "part"] (lp (sp_coats_of a))) (M_Coats_len : Mx P w K mg base 1 a.c_Coats "__len__" a.a_Coats_len a.d_Coats_len ["self"] (lp (sp_Coats_len a)) [] []) (M_Coats_shade : Mx P w K mg base 4 a.c_Coats "shade" a.a_Coats_shade a.d_Coats_shade ["self", "at"] (lp (sp_Coats_shade a)) [] []) : Fx P w K mg base 7 a.a__law_told a.d__law_told "_law_told" ["_law_facts", "_law_part"] (lp (sp__law_told a)) := by
  refine ⟨fn_P T.F__law_told sc__law_told (by (intro ds Q E h; first | (obtain ⟨h, hr⟩ := h; subst h; (try (obtain ⟨_, hr⟩ := hr)); (try (obtain ⟨_, hr⟩ := hr)); (try (obtain ⟨_, hr⟩ := hr)); (try (obtain ⟨_, hr⟩ := hr)); (all_goals exact ⟨rfl, by (repeat' (first | trivial | exact lmD_lt | exact Ev.lt | exact evs_lt _ | exact itDs_lt _ | exact prs_lt _ | exact Wld.lt | exact rows_lt | exact deeds_lt | exact pasts_lt | exact D.lts_ints _ | exact D.lts_strs _ | exact Fc.lt | exact Dd.lt | exact fcs_lt _ | exact nfs_lt _ | exact nf_lt | exact D.pl.lt (by assumption) | exact D.dp.lt (by assumption) | exact D.dps.lt (by assumption) | exact D.pls.lt (by assumption) | assumption | refine ⟨?_, ?_⟩))⟩)) | (obtain ⟨_, h, hr⟩ := h; subst h; (try (obtain ⟨_, hr⟩ := hr)); (try (obtain ⟨_, hr⟩ := hr)); (try (obtain ⟨_, hr⟩ := hr)); (try (obtain ⟨_, hr⟩ := hr)); (all_goals exact ⟨rfl, by (repeat' (first | trivial | exact lmD_lt | exact Ev.lt | exact evs_lt _ | exact itDs_lt _ | exact prs_lt _ | exact Wld.lt | exact rows_lt | exact deeds_lt | exact pasts_lt | exact D.lts_ints _ | exact D.lts_strs _ | exact Fc.lt | exact Dd.lt | exact fcs_lt _ | exact nfs_lt _ | exact nf_lt | exact D.pl.lt (by assumption) | exact D.dp.lt (by assumption) | exact D.dps.lt (by assumption) | exact D.pls.lt (by assumption) | assumption | refine ⟨?_, ?_⟩))⟩)) | (obtain ⟨_, _, h, hr⟩ := h; subst h; (try (obtain ⟨_, hr⟩ := hr)); (try (obtain ⟨_, hr⟩ := hr)); (try (obtain ⟨_, hr⟩ := hr)); (try (obtain ⟨_, hr⟩ := hr)); (all_goals exact ⟨rfl, by (repeat' (first | trivial | exact lmD_lt | exact Ev.lt | exact evs_lt _ | exact itDs_lt _ | exact prs_lt _ | exact Wld.lt | exact rows_lt | exact deeds_lt | exact pasts_lt | exact D.lts_ints _ | exact D.lts_strs _ | exact Fc.lt | exact Dd.lt | exact fcs_lt _ | exact nfs_lt _ | exact nf_lt | exact D.pl.lt (by assumption) | exact D.dp.lt (by assumption) | exact D.dps.lt (by assumption) | exact D.pls.lt (by assumption) | assumption | refine ⟨?_, ?_⟩))⟩)) | (obtain ⟨_, _, _, h, hr⟩ := h; subst h; (try (obtain ⟨_, hr⟩ := hr)); (try (obtain ⟨_, hr⟩ := hr)); (try (obtain ⟨_, hr⟩ := hr)); (try (obtain ⟨_, hr⟩ := hr)); (all_goals exact ⟨rfl, by (repeat' (first | trivial | exact lmD_lt | exact Ev.lt | exact evs_lt _ | exact itDs_lt _ | exact prs_lt _ | exact Wld.lt | exact rows_lt | exact deeds_lt | exact pasts_lt | exact D.lts_ints _ | exact D.lts_strs _ | exact Fc.lt | exact Dd.lt | exact fcs_lt _ | exact nfs_lt _ | exact nf_lt | exact D.pl.lt (by assumption) | exact D.dp.lt (by assumption) | exact D.dps.lt (by assumption) | exact D.pls.lt (by assumption) | assumption | refine ⟨?_, ?_⟩))⟩)) | (obtain ⟨_, _, _, _, h, hr⟩ := h; subst h; (try (obtain ⟨_, hr⟩ := hr)); (try (obtain ⟨_, hr⟩ := hr)); (try (obtain ⟨_, hr⟩ := hr)); (try (obtain ⟨_, hr⟩ := hr)); (all_goals exact ⟨rfl, by (repeat' (first | trivial | exact lmD_lt | exact Ev.lt | exact evs_lt _ | exact itDs_lt _ | exact prs_lt _ | exact Wld.lt | exact rows_lt | exact deeds_lt | exact pasts_lt | exact D.lts_ints _ | exact D.lts_strs _ | exact Fc.lt | exact Dd.lt | exact fcs_lt _ | exact nfs_lt _ | exact nf_lt | exact D.pl.lt (by assumption) | exact D.dp.lt (by assumption) | exact D.dps.lt (by assumption) | exact D.pls.lt (by assumption) | assumption | refine ⟨?_, ?_⟩))⟩)) | (obtain ⟨_, _, _, _, _, h, hr⟩ := h; subst h; (try (obtain ⟨_, hr⟩ := hr)); (try (obtain ⟨_, hr⟩ := hr)); (try (obtain ⟨_, hr⟩ := hr)); (try (obtain ⟨_, hr⟩ := hr)); (all_goals exact ⟨rfl, by (repeat' (first | trivial | exact lmD_lt | exact Ev.lt | exact evs_lt _ | exact itDs_lt _ | exact prs_lt _ | exact Wld.lt | exact rows_lt | exact deeds_lt | exact pasts_lt | exact D.lts_ints _ | exact D.lts_strs _ | exact Fc.lt | exact Dd.lt | exact fcs_lt _ | exact nfs_lt _ | exact nf_lt | exact D.pl.lt (by assumption) | exact D.dp.lt (by assumption) | exact D.dps.lt (by assumption) | exact D.pls.lt (by assumption) | assumption | refine ⟨?_, ?_⟩))⟩)) | (obtain ⟨h, _⟩ := h; exact (by simp at h)))) fun cdv A outer s H E φ T0 W' room wl => ⟨_, (lss_consW [2] (ls_set 2 le_non sc__law_told.nd)
    (lss_consM (ls_try_as2 (c1 := .ref a.c_Clash) (c2 := .ref a.c_BadPart) (i := 4) rfl rfl sc__law_told.nd rfl rfl ⟨rfl, by decide, .inl T.k_Clash⟩ ⟨rfl, by decide, .inl T.k_BadPart⟩ (takes_of rfl rfl rfl rfl) wl (fun W1 V1 pn1 xe1 B1 bl1 tk1 wl1 ps1 => (lss_consW [0, 1] (ls_set 3 (le_fx G_coats_of (room.mono (by decide)) tk1 wl1 (la_cons (lv 0) (la_cons (lv 1) la_nil))) sc__law_told.nd)
    (lss_consW [3] (ls_lc false [("_law_at", 5)] (.nm 5) 2 rfl sc__law_told.nd rfl rfl rfl (li_rng1 rfl T.n_range (la_cons (le_callB (cc_lenO M_Coats_len (room.mono (by decide))) rfl T.n_len (by rfl) (la_cons (lv 3) la_nil)) la_nil)) (by (conv => { arg 1; whnf }); (conv => { arg 2; whnf }); exact ⟨rfl, by decide +kernel, by decide +kernel, by decide +kernel, by decide +kernel⟩) (fun _ _ _ _ _ => (tg_nm 5 sc__law_told.nd)) (fun _ _ _ _ _ => lts_nil) (fun _ _ _ _ _ => (le_mx M_Coats_shade (room.mono (by decide)) LamX.takes0 WL0 (lv 3) (la_cons (lv 5) la_nil))))
    lss_nil))) (fun b1 oe1 cl1 d1 pm1 C1 fs1 B1 hz1 hf1 bl1 xr1 => (lss_consW [0, 1] (ls_set 2 (le_tup (la_cons le_str (la_cons (le_xf hz1 hf1 xr1 (lv 4)) (la_cons (le_xf hz1 hf1 xr1 (lv 4)) la_nil)))) sc__law_told.nd)
    lss_nil)) (fun b1 oe1 cl1 d1 pm1 C1 fs1 B1 hz1 hf1 bl1 xr1 => (lss_consW [0, 1] (ls_set 2 (le_xf hz1 hf1 xr1 (lv 4)) sc__law_told.nd)
    lss_nil)))
    (lss_w [0, 1, 3, 4] (lss_cons (ls_ret (lv 2))
    lss_nil)))), fun ds S R X n h hW => ?_⟩, T.m__law_told, T.F__law_told.kp, T.b__law_told⟩
  obtain ⟨Q, E, h, rfl, rfl, rfl, rfl⟩ := h
  subst hW
  obtain ⟨fs, p, n, rfl, hl, hn, q⟩ := h
  conv => whnf
  refine sM (fun s' S' => S' = [] ∧ ∃ (z : Cl) (y0 y1 y3 y4 y5 : Option D), z.so (fs.map (·.2)) p ∧ s' = [y0, y1, some z.d, y3, y4, y5]) ?_ ?_
  · conv => whnf
    refine ⟨fs, p, n, rfl, hl, fun hb => ?_, fun hp => ?_⟩
    · refine ⟨false, T.en_BadPart_Clash, (fun z => by cases z), fun _ => ⟨true, T.es_BadPart, fun _ b => ?_, fun z => by cases z⟩⟩
      conv => whnf
      refine Need.mk ⟨rfl, T.xf_BadPart, T.nc_BadPart⟩ ?_
      conv => whnf
      exact ⟨rfl, .bad, _, _, _, _, _, hb, rfl⟩
    · obtain ⟨h1, h2, h3⟩ := hn hp
      refine ⟨h1, h2, h3, fun hc => ?_, fun c hc h4 h5 => ?_⟩
      · conv => whnf
        refine Need.mk rfl ?_
        conv => whnf
        refine ⟨_, rfl, ?_⟩
        conv => whnf
        have el : ((List.range n).map (shadeC p (fs.map (·.2)))).length = n := by rw [List.length_map, List.length_range]
        rw [el]
        refine Need.mk ⟨by omega, by omega⟩ ?_
        conv => whnf
        refine ⟨by omega, by omega, ?_⟩
        refine lc_fmap (fun c : Nat => D.int (0 + (c : Int))) (fun _ => true) (fun c => .int (shadeC p (fs.map (·.2)) c)) (l := List.range n) rfl (by rw [List.length_range, sizeLine_eq]; omega) (fun _ => trivial) ?_ ?_
        · intro i c acc hi
          have hic := (List.getElem?_eq_some_iff.mp hi).1
          refine ⟨_, rfl, trivial, fun R r => r, fun _ R r => ?_⟩
          conv => whnf
          refine Need.mk ⟨rfl, rfl⟩ ?_
          conv => whnf
          refine ⟨_, _, rfl, fun z hz1 hz2 => ?_, fun hz1 => ?_⟩
          · rw [show (0 + (c : Int)).toNat = c by omega, List.getElem?_map, List.getElem?_range (by rw [List.length_range] at hic; rw [List.getElem?_range (by omega)] at hi; injection hi with hi; omega)] at hz2
            injection hz2 with hz2
            subst hz2
            exact r
          · refine absurd ⟨by omega, ?_⟩ hz1
            rw [el]
            rw [List.length_range] at hic
            rw [List.getElem?_range (by omega)] at hi
            injection hi with hi
            omega
        rw [List.filter_eq_self.mpr (fun _ _ => rfl), show (List.range n).map (fun c : Nat => D.int (shadeC p (fs.map (·.2)) c)) = ((List.range n).map (shadeC p (fs.map (·.2)))).map D.int by rw [List.map_map]; rfl]
        conv => whnf
        exact ⟨rfl, .row _, _, _, _, _, _, ⟨n, hp, h1, h2, hc, rfl⟩, rfl⟩
      · refine ⟨true, T.es_Clash, fun _ b => ?_, fun z => by cases z⟩
        conv => whnf
        refine Need.mk ⟨rfl, T.xf_Clash, T.nf_Clash_part⟩ ?_
        conv => whnf
        refine Need.mk ⟨rfl, T.xf_Clash, T.nf_Clash_coat⟩ ?_
        conv => whnf
        exact ⟨rfl, .clash p c, _, _, _, _, _, ⟨n, hp, h1, h2, rfl, hc, h4, h5⟩, rfl⟩
  · rintro s' S' ⟨rfl, z, y0, y1, y3, y4, y5, hz, rfl⟩
    conv => whnf
    exact Rp (q z hz) Cl.lt
def sp__law_due (a : Ad) : SpP := fun ds Q _ => ∃ (fs : List (Int × Fc)) (p : Int) (n : Nat) (z : Cl), ds = [.lst (fs.map nf), .int p] ∧ fs.length ≤ 31 ∧ (∀ f ∈ fs, ∀ q c sh, f.2 = .scrape q c sh → sh.length ≤ 10) ∧
  ((1 ≤ p ∧ p ≤ 4) → n < 1000 ∧ L2.atI (fullC (fs.map (·.2))) (p - 1) = some (n : Int) ∧ (∀ c < n, ∀ z ∈ readC p c (fs.map (·.2)), 0 < z ∧ z ≤ 6)) ∧ z.so (fs.map (·.2)) p ∧ Q z.d
theorem mn__law_due (a : Ad) : ∀ ds (Q Q' : D → Prop) E, sp__law_due a ds Q E → (∀ d, Q d → Q' d) → sp__law_due a ds Q' E := fun _ _ _ _ ⟨fs, p, n, z, h1, h2, h2', h3, h4, q⟩ i => ⟨fs, p, n, z, h1, h2, h2', h3, h4, i _ q⟩
theorem ok__law_due (T : Txt K w mg a) (G__law_reads : Fx P w K mg base 1 a.a__law_reads a.d__law_reads "_law_reads" ["_law_facts"] (lp (sp__law_reads a))) (G__law_full : Fx P w K mg base 2 a.a__law_full a.d__law_full "_law_full" ["_law_facts"] (lp (sp__law_full a))) (G__law_shade_of : Fx P w K mg base 1 a.a__law_shade_of a.d__law_shade_of "_law_shade_of" ["_law_reads_here", "_law_coats"] (lp (sp__law_shade_of a))) : Fx P w K mg base 3 a.a__law_due a.d__law_due "_law_due" ["_law_facts", "_law_part"] (lp (sp__law_due a)) := by
  refine ⟨fn_P T.F__law_due sc__law_due (by (intro ds Q E h; first | (obtain ⟨h, hr⟩ := h; subst h; (try (obtain ⟨_, hr⟩ := hr)); (try (obtain ⟨_, hr⟩ := hr)); (try (obtain ⟨_, hr⟩ := hr)); (try (obtain ⟨_, hr⟩ := hr)); (all_goals exact ⟨rfl, by (repeat' (first | trivial | exact lmD_lt | exact Ev.lt | exact evs_lt _ | exact itDs_lt _ | exact prs_lt _ | exact Wld.lt | exact rows_lt | exact deeds_lt | exact pasts_lt | exact D.lts_ints _ | exact D.lts_strs _ | exact Fc.lt | exact Dd.lt | exact fcs_lt _ | exact nfs_lt _ | exact nf_lt | exact D.pl.lt (by assumption) | exact D.dp.lt (by assumption) | exact D.dps.lt (by assumption) | exact D.pls.lt (by assumption) | assumption | refine ⟨?_, ?_⟩))⟩)) | (obtain ⟨_, h, hr⟩ := h; subst h; (try (obtain ⟨_, hr⟩ := hr)); (try (obtain ⟨_, hr⟩ := hr)); (try (obtain ⟨_, hr⟩ := hr)); (try (obtain ⟨_, hr⟩ := hr)); (all_goals exact ⟨rfl, by (repeat' (first | trivial | exact lmD_lt | exact Ev.lt | exact evs_lt _ | exact itDs_lt _ | exact prs_lt _ | exact Wld.lt | exact rows_lt | exact deeds_lt | exact pasts_lt | exact D.lts_ints _ | exact D.lts_strs _ | exact Fc.lt | exact Dd.lt | exact fcs_lt _ | exact nfs_lt _ | exact nf_lt | exact D.pl.lt (by assumption) | exact D.dp.lt (by assumption) | exact D.dps.lt (by assumption) | exact D.pls.lt (by assumption) | assumption | refine ⟨?_, ?_⟩))⟩)) | (obtain ⟨_, _, h, hr⟩ := h; subst h; (try (obtain ⟨_, hr⟩ := hr)); (try (obtain ⟨_, hr⟩ := hr)); (try (obtain ⟨_, hr⟩ := hr)); (try (obtain ⟨_, hr⟩ := hr)); (all_goals exact ⟨rfl, by (repeat' (first | trivial | exact lmD_lt | exact Ev.lt | exact evs_lt _ | exact itDs_lt _ | exact prs_lt _ | exact Wld.lt | exact rows_lt | exact deeds_lt | exact pasts_lt | exact D.lts_ints _ | exact D.lts_strs _ | exact Fc.lt | exact Dd.lt | exact fcs_lt _ | exact nfs_lt _ | exact nf_lt | exact D.pl.lt (by assumption) | exact D.dp.lt (by assumption) | exact D.dps.lt (by assumption) | exact D.pls.lt (by assumption) | assumption | refine ⟨?_, ?_⟩))⟩)) | (obtain ⟨_, _, _, h, hr⟩ := h; subst h; (try (obtain ⟨_, hr⟩ := hr)); (try (obtain ⟨_, hr⟩ := hr)); (try (obtain ⟨_, hr⟩ := hr)); (try (obtain ⟨_, hr⟩ := hr)); (all_goals exact ⟨rfl, by (repeat' (first | trivial | exact lmD_lt | exact Ev.lt | exact evs_lt _ | exact itDs_lt _ | exact prs_lt _ | exact Wld.lt | exact rows_lt | exact deeds_lt | exact pasts_lt | exact D.lts_ints _ | exact D.lts_strs _ | exact Fc.lt | exact Dd.lt | exact fcs_lt _ | exact nfs_lt _ | exact nf_lt | exact D.pl.lt (by assumption) | exact D.dp.lt (by assumption) | exact D.dps.lt (by assumption) | exact D.pls.lt (by assumption) | assumption | refine ⟨?_, ?_⟩))⟩)) | (obtain ⟨_, _, _, _, h, hr⟩ := h; subst h; (try (obtain ⟨_, hr⟩ := hr)); (try (obtain ⟨_, hr⟩ := hr)); (try (obtain ⟨_, hr⟩ := hr)); (try (obtain ⟨_, hr⟩ := hr)); (all_goals exact ⟨rfl, by (repeat' (first | trivial | exact lmD_lt | exact Ev.lt | exact evs_lt _ | exact itDs_lt _ | exact prs_lt _ | exact Wld.lt | exact rows_lt | exact deeds_lt | exact pasts_lt | exact D.lts_ints _ | exact D.lts_strs _ | exact Fc.lt | exact Dd.lt | exact fcs_lt _ | exact nfs_lt _ | exact nf_lt | exact D.pl.lt (by assumption) | exact D.dp.lt (by assumption) | exact D.dps.lt (by assumption) | exact D.pls.lt (by assumption) | assumption | refine ⟨?_, ?_⟩))⟩)) | (obtain ⟨_, _, _, _, _, h, hr⟩ := h; subst h; (try (obtain ⟨_, hr⟩ := hr)); (try (obtain ⟨_, hr⟩ := hr)); (try (obtain ⟨_, hr⟩ := hr)); (try (obtain ⟨_, hr⟩ := hr)); (all_goals exact ⟨rfl, by (repeat' (first | trivial | exact lmD_lt | exact Ev.lt | exact evs_lt _ | exact itDs_lt _ | exact prs_lt _ | exact Wld.lt | exact rows_lt | exact deeds_lt | exact pasts_lt | exact D.lts_ints _ | exact D.lts_strs _ | exact Fc.lt | exact Dd.lt | exact fcs_lt _ | exact nfs_lt _ | exact nf_lt | exact D.pl.lt (by assumption) | exact D.dp.lt (by assumption) | exact D.dps.lt (by assumption) | exact D.pls.lt (by assumption) | assumption | refine ⟨?_, ?_⟩))⟩)) | (obtain ⟨h, _⟩ := h; exact (by simp at h)))) fun cdv A outer s H E φ T0 W' room wl => ⟨_, (lss_cons (ls_if (lt_not (lt_chainC oo_le oo_le le_int (lv 1))) (lss_cons (ls_ret le_str)
    lss_nil) lss_nil)
    (lss_cons (ls_set 2 (le_fx G__law_reads (room.mono (by decide)) (takes_of rfl rfl rfl rfl) wl (la_cons (lv 0) la_nil)) sc__law_due.nd)
    (lss_cons (ls_set 3 (le_lstM la_nil) sc__law_due.nd)
    (lss_consW [0, 1, 2, 4, 5] (ls_for (passes_of rfl) rfl (li_rng1 rfl T.n_range (la_cons (le_ix ox_seq (le_fx G__law_full (room.mono (by decide)) (takes_of rfl rfl rfl rfl) wl (la_cons (lv 0) la_nil)) (le_op oo_sub (lv 1) le_int)) la_nil)) (lg_name (i := 4) sc__law_due.nd rfl)
    (lss_cons (ls_set 5 (le_fx G__law_shade_of (room.mono (by decide)) (takes_of rfl rfl rfl rfl) wl (la_cons (lv 2) (la_cons (le_lst (la_cons (le_tup (la_cons (lv 1) (la_cons (lv 4) la_nil))) la_nil)) la_nil))) sc__law_due.nd)
    (lss_consW [4] (ls_if (lt_cmp oo_lt (lv 5) le_int (by rfl)) (lss_cons (ls_ret (le_tup (la_cons le_str (la_cons (lv 1) (la_cons (lv 4) la_nil)))))
    lss_nil) lss_nil)
    (lss_consW [5] (ls_expr (le_bm PySem.F.plainAttrs_list PySem.F.slot_list_append PySem.F.type_list_append mm_append (lv 3) (la_cons (lv 5) la_nil)))
    lss_nil))))
    (lss_cons (ls_ret (lv 3))
    lss_nil))))), fun ds S R X n h hW => ?_⟩, T.m__law_due, T.F__law_due.kp, T.b__law_due⟩
  obtain ⟨Q, E, h, rfl, rfl, rfl, rfl⟩ := h
  subst hW
  obtain ⟨fs, p, n, z, rfl, hl, hsh, hn, hz, q⟩ := h
  have hc : (!(decide (1 ≤ p) && decide (p ≤ 4))) = !decide (1 ≤ p ∧ p ≤ 4) := by rw [Bool.decide_and]
  conv => whnf
  by_cases hp : 1 ≤ p ∧ p ≤ 4
  · refine lifF (by show (!(decide (1 ≤ p) && decide (p ≤ 4))) = false; rw [hc, decide_eq_true hp]; rfl) ?_
    obtain ⟨hn1, hfa, hrd⟩ := hn hp
    conv => whnf
    refine ⟨fs, rfl, hl, ?_, fun l hr hlt => ?_⟩
    · exact hsh
    conv => whnf
    refine ⟨fs, rfl, hl, ?_⟩
    conv => whnf
    rw [atI_map, hfa]
    conv => whnf
    refine ⟨by omega, by omega, ?_⟩
    refine ⟨fun i s' S' => i ≤ n ∧ (∀ c < i, clashC p (fs.map (·.2)) c = false) ∧ S' = [.lst (((List.range i).map (shadeC p (fs.map (·.2)))).map D.int)] ∧ s' = [some (.lst (fs.map nf)), some (.int p), some (.dT (l.map (·.1)) (l.map (·.2))), some (.ref 0), none, none], ⟨Nat.zero_le _, fun c hc => absurd hc (Nat.not_lt_zero c), rfl, rfl⟩, fun _ _ _ _ _ => trivial, ?_, ?_⟩
    · rintro i x s' S' hi ⟨hin, hcl, rfl, rfl⟩
      obtain ⟨hi2, rfl⟩ := rngD_get hi
      have hi3 : i < n := by simpa using hi2
      rw [Int.zero_add]
      have hlen := readC_len p (i : Int) (fs.map (·.2))
      rw [List.length_map] at hlen
      conv => whnf
      refine ⟨l, p, (i : Int), readC p (i : Int) (fs.map (·.2)), rfl, hlt, hr _ _, by omega, ?_⟩
      rw [shadeL_cl (hrd i hi3)]
      by_cases hc : clashC p (fs.map (·.2)) i = true
      · rw [if_pos hc]
        conv => whnf
        rw [Cl.one hz (z := .clash p i) ⟨n, hp, hn1, hfa, rfl, hi3, hc, hcl⟩] at q
        exact Rp (Q := Q) (d := .tup [.str "clash", .int p, .int i]) q ⟨trivial, trivial, trivial, trivial⟩
      · rw [if_neg hc]
        have h0 : 0 ≤ shadeC p (fs.map (·.2)) i := (max_fold _ 0).1
        conv => whnf
        refine lifF (by show decide (shadeC p (fs.map (·.2)) i < 0) = false; exact decide_eq_false (by omega)) ?_
        conv => whnf
        refine Need.mk rfl ?_
        conv => whnf
        refine Need.mk (by rw [List.length_map, List.length_map, List.length_range, sizeLine_eq]; omega) ?_
        conv => whnf
        refine .inl ⟨hi3, fun c hc2 => ?_, ?_, rfl⟩
        · rcases Nat.lt_or_ge c i with h | h
          · exact hcl c h
          · rw [show c = i by omega]; exact Bool.eq_false_iff.mpr hc
        · rw [List.range_succ, List.map_append, List.map_append]; rfl
    · rintro s' S' ⟨hin, hcl, rfl, rfl⟩
      have en2 : (rngD 0 ((n : Int)).toNat).length = n := by rw [rngD_len]; rfl
      rw [en2] at hcl ⊢
      conv => whnf
      rw [Cl.one hz (z := .row _) ⟨n, hp, hn1, hfa, hcl, rfl⟩] at q
      exact RpL rfl (D.lts_ints _) q
  · refine lifT (by show (!(decide (1 ≤ p) && decide (p ≤ 4))) = true; rw [hc, decide_eq_false hp]; rfl) ?_
    conv => whnf
    have hz : z = .bad := by
      cases z with
      | bad => rfl
      | row ns => obtain ⟨n, h, _⟩ := hz; exact absurd h hp
      | clash p c => obtain ⟨n, h, _⟩ := hz; exact absurd h hp
    subst hz
    exact Rp q
theorem good_len {m : Int} (hm : m ≤ 5) {fs : List (Int × Fc)} (h : ∀ g ∈ fs, ∃ ps, g.2.good ps m) : ∀ f ∈ fs, ∀ q c sh, f.2 = .scrape q c sh → sh.length ≤ 10 := by
  intro f hf q c sh e
  obtain ⟨ps, this⟩ := h f hf
  rw [e] at this
  obtain ⟨_, h1, _, h3, _⟩ := this
  omega
theorem good_read {m : Int} {fs : List (Int × Fc)} (h : ∀ g ∈ fs, ∃ ps, g.2.good ps m) (p c : Int) : ∀ z ∈ readC p c (fs.map (·.2)), 0 < z ∧ z ≤ 6 := by
  intro z hz
  obtain ⟨f, hf, hz⟩ := List.mem_flatMap.mp hz
  obtain ⟨g, hg, rfl⟩ := List.mem_map.mp hf
  obtain ⟨ps, this⟩ := h g hg
  revert hz this
  cases g.2 with
  | scrape q a sh =>
    intro hz h
    unfold readF at hz
    simp only at hz
    split at hz
    · rename_i hc
      rw [List.mem_singleton.mp hz]
      refine ⟨hc.2.2.2, ?_⟩
      obtain ⟨_, _, _, _, h5⟩ := h
      have hlt : (c - a).toNat < sh.length := by omega
      rw [List.getD_eq_getElem?_getD, List.getElem?_eq_getElem hlt]
      exact (h5 _ (List.getElem_mem hlt)).2
    · exact absurd hz List.not_mem_nil
  | _ => intro hz; exact absurd hz List.not_mem_nil
theorem full_at {m : Int} (hm : m ≤ 5) (hm1 : 1 ≤ m) {fs : List (Int × Fc)} (h : ∀ g ∈ fs, ∃ ps, g.2.good ps m) (p : Int) : ∃ n : Nat, (1 ≤ p ∧ p ≤ 4) → n < 1000 ∧ L2.atI (fullC (fs.map (·.2))) (p - 1) = some (n : Int) ∧ (∀ c < n, ∀ z ∈ readC p c (fs.map (·.2)), 0 < z ∧ z ≤ 6) := by
  by_cases hp : 1 ≤ p ∧ p ≤ 4
  · have hbd : ∀ z ∈ fullC (fs.map (·.2)), 0 ≤ z ∧ z ≤ 5 := fun z hz => by
      have := fullC_bd (M := m) (by omega) (fs := fs.map (·.2)) (fun f hf => by
        obtain ⟨g, hg, rfl⟩ := List.mem_map.mp hf
        obtain ⟨ps, hh⟩ := h g hg
        exact good_shown hh hm1) z hz
      omega
    have hlt : (p - 1).toNat < (fullC (fs.map (·.2))).length := by show _ < 4; omega
    have hz := hbd _ (List.getElem_mem hlt)
    refine ⟨((fullC (fs.map (·.2)))[(p - 1).toNat]).toNat, fun _ => ⟨by omega, ?_, fun c _ => good_read h p c⟩⟩
    rw [Int.toNat_of_nonneg hz.1]
    exact atI_get (by omega) (List.getElem?_eq_getElem hlt)
  · exact ⟨0, fun z => absurd z hp⟩
theorem Cl.dp : ∀ {z : Cl} {fs : List Fc} {p : Int}, z.so fs p → D.dp z.d 10
  | .row ns, fs, p, ⟨n, _, h, _, _, e⟩ => by
    refine ⟨?_, D.dps_ints _⟩
    rw [e, List.length_map, List.length_map, List.length_range]; omega
  | .clash _ _, _, _, _ => ⟨(show (3 : Nat) ≤ 1000000 by decide), trivial, trivial, trivial, trivial⟩
  | .bad, _, _, _ => trivial
theorem Cl.ex {fs : List Fc} {p : Int} {n : Nat} (h : (1 ≤ p ∧ p ≤ 4) → n < 1000 ∧ L2.atI (fullC fs) (p - 1) = some (n : Int)) : ∃ z : Cl, z.so fs p := by
  by_cases hp : 1 ≤ p ∧ p ≤ 4
  · obtain ⟨h1, h2⟩ := h hp
    by_cases hc : ∃ c, c < n ∧ clashC p fs c = true
    · have : ∀ k, (∃ c, c < k ∧ clashC p fs c = true) → ∃ c, c < k ∧ clashC p fs c = true ∧ ∀ b < c, clashC p fs b = false := by
        intro k
        induction k with
        | zero => rintro ⟨c, h, _⟩; exact absurd h (Nat.not_lt_zero c)
        | succ k ih =>
          rintro ⟨c, h, hc⟩
          by_cases g : ∃ c, c < k ∧ clashC p fs c = true
          · obtain ⟨d, d1, d2, d3⟩ := ih g
            exact ⟨d, by omega, d2, d3⟩
          · have : c = k := by
              rcases Nat.lt_or_ge c k with hh | hh
              · exact absurd ⟨c, hh, hc⟩ g
              · omega
            subst this
            exact ⟨c, h, hc, fun b hb => Bool.eq_false_iff.mpr fun hh => g ⟨b, hb, hh⟩⟩
      obtain ⟨c, c1, c2, c3⟩ := this n hc
      exact ⟨.clash p c, n, hp, h1, h2, rfl, c1, c2, c3⟩
    · exact ⟨.row _, n, hp, h1, h2, fun c hh => Bool.eq_false_iff.mpr fun g => hc ⟨c, hh, g⟩, rfl⟩
  · exact ⟨.bad, hp⟩
theorem ok_law (T : Txt K w mg a) (G__law_open : Fx P w K mg base 1 a.a__law_open a.d__law_open "_law_open" ["_law_script"] (sp__law_open a)) (G__law_small : Fx P w K mg base 5 a.a__law_small a.d__law_small "_law_small" ["_law_draw"] (ld (sp__law_small a))) (G__law_pull : Fx P w K mg base 1 a.a__law_pull a.d__law_pull "_law_pull" ["_law_draw", "_law_many"] (ld (sp__law_pull a))) (G__law_few : Fx P w K mg base 2 a.a__law_few a.d__law_few "_law_few" ["_law_draw", "_law_pool", "_law_many"] (ld (sp__law_few a))) (G__law_fact : Fx P w K mg base 3 a.a__law_fact a.d__law_fact "_law_fact" ["_law_draw", "_law_parts", "_law_most"] (ld (sp__law_fact a))) (G__law_numbered : Fx P w K mg base 2 a.a__law_numbered a.d__law_numbered "_law_numbered" ["_law_draw", "_law_rows"] (ld (sp__law_numbered a))) (G__law_odd : Fx P w K mg base 2 a.a__law_odd a.d__law_odd "_law_odd" ["_law_draw"] (ld (sp__law_odd a))) (G__law_like : Fx P w K mg base 12 a.a__law_like a.d__law_like "_law_like" ["_law_found", "_law_due_here"] (lp (sp__law_like a))) (G__law_due : Fx P w K mg base 3 a.a__law_due a.d__law_due "_law_due" ["_law_facts", "_law_part"] (lp (sp__law_due a))) (G__law_told : Fx P w K mg base 7 a.a__law_told a.d__law_told "_law_told" ["_law_facts", "_law_part"] (lp (sp__law_told a))) : FnOk P w K mg base (L2.CX P w) 13 a.a_law a.d_law ["_law_script"] (upFT K [] spLaw) := by
  refine FunC.ok conv_S T.F_law sc_law (fun ds S Q E ⟨_, h, _⟩ => by rw [h]; rfl) fun A outer s H E φ W' room wl => ⟨_, (lss_consW [0] (ls_set 1 (le_fx G__law_open (room.mono (by decide)) (takes_of rfl rfl rfl rfl) wl (la_cons (lv 0) la_nil)) sc_law.nd)
    (lss_cons (ls_set 2 (le_fx G__law_small (room.mono (by decide)) (takes_of rfl rfl rfl rfl) wl (la_cons (lv 1) la_nil)) sc_law.nd)
    (lss_consM (ls_if (lt_cmp (oo_eq room.units) (le_fx G__law_pull (room.mono (by decide)) (takes_of rfl rfl rfl rfl) wl (la_cons (lv 1) (la_cons le_int la_nil))) le_int (by rfl)) (lss_consW [2] (ls_set 3 (le_fx G__law_few (room.mono (by decide)) (takes_of rfl rfl rfl rfl) wl (la_cons (lv 1) (la_cons (le_lst (la_cons le_int (la_cons le_int (la_cons le_int (la_cons le_int la_nil))))) (la_cons (le_op oo_add le_int (le_fx G__law_pull (room.mono (by decide)) (takes_of rfl rfl rfl rfl) wl (la_cons (lv 1) (la_cons le_int la_nil)))) la_nil)))) sc_law.nd)
    (lss_cons (ls_set 4 (le_lstM la_nil) sc_law.nd)
    (lss_consW [3, 5] (ls_for (passes_of rfl) rfl (li_rng1 rfl T.n_range (la_cons (le_op oo_add le_int (le_fx G__law_pull (room.mono (by decide)) (takes_of rfl rfl rfl rfl) wl (la_cons (lv 1) (la_cons le_int la_nil)))) la_nil)) (lg_name (i := 5) sc_law.nd rfl)
    (lss_consW [5] (ls_expr (le_bm PySem.F.plainAttrs_list PySem.F.slot_list_append PySem.F.type_list_append mm_append (lv 4) (la_cons (le_fx G__law_fact (room.mono (by decide)) (takes_of rfl rfl rfl rfl) wl (la_cons (lv 1) (la_cons (le_slice (lv 3) lp_none (lp_some (le_op oo_add le_int (le_fx G__law_pull (room.mono (by decide)) (takes_of rfl rfl rfl rfl) wl (la_cons (lv 1) (la_cons le_int la_nil)))))) (la_cons le_int la_nil)))) la_nil)))
    lss_nil))
    (lss_fz (lss_consW [4] (ls_set 2 (le_fx G__law_numbered (room.mono (by decide)) (takes_of rfl rfl rfl rfl) wl (la_cons (lv 1) (la_cons (lv 4) la_nil))) sc_law.nd)
    lss_nil))))) lss_nil)
    (lss_w [3, 4, 5] (lss_cons (ls_set 6 (le_callTy cc_list rfl T.n_list (by rfl) (la_cons (lv 2) la_nil)) sc_law.nd)
    (lss_consW [1, 2, 6, 7] (ls_for (passes_of rfl) rfl (li_list (le_lst (la_cons le_int (la_cons le_int (la_cons le_int (la_cons le_int (la_cons le_int (la_cons le_int (la_cons (le_fx G__law_odd (room.mono (by decide)) (takes_of rfl rfl rfl rfl) wl (la_cons (lv 1) la_nil)) la_nil))))))))) (lg_name (i := 7) sc_law.nd rfl)
    (lss_consW [7] (ls_if (LW.t (lw_or (lt_not (lt_truth (le_fx G__law_like (room.mono (by decide)) (takes_of rfl rfl rfl rfl) wl (la_cons (le_fx G__law_told (room.mono (by decide)) (takes_of rfl rfl rfl rfl) wl (la_cons (lv 6) (la_cons (lv 7) la_nil))) (la_cons (le_fx G__law_due (room.mono (by decide)) (takes_of rfl rfl rfl rfl) wl (la_cons (lv 2) (la_cons (lv 7) la_nil))) la_nil))))) (lw_or1 (lt_cmp (oo_ne room.units) (lv 6) (lv 2) (by rfl))))) (lss_cons (ls_ret le_bl)
    lss_nil) lss_nil)
    lss_nil))
    (lss_cons (ls_ret le_bl)
    lss_nil))))))), fun ds S R X n h hW => ?_⟩
  obtain ⟨Q, E, ⟨ns, rfl, rfl, hlen, hbits, q⟩, hlt, rfl, rfl, rfl⟩ := h
  subst hW
  conv => whnf
  repeat (refine Need.mk ?_ ?_; exact nd; conv => whnf)
  refine ⟨ns, rfl, hlen, rfl, ?_⟩
  conv => whnf
  repeat (refine Need.mk ?_ ?_; exact nd; conv => whnf)
  refine ⟨rfl, fun gs ps m hps hm hgs hgl hpw h1 => ?_⟩
  have hm5 : 1 ≤ m ∧ m ≤ 5 := (show ∀ m ∈ ([4, 3, 2, 1] : List Int), 1 ≤ m ∧ m ≤ 5 by decide) m hm
  conv => whnf
  repeat (refine Need.mk ?_ ?_; exact nd; conv => whnf)
  refine sM (fun s' S' => S' = [.drw] ∧ ∃ (gs : List (Int × Fc)) (m : Int) (t3 t4 t5 : Option D), m ≤ 5 ∧ 1 ≤ m ∧ (∀ g ∈ gs, ∃ ps, g.2.good ps m) ∧ gs.length ≤ 24 ∧ s' = [none, some (.ref 0), some (.lst (gs.map nf)), t3, t4, t5, none, none]) ?_ ?_
  · conv => whnf
    repeat (refine Need.mk ?_ ?_; exact nd; conv => whnf)
    refine ⟨_, rfl, ⟨by first | decide | omega, by first | decide | omega⟩, fun b b0 b1 => ?_⟩
    conv => whnf
    repeat (refine Need.mk ?_ ?_; exact nd; conv => whnf)
    refine brd (fun hb => ?_) (fun hb => ?_)
    · conv => whnf
      repeat (refine Need.mk ?_ ?_; exact nd; conv => whnf)
      refine ⟨_, rfl, ⟨by first | decide | omega, by first | decide | omega⟩, fun n h0 h1 => ?_⟩
      conv => whnf
      repeat (refine Need.mk ?_ ?_; exact nd; conv => whnf)
      refine ⟨[1, 2, 3, 4], 1 + n, rfl, by decide, by omega, fun qs rest hp hq => ?_⟩
      have hnd : qs.Nodup := (List.nodup_append.mp (hp.nodup_iff.mpr (by decide))).1
      have hq4 : qs.length ≤ 4 := by rw [hq]; exact Nat.min_le_right _ _
      have hq1 : 1 ≤ qs.length := by
        rw [hq]
        show 1 ≤ min (1 + n).toNat 4
        omega
      conv => whnf
      repeat (refine Need.mk ?_ ?_; exact nd; conv => whnf)
      refine ⟨_, rfl, ⟨by first | decide | omega, by first | decide | omega⟩, fun k k0 k1 => ?_⟩
      conv => whnf
      repeat (refine Need.mk ?_ ?_; exact nd; conv => whnf)
      refine ⟨by omega, by omega, ?_⟩
      refine ⟨fun i s' S' => ∃ (fs : List Fc) (t5 : Option D), fs.length = i ∧ (∀ f ∈ fs, ∃ ps, f.good ps 5) ∧ S' = [.drw, .lst (fs.map Fc.d)] ∧ s' = [none, some (.ref 0), none, some (.lst (qs.map D.int)), some (.ref 1), t5, none, none], ⟨[], _, rfl, fun f hf => absurd hf List.not_mem_nil, rfl, rfl⟩, fun _ _ _ _ _ => trivial, ?_, ?_⟩
      · rintro i x s' S' hi ⟨fs, t5, rfl, hfs, rfl, rfl⟩
        obtain ⟨hi2, rfl⟩ := rngD_get hi
        conv => whnf
        repeat (refine Need.mk ?_ ?_; exact nd; conv => whnf)
        refine ⟨_, rfl, ⟨by first | decide | omega, by first | decide | omega⟩, fun j j0 j1 => ?_⟩
        conv => whnf
        repeat (refine Need.mk ?_ ?_; exact nd; conv => whnf)
        rw [show (1 + j : Int) = (((1 + j).toNat : Nat) : Int) by omega, cutD_take, ← List.map_take]
        refine ⟨qs.take (1 + j).toNat, 5, rfl, ?_, List.Sublist.nodup (List.take_sublist _ _) hnd, by rw [List.length_take]; omega, by decide, by decide, fun f hf => ?_⟩
        · intro hh
          have := congrArg List.length hh
          rw [List.length_take] at this
          have h0 : ([] : List Int).length = 0 := rfl
          omega
        conv => whnf
        refine Need.mk (by show (fs.map Fc.d).length < _; rw [List.length_map, sizeLine_eq]; omega) ?_
        conv => whnf
        repeat (refine Need.mk ?_ ?_; exact nd; conv => whnf)
        refine .inl ⟨fs ++ [f], _, by simp, fun g hg => ?_, by rw [List.map_append]; rfl, rfl⟩
        rcases List.mem_append.mp hg with hg | hg
        · exact hfs g hg
        · rw [List.mem_singleton.mp hg]; exact ⟨_, hf⟩
      · rintro s' S' ⟨fs, t5, hfl, hfs, rfl, rfl⟩
        rw [rngD_len] at hfl
        conv => whnf
        repeat (refine Need.mk ?_ ?_; exact nd; conv => whnf)
        refine ⟨1, [none, some (.ref 0), none, none, some (.lst (fs.map Fc.d)), none, none, none], [.drw], Nat.zero_le _, by show 1 ≤ 2; decide, ⟨_, _, rfl, _, _, rfl, ⟨rfl, by decide⟩, _, _, rfl, _, _, rfl, _, _, rfl, Rs.ofL' (k := 1) (Nat.le_refl _) rfl (fcs_lt fs), _, _, rfl, _, _, rfl, _, _, rfl, rfl⟩, ⟨_, _, rfl, trivial, rfl⟩, ?_⟩
        conv => whnf
        repeat (refine Need.mk ?_ ?_; exact nd; conv => whnf)
        refine ⟨fs, rfl, by omega, fun gs h1 h2 h3 => ?_⟩
        conv => whnf
        repeat (refine Need.mk ?_ ?_; exact nd; conv => whnf)
        refine ⟨rfl, gs, 5, _, _, _, by decide, by decide, fun g hg => ?_, ?_, rfl⟩
        · have : g.2 ∈ gs.map (·.2) := List.mem_map.mpr ⟨g, hg, rfl⟩
          rw [h1] at this
          exact hfs _ (List.mem_of_mem_take this)
        · have := congrArg List.length h1
          rw [List.length_map, List.length_take] at this
          omega
    · conv => whnf
      repeat (refine Need.mk ?_ ?_; exact nd; conv => whnf)
      exact ⟨rfl, gs, m, _, _, _, hm5.2, hm5.1, fun g hg => ⟨ps, hgs g hg⟩, hgl, rfl⟩
  clear hgs hgl hpw h1 hps hm hm5
  rintro s' S' ⟨rfl, gs, m, t3, t4, t5, hm5, hm1, hgs, hgl, rfl⟩
  conv => whnf
  repeat (refine Need.mk ?_ ?_; exact nd; conv => whnf)
  refine ⟨rfl, fun z => ?_⟩
  conv => whnf
  repeat (refine Need.mk ?_ ?_; exact nd; conv => whnf)
  refine ⟨fun i s' S' => S' = [.drw] ∧ ∃ t7 : Option D, s' = [none, some (.ref 0), some (.lst (gs.map nf)), none, none, none, some (.lst (gs.map nf)), t7], ⟨rfl, _, rfl⟩, fun _ _ _ _ _ => rfl, ?_, ?_⟩
  · rintro i x s' S' hi ⟨rfl, t7, rfl⟩
    obtain ⟨p, hp, rfl⟩ := int_at (ns := [1, 2, 3, 4, 0, 5, z]) hi
    obtain ⟨n, hn⟩ := full_at hm5 hm1 hgs p
    obtain ⟨y, hy⟩ := Cl.ex (fun hh => ⟨(hn hh).1, (hn hh).2.1⟩)
    conv => whnf
    repeat (refine Need.mk ?_ ?_; exact nd; conv => whnf)
    refine ⟨gs, p, n, rfl, by omega, hn, fun y2 hy2 => ?_⟩
    have ey := Cl.one hy2 hy
    subst ey
    conv => whnf
    repeat (refine Need.mk ?_ ?_; exact nd; conv => whnf)
    refine ⟨gs, p, n, y2, rfl, by omega, good_len hm5 hgs, hn, hy, ?_⟩
    conv => whnf
    repeat (refine Need.mk ?_ ?_; exact nd; conv => whnf)
    refine ⟨y2.d, rfl, Cl.dp hy, ?_⟩
    conv => whnf
    refine Need.mk ⟨nfs_pl gs, nfs_pl gs⟩ ?_
    conv => whnf
    repeat (refine Need.mk ?_ ?_; exact nd; conv => whnf)
    refine lifF (by show (!D.eqds (gs.map nf) (gs.map nf)) = false; rw [D.eqds_self (nfs_pl (n := 0) gs)]; rfl) ?_
    conv => whnf
    repeat (refine Need.mk ?_ ?_; exact nd; conv => whnf)
    exact .inl ⟨rfl, _, rfl⟩
  · rintro s' S' ⟨rfl, t7, rfl⟩
    conv => whnf
    repeat (refine Need.mk ?_ ?_; exact nd; conv => whnf)
    exact ⟨0, _, [], Nat.le_refl _, Nat.zero_le _, rfl, Rs.same trivial, q _⟩
end
theorem all_mk {l : PySem.W.OpenLaw} {w : World} {K : PySem.W.Frag} {h : Heap} {mg : Str → Option Value} {fa : Addr} (X : K.In h) (G : h.Ns mainGlobals mg) (hfa : mg "law" = some (.ref fa)) (c : He.SaysX [] fns tabs_ tfs exB w h K) :
    ∃ (fd : FuncData) (cs : List (Addr × Addr × Str)), (∀ p ∈ cs, h.get? p.2.1 = some { cls := .none, data := .fields #[] }) ∧ (∀ p ∈ cs, K.lookup p.2.1 = none) ∧ (∀ p ∈ cs, PySem.W.CodeHd h p.1 p.2.1) ∧
      (∀ (s : Shared) (u : Value), BindsTo s fd ⟨[u], []⟩ [("_law_script", u)]) ∧ ∀ base : Heap, K.In base → base.Ns mainGlobals mg → (∀ p ∈ cs, LamX.TabB base mg p.1 p.2.1) → FnOk l.prog w K mg base (L2.CX l.prog w) 13 fa fd ["_law_script"] (upFT K (cs.map fun p => p.2) spLaw) := by
  have xs : (fxs.all fun f => f K) = true := c.more
  obtain ⟨fd_need_part, F_need_part⟩ : ∃ fd, L2.FunD K "need_part" "need_part" (defArgs s_need_part) (defBody s_need_part) (defScope s_need_part) [] [] (He.ga K "need_part") fd := c.t.d.def_ 0 (d := dd_need_part) rfl
  obtain ⟨fd_shown, F_shown⟩ : ∃ fd, L2.FunD K "shown" "shown" (defArgs s_shown) (defBody s_shown) (defScope s_shown) [] [] (He.ga K "shown") fd := c.t.d.def_ 1 (d := dd_shown) rfl
  obtain ⟨fd_sizes_of, F_sizes_of⟩ : ∃ fd, L2.FunD K "sizes_of" "sizes_of" (defArgs s_sizes_of) (defBody s_sizes_of) (defScope s_sizes_of) [] [] (He.ga K "sizes_of") fd := c.t.d.def_ 2 (d := dd_sizes_of) rfl
  obtain ⟨fd_counts, F_counts⟩ : ∃ fd, L2.FunD K "counts" "counts" (defArgs s_counts) (defBody s_counts) (defScope s_counts) [] [] (He.ga K "counts") fd := c.t.d.def_ 3 (d := dd_counts) rfl
  obtain ⟨fd_shades_read, F_shades_read⟩ : ∃ fd, L2.FunD K "shades_read" "shades_read" (defArgs s_shades_read) (defBody s_shades_read) (defScope s_shades_read) [] [] (He.ga K "shades_read") fd := c.t.d.def_ 4 (d := dd_shades_read) rfl
  obtain ⟨fd_coats_of, F_coats_of⟩ : ∃ fd, L2.FunD K "coats_of" "coats_of" (defArgs s_coats_of) (defBody s_coats_of) (defScope s_coats_of) [] [] (He.ga K "coats_of") fd := c.t.d.def_ 5 (d := dd_coats_of) rfl
  obtain ⟨fd__law_open, F__law_open⟩ : ∃ fd, L2.FunD K "_law_open" "_law_open" (defArgs s__law_open) (defBody s__law_open) (defScope s__law_open) [] [] (He.ga K "_law_open") fd := c.t.d.def_ 6 (d := dd__law_open) rfl
  obtain ⟨fd__law_pull, F__law_pull⟩ : ∃ fd, L2.FunD K "_law_pull" "_law_pull" (defArgs s__law_pull) (defBody s__law_pull) (defScope s__law_pull) [] [] (He.ga K "_law_pull") fd := c.t.d.def_ 7 (d := dd__law_pull) rfl
  obtain ⟨fd__law_num, F__law_num⟩ : ∃ fd, L2.FunD K "_law_num" "_law_num" (defArgs s__law_num) (defBody s__law_num) (defScope s__law_num) [] [] (He.ga K "_law_num") fd := c.t.d.def_ 8 (d := dd__law_num) rfl
  obtain ⟨fd__law_like, F__law_like⟩ : ∃ fd, L2.FunD K "_law_like" "_law_like" (defArgs s__law_like) (defBody s__law_like) (defScope s__law_like) [] [] (He.ga K "_law_like") fd := c.t.d.def_ 9 (d := dd__law_like) rfl
  obtain ⟨fd__law_odd, F__law_odd⟩ : ∃ fd, L2.FunD K "_law_odd" "_law_odd" (defArgs s__law_odd) (defBody s__law_odd) (defScope s__law_odd) [] [] (He.ga K "_law_odd") fd := c.t.d.def_ 10 (d := dd__law_odd) rfl
  obtain ⟨fd__law_few, F__law_few⟩ : ∃ fd, L2.FunD K "_law_few" "_law_few" (defArgs s__law_few) (defBody s__law_few) (defScope s__law_few) [] [] (He.ga K "_law_few") fd := c.t.d.def_ 11 (d := dd__law_few) rfl
  obtain ⟨fd__law_shades, F__law_shades⟩ : ∃ fd, L2.FunD K "_law_shades" "_law_shades" (defArgs s__law_shades) (defBody s__law_shades) (defScope s__law_shades) [] [] (He.ga K "_law_shades") fd := c.t.d.def_ 12 (d := dd__law_shades) rfl
  obtain ⟨fd__law_fact, F__law_fact⟩ : ∃ fd, L2.FunD K "_law_fact" "_law_fact" (defArgs s__law_fact) (defBody s__law_fact) (defScope s__law_fact) [] [] (He.ga K "_law_fact") fd := c.t.d.def_ 13 (d := dd__law_fact) rfl
  obtain ⟨fd__law_world, F__law_world⟩ : ∃ fd, L2.FunD K "_law_world" "_law_world" (defArgs s__law_world) (defBody s__law_world) (defScope s__law_world) [] [] (He.ga K "_law_world") fd := c.t.d.def_ 14 (d := dd__law_world) rfl
  obtain ⟨fd__law_had, F__law_had⟩ : ∃ fd, L2.FunD K "_law_had" "_law_had" (defArgs s__law_had) (defBody s__law_had) (defScope s__law_had) [] [] (He.ga K "_law_had") fd := c.t.d.def_ 15 (d := dd__law_had) rfl
  obtain ⟨fd__law_spot, F__law_spot⟩ : ∃ fd, L2.FunD K "_law_spot" "_law_spot" (defArgs s__law_spot) (defBody s__law_spot) (defScope s__law_spot) [] [] (He.ga K "_law_spot") fd := c.t.d.def_ 16 (d := dd__law_spot) rfl
  obtain ⟨fd__law_true_pair, F__law_true_pair⟩ : ∃ fd, L2.FunD K "_law_true_pair" "_law_true_pair" (defArgs s__law_true_pair) (defBody s__law_true_pair) (defScope s__law_true_pair) [] [] (He.ga K "_law_true_pair") fd := c.t.d.def_ 17 (d := dd__law_true_pair) rfl
  obtain ⟨fd__law_true_put, F__law_true_put⟩ : ∃ fd, L2.FunD K "_law_true_put" "_law_true_put" (defArgs s__law_true_put) (defBody s__law_true_put) (defScope s__law_true_put) [] [] (He.ga K "_law_true_put") fd := c.t.d.def_ 18 (d := dd__law_true_put) rfl
  obtain ⟨fd__law_true_scrape, F__law_true_scrape⟩ : ∃ fd, L2.FunD K "_law_true_scrape" "_law_true_scrape" (defArgs s__law_true_scrape) (defBody s__law_true_scrape) (defScope s__law_true_scrape) [] [] (He.ga K "_law_true_scrape") fd := c.t.d.def_ 19 (d := dd__law_true_scrape) rfl
  obtain ⟨fd__law_true_facts, F__law_true_facts⟩ : ∃ fd, L2.FunD K "_law_true_facts" "_law_true_facts" (defArgs s__law_true_facts) (defBody s__law_true_facts) (defScope s__law_true_facts) [] [] (He.ga K "_law_true_facts") fd := c.t.d.def_ 20 (d := dd__law_true_facts) rfl
  obtain ⟨fd__law_numbered, F__law_numbered⟩ : ∃ fd, L2.FunD K "_law_numbered" "_law_numbered" (defArgs s__law_numbered) (defBody s__law_numbered) (defScope s__law_numbered) [] [] (He.ga K "_law_numbered") fd := c.t.d.def_ 21 (d := dd__law_numbered) rfl
  obtain ⟨fd__law_house, F__law_house⟩ : ∃ fd, L2.FunD K "_law_house" "_law_house" (defArgs s__law_house) (defBody s__law_house) (defScope s__law_house) [] [] (He.ga K "_law_house") fd := c.t.d.def_ 22 (d := dd__law_house) rfl
  obtain ⟨fd__law_small, F__law_small⟩ : ∃ fd, L2.FunD K "_law_small" "_law_small" (defArgs s__law_small) (defBody s__law_small) (defScope s__law_small) [] [] (He.ga K "_law_small") fd := c.t.d.def_ 23 (d := dd__law_small) rfl
  obtain ⟨fd__law_sizes, F__law_sizes⟩ : ∃ fd, L2.FunD K "_law_sizes" "_law_sizes" (defArgs s__law_sizes) (defBody s__law_sizes) (defScope s__law_sizes) [] [] (He.ga K "_law_sizes") fd := c.t.d.def_ 24 (d := dd__law_sizes) rfl
  obtain ⟨fd__law_full, F__law_full⟩ : ∃ fd, L2.FunD K "_law_full" "_law_full" (defArgs s__law_full) (defBody s__law_full) (defScope s__law_full) [] [] (He.ga K "_law_full") fd := c.t.d.def_ 25 (d := dd__law_full) rfl
  obtain ⟨fd__law_reads, F__law_reads⟩ : ∃ fd, L2.FunD K "_law_reads" "_law_reads" (defArgs s__law_reads) (defBody s__law_reads) (defScope s__law_reads) [] [] (He.ga K "_law_reads") fd := c.t.d.def_ 26 (d := dd__law_reads) rfl
  obtain ⟨fd__law_shade_of, F__law_shade_of⟩ : ∃ fd, L2.FunD K "_law_shade_of" "_law_shade_of" (defArgs s__law_shade_of) (defBody s__law_shade_of) (defScope s__law_shade_of) [] [] (He.ga K "_law_shade_of") fd := c.t.d.def_ 27 (d := dd__law_shade_of) rfl
  obtain ⟨fd__law_told, F__law_told⟩ : ∃ fd, L2.FunD K "_law_told" "_law_told" (defArgs s__law_told) (defBody s__law_told) (defScope s__law_told) [] [] (He.ga K "_law_told") fd := c.t.d.def_ 28 (d := dd__law_told) rfl
  obtain ⟨fd__law_due, F__law_due⟩ : ∃ fd, L2.FunD K "_law_due" "_law_due" (defArgs s__law_due) (defBody s__law_due) (defScope s__law_due) [] [] (He.ga K "_law_due") fd := c.t.d.def_ 29 (d := dd__law_due) rfl
  obtain ⟨fd_law, F_law⟩ : ∃ fd, L2.FunD K "law" "law" (defArgs s_law) (defBody s_law) (defScope s_law) [] [] (He.ga K "law") fd := c.t.d.def_ 30 (d := dd_law) rfl
  obtain ⟨fd_LimeError_init, F_LimeError_init⟩ : ∃ fd, L2.FunD K "__init__" "LimeError.__init__" (defArgs s_LimeError_init) (defBody s_LimeError_init) (defScope s_LimeError_init) [] [] (He.ma K (He.ga K "LimeError") "__init__") fd := c.t.d.def_ 31 (d := dd_LimeError_init) rfl
  obtain ⟨fd_BadPart_init, F_BadPart_init⟩ : ∃ fd, L2.FunD K "__init__" "BadPart.__init__" (defArgs s_BadPart_init) (defBody s_BadPart_init) (defScope s_BadPart_init) [] [] (He.ma K (He.ga K "BadPart") "__init__") fd := c.t.d.def_ 32 (d := dd_BadPart_init) rfl
  obtain ⟨fd_BadCoat_init, F_BadCoat_init⟩ : ∃ fd, L2.FunD K "__init__" "BadCoat.__init__" (defArgs s_BadCoat_init) (defBody s_BadCoat_init) (defScope s_BadCoat_init) [] [] (He.ma K (He.ga K "BadCoat") "__init__") fd := c.t.d.def_ 33 (d := dd_BadCoat_init) rfl
  obtain ⟨fd_BadShade_init, F_BadShade_init⟩ : ∃ fd, L2.FunD K "__init__" "BadShade.__init__" (defArgs s_BadShade_init) (defBody s_BadShade_init) (defScope s_BadShade_init) [] [] (He.ma K (He.ga K "BadShade") "__init__") fd := c.t.d.def_ 34 (d := dd_BadShade_init) rfl
  obtain ⟨fd_Clash_init, F_Clash_init⟩ : ∃ fd, L2.FunD K "__init__" "Clash.__init__" (defArgs s_Clash_init) (defBody s_Clash_init) (defScope s_Clash_init) [] [] (He.ma K (He.ga K "Clash") "__init__") fd := c.t.d.def_ 35 (d := dd_Clash_init) rfl
  obtain ⟨fd_Coats_init, F_Coats_init⟩ : ∃ fd, L2.FunD K "__init__" "Coats.__init__" (defArgs s_Coats_init) (defBody s_Coats_init) (defScope s_Coats_init) [] [] (He.ma K (He.ga K "Coats") "__init__") fd := c.t.d.def_ 36 (d := dd_Coats_init) rfl
  obtain ⟨fd_Coats_len, F_Coats_len⟩ : ∃ fd, L2.FunD K "__len__" "Coats.__len__" (defArgs s_Coats_len) (defBody s_Coats_len) (defScope s_Coats_len) [] [] (He.ma K (He.ga K "Coats") "__len__") fd := c.t.d.def_ 37 (d := dd_Coats_len) rfl
  obtain ⟨fd_Coats_shade, F_Coats_shade⟩ : ∃ fd, L2.FunD K "shade" "Coats.shade" (defArgs s_Coats_shade) (defBody s_Coats_shade) (defScope s_Coats_shade) [] [] (He.ma K (He.ga K "Coats") "shade") fd := c.t.d.def_ 38 (d := dd_Coats_shade) rfl
  have e := hfa.symm.trans (He.glo_ok X G (x := "law") (fact_at (f := fun K => (He.Fa.glo "law").ok K) xs 30 rfl))
  cases e
  have T : Txt K w mg { a_need_part := (He.ga K "need_part"), d_need_part := fd_need_part, a_shown := (He.ga K "shown"), d_shown := fd_shown, a_sizes_of := (He.ga K "sizes_of"), d_sizes_of := fd_sizes_of, a_counts := (He.ga K "counts"), d_counts := fd_counts, a_shades_read := (He.ga K "shades_read"), d_shades_read := fd_shades_read, a_coats_of := (He.ga K "coats_of"), d_coats_of := fd_coats_of, a__law_open := (He.ga K "_law_open"), d__law_open := fd__law_open, a__law_pull := (He.ga K "_law_pull"), d__law_pull := fd__law_pull, a__law_num := (He.ga K "_law_num"), d__law_num := fd__law_num, a__law_like := (He.ga K "_law_like"), d__law_like := fd__law_like, a__law_odd := (He.ga K "_law_odd"), d__law_odd := fd__law_odd, a__law_few := (He.ga K "_law_few"), d__law_few := fd__law_few, a__law_shades := (He.ga K "_law_shades"), d__law_shades := fd__law_shades, a__law_fact := (He.ga K "_law_fact"), d__law_fact := fd__law_fact, a__law_world := (He.ga K "_law_world"), d__law_world := fd__law_world, a__law_had := (He.ga K "_law_had"), d__law_had := fd__law_had, a__law_spot := (He.ga K "_law_spot"), d__law_spot := fd__law_spot, a__law_true_pair := (He.ga K "_law_true_pair"), d__law_true_pair := fd__law_true_pair, a__law_true_put := (He.ga K "_law_true_put"), d__law_true_put := fd__law_true_put, a__law_true_scrape := (He.ga K "_law_true_scrape"), d__law_true_scrape := fd__law_true_scrape, a__law_true_facts := (He.ga K "_law_true_facts"), d__law_true_facts := fd__law_true_facts, a__law_numbered := (He.ga K "_law_numbered"), d__law_numbered := fd__law_numbered, a__law_house := (He.ga K "_law_house"), d__law_house := fd__law_house, a__law_small := (He.ga K "_law_small"), d__law_small := fd__law_small, a__law_sizes := (He.ga K "_law_sizes"), d__law_sizes := fd__law_sizes, a__law_full := (He.ga K "_law_full"), d__law_full := fd__law_full, a__law_reads := (He.ga K "_law_reads"), d__law_reads := fd__law_reads, a__law_shade_of := (He.ga K "_law_shade_of"), d__law_shade_of := fd__law_shade_of, a__law_told := (He.ga K "_law_told"), d__law_told := fd__law_told, a__law_due := (He.ga K "_law_due"), d__law_due := fd__law_due, a_law := (He.ga K "law"), d_law := fd_law, a_LimeError_init := (He.ma K (He.ga K "LimeError") "__init__"), d_LimeError_init := fd_LimeError_init, a_BadPart_init := (He.ma K (He.ga K "BadPart") "__init__"), d_BadPart_init := fd_BadPart_init, a_BadCoat_init := (He.ma K (He.ga K "BadCoat") "__init__"), d_BadCoat_init := fd_BadCoat_init, a_BadShade_init := (He.ma K (He.ga K "BadShade") "__init__"), d_BadShade_init := fd_BadShade_init, a_Clash_init := (He.ma K (He.ga K "Clash") "__init__"), d_Clash_init := fd_Clash_init, a_Coats_init := (He.ma K (He.ga K "Coats") "__init__"), d_Coats_init := fd_Coats_init, a_Coats_len := (He.ma K (He.ga K "Coats") "__len__"), d_Coats_len := fd_Coats_len, a_Coats_shade := (He.ma K (He.ga K "Coats") "shade"), d_Coats_shade := fd_Coats_shade, c_LimeError := (He.ga K "LimeError"), c_BadPart := (He.ga K "BadPart"), c_BadCoat := (He.ga K "BadCoat"), c_BadShade := (He.ga K "BadShade"), c_Clash := (He.ga K "Clash"), c_Coats := (He.ga K "Coats"), code := (He.codeOf K ("law", none)), tab := 0 } := { F_need_part := funD_fun F_need_part, b_need_part := F_need_part.bindsN fun _ _ _ _ _ _ us hl => match us, hl with | [_], _ => rfl, m_need_part := (He.glo_ok X G (x := "need_part") (fact_at (f := fun K => (He.Fa.glo "need_part").ok K) xs 0 rfl)), F_shown := funD_fun F_shown, b_shown := F_shown.bindsN fun _ _ _ _ _ _ us hl => match us, hl with | [_], _ => rfl, m_shown := (He.glo_ok X G (x := "shown") (fact_at (f := fun K => (He.Fa.glo "shown").ok K) xs 1 rfl)), F_sizes_of := funD_fun F_sizes_of, b_sizes_of := F_sizes_of.bindsN fun _ _ _ _ _ _ us hl => match us, hl with | [_], _ => rfl, m_sizes_of := (He.glo_ok X G (x := "sizes_of") (fact_at (f := fun K => (He.Fa.glo "sizes_of").ok K) xs 2 rfl)), F_counts := funD_fun F_counts, b_counts := F_counts.bindsN fun _ _ _ _ _ _ us hl => match us, hl with | [_], _ => rfl, m_counts := (He.glo_ok X G (x := "counts") (fact_at (f := fun K => (He.Fa.glo "counts").ok K) xs 3 rfl)), F_shades_read := funD_fun F_shades_read, b_shades_read := F_shades_read.bindsN fun _ _ _ _ _ _ us hl => match us, hl with | [_, _, _], _ => rfl, m_shades_read := (He.glo_ok X G (x := "shades_read") (fact_at (f := fun K => (He.Fa.glo "shades_read").ok K) xs 4 rfl)), F_coats_of := funD_fun F_coats_of, b_coats_of := F_coats_of.bindsN fun _ _ _ _ _ _ us hl => match us, hl with | [_, _], _ => rfl, m_coats_of := (He.glo_ok X G (x := "coats_of") (fact_at (f := fun K => (He.Fa.glo "coats_of").ok K) xs 5 rfl)), F__law_open := funD_fun F__law_open, b__law_open := F__law_open.bindsN fun _ _ _ _ _ _ us hl => match us, hl with | [_], _ => rfl, m__law_open := (He.glo_ok X G (x := "_law_open") (fact_at (f := fun K => (He.Fa.glo "_law_open").ok K) xs 6 rfl)), F__law_pull := funD_fun F__law_pull, b__law_pull := F__law_pull.bindsN fun _ _ _ _ _ _ us hl => match us, hl with | [_, _], _ => rfl, m__law_pull := (He.glo_ok X G (x := "_law_pull") (fact_at (f := fun K => (He.Fa.glo "_law_pull").ok K) xs 7 rfl)), F__law_num := funD_fun F__law_num, b__law_num := F__law_num.bindsN fun _ _ _ _ _ _ us hl => match us, hl with | [_], _ => rfl, m__law_num := (He.glo_ok X G (x := "_law_num") (fact_at (f := fun K => (He.Fa.glo "_law_num").ok K) xs 8 rfl)), F__law_like := funD_fun F__law_like, b__law_like := F__law_like.bindsN fun _ _ _ _ _ _ us hl => match us, hl with | [_, _], _ => rfl, m__law_like := (He.glo_ok X G (x := "_law_like") (fact_at (f := fun K => (He.Fa.glo "_law_like").ok K) xs 9 rfl)), F__law_odd := funD_fun F__law_odd, b__law_odd := F__law_odd.bindsN fun _ _ _ _ _ _ us hl => match us, hl with | [_], _ => rfl, m__law_odd := (He.glo_ok X G (x := "_law_odd") (fact_at (f := fun K => (He.Fa.glo "_law_odd").ok K) xs 10 rfl)), F__law_few := funD_fun F__law_few, b__law_few := F__law_few.bindsN fun _ _ _ _ _ _ us hl => match us, hl with | [_, _, _], _ => rfl, m__law_few := (He.glo_ok X G (x := "_law_few") (fact_at (f := fun K => (He.Fa.glo "_law_few").ok K) xs 11 rfl)), F__law_shades := funD_fun F__law_shades, b__law_shades := F__law_shades.bindsN fun _ _ _ _ _ _ us hl => match us, hl with | [_, _], _ => rfl, m__law_shades := (He.glo_ok X G (x := "_law_shades") (fact_at (f := fun K => (He.Fa.glo "_law_shades").ok K) xs 12 rfl)), F__law_fact := funD_fun F__law_fact, b__law_fact := F__law_fact.bindsN fun _ _ _ _ _ _ us hl => match us, hl with | [_, _, _], _ => rfl, m__law_fact := (He.glo_ok X G (x := "_law_fact") (fact_at (f := fun K => (He.Fa.glo "_law_fact").ok K) xs 13 rfl)), F__law_world := funD_fun F__law_world, b__law_world := F__law_world.bindsN fun _ _ _ _ _ _ us hl => match us, hl with | [_, _, _, _], _ => rfl, m__law_world := (He.glo_ok X G (x := "_law_world") (fact_at (f := fun K => (He.Fa.glo "_law_world").ok K) xs 14 rfl)), F__law_had := funD_fun F__law_had, b__law_had := F__law_had.bindsN fun _ _ _ _ _ _ us hl => match us, hl with | [_, _, _], _ => rfl, m__law_had := (He.glo_ok X G (x := "_law_had") (fact_at (f := fun K => (He.Fa.glo "_law_had").ok K) xs 15 rfl)), F__law_spot := funD_fun F__law_spot, b__law_spot := F__law_spot.bindsN fun _ _ _ _ _ _ us hl => match us, hl with | [_, _, _], _ => rfl, m__law_spot := (He.glo_ok X G (x := "_law_spot") (fact_at (f := fun K => (He.Fa.glo "_law_spot").ok K) xs 16 rfl)), F__law_true_pair := funD_fun F__law_true_pair, b__law_true_pair := F__law_true_pair.bindsN fun _ _ _ _ _ _ us hl => match us, hl with | [_, _, _], _ => rfl, m__law_true_pair := (He.glo_ok X G (x := "_law_true_pair") (fact_at (f := fun K => (He.Fa.glo "_law_true_pair").ok K) xs 17 rfl)), F__law_true_put := funD_fun F__law_true_put, b__law_true_put := F__law_true_put.bindsN fun _ _ _ _ _ _ us hl => match us, hl with | [_, _], _ => rfl, m__law_true_put := (He.glo_ok X G (x := "_law_true_put") (fact_at (f := fun K => (He.Fa.glo "_law_true_put").ok K) xs 18 rfl)), F__law_true_scrape := funD_fun F__law_true_scrape, b__law_true_scrape := F__law_true_scrape.bindsN fun _ _ _ _ _ _ us hl => match us, hl with | [_, _, _], _ => rfl, m__law_true_scrape := (He.glo_ok X G (x := "_law_true_scrape") (fact_at (f := fun K => (He.Fa.glo "_law_true_scrape").ok K) xs 19 rfl)), F__law_true_facts := funD_fun F__law_true_facts, b__law_true_facts := F__law_true_facts.bindsN fun _ _ _ _ _ _ us hl => match us, hl with | [_, _, _], _ => rfl, m__law_true_facts := (He.glo_ok X G (x := "_law_true_facts") (fact_at (f := fun K => (He.Fa.glo "_law_true_facts").ok K) xs 20 rfl)), F__law_numbered := funD_fun F__law_numbered, b__law_numbered := F__law_numbered.bindsN fun _ _ _ _ _ _ us hl => match us, hl with | [_, _], _ => rfl, m__law_numbered := (He.glo_ok X G (x := "_law_numbered") (fact_at (f := fun K => (He.Fa.glo "_law_numbered").ok K) xs 21 rfl)), F__law_house := funD_fun F__law_house, b__law_house := F__law_house.bindsN fun _ _ _ _ _ _ us hl => match us, hl with | [_, _, _, _], _ => rfl, m__law_house := (He.glo_ok X G (x := "_law_house") (fact_at (f := fun K => (He.Fa.glo "_law_house").ok K) xs 22 rfl)), F__law_small := funD_fun F__law_small, b__law_small := F__law_small.bindsN fun _ _ _ _ _ _ us hl => match us, hl with | [_], _ => rfl, m__law_small := (He.glo_ok X G (x := "_law_small") (fact_at (f := fun K => (He.Fa.glo "_law_small").ok K) xs 23 rfl)), F__law_sizes := funD_fun F__law_sizes, b__law_sizes := F__law_sizes.bindsN fun _ _ _ _ _ _ us hl => match us, hl with | [_], _ => rfl, m__law_sizes := (He.glo_ok X G (x := "_law_sizes") (fact_at (f := fun K => (He.Fa.glo "_law_sizes").ok K) xs 24 rfl)), F__law_full := funD_fun F__law_full, b__law_full := F__law_full.bindsN fun _ _ _ _ _ _ us hl => match us, hl with | [_], _ => rfl, m__law_full := (He.glo_ok X G (x := "_law_full") (fact_at (f := fun K => (He.Fa.glo "_law_full").ok K) xs 25 rfl)), F__law_reads := funD_fun F__law_reads, b__law_reads := F__law_reads.bindsN fun _ _ _ _ _ _ us hl => match us, hl with | [_], _ => rfl, m__law_reads := (He.glo_ok X G (x := "_law_reads") (fact_at (f := fun K => (He.Fa.glo "_law_reads").ok K) xs 26 rfl)), F__law_shade_of := funD_fun F__law_shade_of, b__law_shade_of := F__law_shade_of.bindsN fun _ _ _ _ _ _ us hl => match us, hl with | [_, _], _ => rfl, m__law_shade_of := (He.glo_ok X G (x := "_law_shade_of") (fact_at (f := fun K => (He.Fa.glo "_law_shade_of").ok K) xs 27 rfl)), F__law_told := funD_fun F__law_told, b__law_told := F__law_told.bindsN fun _ _ _ _ _ _ us hl => match us, hl with | [_, _], _ => rfl, m__law_told := (He.glo_ok X G (x := "_law_told") (fact_at (f := fun K => (He.Fa.glo "_law_told").ok K) xs 28 rfl)), F__law_due := funD_fun F__law_due, b__law_due := F__law_due.bindsN fun _ _ _ _ _ _ us hl => match us, hl with | [_, _], _ => rfl, m__law_due := (He.glo_ok X G (x := "_law_due") (fact_at (f := fun K => (He.Fa.glo "_law_due").ok K) xs 29 rfl)), F_law := funD_code (p := ("law", none)) F_law, b_law := F_law.bindsN fun _ _ _ _ _ _ us hl => match us, hl with | [_], _ => rfl, m_law := (He.glo_ok X G (x := "law") (fact_at (f := fun K => (He.Fa.glo "law").ok K) xs 30 rfl)), F_LimeError_init := funD_fun F_LimeError_init, b_LimeError_init := F_LimeError_init.bindsN fun _ _ _ _ _ _ us hl => match us, hl with | [_, _], _ => rfl, i_LimeError_init := He.eqO_ok (fact_at (f := fun K => He.eqO (PySem.W.findIn K (.ref (He.ga K "LimeError")) "__init__") (some (some (.ref (He.ma K (He.ga K "LimeError") "__init__"))))) xs 31 rfl), t_LimeError_init := of_decide_eq_true (fact_at (f := fun K => decide (PySem.W.typeIn K (.ref (He.ma K (He.ga K "LimeError") "__init__")) = some (.type "function"))) xs 32 rfl), F_BadPart_init := funD_fun F_BadPart_init, b_BadPart_init := F_BadPart_init.bindsN fun _ _ _ _ _ _ us hl => match us, hl with | [_], _ => rfl, i_BadPart_init := He.eqO_ok (fact_at (f := fun K => He.eqO (PySem.W.findIn K (.ref (He.ga K "BadPart")) "__init__") (some (some (.ref (He.ma K (He.ga K "BadPart") "__init__"))))) xs 33 rfl), t_BadPart_init := of_decide_eq_true (fact_at (f := fun K => decide (PySem.W.typeIn K (.ref (He.ma K (He.ga K "BadPart") "__init__")) = some (.type "function"))) xs 34 rfl), F_BadCoat_init := funD_fun F_BadCoat_init, b_BadCoat_init := F_BadCoat_init.bindsN fun _ _ _ _ _ _ us hl => match us, hl with | [_], _ => rfl, i_BadCoat_init := He.eqO_ok (fact_at (f := fun K => He.eqO (PySem.W.findIn K (.ref (He.ga K "BadCoat")) "__init__") (some (some (.ref (He.ma K (He.ga K "BadCoat") "__init__"))))) xs 35 rfl), t_BadCoat_init := of_decide_eq_true (fact_at (f := fun K => decide (PySem.W.typeIn K (.ref (He.ma K (He.ga K "BadCoat") "__init__")) = some (.type "function"))) xs 36 rfl), F_BadShade_init := funD_fun F_BadShade_init, b_BadShade_init := F_BadShade_init.bindsN fun _ _ _ _ _ _ us hl => match us, hl with | [_], _ => rfl, i_BadShade_init := He.eqO_ok (fact_at (f := fun K => He.eqO (PySem.W.findIn K (.ref (He.ga K "BadShade")) "__init__") (some (some (.ref (He.ma K (He.ga K "BadShade") "__init__"))))) xs 37 rfl), t_BadShade_init := of_decide_eq_true (fact_at (f := fun K => decide (PySem.W.typeIn K (.ref (He.ma K (He.ga K "BadShade") "__init__")) = some (.type "function"))) xs 38 rfl), F_Clash_init := funD_fun F_Clash_init, b_Clash_init := F_Clash_init.bindsN fun _ _ _ _ _ _ us hl => match us, hl with | [_, _, _], _ => rfl, i_Clash_init := He.eqO_ok (fact_at (f := fun K => He.eqO (PySem.W.findIn K (.ref (He.ga K "Clash")) "__init__") (some (some (.ref (He.ma K (He.ga K "Clash") "__init__"))))) xs 39 rfl), t_Clash_init := of_decide_eq_true (fact_at (f := fun K => decide (PySem.W.typeIn K (.ref (He.ma K (He.ga K "Clash") "__init__")) = some (.type "function"))) xs 40 rfl), F_Coats_init := funD_fun F_Coats_init, b_Coats_init := F_Coats_init.bindsN fun _ _ _ _ _ _ us hl => match us, hl with | [_, _], _ => rfl, i_Coats_init := He.meth_ok (fact_at (f := fun K => (He.Fa.meth "Coats" "__init__").ok K) xs 41 rfl), F_Coats_len := funD_fun F_Coats_len, b_Coats_len := F_Coats_len.bindsN fun _ _ _ _ _ _ us hl => match us, hl with | [_], _ => rfl, i_Coats_len := He.meth_ok (fact_at (f := fun K => (He.Fa.meth "Coats" "__len__").ok K) xs 42 rfl), F_Coats_shade := funD_fun F_Coats_shade, b_Coats_shade := F_Coats_shade.bindsN fun _ _ _ _ _ _ us hl => match us, hl with | [_, _], _ => rfl, i_Coats_shade := He.meth_ok (fact_at (f := fun K => (He.Fa.meth "Coats" "shade").ok K) xs 43 rfl), k_LimeError := (He.glo_ok X G (x := "LimeError") (fact_at (f := fun K => (He.Fa.glo "LimeError").ok K) xs 44 rfl)), k_BadPart := (He.glo_ok X G (x := "BadPart") (fact_at (f := fun K => (He.Fa.glo "BadPart").ok K) xs 45 rfl)), k_BadCoat := (He.glo_ok X G (x := "BadCoat") (fact_at (f := fun K => (He.Fa.glo "BadCoat").ok K) xs 46 rfl)), k_BadShade := (He.glo_ok X G (x := "BadShade") (fact_at (f := fun K => (He.Fa.glo "BadShade").ok K) xs 47 rfl)), k_Clash := (He.glo_ok X G (x := "Clash") (fact_at (f := fun K => (He.Fa.glo "Clash").ok K) xs 48 rfl)), k_Coats := (He.glo_ok X G (x := "Coats") (fact_at (f := fun K => (He.Fa.glo "Coats").ok K) xs 49 rfl)), o_Coats := isoB_ok (fact_at (f := fun K => isoB K (He.ga K "Coats")) xs 50 rfl), mk_Coats := He.mkr_ok (fact_at (f := fun K => (He.Fa.mkr "Coats").ok K) xs 51 rfl), na_Coats_seen := (He.noat_ok (x := "Coats") (f := "seen") (fact_at (f := fun K => (He.Fa.noat "Coats" "seen").ok K) xs 52 rfl)), fm_Coats := ⟨of_decide_eq_true (fact_at (f := fun K => decide (PySem.W.findIn K (.ref (He.ga K "Coats")) "__format__" = some (some (.builtin "object.__format__")))) xs 53 rfl), of_decide_eq_true (fact_at (f := fun K => decide (PySem.W.mroIn K (He.ga K "Coats") (.type "object") = some true)) xs 54 rfl)⟩, xf_BadPart := L2.xfB_ok (fact_at (f := fun K => L2.xfB K (He.ga K "BadPart")) xs 55 rfl), nc_BadPart := (He.noat_ok (x := "BadPart") (f := "called") (fact_at (f := fun K => (He.Fa.noat "BadPart" "called").ok K) xs 56 rfl)), ex_BadPart := He.exm_ok (fact_at (f := fun K => (He.Fa.exm "BadPart" "LimeError" true).ok K) xs 57 rfl), es_BadPart := He.exm_ok (fact_at (f := fun K => (He.Fa.exm "BadPart" "BadPart" true).ok K) xs 58 rfl), xf_BadCoat := L2.xfB_ok (fact_at (f := fun K => L2.xfB K (He.ga K "BadCoat")) xs 59 rfl), nc_BadCoat := (He.noat_ok (x := "BadCoat") (f := "called") (fact_at (f := fun K => (He.Fa.noat "BadCoat" "called").ok K) xs 60 rfl)), ex_BadCoat := He.exm_ok (fact_at (f := fun K => (He.Fa.exm "BadCoat" "LimeError" true).ok K) xs 61 rfl), es_BadCoat := He.exm_ok (fact_at (f := fun K => (He.Fa.exm "BadCoat" "BadCoat" true).ok K) xs 62 rfl), xf_BadShade := L2.xfB_ok (fact_at (f := fun K => L2.xfB K (He.ga K "BadShade")) xs 63 rfl), nc_BadShade := (He.noat_ok (x := "BadShade") (f := "called") (fact_at (f := fun K => (He.Fa.noat "BadShade" "called").ok K) xs 64 rfl)), ex_BadShade := He.exm_ok (fact_at (f := fun K => (He.Fa.exm "BadShade" "LimeError" true).ok K) xs 65 rfl), es_BadShade := He.exm_ok (fact_at (f := fun K => (He.Fa.exm "BadShade" "BadShade" true).ok K) xs 66 rfl), xf_Clash := L2.xfB_ok (fact_at (f := fun K => L2.xfB K (He.ga K "Clash")) xs 67 rfl), nc_Clash := (He.noat_ok (x := "Clash") (f := "called") (fact_at (f := fun K => (He.Fa.noat "Clash" "called").ok K) xs 68 rfl)), ex_Clash := He.exm_ok (fact_at (f := fun K => (He.Fa.exm "Clash" "LimeError" true).ok K) xs 69 rfl), es_Clash := He.exm_ok (fact_at (f := fun K => (He.Fa.exm "Clash" "Clash" true).ok K) xs 70 rfl), nf_Clash_part := (He.noat_ok (x := "Clash") (f := "part") (fact_at (f := fun K => (He.Fa.noat "Clash" "part").ok K) xs 71 rfl)), nf_Clash_coat := (He.noat_ok (x := "Clash") (f := "coat") (fact_at (f := fun K => (He.Fa.noat "Clash" "coat").ok K) xs 72 rfl)), en_BadPart_Clash := He.exm_ok (fact_at (f := fun K => (He.Fa.exm "BadPart" "Clash" false).ok K) xs 73 rfl), n_ValueError := He.free_ok X G (fact_at (f := fun K => (He.Fa.free "ValueError").ok K) xs 74 rfl), n_all := He.free_ok X G (fact_at (f := fun K => (He.Fa.free "all").ok K) xs 75 rfl), n_bool := He.free_ok X G (fact_at (f := fun K => (He.Fa.free "bool").ok K) xs 76 rfl), n_dict := He.free_ok X G (fact_at (f := fun K => (He.Fa.free "dict").ok K) xs 77 rfl), n_enumerate := He.free_ok X G (fact_at (f := fun K => (He.Fa.free "enumerate").ok K) xs 78 rfl), n_int := He.free_ok X G (fact_at (f := fun K => (He.Fa.free "int").ok K) xs 79 rfl), n_isinstance := He.free_ok X G (fact_at (f := fun K => (He.Fa.free "isinstance").ok K) xs 80 rfl), n_len := He.free_ok X G (fact_at (f := fun K => (He.Fa.free "len").ok K) xs 81 rfl), n_list := He.free_ok X G (fact_at (f := fun K => (He.Fa.free "list").ok K) xs 82 rfl), n_max := He.free_ok X G (fact_at (f := fun K => (He.Fa.free "max").ok K) xs 83 rfl), n_min := He.free_ok X G (fact_at (f := fun K => (He.Fa.free "min").ok K) xs 84 rfl), n_range := He.free_ok X G (fact_at (f := fun K => (He.Fa.free "range").ok K) xs 85 rfl), n_set := He.free_ok X G (fact_at (f := fun K => (He.Fa.free "set").ok K) xs 86 rfl), n_sorted := He.free_ok X G (fact_at (f := fun K => (He.Fa.free "sorted").ok K) xs 87 rfl), n_str := He.free_ok X G (fact_at (f := fun K => (He.Fa.free "str").ok K) xs 88 rfl), n_tuple := He.free_ok X G (fact_at (f := fun K => (He.Fa.free "tuple").ok K) xs 89 rfl), g_PARTS := glo_tup (He.glo_ok X G (x := "PARTS") (fact_at (f := fun K => (He.Fa.glo "PARTS").ok K) xs 90 rfl)) (fact_at (f := fun K => tupAB K (He.ga K "PARTS") [.int 1, .int 2, .int 3, .int 4]) xs 91 rfl), g_SIGNS := (let ⟨_, h⟩ := He.str_ok X G (fact_at (f := fun K => (He.Fa.str "SIGNS" "?abcdef").ok K) xs 92 rfl); GlD.str h) }
  have bl := F_law.bindsA (ps := ["_law_script"]) fun _ _ _ _ _ _ us hl => match us, hl with | [_], _ => rfl
  refine ⟨fd_law, [], (fun p hp => nomatch hp), (fun p hp => nomatch hp), (fun p hp => nomatch hp), fun s v => bl s [v] rfl, fun base hb hn hT => ?_⟩
  · have FL := ok_lime (P := l.prog) (w := w) (base := base) T.F_LimeError_init sc_LimeError_init rfl rfl rfl rfl T.n_ValueError ⟨_, fun _ => rfl⟩ (valC_ok (fact_at (f := fun K => valC K (.type "ValueError") (.type "type") "__init__" (.builtin "ValueError.__init__")) xs 97 rfl))
    have GL : XcOk K mg (He.ga K "LimeError") (He.ma K (He.ga K "LimeError") "__init__") fd_LimeError_init (.type "type") := ⟨T.k_LimeError, ⟨(fact_at (f := fun K => PySem.W.readsIn K (He.ga K "LimeError") (.type "type")) xs 98 rfl), He.eqO_ok (fact_at (f := fun K => He.eqO (PySem.W.specialIn K (.ref (He.ga K "LimeError")) "__getattribute__") (some (some (.builtin "type.__getattribute__")))) xs 99 rfl)⟩, valC_ok (fact_at (f := fun K => valC K (.ref (He.ga K "LimeError")) (.type "type") "__init__" (.ref (He.ma K (He.ga K "LimeError") "__init__"))) xs 100 rfl), F_LimeError_init.kp, T.b_LimeError_init⟩
    have OX_BadPart : OexC K (He.ga K "BadPart") := oexB_ok (fact_at (f := fun K => oexB K (He.ga K "BadPart")) xs 93 rfl)
    have Z_BadPart : XcD l.prog w K mg base "BadPart" (He.ga K "BadPart") (He.ma K (He.ga K "BadPart") "__init__") fd_BadPart_init ["self"] 0 (fl0 "badpart") (fd0 "badpart") [] [] :=
      ⟨fl0_ok, OX_BadPart, T.xf_BadPart, T.i_BadPart_init, T.t_BadPart_init, ok_exc0 T.F_BadPart_init sc_BadPart_init rfl ⟨_, fun _ => rfl⟩ rfl rfl GL FL OX_BadPart T.nc_BadPart , ⟨[], .nil, T.b_BadPart_init⟩, (fun _ _ => rfl), T.k_BadPart, T.nc_BadPart⟩
    have OX_BadCoat : OexC K (He.ga K "BadCoat") := oexB_ok (fact_at (f := fun K => oexB K (He.ga K "BadCoat")) xs 94 rfl)
    have Z_BadCoat : XcD l.prog w K mg base "BadCoat" (He.ga K "BadCoat") (He.ma K (He.ga K "BadCoat") "__init__") fd_BadCoat_init ["self"] 0 (fl0 "badcoat") (fd0 "badcoat") [] [] :=
      ⟨fl0_ok, OX_BadCoat, T.xf_BadCoat, T.i_BadCoat_init, T.t_BadCoat_init, ok_exc0 T.F_BadCoat_init sc_BadCoat_init rfl ⟨_, fun _ => rfl⟩ rfl rfl GL FL OX_BadCoat T.nc_BadCoat , ⟨[], .nil, T.b_BadCoat_init⟩, (fun _ _ => rfl), T.k_BadCoat, T.nc_BadCoat⟩
    have OX_BadShade : OexC K (He.ga K "BadShade") := oexB_ok (fact_at (f := fun K => oexB K (He.ga K "BadShade")) xs 95 rfl)
    have Z_BadShade : XcD l.prog w K mg base "BadShade" (He.ga K "BadShade") (He.ma K (He.ga K "BadShade") "__init__") fd_BadShade_init ["self"] 0 (fl0 "badshade") (fd0 "badshade") [] [] :=
      ⟨fl0_ok, OX_BadShade, T.xf_BadShade, T.i_BadShade_init, T.t_BadShade_init, ok_exc0 T.F_BadShade_init sc_BadShade_init rfl ⟨_, fun _ => rfl⟩ rfl rfl GL FL OX_BadShade T.nc_BadShade , ⟨[], .nil, T.b_BadShade_init⟩, (fun _ _ => rfl), T.k_BadShade, T.nc_BadShade⟩
    have OX_Clash : OexC K (He.ga K "Clash") := oexB_ok (fact_at (f := fun K => oexB K (He.ga K "Clash")) xs 96 rfl)
    have Z_Clash : XcD l.prog w K mg base "Clash" (He.ga K "Clash") (He.ma K (He.ga K "Clash") "__init__") fd_Clash_init ["self", "part", "coat"] 2 (fl2 "clash" "part" "coat") (fd2 "clash" "part" "coat") [] [] :=
      ⟨fl2_ok, OX_Clash, T.xf_Clash, T.i_Clash_init, T.t_Clash_init, ok_exc2 T.F_Clash_init sc_Clash_init rfl ⟨_, fun _ => rfl⟩ rfl rfl rfl rfl GL FL OX_Clash T.nc_Clash T.nf_Clash_part T.nf_Clash_coat (by decide) (by decide) (by decide) (by decide), ⟨[], .nil, T.b_Clash_init⟩, (fun _ _ => rfl), T.k_Clash, T.nc_Clash⟩
    have G_need_part := ok_need_part (P := l.prog) (w := w) (base := base) T Z_BadPart
    have G_shown := ok_shown (P := l.prog) (w := w) (base := base) T 
    have G_sizes_of := ok_sizes_of (P := l.prog) (w := w) (base := base) T G_shown
    have G_counts := ok_counts (P := l.prog) (w := w) (base := base) T G_sizes_of
    have G_shades_read := ok_shades_read (P := l.prog) (w := w) (base := base) T 
    have I_Coats := ok_Coats_init (P := l.prog) (w := w) (base := base) T Z_BadShade
    have G_coats_of := ok_coats_of (P := l.prog) (w := w) (base := base) T G_need_part G_counts G_shades_read I_Coats Z_Clash
    have G__law_open := ok__law_open (P := l.prog) (w := w) (base := base) T 
    have G__law_pull := ok__law_pull (P := l.prog) (w := w) (base := base) T 
    have G__law_num := ok__law_num (P := l.prog) (w := w) (base := base) T 
    have G__law_like := ok__law_like (P := l.prog) (w := w) (base := base) T G__law_num
    have G__law_odd := ok__law_odd (P := l.prog) (w := w) (base := base) T G__law_pull
    have G__law_few := ok__law_few (P := l.prog) (w := w) (base := base) T G__law_pull
    have G__law_shades := ok__law_shades (P := l.prog) (w := w) (base := base) T G__law_pull
    have G__law_fact := ok__law_fact (P := l.prog) (w := w) (base := base) T G__law_pull G__law_shades
    have G__law_world := ok__law_world (P := l.prog) (w := w) (base := base) T G__law_pull G__law_few
    have G__law_had := ok__law_had (P := l.prog) (w := w) (base := base) T 
    have G__law_spot := ok__law_spot (P := l.prog) (w := w) (base := base) T 
    have G__law_true_pair := ok__law_true_pair (P := l.prog) (w := w) (base := base) T G__law_pull G__law_spot
    have G__law_true_put := ok__law_true_put (P := l.prog) (w := w) (base := base) T G__law_pull G__law_had G__law_spot
    have G__law_true_scrape := ok__law_true_scrape (P := l.prog) (w := w) (base := base) T G__law_had G__law_pull G__law_spot
    have G__law_true_facts := ok__law_true_facts (P := l.prog) (w := w) (base := base) T G__law_had G__law_true_scrape G__law_pull G__law_true_pair G__law_true_put
    have G__law_numbered := ok__law_numbered (P := l.prog) (w := w) (base := base) T G__law_pull
    have G__law_house := ok__law_house (P := l.prog) (w := w) (base := base) T G__law_few G__law_pull G__law_world G__law_true_facts G__law_fact G__law_numbered
    have G__law_small := ok__law_small (P := l.prog) (w := w) (base := base) T G__law_house
    have G__law_sizes := ok__law_sizes (P := l.prog) (w := w) (base := base) T 
    have G__law_full := ok__law_full (P := l.prog) (w := w) (base := base) T G__law_sizes
    have G__law_reads := ok__law_reads (P := l.prog) (w := w) (base := base) T 
    have G__law_shade_of := ok__law_shade_of (P := l.prog) (w := w) (base := base) T 
    have M_Coats_len := ok_Coats_len (P := l.prog) (w := w) (base := base) T 
    have M_Coats_shade := ok_Coats_shade (P := l.prog) (w := w) (base := base) T Z_BadCoat
    have G__law_told := ok__law_told (P := l.prog) (w := w) (base := base) T G_coats_of M_Coats_len M_Coats_shade
    have G__law_due := ok__law_due (P := l.prog) (w := w) (base := base) T G__law_reads G__law_full G__law_shade_of
    exact ok_law (P := l.prog) (w := w) (base := base) T G__law_open G__law_small G__law_pull G__law_few G__law_fact G__law_numbered G__law_odd G__law_like G__law_due G__law_told 
theorem roomLaw : Room 13 callerA := ⟨rfl, by decide, by decide⟩
end LW
open PySem PySem.W PySem.Calls
open PyProof.Rows
set_option maxRecDepth 100001 in
set_option maxHeartbeats 0 in
theorem PySem.Challenge.cw_limecoat_k09_coats_of_a_part_holds : PySem.Challenge.rw_limecoat_k09_coats_of_a_part.Holds := by
  w_on
  o_law
  refine HandSHeadRun.head_any (r := OpenLaw.row PySem.Challenge.rw_limecoat_k09_coats_of_a_part) (q := LW.ViewL_) (H := LW.hk) (ob := LW.obs_) (M := 14000) (loose := LW.names) (d := HandSHeadRun.topDef (OpenLaw.row PySem.Challenge.rw_limecoat_k09_coats_of_a_part).prog 44) (kwd := []) LW.obs_eq
    (by kernel_rfl) (fun s => by kernel_rfl) LW.run (by kernel_rfl) (by kernel_rfl) (by kernel_rfl) (by rfl) (by first | assumption | decide +kernel) (by decide +kernel) ⟨rfl, rfl, rfl, rfl, rfl, by decide +kernel⟩ ?hw ?hc
  case hw => w_witness2
  case hc =>
    refine LC.walk_endE (l := PySem.Challenge.rw_limecoat_k09_coats_of_a_part) (k := 13) (x := "_law_script") rfl (by kernel_rfl) LW.roomLaw ?F
    intro w mg fa h Y G hmg0
    obtain ⟨K, KX, c⟩ := Y
    have hmg : mg ("law" : PySem.Str) = some (.ref fa) := by
      have e : (HandSHeadRun.topDef (OpenLaw.row PySem.Challenge.rw_limecoat_k09_coats_of_a_part).prog 44).name = ("law" : PySem.Str) := by kernel_rfl
      rw [← e]
      exact hmg0
    exact ⟨K, KX, LW.all_mk KX G hmg c⟩
#print axioms PySem.Challenge.cw_limecoat_k09_coats_of_a_part_holds
