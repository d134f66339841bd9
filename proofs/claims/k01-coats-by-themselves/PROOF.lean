import PyProof.Rows.All
import Wide.All
import OpenK.AllK
import Wide.FinOn
import HandS.ForMost
import HandS.ForExc
import HandS.CallSlots
import HandS.Lambda
import HandS.IsInst
import HandS.Deep
import HandS.TupAny
import HandS.Style
import HandS.Iter
import HandS.Text
import HandS.More
import HandS.SetFor
import HandS.Replace
import HandS.Comp
import HandS.Defaults
import HandS.ExcInit
import HandS.ExcField
import HandS.ClsMeth
import HandS.TryMany
import HandS.EndTab
import KE.KNestM
import KE.KCallOwn
import KE.KFmtOwn
import OpenK.KOps
import HandS.IntHex
import HandS.BoundDict
import HandS.SortInts
import HandS.Small
import KE.KDictSum
import HandS.ExcInitHot
import HandS.CallLocal
import HandS.TupMul
import HandS.Zip
import PyProof.Rows.CallKw2
import HandS.RaiseFrom
import HandS.SuiteRaise
import HandS.FStr
import KE.GoesRaise
import KE.GoesEnum
import HandS.Flow
import KE.KStateDown
import HandS.Head0
import HandS.Head1
import HandS.Head2
import HandS.HeadHook1
import HandS.HeadHook2
import HandS.HeadHook3
import HandS.HeadHook4
import HandS.HeadWalk
import PyProof.InstNe
import PyProof.StrLawsLast
import PyProof.Rows.StrNews2
import KE.KRevSl
import HandS.TupSets
import KE.DatumOrd
import PySem.Challenge.RW_limecoat_k01_coats_by_themselves
set_option Elab.async false
set_option linter.all false
set_option maxRecDepth 100000
/-! LD0: data by value, the objects that change by number, readings over them. -/
namespace LC
open PySem PySem.Spec
open PyProof.Rows L2

/-- data: what no longer changes stands by value, the rest by number -/
inductive D where
  | non | bl (b : Bool) | int (i : Int) | str (x : Str) | ty (n : String) | adr (a : Addr) | ref (k : Nat)
  | tup (xs : List D) | lst (xs : List D) | ins (C : Addr) (ns : List Str) (xs : List D)
  | dK (ks : List Key) (xs : List D) | dT (ks : List (List Key)) (xs : List D) | scr (ns : List Int) | tq (ns : List Int) | kt (xs : List D) | bad

/-- an object that may change -/
inductive O where
  | lst (xs : List D)
  | drw
  | ins (C : Addr) (fs : List (Str × D))
  | dK (kvs : List (Key × D))
  | dT (kvs : List (List Key × D))
  | non

/-- where the objects are: those of the outer defs, one's own by number -/
structure Ph where
  hid : List Addr
  own : List Addr
/-- no object that may change -/
def Fz (φ : Ph) (a : Addr) : Prop := a ∉ φ.hid ∧ a ∉ φ.own
def KLst (K : PySem.W.Frag) (a : Addr) (xs : List V) : Prop := ∃ (o : Obj) (its : Array Value) (n : Nat),
      K.lookup a = some o ∧ o.cls = .type "list" ∧ o.dict = none ∧ o.data = .seq its n ∧ its.size ≤ sizeLine ∧ Vals xs its.toList
/-- a list that stays as it is -/
def LsA (K : PySem.W.Frag) (φ : Ph) (H : Hp) (a : Addr) (xs : List V) : Prop := (Fz φ a ∧ (H a = some (.lst xs) ∨ ∃ o, H a = some (.frz o (.lst xs)))) ∨ KLst K a xs
theorem LsA.sql {K : PySem.W.Frag} {φ : Ph} {H : Hp} {a : Addr} {xs : List V} (h : LsA K φ H a xs) : SqL K H a xs := by
  rcases h with ⟨_, h | ⟨o, h⟩⟩ | h
  · exact .inl (.inl h)
  · exact .inl (.inr ⟨o, h⟩)
  · exact .inr h

/-- a tuple that is known to have no dict -/
def TqA (φ : Ph) (H : Hp) (a : Addr) (xs : List V) : Prop := Fz φ a ∧ ∃ o, H a = some (.frz o (.tup xs)) ∧ o.cls = .type "tuple" ∧ o.dict = none

/-- a tuple of the program's top -/
def KTup (K : PySem.W.Frag) (a : Addr) (xs : List V) : Prop := ∃ (o : Obj) (its : Array Value) (n : Nat), K.lookup a = some o ∧ o.cls = .type "tuple" ∧ o.data = .seq its n ∧ its.size ≤ sizeLine ∧ Vals xs its.toList
theorem KTup.sqt {K : PySem.W.Frag} {H : Hp} {a : Addr} {xs : List V} (h : KTup K a xs) : SqT K H a xs := .inr h
instance {K : PySem.W.Frag} {H : Hp} {a : Addr} {xs : List V} : CoeTail (H a = some (.tup xs)) (SqT K H a xs) := ⟨SqT.of⟩

section
variable (K : PySem.W.Frag) (φ : Ph) (H : Hp)
mutual
def RV : D → V → Prop
  | .non, v => v = .non
  | .bl b, v => v = .bl b
  | .int i, v => v = .int i
  | .str x, v => v = .str x
  | .ty n, v => v = .ty n
  | .adr a, v => v = .ref a
  | .ref k, v => ∃ a, φ.own[k]? = some a ∧ v = .ref a
  | .tup ds, v => ∃ p vs, v = .ref p ∧ H p = some (.tup vs) ∧ RVs ds vs
  | .kt ds, v => ∃ p vs, v = .ref p ∧ KTup K p vs ∧ RVs ds vs
  | .lst ds, v => ∃ p vs, v = .ref p ∧ Fz φ p ∧ H p = some (.lst vs) ∧ RVs ds vs
  | .scr ns, v => ∃ p, v = .ref p ∧ LsA K φ H p (ns.map V.int)
  | .tq ns, v => ∃ p, v = .ref p ∧ TqA φ H p (ns.map V.int)
  | .ins C ns ds, v => ∃ p dx vs, v = .ref p ∧ Fz φ p ∧ H p = some (.ins C dx (ns.zip vs)) ∧ ns.length = ds.length ∧ RVs ds vs
  | .dK ks ds, v => ∃ p vs, v = .ref p ∧ Fz φ p ∧ H p = some (.dK (ks.zip vs)) ∧ ks.length = ds.length ∧ RVs ds vs
  | .dT ks ds, v => ∃ p vs, v = .ref p ∧ Fz φ p ∧ H p = some (.dT (ks.zip vs)) ∧ ks.length = ds.length ∧ RVs ds vs
  | .bad, _ => False
def RVs : List D → List V → Prop
  | [], vs => vs = []
  | d :: ds, vs => ∃ v ws, vs = v :: ws ∧ RV d v ∧ RVs ds ws
end
/-- pairs with plain keys -/
def RKV {κ : Type} : List (κ × D) → List (κ × V) → Prop
  | [], l => l = []
  | p :: ps, l => ∃ v r, l = (p.1, v) :: r ∧ RV K φ H p.2 v ∧ RKV ps r
/-- the law's drawing: its list -/
def DrawL (l : List D) : Prop := ∃ (ns : List Int) (i r s : Int), l = [.lst (ns.map D.int), .int i, .int r, .int s] ∧ 0 ≤ i ∧ 0 ≤ r ∧ 0 ≤ s ∧ s < 2147483629
def Trk (a : Addr) : Prop := ∃ u, H a = some u ∧ ∀ ps, u ≠ HO.tbl ps
def RO : O → Addr → Prop
  | .lst xs, a => ∃ vs, H a = some (.lst vs) ∧ RVs K φ H xs vs
  | .drw, a => ∃ l vs, DrawL l ∧ H a = some (.lst vs) ∧ RVs K φ H l vs
  | .ins C fs, a => ∃ dx gs, H a = some (.ins C dx gs) ∧ RKV K φ H fs gs
  | .dK kvs, a => ∃ l, H a = some (.dK l) ∧ RKV K φ H kvs l
  | .dT kvs, a => ∃ l, H a = some (.dT l) ∧ RKV K φ H kvs l
  | .non, a => Trk H a
structure Rel (S : List O) : Prop where
  nd : φ.own.Nodup
  dj : ∀ a ∈ φ.hid, a ∉ φ.own
  hd : ∀ a ∈ φ.hid, Trk H a
  len : φ.own.length = S.length
  ob : ∀ (i : Nat) (o : O), S[i]? = some o → ∃ a, φ.own[i]? = some a ∧ RO K φ H o a
end
/-- numbers stay, what is by value stays -/
structure Ext (K : PySem.W.Frag) (φ φ' : Ph) (H H' : Hp) : Prop where
  hid : φ'.hid = φ.hid
  pre : φ.own <+: φ'.own
  tup : ∀ p vs, H p = some (.tup vs) → H' p = some (.tup vs)
  xd : ∀ p gs, H p = some (.xd gs) → H' p = some (.xd gs)
  fz : ∀ a u, a ∉ φ.own → H a = some u → (∀ ps, u ≠ .tbl ps) → a ∉ φ'.own ∧ H' a = some u
theorem Ext.refl {K : PySem.W.Frag} {φ : Ph} {H : Hp} : Ext K φ φ H H := ⟨rfl, List.prefix_refl _, fun _ _ h => h, fun _ _ h => h, fun _ _ h g _ => ⟨h, g⟩⟩
theorem Ext.trans {K : PySem.W.Frag} {φ φ1 φ2 : Ph} {H H1 H2 : Hp} (a : Ext K φ φ1 H H1) (b : Ext K φ1 φ2 H1 H2) : Ext K φ φ2 H H2 :=
  ⟨b.hid.trans a.hid, a.pre.trans b.pre, fun p vs h => b.tup p vs (a.tup p vs h), fun p gs h => b.xd p gs (a.xd p gs h), fun p u h g n => let ⟨h1, g1⟩ := a.fz p u h g n; b.fz p u h1 g1 n⟩
theorem Ext.get {K : PySem.W.Frag} {φ φ' : Ph} {H H' : Hp} (e : Ext K φ φ' H H') {k : Nat} {a : Addr} (h : φ.own[k]? = some a) : φ'.own[k]? = some a := by
  obtain ⟨t, ht⟩ := e.pre
  rw [← ht, List.getElem?_append_left (List.getElem?_eq_some_iff.mp h).1]; exact h
theorem Ext.frz {K : PySem.W.Frag} {φ φ' : Ph} {H H' : Hp} (e : Ext K φ φ' H H') {a : Addr} {u : HO} (h : Fz φ a) (g : H a = some u) (n : ∀ ps, u ≠ .tbl ps := by intro _ z; cases z) : Fz φ' a ∧ H' a = some u :=
  let ⟨h1, h2⟩ := e.fz a u h.2 g n
  ⟨⟨by rw [e.hid]; exact h.1, h1⟩, h2⟩
theorem LsA.mono {K : PySem.W.Frag} {φ φ' : Ph} {H H' : Hp} (e : Ext K φ φ' H H') {a : Addr} {xs : List V} (h : LsA K φ H a xs) : LsA K φ' H' a xs := by
  rcases h with ⟨f, h | ⟨o, h⟩⟩ | h
  · obtain ⟨f', h'⟩ := e.frz f h
    exact .inl ⟨f', .inl h'⟩
  · obtain ⟨f', h'⟩ := e.frz f h
    exact .inl ⟨f', .inr ⟨o, h'⟩⟩
  · exact .inr h

theorem TqA.mono {K : PySem.W.Frag} {φ φ' : Ph} {H H' : Hp} (e : Ext K φ φ' H H') {a : Addr} {xs : List V} (h : TqA φ H a xs) : TqA φ' H' a xs := by
  obtain ⟨f, o, h1, h2⟩ := h
  obtain ⟨f', h'⟩ := e.frz f h1
  exact ⟨f', o, h', h2⟩
theorem TqA.sqt {K : PySem.W.Frag} {φ : Ph} {H : Hp} {a : Addr} {xs : List V} (h : TqA φ H a xs) : SqT K H a xs := let ⟨_, o, h1, _⟩ := h; .inl (.inr ⟨o, h1⟩)

section
variable {K : PySem.W.Frag} {φ φ' : Ph} {H H' : Hp}
mutual
theorem RV.mono (e : Ext K φ φ' H H') : ∀ {d : D} {v : V}, RV K φ H d v → RV K φ' H' d v
  | .non, _, h => h
  | .bl _, _, h => h
  | .int _, _, h => h
  | .str _, _, h => h
  | .ty _, _, h => h
  | .adr _, _, h => h
  | .ref _, _, ⟨a, h1, h2⟩ => ⟨a, e.get h1, h2⟩
  | .tup _, _, ⟨p, vs, h1, h2, h3⟩ => ⟨p, vs, h1, e.tup _ _ h2, RVs.mono e h3⟩
  | .kt _, _, ⟨p, vs, h1, h2, h3⟩ => ⟨p, vs, h1, h2, RVs.mono e h3⟩
  | .lst _, _, ⟨p, vs, h1, h2, h3, h4⟩ => let ⟨f, g⟩ := e.frz h2 h3; ⟨p, vs, h1, f, g, RVs.mono e h4⟩
  | .scr _, _, ⟨p, h1, h2⟩ => ⟨p, h1, h2.mono e⟩
  | .tq _, _, ⟨p, h1, h2⟩ => ⟨p, h1, h2.mono e⟩
  | .ins _ _ _, _, ⟨p, dx, vs, h1, h2, h3, h4, h5⟩ => let ⟨f, g⟩ := e.frz h2 h3; ⟨p, dx, vs, h1, f, g, h4, RVs.mono e h5⟩
  | .dK _ _, _, ⟨p, vs, h1, h2, h3, h4, h5⟩ => let ⟨f, g⟩ := e.frz h2 h3; ⟨p, vs, h1, f, g, h4, RVs.mono e h5⟩
  | .dT _ _, _, ⟨p, vs, h1, h2, h3, h4, h5⟩ => let ⟨f, g⟩ := e.frz h2 h3; ⟨p, vs, h1, f, g, h4, RVs.mono e h5⟩
  | .bad, _, h => h.elim
theorem RVs.mono (e : Ext K φ φ' H H') : ∀ {ds : List D} {vs : List V}, RVs K φ H ds vs → RVs K φ' H' ds vs
  | [], _, h => h
  | _ :: _, _, ⟨v, ws, h1, h2, h3⟩ => ⟨v, ws, h1, RV.mono e h2, RVs.mono e h3⟩
end
theorem RKV.mono {κ : Type} (e : Ext K φ φ' H H') : ∀ {ds : List (κ × D)} {vs : List (κ × V)}, RKV K φ H ds vs → RKV K φ' H' ds vs
  | [], _, h => h
  | _ :: _, _, ⟨v, ws, h1, h2, h3⟩ => ⟨v, ws, h1, RV.mono e h2, RKV.mono e h3⟩
theorem RVs.len : ∀ {ds : List D} {vs : List V}, RVs K φ H ds vs → vs.length = ds.length
  | [], _, h => by cases h; rfl
  | _ :: _, _, ⟨v, ws, h1, h2, h3⟩ => by subst h1; simp [RVs.len h3]
theorem RVs.app : ∀ {ds es : List D} {vs ws : List V}, RVs K φ H ds vs → RVs K φ H es ws → RVs K φ H (ds ++ es) (vs ++ ws)
  | [], _, _, _, h, g => by cases h; exact g
  | _ :: _, _, _, _, ⟨v, ws, h1, h2, h3⟩, g => by subst h1; exact ⟨v, _, rfl, h2, RVs.app h3 g⟩
theorem RVs.get : ∀ {ds : List D} {vs : List V} {i : Nat} {d : D}, RVs K φ H ds vs → ds[i]? = some d → ∃ v, vs[i]? = some v ∧ RV K φ H d v
  | [], _, _, _, _, e => by simp at e
  | _ :: _, _, 0, _, ⟨v, ws, h1, h2, h3⟩, e => by subst h1; simp at e; subst e; exact ⟨v, rfl, h2⟩
  | _ :: _, _, i + 1, _, ⟨v, ws, h1, h2, h3⟩, e => by subst h1; exact RVs.get (i := i) h3 (by simpa using e)
theorem RVs.set {d : D} {v : V} (r : RV K φ H d v) : ∀ {ds : List D} {vs : List V} (i : Nat), RVs K φ H ds vs → RVs K φ H (ds.set i d) (vs.set i v)
  | [], _, _, h => (by cases h; rfl)
  | _ :: _, _, 0, ⟨v', ws, h1, h2, h3⟩ => by subst h1; exact ⟨v, ws, rfl, r, h3⟩
  | _ :: _, _, i + 1, ⟨v', ws, h1, h2, h3⟩ => by subst h1; exact ⟨v', _, rfl, h2, RVs.set r i h3⟩
theorem RVs.take : ∀ {ds : List D} {vs : List V} (n : Nat), RVs K φ H ds vs → RVs K φ H (ds.take n) (vs.take n)
  | [], _, _, h => by cases h; simp [RVs]
  | _ :: _, _, 0, _ => by simp [RVs]
  | _ :: _, _, n + 1, ⟨v, ws, h1, h2, h3⟩ => by subst h1; exact ⟨v, _, rfl, h2, RVs.take n h3⟩
theorem RVs.drop : ∀ {ds : List D} {vs : List V} (n : Nat), RVs K φ H ds vs → RVs K φ H (ds.drop n) (vs.drop n)
  | [], _, _, h => by cases h; simp [RVs]
  | _ :: _, _, 0, h => h
  | _ :: _, _, n + 1, ⟨v, ws, h1, h2, h3⟩ => by subst h1; exact RVs.drop n h3
theorem RVs.ofInts : ∀ {ns : List Int}, RVs K φ H (ns.map D.int) (ns.map V.int)
  | [] => rfl
  | n :: _ => ⟨.int n, _, rfl, rfl, RVs.ofInts⟩
/-- pairs, split -/
theorem RKV.split {κ : Type} : ∀ {fs : List (κ × D)} {gs : List (κ × V)}, RKV K φ H fs gs → ∃ vs, gs = (fs.map (·.1)).zip vs ∧ RVs K φ H (fs.map (·.2)) vs
  | [], _, h => by cases h; exact ⟨[], rfl, rfl⟩
  | p :: ps, _, ⟨v, r, e, h1, h2⟩ => by
    obtain ⟨vs, e2, h3⟩ := RKV.split h2
    subst e e2
    exact ⟨v :: vs, rfl, v, vs, rfl, h1, h3⟩
theorem RVs.zip {κ : Type} : ∀ {ns : List κ} {ds : List D} {vs : List V}, RVs K φ H ds vs → ns.length = ds.length → RKV K φ H (ns.zip ds) (ns.zip vs)
  | [], [], _, h, _ => by cases h; rfl
  | n :: ns, d :: ds, _, ⟨v, ws, e, h1, h2⟩, hl => by subst e; exact ⟨v, _, rfl, h1, RVs.zip h2 (by simpa using hl)⟩
  | [], _ :: _, _, _, hl => by simp at hl
  | _ :: _, [], _, _, hl => by simp at hl
end

/-- the ground of a body: the numbers and the heap at its entry -/
structure Bs where
  φ0 : Ph
  H0 : Hp
  T : List (Addr × Str)
/-- a state over the ground -/
structure HR (K : PySem.W.Frag) (B : Bs) (φ : Ph) (H : Hp) (S : List O) : Prop where
  ext : Ext K B.φ0 φ B.H0 H
  rel : Rel K φ H S
  tab : LamX.Tabs B.T H
abbrev Sl := List (Option D)
structure EV (K : PySem.W.Frag) (φ : Ph) (H : Hp) (s : Sl) (σ : L2.St) : Prop where
  len : σ.length = s.length
  at' : ∀ (i : Nat) (d : D), s[i]? = some (some d) → ∃ v, σ[i]? = some (some v) ∧ RV K φ H d v
theorem EV.mono {X : Cx} {φ φ' : Ph} {H H' : Hp} {s : Sl} {σ : L2.St} (h : EV X.K φ H s σ) (e : Ext X.K φ φ' H H') : EV X.K φ' H' s σ :=
  ⟨h.len, fun i d q => let ⟨v, a, b⟩ := h.at' i d q; ⟨v, a, b.mono e⟩⟩
theorem HR.mono {X : Cx} {B : Bs} {φ φ' : Ph} {H H' : Hp} {S S' : List O} (h : HR X.K B φ H S) (e : Ext X.K φ φ' H H') (r : Rel X.K φ' H' S') (t : LamX.Tabs B.T H') : HR X.K B φ' H' S' := ⟨h.ext.trans e, r, t⟩

section
variable (K : PySem.W.Frag) (B : Bs)
/-- what is wanted of an outcome -/
def Kont {δ ν : Type} (rel : Ph → Hp → δ → ν → Prop) (φ : Ph) (H : Hp) (Q' : δ → List O → Prop) (Q : ν → Hp → Prop) : Prop :=
  ∀ φ' d S' v H', Ext K φ φ' H H' → HR K B φ' H' S' → rel φ' H' d v → Q' d S' → Q v H'
/-- a reading over data, as a reading of HandS's -/
def UP {δ ν : Type} (rel : Ph → Hp → δ → ν → Prop) (q : Sl → List O → (δ → List O → Prop) → Prop)   : L2.St → Hp → (ν → Hp → Prop) → Prop :=
  fun σ H Q => ∃ φ s S Q', HR K B φ H S ∧ EV K φ H s σ ∧ q s S Q' ∧ Kont K B rel φ H Q' Q
abbrev QE := Sl → List O → (D → List O → Prop) → Prop
abbrev QA := Sl → List O → (List D → List O → Prop) → Prop
abbrev QT := Sl → List O → (Bool → List O → Prop) → Prop
abbrev rD : Ph → Hp → D → V → Prop := fun φ H d v => RV K φ H d v
abbrev rDs : Ph → Hp → List D → List V → Prop := fun φ H d v => RVs K φ H d v
abbrev rB : Ph → Hp → Bool → Bool → Prop := fun _ _ a b => a = b
/-- wished behind a statement; the first n objects stay numbered -/
structure Ed where
  nx : Sl → List O → Prop
  rt : D → List O → Prop
  bk : Sl → List O → Prop := fun _ _ => False
  ct : Sl → List O → Prop := fun _ _ => False
  n : Nat
structure EK0 (φ : Ph) (H : Hp) (D' : Ed) (D : Ends) : Prop where
  hB : B.φ0.own.length ≤ D'.n
  hE : φ.own.length ≤ D'.n
  nx : ∀ φ' H' S' s' σ', Ext K φ φ' H H' → HR K B φ' H' S' → EV K φ' H' s' σ' → D'.nx s' S' → D.nx σ' H'
  rt : ∀ φ' H' S' d v, Ext K φ φ' H H' → HR K B φ' H' S' → RV K φ' H' d v → D'.rt d S' → D.rt v H'
  bk : ∀ φ' H' S' s' σ', Ext K φ φ' H H' → HR K B φ' H' S' → EV K φ' H' s' σ' → D'.bk s' S' → D.bk σ' H'
  ct : ∀ φ' H' S' s' σ', Ext K φ φ' H H' → HR K B φ' H' S' → EV K φ' H' s' σ' → D'.ct s' S' → D.ct σ' H'
/-- since some earlier time -/
def EK (φ : Ph) (H : Hp) (D' : Ed) (D : Ends) : Prop := ∃ φe He, Ext K φe φ He H ∧ EK0 K B φe He D' D
abbrev QS := Ed → Sl → List O → Prop
def US (q : QS) : TS := fun D σ H => ∃ φ s S D', HR K B φ H S ∧ EV K φ H s σ ∧ q D' s S ∧ EK K B φ H D' D
end
abbrev LE (X : Cx) (B : Bs) (e : Expr) (q : QE) : Prop := PE X e (UP X.K B (rD X.K) q)
abbrev LA (X : Cx) (B : Bs) (e : List Expr) (q : QA) : Prop := PA X e (UP X.K B (rDs X.K) q)
abbrev LT (X : Cx) (B : Bs) (e : Expr) (q : QT) : Prop := PT X e (UP X.K B rB q)
abbrev LW (X : Cx) (B : Bs) (e : Expr) (q : QT) : Prop := PW X e (UP X.K B rB q)
abbrev LS (X : Cx) (B : Bs) (e : Stmt) (q : QS) : Prop := PS X e (US X.K B q)
abbrev LSs (X : Cx) (B : Bs) (e : List Stmt) (q : QS) : Prop := PSs X e (US X.K B q)
section
variable {X : Cx} {B : Bs} {φ φ1 : Ph} {H H1 : Hp} {D' : Ed} {D : Ends}
theorem EK.ext (k : EK X.K B φ H D' D) (e : Ext X.K φ φ1 H H1) : EK X.K B φ1 H1 D' D := let ⟨φe, He, x, k0⟩ := k; ⟨φe, He, x.trans e, k0⟩
theorem EK.nx (k : EK X.K B φ H D' D) : ∀ φ' H' S' s' σ', Ext X.K φ φ' H H' → HR X.K B φ' H' S' → EV X.K φ' H' s' σ' → D'.nx s' S' → D.nx σ' H' := let ⟨_, _, x, k0⟩ := k; fun φ' H' S' s' σ' e => k0.nx φ' H' S' s' σ' (x.trans e)
theorem EK.rt (k : EK X.K B φ H D' D) : ∀ φ' H' S' d v, Ext X.K φ φ' H H' → HR X.K B φ' H' S' → RV X.K φ' H' d v → D'.rt d S' → D.rt v H' := let ⟨_, _, x, k0⟩ := k; fun φ' H' S' s' σ' e => k0.rt φ' H' S' s' σ' (x.trans e)
/-- another wish behind, the same time -/
theorem EK.seq {f : Sl → List O → Prop} {D2 : Ends} (k : EK X.K B φ H D' D) (h : ∀ φ' H' S' s' σ', EK X.K B φ' H' D' D → HR X.K B φ' H' S' → EV X.K φ' H' s' σ' → f s' S' → D2.nx σ' H') (e1 : D2.rt = D.rt) (e2 : D2.bk = D.bk) (e3 : D2.ct = D.ct) : EK X.K B φ H { D' with nx := f } D2 :=
  let ⟨φe, He, x, k0⟩ := k
  ⟨φe, He, x, k0.hB, k0.hE, fun φ' H' S' s' σ' e hr ev q => h φ' H' S' s' σ' ⟨φe, He, e, k0⟩ hr ev q, by rw [e1]; exact k0.rt, by rw [e2]; exact k0.bk, by rw [e3]; exact k0.ct⟩
end
theorem Kont.ext {X : Cx} {B : Bs} {δ ν : Type} {rel : Ph → Hp → δ → ν → Prop} {φ φ1 : Ph} {H H1 : Hp} {Q' : δ → List O → Prop} {Q : ν → Hp → Prop} (k : Kont X.K B rel φ H Q' Q) (e : Ext X.K φ φ1 H H1) : Kont X.K B rel φ1 H1 Q' Q :=
  fun φ' d S' v H' e' hr r q => k φ' d S' v H' (e.trans e') hr r q
theorem PE.imp {X : Cx} {e : Expr} {t t' : TE} (h : PE X e t) (i : ∀ σ H Q, t' σ H Q → t σ H Q) : PE X e t' := ⟨fun pins s σ H Q I w => h.run pins s σ H Q I (i _ _ _ w)⟩
theorem PT.imp {X : Cx} {e : Expr} {t t' : TT} (h : PT X e t) (i : ∀ σ H Q, t' σ H Q → t σ H Q) : PT X e t' := ⟨fun pins s σ H Q I w => h.run pins s σ H Q I (i _ _ _ w)⟩
theorem PW.imp {X : Cx} {e : Expr} {t t' : TT} (h : PW X e t) (i : ∀ σ H Q, t' σ H Q → t σ H Q) : PW X e t' := ⟨fun wh pins s σ H Q I w => h.run wh pins s σ H Q I (i _ _ _ w)⟩
theorem PA.imp {X : Cx} {e : List Expr} {t t' : TA} (h : PA X e t) (i : ∀ σ H Q, t' σ H Q → t σ H Q) : PA X e t' := ⟨fun pos pins s σ H Q I w => h.run pos pins s σ H Q I (i _ _ _ w)⟩
theorem PS.imp {X : Cx} {e : Stmt} {t t' : TS} (h : PS X e t) (i : ∀ D σ H, t' D σ H → t D σ H) : PS X e t' := ⟨fun pins s σ H D I w => h.run pins s σ H D I (i _ _ _ w)⟩
theorem PSs.imp {X : Cx} {e : List Stmt} {t t' : TS} (h : PSs X e t) (i : ∀ D σ H, t' D σ H → t D σ H) : PSs X e t' := ⟨fun pins s σ H D I w => h.run pins s σ H D I (i _ _ _ w)⟩

/-! ### heaps change -/
section
variable {K : PySem.W.Frag} {φ : Ph} {H : Hp} {S : List O} {p : Addr} {o : HO}
/-- one more number -/
def Ph.add (φ : Ph) (p : Addr) : Ph := ⟨φ.hid, φ.own ++ [p]⟩
theorem ext_at {H' : Hp} (at_ : ∀ b u, H b = some u → H' b = some u) : Ext K φ φ H H' := ⟨rfl, List.prefix_refl _, fun q vs h => at_ _ _ h, fun q gs h => at_ _ _ h, fun a u h g _ => ⟨h, at_ _ _ g⟩⟩
/-- a new object: all stays -/
theorem ext_new (hp : H p = none) : Ext K φ φ H (upd H p o) := ext_at fun b u z => by rw [upd_ne (ne_of_none z hp)]; exact z
theorem ext_add (hp : H p = none) : Ext K φ (φ.add p) H (upd H p o) := by
  have e := ext_new (K := K) (φ := φ) (o := o) hp
  refine ⟨rfl, List.prefix_append _ _, e.tup, e.xd, fun a u h g n => ⟨fun z => ?_, (e.fz a u h g n).2⟩⟩
  rcases List.mem_append.mp z with z | z
  · exact h z
  · rw [List.mem_singleton.mp z, hp] at g; cases g
/-- what an object's place says is kept where H keeps the object -/
theorem RO.mono {φ' : Ph} {H' : Hp} (e : Ext K φ φ' H H') {x : O} {a : Addr} (hk : ∀ u, H a = some u → (∀ ps, u ≠ HO.tbl ps) → H' a = some u) (h : RO K φ H x a) : RO K φ' H' x a := by
  cases x with
  | lst xs => obtain ⟨vs, h1, h2⟩ := h; exact ⟨vs, hk _ h1 (fun _ z => by cases z), h2.mono e⟩
  | drw => obtain ⟨l, vs, h0, h1, h2⟩ := h; exact ⟨l, vs, h0, hk _ h1 (fun _ z => by cases z), h2.mono e⟩
  | ins C fs => obtain ⟨dx, gs, h1, h2⟩ := h; exact ⟨dx, gs, hk _ h1 (fun _ z => by cases z), h2.mono e⟩
  | dK l => obtain ⟨m, h1, h2⟩ := h; exact ⟨m, hk _ h1 (fun _ z => by cases z), h2.mono e⟩
  | dT l => obtain ⟨m, h1, h2⟩ := h; exact ⟨m, hk _ h1 (fun _ z => by cases z), h2.mono e⟩
  | non => obtain ⟨u, h, g⟩ := h; exact ⟨u, hk _ h g, g⟩
theorem RO.is_some {x : O} {a : Addr} (h : RO K φ H x a) : Trk H a := by
  cases x with
  | lst xs => obtain ⟨vs, h1, h2⟩ := h; exact ⟨_, h1, fun _ z => by cases z⟩
  | drw => obtain ⟨l, vs, h0, h1, h2⟩ := h; exact ⟨_, h1, fun _ z => by cases z⟩
  | ins C fs => obtain ⟨dx, gs, h1, h2⟩ := h; exact ⟨_, h1, fun _ z => by cases z⟩
  | dK l => obtain ⟨m, h1, h2⟩ := h; exact ⟨_, h1, fun _ z => by cases z⟩
  | dT l => obtain ⟨m, h1, h2⟩ := h; exact ⟨_, h1, fun _ z => by cases z⟩
  | non => exact h
/-- what we change: lists, instances, dicts -/
def Mu : HO → Prop
  | .lst _ => True
  | .ins _ _ _ => True
  | .dK _ => True
  | .dT _ => True
  | _ => False
theorem tab_write {a : Addr} {u : HO} (hu : H a = some u) (m : Mu u) {q : Addr} {n : Str} (h : LamX.TabS H q n) : LamX.TabS (upd H a o) q n := by
  obtain ⟨ps, h1, h2, h3⟩ := h
  have nq : q ≠ a := fun z => by subst z; rw [hu] at h1; cases h1; exact m
  refine ⟨ps, by rw [upd_ne nq]; exact h1, h2, fun pos cv hc => ?_⟩
  have ⟨c, e1, e2⟩ := h3 pos cv hc
  have nc : c ≠ a := fun z => by
    subst z
    rw [hu] at e2
    have e3 : u = LamX.CodeO c n := Option.some.inj e2
    subst e3
    exact m
  exact ⟨c, e1, by rw [upd_ne nc]; exact e2⟩
/-- an object that may be changed -/
def O.mut : O → Bool
  | .non => false
  | _ => true
theorem RO.here {x : O} {a : Addr} (h : RO K φ H x a) (m : x.mut = true) : ∃ u, H a = some u ∧ Mu u := by
  cases x with
  | lst xs => obtain ⟨vs, h1, h2⟩ := h; exact ⟨_, h1, trivial⟩
  | drw => obtain ⟨l, vs, h0, h1, h2⟩ := h; exact ⟨_, h1, trivial⟩
  | ins C fs => obtain ⟨dx, gs, h1, h2⟩ := h; exact ⟨_, h1, trivial⟩
  | dK l => obtain ⟨m, h1, h2⟩ := h; exact ⟨_, h1, trivial⟩
  | dT l => obtain ⟨m, h1, h2⟩ := h; exact ⟨_, h1, trivial⟩
  | non => cases m
/-- all is kept -/
theorem Rel.kept {H' : Hp} (r : Rel K φ H S) (e : Ext K φ φ H H') (hk : ∀ b u, H b = some u → (∀ ps, u ≠ HO.tbl ps) → H' b = some u) : Rel K φ H' S :=
  ⟨r.nd, r.dj, fun a h => let ⟨u, g, z⟩ := r.hd a h; ⟨u, hk _ _ g z, z⟩, r.len, fun i x q => let ⟨a, h1, h2⟩ := r.ob i x q; ⟨a, h1, h2.mono e (hk a)⟩⟩
theorem Rel.own_some (r : Rel K φ H S) {a : Addr} (h : a ∈ φ.own) : Trk H a := by
  obtain ⟨i, hi⟩ := List.getElem?_of_mem h
  have hl : i < S.length := by rw [← r.len]; exact (List.getElem?_eq_some_iff.mp hi).1
  obtain ⟨a', h1, h2⟩ := r.ob i _ (List.getElem?_eq_getElem hl)
  rw [hi] at h1; cases h1
  exact h2.is_some
/-- a new object -/
theorem Rel.push {x : O} (r : Rel K φ H S) (hp : H p = none) (h : RO K (φ.add p) (upd H p o) x p) : Rel K (φ.add p) (upd H p o) (S ++ [x]) := by
  have e : Ext K φ (φ.add p) H (upd H p o) := ext_add hp
  have hk : ∀ b u, H b = some u → upd H p o b = some u := fun b u z => by rw [upd_ne (ne_of_none z hp)]; exact z
  have np : p ∉ φ.own := fun z => by obtain ⟨u, hu, _⟩ := r.own_some z; rw [hp] at hu; cases hu
  refine ⟨?_, fun a ha z => ?_, fun a ha => let ⟨u, g, z⟩ := r.hd a ha; ⟨u, hk _ _ g, z⟩, by simp [Ph.add, r.len], fun i y q => ?_⟩
  · show (φ.own ++ [p]).Nodup
    rw [List.nodup_append]
    refine ⟨r.nd, by simp, fun a ha b hb z => ?_⟩
    rw [List.mem_singleton.mp hb] at z
    exact np (z ▸ ha)
  · rcases List.mem_append.mp z with z | z
    · exact r.dj a ha z
    · obtain ⟨u, g, _⟩ := r.hd a ha
      rw [List.mem_singleton.mp z, hp] at g; cases g
  · by_cases hl : i < S.length
    · rw [List.getElem?_append_left hl] at q
      obtain ⟨a, h1, h2⟩ := r.ob i y q
      exact ⟨a, e.get h1, h2.mono e fun u hu _ => hk _ _ hu⟩
    · rw [List.getElem?_append_right (by omega)] at q
      have h0 : i - S.length = 0 := by
        have := (List.getElem?_eq_some_iff.mp q).1
        simp at this; omega
      rw [h0] at q
      simp at q
      subst q
      have hi : i = φ.own.length := by rw [r.len]; omega
      exact ⟨p, by show (φ.own ++ [p])[i]? = _; rw [hi]; simp, h⟩
/-- an object is written -/
theorem ext_write {a : Addr} {u : HO} (hu : H a = some u) (m : Mu u) (ho : a ∈ φ.own) : Ext K φ φ H (upd H a o) := ⟨rfl, List.prefix_refl _, fun q vs h => by
    have nq : q ≠ a := fun z => by subst z; rw [hu] at h; cases h; exact m
    rw [upd_ne nq]; exact h, fun q gs h => by
    have nq : q ≠ a := fun z => by subst z; rw [hu] at h; cases h; exact m
    rw [upd_ne nq]; exact h, fun b v h g _ => ⟨h, by rw [upd_ne (fun z => h (z ▸ ho) : b ≠ a)]; exact g⟩⟩
theorem Rel.write {x y : O} {k : Nat} {a : Addr} (r : Rel K φ H S) (hx : S[k]? = some x) (m : x.mut = true) (ha : φ.own[k]? = some a) (h : RO K φ (upd H a o) y a) : Rel K φ (upd H a o) (S.set k y) := by
  obtain ⟨a', h1, h2⟩ := r.ob k x hx
  rw [ha] at h1; cases h1
  obtain ⟨u, hu, mu⟩ := h2.here m
  have mo : a ∈ φ.own := List.mem_of_getElem? ha
  have e : Ext K φ φ H (upd H a o) := ext_write hu mu mo
  have hl : k < S.length := (List.getElem?_eq_some_iff.mp hx).1
  refine ⟨r.nd, r.dj, fun b hb => ?_, by simpa using r.len, fun i z q => ?_⟩
  · obtain ⟨v, g, gz⟩ := r.hd b hb
    exact ⟨v, by rw [upd_ne (fun z => r.dj b hb (z ▸ mo) : b ≠ a)]; exact g, gz⟩
  · by_cases hi : i = k
    · subst hi
      rw [List.getElem?_set_self hl] at q
      cases q
      exact ⟨a, ha, h⟩
    · rw [List.getElem?_set_ne (Ne.symm hi)] at q
      obtain ⟨b, h3, h4⟩ := r.ob i z q
      have hb : b ≠ a := fun hz => by
        subst hz
        obtain ⟨l1, g1⟩ := List.getElem?_eq_some_iff.mp h3
        obtain ⟨l2, g2⟩ := List.getElem?_eq_some_iff.mp ha
        exact hi ((List.getElem_inj r.nd).mp (g1.trans g2.symm))
      exact ⟨b, h3, h4.mono e fun v hv _ => by rw [upd_ne hb]; exact hv⟩
end
end LC

set_option Elab.async false
set_option linter.all false
set_option maxRecDepth 100000
set_option maxHeartbeats 5000000
/-! LD1: expressions over data. -/
namespace LC
open PySem PySem.Spec
open PyProof.Rows L2

/-- a where c is true, b where it is not -/
def Br (c : Bool) (a b : Prop) : Prop := match c with
  | true => a
  | false => b
theorem Br.mk {c : Bool} {a b : Prop} (h : c = true → a) (g : c = false → b) : Br c a b := by cases c; exact g rfl; exact h rfl
theorem Br.t {c : Bool} {a b : Prop} (h : Br c a b) (e : c = true) : a := by subst e; exact h
theorem Br.f {c : Bool} {a b : Prop} (h : Br c a b) (e : c = false) : b := by subst e; exact h
theorem lif {c : Bool} {P Q : Prop} (h1 : c = true → P) (h2 : c = false → Q) : Br c P Q := Br.mk h1 h2
theorem lifT {c : Bool} {P Q : Prop} (h : c = true) (p : P) : Br c P Q := by subst h; exact p
/-- a test of a decided thing -/
theorem brd {p : Prop} [i : Decidable p] {P Q : Prop} (h1 : p → P) (h2 : ¬ p → Q) : Br (decide p) P Q := Br.mk (fun e => h1 (of_decide_eq_true e)) (fun e => h2 (of_decide_eq_false e))
theorem brT {p : Prop} [i : Decidable p] {P Q : Prop} (h : p) (q : P) : Br (decide p) P Q := lifT (decide_eq_true h) q
theorem bnd {p : Prop} [i : Decidable p] {P Q : Prop} (h1 : p → Q) (h2 : ¬ p → P) : Br (!decide p) P Q := Br.mk (fun e => h2 (by simpa using e)) (fun e => h1 (by simpa using e))
/-- a side condition, then the rest -/
structure Need (c q : Prop) : Prop where
  c : c
  q : q

section
variable {X : Cx} {B : Bs} {δ ν : Type} {rel : Ph → Hp → δ → ν → Prop} {φ : Ph} {H : Hp} {S : List O}
theorem Kont.here {Q' : δ → List O → Prop} {Q : ν → Hp → Prop} {d : δ} {v : ν} (k : Kont X.K B rel φ H Q' Q) (hr : HR X.K B φ H S) (r : rel φ H d v) (q : Q' d S) : Q v H := k φ d S v H Ext.refl hr r q
theorem tabs_new {H : Hp} {p : Addr} {o : HO} {T : List (Addr × Str)} (hp : H p = none) (t : LamX.Tabs T H) : LamX.Tabs T (upd H p o) := t.ext fun b u z => by rw [upd_ne (ne_of_none z hp)]; exact z
theorem tabs_write {H : Hp} {a : Addr} {u o : HO} {T : List (Addr × Str)} (hu : H a = some u) (m : Mu u) (t : LamX.Tabs T H) : LamX.Tabs T (upd H a o) := fun p hp => tab_write hu m (t p hp)
theorem HR.new {p : Addr} {o : HO} {x : O} (hr : HR X.K B φ H S) (hp : H p = none) (h : RO X.K (φ.add p) (upd H p o) x p) : HR X.K B (φ.add p) (upd H p o) (S ++ [x]) :=
  hr.mono (ext_add hp) (hr.rel.push hp h) (tabs_new hp hr.tab)
theorem Rel.last {K : PySem.W.Frag} (r : Rel K φ H S) (p : Addr) : (φ.add p).own[S.length]? = some p := by show (φ.own ++ [p])[_]? = _; rw [← r.len]; simp
/-- a new object that may change -/
theorem Kont.new {Q' : D → List O → Prop} {Q : VK} {p : Addr} {o : HO} {x : O} (k : Kont X.K B (rD X.K) φ H Q' Q) (hr : HR X.K B φ H S) (hp : H p = none) (h : RO X.K (φ.add p) (upd H p o) x p) (q : Q' (.ref S.length) (S ++ [x])) : Q (.ref p) (upd H p o) :=
  k _ _ _ _ _ (ext_add hp) (hr.new hp h) (show RV X.K _ _ (.ref S.length) _ from ⟨p, hr.rel.last p, rfl⟩) q
theorem HR.fix {p : Addr} {o : HO} (hr : HR X.K B φ H S) (hp : H p = none) : HR X.K B φ (upd H p o) S :=
  hr.mono (ext_new hp) (hr.rel.kept (ext_new hp) fun b u z _ => by rw [upd_ne (ne_of_none z hp)]; exact z) (tabs_new hp hr.tab)
theorem Rel.new_fz {K : PySem.W.Frag} {p : Addr} (r : Rel K φ H S) (hp : H p = none) : Fz φ p :=
  ⟨fun z => let ⟨u, g, _⟩ := r.hd p z; (nomatch hp.symm.trans g), fun z => let ⟨u, g, _⟩ := r.own_some z; (nomatch hp.symm.trans g)⟩
theorem RV.tup_new {K : PySem.W.Frag} {p : Addr} {ds : List D} {vs : List V} (hp : H p = none) (r : RVs K φ H ds vs) : RV K φ (upd H p (.tup vs)) (.tup ds) (.ref p) :=
  ⟨p, vs, rfl, upd_same, r.mono (ext_new hp)⟩
theorem Kont.tup {Q' : D → List O → Prop} {Q : VK} {p : Addr} {ds : List D} {vs : List V} (k : Kont X.K B (rD X.K) φ H Q' Q) (hr : HR X.K B φ H S) (hp : H p = none) (r : RVs X.K φ H ds vs) (q : Q' (.tup ds) S) : Q (.ref p) (upd H p (.tup vs)) :=
  k _ _ _ _ _ (ext_new hp) (hr.fix hp) (RV.tup_new hp r) q
theorem RV.lst_new {K : PySem.W.Frag} {p : Addr} {ds : List D} {vs : List V} (rl : Rel K φ H S) (hp : H p = none) (r : RVs K φ H ds vs) : RV K φ (upd H p (.lst vs)) (.lst ds) (.ref p) :=
  ⟨p, vs, rfl, rl.new_fz hp, upd_same, r.mono (ext_new hp)⟩
/-- a new list that stays as it is -/
theorem Kont.lst {Q' : D → List O → Prop} {Q : VK} {p : Addr} {ds : List D} {vs : List V} (k : Kont X.K B (rD X.K) φ H Q' Q) (hr : HR X.K B φ H S) (hp : H p = none) (r : RVs X.K φ H ds vs) (q : Q' (.lst ds) S) : Q (.ref p) (upd H p (.lst vs)) :=
  k _ _ _ _ _ (ext_new hp) (hr.fix hp) (RV.lst_new hr.rel hp r) q
theorem Kont.lstM {Q' : D → List O → Prop} {Q : VK} {p : Addr} {ds : List D} {vs : List V} (k : Kont X.K B (rD X.K) φ H Q' Q) (hr : HR X.K B φ H S) (hp : H p = none) (r : RVs X.K φ H ds vs) (q : Q' (.ref S.length) (S ++ [.lst ds])) : Q (.ref p) (upd H p (.lst vs)) :=
  k.new (x := .lst ds) hr hp ⟨vs, upd_same, r.mono (ext_add hp)⟩ q
theorem HR.write {a : Addr} {o : HO} {x y : O} {k : Nat} (hr : HR X.K B φ H S) (hx : S[k]? = some x) (m : x.mut = true) (ha : φ.own[k]? = some a) (h : Ext X.K φ φ H (upd H a o) → RO X.K φ (upd H a o) y a) : Ext X.K φ φ H (upd H a o) ∧ HR X.K B φ (upd H a o) (S.set k y) := by
  obtain ⟨a', h1, h2⟩ := hr.rel.ob k x hx
  rw [ha] at h1; cases h1
  obtain ⟨u, hu, mu⟩ := h2.here m
  have e : Ext X.K φ φ H (upd H a o) := ext_write hu mu (List.mem_of_getElem? ha)
  exact ⟨e, hr.mono e (hr.rel.write hx m ha (h e)) (tabs_write hu mu hr.tab)⟩
/-- an object is written -/
theorem Kont.write {Q' : D → List O → Prop} {Q : VK} {a : Addr} {o : HO} {x y : O} {k' : Nat} {d : D} {v : V} (k : Kont X.K B (rD X.K) φ H Q' Q) (hr : HR X.K B φ H S) (hx : S[k']? = some x) (m : x.mut = true) (ha : φ.own[k']? = some a) (h : Ext X.K φ φ H (upd H a o) → RO X.K φ (upd H a o) y a)
    (rv : ∀ H', Ext X.K φ φ H H' → RV X.K φ H' d v) (q : Q' d (S.set k' y)) : Q v (upd H a o) := by
  obtain ⟨e, hr'⟩ := hr.write hx m ha h
  exact k _ _ _ _ _ e hr' (rv _ e) q
theorem HR.lstO {k : Nat} {xs : List D} (hr : HR X.K B φ H S) (h : S[k]? = some (.lst xs)) : ∃ a vs, φ.own[k]? = some a ∧ H a = some (.lst vs) ∧ RVs X.K φ H xs vs :=
  let ⟨a, h1, vs, h2, h3⟩ := hr.rel.ob k _ h; ⟨a, vs, h1, h2, h3⟩
/-- the list that a value is -/
def lsOf (S : List O) (d : D) : Option (List D) := match d with
  | .lst xs => some xs
  | .ref k => match S[k]? with
    | some (.lst xs) => some xs
    | _ => none
  | _ => none
theorem HR.ls {d : D} {v : V} {xs : List D} (hr : HR X.K B φ H S) (h : lsOf S d = some xs) (r : RV X.K φ H d v) : ∃ a vs, v = .ref a ∧ H a = some (.lst vs) ∧ RVs X.K φ H xs vs := by
  unfold lsOf at h
  split at h
  · cases h
    obtain ⟨p, vs, h1, _, h2, h3⟩ := r
    exact ⟨p, vs, h1, h2, h3⟩
  · rename_i k
    split at h
    · rename_i ys e
      cases h
      obtain ⟨a, vs, h1, h2, h3⟩ := hr.lstO e
      obtain ⟨b, ea, rfl⟩ := r
      rw [h1] at ea; cases ea
      exact ⟨_, vs, rfl, h2, h3⟩
    · cases h
  · cases h
/-- the items of a list or a tuple -/
def itemsOf (S : List O) (d : D) : Option (List D) := match d with
  | .tup xs => some xs
  | .scr ns => some (ns.map D.int)
  | .tq ns => some (ns.map D.int)
  | .kt xs => some xs
  | d => lsOf S d
theorem HR.items {d : D} {v : V} {xs : List D} (hr : HR X.K B φ H S) (h : itemsOf S d = some xs) (r : RV X.K φ H d v) : ∃ p vs, v = .ref p ∧ (SqL X.K H p vs ∨ SqT X.K H p vs) ∧ RVs X.K φ H xs vs := by
  unfold itemsOf at h
  split at h
  · cases h
    obtain ⟨p, vs, rfl, h1, h2⟩ := r
    exact ⟨p, vs, rfl, .inr h1, h2⟩
  · cases h
    obtain ⟨p, rfl, h1⟩ := r
    exact ⟨p, _, rfl, .inl h1.sql, .ofInts⟩
  · cases h
    obtain ⟨p, rfl, h1⟩ := r
    exact ⟨p, _, rfl, .inr h1.sqt, .ofInts⟩
  · cases h
    obtain ⟨p, vs, rfl, h1, h2⟩ := r
    exact ⟨p, vs, rfl, .inr h1.sqt, h2⟩
  · obtain ⟨a, vs, rfl, h1, h2⟩ := hr.ls h r
    exact ⟨a, vs, rfl, .inl (.inl (.inl h1)), h2⟩
end

/-! ### names, constants -/
section
variable {X : Cx} {B : Bs}
def qVar (i : Nat) : QE := fun s S Q => match s[i]? with
  | some (some d) => Q d S
  | _ => False
theorem le_var {e : Expr} {i : Nat} (h : PE X e (tVar i)) : LE X B e (qVar i) := PE.imp h fun σ H Q ⟨φ, s, S, Q', hr, ev, q, k⟩ => by
  unfold qVar at q
  split at q
  · rename_i d e
    obtain ⟨v, h1, h2⟩ := ev.at' i d e
    exact ⟨v, h1, k.here hr h2 q⟩
  · exact q.elim
theorem lv (i : Nat) {x : Str} {pos : Pos} (hN : X.N[i]? = some x := by rfl) (hv : Vis X.env.scope x := by first | exact Or.inl rfl | exact Or.inr (Or.inl rfl) | exact Or.inr (Or.inr rfl)) (hd : (x == ("__debug__" : Str)) = false := by decide)
    (hcd : (x == ("__classdict__" : Str)) = false := by decide) : LE X B (.Name x pos) (qVar i) := le_var (pe_var hN hv hd hcd)
def qC (d : D) : QE := fun _ S Q => Q d S
theorem le_c {e : Expr} {v : V} {d : D} (h : PE X e (tC v)) (r : ∀ φ H, RV X.K φ H d v) : LE X B e (qC d) := PE.imp h fun σ H Q ⟨φ, s, S, Q', hr, ev, q, k⟩ => k.here hr (r _ _) q
theorem le_int {i j pos} : LE X B (.Constant (.int i) j pos) (qC (.int i)) := le_c pe_int fun _ _ => rfl
theorem le_str {i j pos} : LE X B (.Constant (.str i) j pos) (qC (.str i)) := le_c pe_str fun _ _ => rfl
theorem le_bl {i j pos} : LE X B (.Constant (.bool i) j pos) (qC (.bl i)) := le_c pe_bl fun _ _ => rfl
theorem le_non {j pos} : LE X B (.Constant .none j pos) (qC .non) := le_c pe_non fun _ _ => rfl
/-- a module's name that holds an int, a text, an object -/
theorem le_glob {x : Str} {v : V} {d : D} {u : Value} {pos : Pos} (hg : Gl X x) (hm : X.mg x = some u) (r : RelV v u) (rd : ∀ φ H, RV X.K φ H d v) (hd : (x == ("__debug__" : Str)) = false := by decide) : LE X B (.Name x pos) (qC d) := le_c (pe_glob hg hm r hd) rd

/-! ### two places -/
abbrev QO := D → D → List O → (D → List O → Prop) → Prop
def upR (K : PySem.W.Frag) (B : Bs) (ro : QO) : R2 := fun x y H Q => ∃ φ S d e Q', HR K B φ H S ∧ RV K φ H d x ∧ RV K φ H e y ∧ ro d e S Q' ∧ Kont K B (rD K) φ H Q' Q
theorem OpR.imp {f : Value → Value → Sem Value} {r r' : R2} (h : OpR X f r) (i : ∀ x y H Q, r' x y H Q → r x y H Q) : OpR X f r' :=
  fun pins s σ H x y v u Q I rx ry q => h pins s σ H x y v u Q I rx ry (i _ _ _ _ q)
def qOp (ro : QO) (qa qb : QE) : QE := fun s S Q => qa s S fun x S1 => qb s S1 fun y S2 => ro x y S2 Q
theorem up_op {ro : QO} {qa qb : QE} {σ : L2.St} {H : Hp} {Q : VK} (h : UP X.K B (rD X.K) (qOp ro qa qb) σ H Q) : tOp (upR X.K B ro) (UP X.K B (rD X.K) qa) (UP X.K B (rD X.K) qb) σ H Q := by
  obtain ⟨φ, s, S, Q', hr, ev, q, k⟩ := h
  refine ⟨φ, s, S, _, hr, ev, q, fun φ1 d S1 v H1 e1 hr1 r1 q1 => ?_⟩
  refine ⟨φ1, s, S1, _, hr1, ev.mono e1, q1, fun φ2 d2 S2 v2 H2 e2 hr2 r2 q2 => ?_⟩
  exact ⟨φ2, S2, d, d2, Q', hr2, r1.mono e2, r2, q2, k.ext (e1.trans e2)⟩
variable {a b c : Expr} {qa qb qc : QE} {pos : Pos} {ro ro' : QO}
theorem le_op {op : Operator} (ho : OpR X (binaryOp op) (upR X.K B ro)) (ha : LE X B a qa) (hb : LE X B b qb) : LE X B (.BinOp a op b pos) (qOp ro qa qb) := PE.imp (pe_op ho ha hb) fun _ _ _ => up_op
theorem le_cmp {op : CmpOp} (ho : OpR X (compareOp op) (upR X.K B ro)) (ha : LE X B a qa) (hb : LE X B b qb) (hm : behindInMarks op b = false) : LE X B (.Compare a [op] [b] pos) (qOp ro qa qb) := PE.imp (pe_cmpR ho ha hb hm) fun _ _ _ => up_op
def qTest (q : QE) : QT := fun s S Q => q s S fun d S1 => match d with
  | .bl b => Q b S1
  | _ => False
theorem up_test {q : QE} {t : TE} (hi : ∀ σ H Q, UP X.K B (rD X.K) q σ H Q → t σ H Q) {σ : L2.St} {H : Hp} {Q : Bool → Hp → Prop} (h : UP X.K B rB (qTest q) σ H Q) : tTest t σ H Q := by
  obtain ⟨φ, s, S, Q', hr, ev, q, k⟩ := h
  refine hi _ _ _ ⟨φ, s, S, _, hr, ev, q, fun φ1 d S1 v H1 e1 hr1 r1 q1 => ?_⟩
  split at q1
  · rename_i b
    exact ⟨b, r1, k _ _ _ _ _ e1 hr1 rfl q1⟩
  · exact q1.elim
theorem lt_cmp {op : CmpOp} (ho : OpR X (compareOp op) (upR X.K B ro)) (ha : LE X B a qa) (hb : LE X B b qb) (hm : behindInMarks op b = false) : LT X B (.Compare a [op] [b] pos) (qTest (qOp ro qa qb)) := PT.imp (pt_cmpR ho ha hb hm) fun _ _ _ => up_test fun _ _ _ => up_op
def qChain (r r' : QO) (qa qb qc : QE) : QE := fun s S Q => qa s S fun x S1 => qb s S1 fun y S2 => r x y S2 fun z S3 => match z with
  | .bl k => Br k (qc s S3 fun w S4 => r' y w S4 Q) (Q (.bl false) S3)
  | _ => False
theorem up_chain {σ : L2.St} {H : Hp} {Q : VK} (h : UP X.K B (rD X.K) (qChain ro ro' qa qb qc) σ H Q) : tChain (upR X.K B ro) (upR X.K B ro') (UP X.K B (rD X.K) qa) (UP X.K B (rD X.K) qb) (UP X.K B (rD X.K) qc) σ H Q := by
  obtain ⟨φ, s, S, Q', hr, ev, q, k⟩ := h
  refine ⟨φ, s, S, _, hr, ev, q, fun φ1 d S1 v H1 e1 hr1 r1 q1 => ?_⟩
  refine ⟨φ1, s, S1, _, hr1, ev.mono e1, q1, fun φ2 d2 S2 v2 H2 e2 hr2 r2 q2 => ?_⟩
  refine ⟨φ2, S2, d, d2, _, hr2, r1.mono e2, r2, q2, fun φ3 d3 S3 v3 H3 e3 hr3 r3 q3 => ?_⟩
  split at q3
  · rename_i kb
    refine ⟨kb, r3, ?_⟩
    cases kb with
    | false => exact k _ (.bl false) _ _ _ (e1.trans (e2.trans e3)) hr3 rfl (q3.f rfl)
    | true =>
      rw [if_pos rfl]
      refine ⟨φ3, s, S3, _, hr3, ev.mono (e1.trans (e2.trans e3)), q3.t rfl, fun φ4 d4 S4 v4 H4 e4 hr4 r4 q4 => ?_⟩
      exact ⟨φ4, S4, d2, d4, Q', hr4, r2.mono (e3.trans e4), r4, q4, k.ext (e1.trans (e2.trans (e3.trans e4)))⟩
  · exact q3.elim
theorem le_chain {op op' : CmpOp} (ho : OpR X (compareOp op) (upR X.K B ro)) (ho' : OpR X (compareOp op') (upR X.K B ro')) (ha : LE X B a qa) (hb : LE X B b qb) (hc : LE X B c qc)
    (hm : lastMarks [op, op'] [b, c] = false := by with_unfolding_all rfl) : LE X B (.Compare a [op, op'] [b, c] pos) (qChain ro ro' qa qb qc) := PE.imp (pe_chain ho ho' ha hb hc hm) fun _ _ _ => up_chain
theorem lt_chain {op op' : CmpOp} (ho : OpR X (compareOp op) (upR X.K B ro)) (ho' : OpR X (compareOp op') (upR X.K B ro')) (ha : LE X B a qa) (hb : LE X B b qb) (hc : LE X B c qc)
    (hm : lastMarks [op, op'] [b, c] = false := by with_unfolding_all rfl) : LT X B (.Compare a [op, op'] [b, c] pos) (qTest (qChain ro ro' qa qb qc)) := PT.imp (pt_chain ho ho' ha hb hc hm) fun _ _ _ => up_test fun _ _ _ => up_chain

/-! ### whole numbers -/
def oI (C : Int → Int → Prop) (f : Int → Int → Int) : QO := fun d e S Q => match d, e with
  | .int i, .int j => Need (C i j) (Q (.int (f i j)) S)
  | _, _ => False
theorem lift_I {C : Int → Int → Prop} {f : Int → Int → Int} {x y : V} {H : Hp} {Q : VK} (h : upR X.K B (oI C f) x y H Q) : rI C (fun i j => .int (f i j)) x y H Q := by
  obtain ⟨φ, S, d, e, Q', hr, r1, r2, q, k⟩ := h
  unfold oI at q
  split at q
  · exact ⟨_, _, r1, r2, q.c, k.here (d := D.int _) hr rfl q.q⟩
  · exact q.elim
def oI0 (f : Int → Int → Int) : QO := fun d e S Q => match d, e with
  | .int i, .int j => Q (.int (f i j)) S
  | _, _ => False
theorem lift_I0 {f : Int → Int → Int} {x y : V} {H : Hp} {Q : VK} (h : upR X.K B (oI0 f) x y H Q) : rI0 (fun i j => .int (f i j)) x y H Q := by
  obtain ⟨φ, S, d, e, Q', hr, r1, r2, q, k⟩ := h
  unfold oI0 at q
  split at q
  · exact ⟨_, _, r1, r2, k.here (d := D.int _) hr rfl q⟩
  · exact q.elim
theorem oo_sub : OpR X (binaryOp .Sub) (upR X.K B (oI0 fun i j => i - j)) := OpR.imp op_sub fun _ _ _ _ => lift_I0
theorem oo_fdiv : OpR X (binaryOp .FloorDiv) (upR X.K B (oI CDiv fun i j => i / j)) := OpR.imp op_fdiv fun _ _ _ _ => lift_I
theorem oo_mod : OpR X (binaryOp .Mod) (upR X.K B (oI (fun _ j => 0 < j) fun i j => i % j)) := OpR.imp op_mod fun _ _ _ _ => lift_I
theorem oo_pow : OpR X (binaryOp .Pow) (upR X.K B (oI CPow fun i j => i ^ j.toNat)) := OpR.imp op_pow fun _ _ _ _ => lift_I
/-- + of ints, texts, tuples, lists -/
def oAdd : QO := fun d e S Q => match d, e with
  | .int i, .int j => Q (.int (i + j)) S
  | .str i, .str j => Need (i.length + j.length ≤ sizeLine) (Q (.str (i ++ j)) S)
  | .tup xs, .tup ys => Need (xs ≠ [] ∧ xs.length + ys.length ≤ sizeLine) (Q (.tup (xs ++ ys)) S)
  | d, e => match lsOf S d, lsOf S e with
    | some xs, some ys => Need (xs.length + ys.length ≤ sizeLine) (Q (.lst (xs ++ ys)) S)
    | _, _ => False
theorem oo_add : OpR X (binaryOp .Add) (upR X.K B oAdd) := OpR.imp (op_add.or (op_add_str.or (op_catT.or op_cat))) fun x y H Q h => by
  obtain ⟨φ, S, d, e, Q', hr, r1, r2, q, k⟩ := h
  unfold oAdd at q
  split at q
  · exact .inl ⟨_, _, r1, r2, k.here (d := D.int _) hr rfl q⟩
  · exact .inr (.inl ⟨_, _, r1, r2, q.c, k.here (d := D.str _) hr rfl q.q⟩)
  · obtain ⟨p, vs, rfl, h1, h2⟩ := id r1
    obtain ⟨p2, ws, rfl, h3, h4⟩ := id r2
    refine .inr (.inr (.inl ⟨p, p2, vs, ws, rfl, rfl, h1, h3, ?_, by rw [h2.len, h4.len]; exact q.c.2, ?_, ?_⟩))
    · intro z
      have := h2.len
      rw [z] at this
      exact q.c.1 (List.length_eq_zero_iff.mp this.symm)
    · intro z
      have := h4.len
      rw [z] at this
      have q2 := q.q
      rw [List.length_eq_zero_iff.mp this.symm, List.append_nil] at q2
      exact k.here (d := D.tup _) hr r1 q2
    · intro _ p' hp
      exact k.tup hr hp (h2.app h4) q.q
  · split at q
    · rename_i xs ys e1 e2
      obtain ⟨a, vs, rfl, a2, a3⟩ := hr.ls e1 r1
      obtain ⟨b, ws, rfl, b2, b3⟩ := hr.ls e2 r2
      exact .inr (.inr (.inr ⟨a, b, vs, ws, rfl, rfl, a2, b2, by rw [a3.len, b3.len]; exact q.c, fun p hp => k.lst hr hp (a3.app b3) q.q⟩))
    · exact q.elim
/-- * of ints; of a list and an int -/
def oMul : QO := fun d e S Q => match d, e with
  | .int i, .int j => Need (CMul i j) (Q (.int (i * j)) S)
  | d, .int j => match lsOf S d with
    | some xs => Need (0 ≤ j ∧ j < 2 ^ 63 ∧ xs.length * j.toNat ≤ sizeLine) (Q (.lst (List.replicate j.toNat xs).flatten) S)
    | none => False
  | _, _ => False
theorem RVs.rep {K : PySem.W.Frag} {φ : Ph} {H : Hp} {ds : List D} {vs : List V} (r : RVs K φ H ds vs) : ∀ n : Nat, RVs K φ H (List.replicate n ds).flatten (List.replicate n vs).flatten
  | 0 => rfl
  | n + 1 => by rw [List.replicate_succ, List.replicate_succ, List.flatten_cons, List.flatten_cons]; exact r.app (RVs.rep r n)
def oIB (f : Int → Int → Bool) : QO := fun d e S Q => match d, e with
  | .int i, .int j => Q (.bl (f i j)) S
  | _, _ => False
theorem lift_IB {f : Int → Int → Bool} {x y : V} {H : Hp} {Q : VK} (h : upR X.K B (oIB f) x y H Q) : rI0 (fun i j => .bl (f i j)) x y H Q := by
  obtain ⟨φ, S, d, e, Q', hr, r1, r2, q, k⟩ := h
  unfold oIB at q
  split at q
  · exact ⟨_, _, r1, r2, k.here (d := D.bl _) hr rfl q⟩
  · exact q.elim
theorem oo_lt : OpR X (compareOp .Lt) (upR X.K B (oIB fun i j => decide (i < j))) := OpR.imp op_lt fun _ _ _ _ => lift_IB
theorem oo_le : OpR X (compareOp .LtE) (upR X.K B (oIB fun i j => decide (i ≤ j))) := OpR.imp op_le fun _ _ _ _ => lift_IB
theorem oo_ge : OpR X (compareOp .GtE) (upR X.K B (oIB fun i j => decide (j ≤ i))) := OpR.imp op_ge fun _ _ _ _ => lift_IB
/-- is None -/
def D.isNon : D → Bool
  | .non => true
  | _ => false
theorem RV.isNon {K : PySem.W.Frag} {φ : Ph} {H : Hp} {d : D} {v : V} (r : RV K φ H d v) : decide (v = .non) = d.isNon := by
  cases d with
  | non => cases r; rfl
  | bl _ => cases r; rfl
  | int _ => cases r; rfl
  | str _ => cases r; rfl
  | ty _ => cases r; rfl
  | adr _ => cases r; rfl
  | ref _ => obtain ⟨a, _, rfl⟩ := r; rfl
  | tup _ => obtain ⟨a, _, rfl, _⟩ := r; rfl
  | lst _ => obtain ⟨a, _, rfl, _⟩ := r; rfl
  | ins _ _ _ => obtain ⟨a, _, _, rfl, _⟩ := r; rfl
  | dK _ _ => obtain ⟨a, _, rfl, _⟩ := r; rfl
  | dT _ _ => obtain ⟨a, _, rfl, _⟩ := r; rfl
  | scr _ => obtain ⟨a, rfl, _⟩ := r; rfl
  | tq _ => obtain ⟨a, rfl, _⟩ := r; rfl
  | kt _ => obtain ⟨a, _, rfl, _⟩ := r; rfl
  | bad => exact r.elim
def oIs (neg : Bool) : QO := fun d e S Q => match e with
  | .non => Q (.bl (if neg then !d.isNon else d.isNon)) S
  | _ => False
theorem oo_is : OpR X (compareOp .Is) (upR X.K B (oIs false)) := OpR.imp op_isN fun x y H Q ⟨φ, S, d, e, Q', hr, r1, r2, q, k⟩ => by
  unfold oIs at q
  split at q
  · exact ⟨r2, by rw [r1.isNon]; exact k.here (d := D.bl _) hr rfl q⟩
  · exact q.elim
end
end LC

set_option Elab.async false
set_option linter.all false
set_option maxRecDepth 100000
set_option maxHeartbeats 5000000
/-! LD2: equality, membership, truth, displays, subscripts over data. -/
namespace LC
open PySem PySem.Spec
open PyProof.Rows L2
/-- a thing that is there -/
def Opt {α : Type} (o : Option α) (k : α → Prop) : Prop := match o with
  | some x => k x
  | none => False
theorem optI {α : Type} {o : Option α} {k : α → Prop} {x : α} (h : o = some x) (q : k x) : Opt o k := by subst h; exact q
theorem Opt.get {α : Type} {o : Option α} {k : α → Prop} (h : Opt o k) : ∃ x, o = some x ∧ k x := by
  cases o with
  | none => exact h.elim
  | some x => exact ⟨x, rfl, h⟩

/-! ### == -/
mutual
/-- plain data, n levels deep -/
def D.pl : D → Nat → Prop
  | .non, _ => True
  | .bl _, _ => True
  | .int _, _ => True
  | .str x, _ => PyData.strOk x = true
  | .tup xs, n + 1 => D.pls xs n
  | .lst xs, n + 1 => D.pls xs n
  | _, _ => False
def D.pls : List D → Nat → Prop
  | [], _ => True
  | d :: r, n => D.pl d n ∧ D.pls r n
end
mutual
/-- as == tells of plain data -/
def D.eqd : D → D → Bool
  | .non, .non => true
  | .bl a, .bl b => a == b
  | .bl a, .int j => (if a then 1 else 0) == j
  | .int i, .bl b => i == (if b then 1 else 0)
  | .int i, .int j => i == j
  | .str x, .str y => x == y
  | .tup xs, .tup ys => D.eqds xs ys
  | .lst xs, .lst ys => D.eqds xs ys
  | _, _ => false
def D.eqds : List D → List D → Bool
  | [], [] => true
  | x :: xs, y :: ys => D.eqd x y && D.eqds xs ys
  | _, _ => false
end
mutual
def D.py : D → PyData
  | .bl b => .bool b
  | .int i => .int i
  | .str x => .str x
  | .tup xs => .tuple (D.pys xs)
  | .lst xs => .list (D.pys xs)
  | _ => .none
def D.pys : List D → List PyData
  | [] => []
  | d :: r => D.py d :: D.pys r
end
mutual
theorem D.pl.lay : ∀ {d : D} {n : Nat}, D.pl d n → (D.py d).canLay0 = true ∧ (D.py d).depth ≤ n
  | .non, n, _ => ⟨by simp [D.py, PyData.canLay0], by simp [D.py, PyData.depth]⟩
  | .bl _, n, _ => ⟨by simp [D.py, PyData.canLay0], by simp [D.py, PyData.depth]⟩
  | .int _, n, _ => ⟨by simp [D.py, PyData.canLay0], by simp [D.py, PyData.depth]⟩
  | .str x, n, h => ⟨by have h' : PyData.strOk x = true := h; simp [D.py, PyData.canLay0, h'], by simp [D.py, PyData.depth]⟩
  | .tup xs, n + 1, h => by
    obtain ⟨h1, h2⟩ := D.pls.lay (ds := xs) (n := n) h
    exact ⟨by simpa [D.py, PyData.canLay0] using h1, by simp only [D.py, PyData.depth]; omega⟩
  | .lst xs, n + 1, h => by
    obtain ⟨h1, h2⟩ := D.pls.lay (ds := xs) (n := n) h
    exact ⟨by simpa [D.py, PyData.canLay0] using h1, by simp only [D.py, PyData.depth]; omega⟩
theorem D.pls.lay : ∀ {ds : List D} {n : Nat}, D.pls ds n → PyData.canLayAll0 (D.pys ds) = true ∧ PyData.depthAll (D.pys ds) ≤ n
  | [], n, _ => ⟨by simp [D.pys, PyData.canLayAll0], by simp [D.pys, PyData.depthAll]⟩
  | d :: r, n, h => by
    obtain ⟨h1, h2⟩ := D.pl.lay (d := d) (n := n) h.1
    obtain ⟨h3, h4⟩ := D.pls.lay (ds := r) (n := n) h.2
    exact ⟨by simp [D.pys, PyData.canLayAll0, h1, h3], by simp only [D.pys, PyData.depthAll]; omega⟩
end
theorem D.pl.shaped {d : D} {n : Nat} (h : D.pl d n) (hn : n ≤ 64 := by decide) : SeqAt.shaped (D.py d) = true := by
  obtain ⟨h1, h2⟩ := h.lay
  unfold SeqAt.shaped
  rw [h1, Bool.true_and]
  exact decide_eq_true (Nat.le_trans h2 hn)
mutual
theorem D.pl.eqv : ∀ {d e : D} {n m : Nat}, D.pl d n → D.pl e m → PyData.eqv (D.py d) (D.py e) = D.eqd d e
  | d, e, n, m, h, g => by
    cases d with
    | tup xs =>
      cases n with
      | zero => exact h.elim
      | succ n =>
      cases e with
      | tup ys =>
        cases m with
        | zero => exact g.elim
        | succ m => simp only [D.py, PyData.eqv, D.eqd]; exact D.pls.eqv (ds := xs) (es := ys) (n := n) (m := m) h g
      | lst ys => simp [D.py, PyData.eqv, D.eqd]
      | non => simp [D.py, PyData.eqv, D.eqd]
      | bl _ => simp [D.py, PyData.eqv, D.eqd]
      | int _ => simp [D.py, PyData.eqv, D.eqd]
      | str _ => simp [D.py, PyData.eqv, D.eqd]
      | _ => exact g.elim
    | lst xs =>
      cases n with
      | zero => exact h.elim
      | succ n =>
      cases e with
      | lst ys =>
        cases m with
        | zero => exact g.elim
        | succ m => simp only [D.py, PyData.eqv, D.eqd]; exact D.pls.eqv (ds := xs) (es := ys) (n := n) (m := m) h g
      | tup ys => simp [D.py, PyData.eqv, D.eqd]
      | non => simp [D.py, PyData.eqv, D.eqd]
      | bl _ => simp [D.py, PyData.eqv, D.eqd]
      | int _ => simp [D.py, PyData.eqv, D.eqd]
      | str _ => simp [D.py, PyData.eqv, D.eqd]
      | _ => exact g.elim
    | non => cases e <;> first | exact g.elim | simp [D.py, PyData.eqv, D.eqd]
    | bl _ => cases e <;> first | exact g.elim | simp [D.py, PyData.eqv, D.eqd]
    | int _ => cases e <;> first | exact g.elim | simp [D.py, PyData.eqv, D.eqd]
    | str _ => cases e <;> first | exact g.elim | simp [D.py, PyData.eqv, D.eqd]
    | _ => exact h.elim
theorem D.pls.eqv : ∀ {ds es : List D} {n m : Nat}, D.pls ds n → D.pls es m → PyData.eqvAll (D.pys ds) (D.pys es) = D.eqds ds es
  | [], [], _, _, _, _ => by simp [D.pys, PyData.eqvAll, D.eqds]
  | d :: r, e :: t, n, m, h, g => by simp only [D.pys, PyData.eqvAll, D.eqds]; rw [D.pl.eqv (d := d) (e := e) h.1 g.1, D.pls.eqv (ds := r) (es := t) h.2 g.2]
  | [], _ :: _, _, _, _, _ => by simp [D.pys, PyData.eqvAll, D.eqds]
  | _ :: _, [], _, _, _, _ => by simp [D.pys, PyData.eqvAll, D.eqds]
end
mutual
theorem D.eqd_self : ∀ {d : D} {n : Nat}, D.pl d n → D.eqd d d = true
  | .non, _, _ => rfl
  | .bl _, _, _ => by simp [D.eqd]
  | .int _, _, _ => by simp [D.eqd]
  | .str _, _, _ => by simp [D.eqd]
  | .tup xs, n + 1, h => by simp only [D.eqd]; exact D.eqds_self (ds := xs) (n := n) h
  | .lst xs, n + 1, h => by simp only [D.eqd]; exact D.eqds_self (ds := xs) (n := n) h
theorem D.eqds_self : ∀ {ds : List D} {n : Nat}, D.pls ds n → D.eqds ds ds = true
  | [], _, _ => rfl
  | d :: r, n, h => by simp only [D.eqds]; rw [D.eqd_self h.1, D.eqds_self h.2]; rfl
end
theorem D.eqds_ints : ∀ ns ms : List Int, D.eqds (ns.map D.int) (ms.map D.int) = decide (ns = ms)
  | [], [] => rfl
  | n :: r, m :: t => by
    simp only [List.map_cons, D.eqds, D.eqd]; rw [D.eqds_ints r t, Bool.eq_iff_iff]
    simp
  | [], _ :: _ => rfl
  | _ :: _, [] => rfl
theorem D.pls_map {α : Type} {f : α → D} {n : Nat} {l : List α} (h : ∀ a ∈ l, D.pl (f a) n) : D.pls (l.map f) n := by
  induction l with
  | nil => trivial
  | cons a r ih => exact ⟨h a List.mem_cons_self, ih fun b hb => h b (List.mem_cons_of_mem _ hb)⟩
theorem D.pls_ints {n : Nat} (ns : List Int) : D.pls (ns.map D.int) n := D.pls_map fun _ _ => trivial
/-- a list that may change, as it is now -/
def D.see (S : List O) (d : D) : D := match d with
  | .ref k => match S[k]? with
    | some (.lst xs) => .lst xs
    | _ => .bad
  | .scr ns => .lst (ns.map D.int)
  | .tq ns => .tup (ns.map D.int)
  | .kt xs => .tup xs
  | d => d
section
variable {X : Cx} {B : Bs} {φ : Ph} {H : Hp} {S : List O}
mutual
theorem D.pl.dp {K : PySem.W.Frag} : ∀ {d : D} {n : Nat} {v : V}, D.pl d n → RV K φ H d v → Dp K H v (D.py d)
  | .non, _, _, _, r => by cases r; exact .non
  | .bl b, _, _, _, r => by cases r; exact .bl _
  | .int i, _, _, _, r => by cases r; exact .int _
  | .str x, _, _, _, r => by cases r; exact .str _
  | .tup xs, n + 1, _, h, ⟨p, vs, e, h1, h2⟩ => by subst e; exact .tup h1 (D.pls.dp (ds := xs) (n := n) h h2)
  | .lst xs, n + 1, _, h, ⟨p, vs, e, _, h1, h2⟩ => by subst e; exact .lst (.inl (.inl h1)) (D.pls.dp (ds := xs) (n := n) h h2)
theorem D.pls.dp {K : PySem.W.Frag} : ∀ {ds : List D} {n : Nat} {vs : List V}, D.pls ds n → RVs K φ H ds vs → DpAll K H vs (D.pys ds)
  | [], _, _, _, r => by cases r; exact .nil
  | d :: ds, n, _, h, ⟨v, ws, e, h3, h4⟩ => by subst e; exact .cons (D.pl.dp h.1 h3) (D.pls.dp h.2 h4)
end
theorem see_dp (hr : HR X.K B φ H S) {d : D} {n : Nat} {v : V} (h : D.pl (D.see S d) n) (r : RV X.K φ H d v) : Dp X.K H v (D.py (D.see S d)) := by
  cases d with
  | ref k =>
    simp only [D.see] at h ⊢
    split at h
    · rename_i xs e
      obtain ⟨a, vs, h1, h2, h3⟩ := hr.lstO e
      obtain ⟨b, ea, rfl⟩ := r
      rw [h1] at ea; cases ea
      cases n with
      | zero => exact h.elim
      | succ n => exact .lst (.inl (.inl h2)) (D.pls.dp (ds := xs) (n := n) h h3)
    · exact h.elim
  | scr ns =>
    obtain ⟨p, rfl, h1⟩ := r
    exact .lst h1.sql (D.pls.dp (ds := ns.map D.int) (n := 0) (D.pls_ints ns) (.ofInts (φ := φ)))
  | tq ns =>
    obtain ⟨p, rfl, h1⟩ := r
    exact .tup h1.sqt (D.pls.dp (ds := ns.map D.int) (n := 0) (D.pls_ints ns) (.ofInts (φ := φ)))
  | kt xs =>
    obtain ⟨p, vs, rfl, h1, h2⟩ := r
    cases n with
    | zero => exact h.elim
    | succ n => exact .tup h1.sqt (D.pls.dp (ds := xs) (n := n) h h2)
  | _ => exact D.pl.dp (d := _) h r
/-- scalars -/
def D.scal : D → D → Bool
  | .non, .non => true
  | .non, .int _ => true
  | .int _, .non => true
  | .non, .bl _ => true
  | .bl _, .non => true
  | .non, .str _ => true
  | .str _, .non => true
  | .int _, .int _ => true
  | .bl _, .bl _ => true
  | .str _, .str _ => true
  | .int _, .str _ => true
  | .str _, .int _ => true
  | .bl _, .str _ => true
  | .str _, .bl _ => true
  | _, _ => false
def D.seq : D → D → Bool
  | .non, .non => true
  | .int i, .int j => decide (i = j)
  | .bl i, .bl j => decide (i = j)
  | .str i, .str j => decide (i = j)
  | _, _ => false
theorem D.scal_ok {K : PySem.W.Frag} {φ : Ph} {H : Hp} {d e : D} {x y : V} (h : D.scal d e = true) (r1 : RV K φ H d x) (r2 : RV K φ H e y) : L2.scal x y = true ∧ decide (x = y) = D.seq d e := by
  unfold D.scal at h
  split at h <;> first | (cases h; done) | (cases r1; cases r2; exact ⟨rfl, by simp [D.seq]⟩)
/-- ==, != -/
def oEq (neg : Bool) : QO := fun d e S Q => Br (D.scal d e) (Q (.bl (if neg then !D.seq d e else D.seq d e)) S)
  (Need (D.pl (D.see S d) 40 ∧ D.pl (D.see S e) 40) (Q (.bl (if neg then !D.eqd (D.see S d) (D.see S e) else D.eqd (D.see S d) (D.see S e))) S))
theorem oo_eq (hu : X.A.units + 64 < cLine) : OpR X (compareOp .Eq) (upR X.K B (oEq false)) := OpR.imp (op_eq.or (op_eqD hu)) fun x y H Q ⟨φ, S, d, e, Q', hr, r1, r2, q, k⟩ => by
  cases h : D.scal d e with
  | true =>
    have q := q.t h
    obtain ⟨h1, h2⟩ := D.scal_ok h r1 r2
    exact .inl ⟨h1, by rw [h2]; exact k.here (d := D.bl _) hr rfl q⟩
  | false =>
    obtain ⟨⟨h1, h2⟩, q⟩ := q.f h
    exact .inr ⟨_, _, see_dp hr h1 r1, see_dp hr h2 r2, h1.shaped, h2.shaped, by rw [h1.eqv h2]; exact k.here (d := D.bl _) hr rfl q⟩
theorem oo_ne (hu : X.A.units + 64 < cLine) : OpR X (compareOp .NotEq) (upR X.K B (oEq true)) := OpR.imp (op_ne.or (op_neD hu)) fun x y H Q ⟨φ, S, d, e, Q', hr, r1, r2, q, k⟩ => by
  cases h : D.scal d e with
  | true =>
    have q := q.t h
    obtain ⟨h1, h2⟩ := D.scal_ok h r1 r2
    exact .inl ⟨h1, by rw [h2]; exact k.here (d := D.bl _) hr rfl q⟩
  | false =>
    obtain ⟨⟨h1, h2⟩, q⟩ := q.f h
    exact .inr ⟨_, _, see_dp hr h1 r1, see_dp hr h2 r2, h1.shaped, h2.shaped, by rw [h1.eqv h2]; exact k.here (d := D.bl _) hr rfl q⟩

/-! ### in -/
end

/-! ### tests -/
section
variable {X : Cx} {B : Bs} {a b c : Expr} {qa qb qc : QE} {ta tb : QT} {pos : Pos} {rest : List Expr}
/-- truth -/
def qTruth (q : QE) : QT := fun s S Q => q s S fun d S1 => match d with
  | .bl b => Q b S1
  | .non => Q false S1
  | .int i => Q (i != 0) S1
  | .str x => Need (x.length ≤ sizeLine) (Q ((x.length : Int) != 0) S1)
  | d => Opt (itemsOf S1 d) fun xs => Q (!xs.isEmpty) S1
theorem RVs.isEmpty {K : PySem.W.Frag} {φ : Ph} {H : Hp} {ds : List D} {vs : List V} (r : RVs K φ H ds vs) : vs.isEmpty = ds.isEmpty := by
  cases ds with
  | nil => cases r; rfl
  | cons d ds => obtain ⟨v, ws, rfl, _⟩ := r; rfl
theorem lt_truth (ha : LE X B a qa) (he : ∀ whole, isTrue a X.env whole = (do let v ← whole; standAt a.pos; holding [v] (truthy v)) := by intro _; rfl) : LT X B a (qTruth qa) := PT.imp (pt_truth ha he) fun σ H Q ⟨φ, s, S, Q', hr, ev, q, k⟩ => by
  refine ⟨φ, s, S, _, hr, ev, q, fun φ1 d S1 v H1 e1 hr1 r1 q1 => ?_⟩
  split at q1
  · cases r1; exact ⟨_, rfl, k _ _ _ _ _ e1 hr1 rfl q1⟩
  · cases r1; exact ⟨_, rfl, k _ _ _ _ _ e1 hr1 rfl q1⟩
  · cases r1; exact ⟨_, rfl, k _ _ _ _ _ e1 hr1 rfl q1⟩
  · cases r1; exact ⟨_, ⟨q1.c, rfl⟩, k _ _ _ _ _ e1 hr1 rfl q1.q⟩
  · obtain ⟨xs, h0, q1⟩ := q1.get
    obtain ⟨p, vs, rfl, h1, h2⟩ := hr1.items h0 r1
    rcases h1 with h1 | h1
    · exact ⟨_, .inl ⟨vs, h1, rfl⟩, k _ _ _ _ _ e1 hr1 (by rw [h2.isEmpty]) q1⟩
    · exact ⟨_, .inr (.inl ⟨vs, h1, rfl⟩), k _ _ _ _ _ e1 hr1 (by rw [h2.isEmpty]) q1⟩
def qNot (t : QT) : QT := fun s S Q => t s S fun c S1 => Q (!c) S1
theorem lt_not (ha : LT X B a ta) : LT X B (.UnaryOp .Not a pos) (qNot ta) := PT.imp (pt_not ha) fun σ H Q ⟨φ, s, S, Q', hr, ev, q, k⟩ =>
  ⟨φ, s, S, _, hr, ev, q, fun φ1 d S1 v H1 e1 hr1 r1 q1 => k _ _ _ _ _ e1 hr1 (by rw [r1]) q1⟩
def qAnd (t u : QT) : QT := fun s S Q => t s S fun c S1 => Br c (u s S1 Q) (Q false S1)
def qOr (t u : QT) : QT := fun s S Q => t s S fun c S1 => Br c (Q true S1) (u s S1 Q)
theorem lw_and (ha : LT X B a ta) (hb : LW X B (.BoolOp .And (b :: rest) pos) tb) : LW X B (.BoolOp .And (a :: b :: rest) pos) (qAnd ta tb) := PW.imp (pw_and ha hb) fun σ H Q ⟨φ, s, S, Q', hr, ev, q, k⟩ =>
  ⟨φ, s, S, _, hr, ev, q, fun φ1 d S1 v H1 e1 hr1 r1 q1 => by
    cases r1
    cases d with
    | true => exact ⟨φ1, s, S1, Q', hr1, ev.mono e1, q1.t rfl, k.ext e1⟩
    | false => exact k _ _ _ _ _ e1 hr1 rfl (q1.f rfl)⟩
theorem lw_or (ha : LT X B a ta) (hb : LW X B (.BoolOp .Or (b :: rest) pos) tb) : LW X B (.BoolOp .Or (a :: b :: rest) pos) (qOr ta tb) := PW.imp (pw_or ha hb) fun σ H Q ⟨φ, s, S, Q', hr, ev, q, k⟩ =>
  ⟨φ, s, S, _, hr, ev, q, fun φ1 d S1 v H1 e1 hr1 r1 q1 => by
    cases r1
    cases d with
    | false => exact ⟨φ1, s, S1, Q', hr1, ev.mono e1, q1.f rfl, k.ext e1⟩
    | true => exact k _ _ _ _ _ e1 hr1 rfl (q1.t rfl)⟩
theorem lw_and1 (ha : LT X B a ta) : LW X B (.BoolOp .And [a] pos) ta := pw_and1 ha
theorem lw_or1 (ha : LT X B a ta) : LW X B (.BoolOp .Or [a] pos) ta := pw_or1 ha
theorem LW.t {q : QT} (h : LW X B a q) : LT X B a q := PW.pt h
/-- values of bools -/
def qAndV (qa qb : QE) : QE := fun s S Q => qa s S fun d S1 => match d with
  | .bl c => Br c (qb s S1 Q) (Q (.bl false) S1)
  | _ => False
def qNotV (qa : QE) : QE := fun s S Q => qa s S fun d S1 => match d with
  | .bl c => Q (.bl (!c)) S1
  | _ => False
theorem le_one {op} (h : LE X B a qa) : LE X B (.BoolOp op [a] pos) qa := pe_one h
theorem le_and (ha : LE X B a qa) (hb : LE X B (.BoolOp .And (b :: rest) pos) qb) : LE X B (.BoolOp .And (a :: b :: rest) pos) (qAndV qa qb) := PE.imp (pe_and ha hb) fun σ H Q ⟨φ, s, S, Q', hr, ev, q, k⟩ =>
  ⟨φ, s, S, _, hr, ev, q, fun φ1 d S1 v H1 e1 hr1 r1 q1 => by
    split at q1
    · rename_i c
      cases r1
      refine ⟨c, rfl, ?_⟩
      cases c with
      | true => exact ⟨φ1, s, S1, Q', hr1, ev.mono e1, q1.t rfl, k.ext e1⟩
      | false => exact k _ (.bl false) _ _ _ e1 hr1 rfl (q1.f rfl)
    · exact q1.elim⟩
theorem le_not (ha : LE X B a qa) : LE X B (.UnaryOp .Not a pos) (qNotV qa) := PE.imp (pe_not ha) fun σ H Q ⟨φ, s, S, Q', hr, ev, q, k⟩ =>
  ⟨φ, s, S, _, hr, ev, q, fun φ1 d S1 v H1 e1 hr1 r1 q1 => by
    split at q1
    · cases r1; exact ⟨_, rfl, k _ (.bl _) _ _ _ e1 hr1 rfl q1⟩
    · exact q1.elim⟩
def qIf (t : QT) (qa qb : QE) : QE := fun s S Q => t s S fun c S1 => Br c (qa s S1 Q) (qb s S1 Q)
theorem le_if (hc : LT X B c ta) (ha : LE X B a qa) (hb : LE X B b qb) : LE X B (.IfExp c a b pos) (qIf ta qa qb) := PE.imp (pe_ifExp hc ha hb) fun σ H Q ⟨φ, s, S, Q', hr, ev, q, k⟩ =>
  ⟨φ, s, S, _, hr, ev, q, fun φ1 d S1 v H1 e1 hr1 r1 q1 => by
    cases r1
    cases d with
    | false => exact ⟨φ1, s, S1, Q', hr1, ev.mono e1, q1.f rfl, k.ext e1⟩
    | true => exact ⟨φ1, s, S1, Q', hr1, ev.mono e1, q1.t rfl, k.ext e1⟩⟩
/-- - a -/
def qNeg (qa : QE) : QE := fun s S Q => qa s S fun d S1 => match d with
  | .int i => Q (.int (-i)) S1
  | _ => False
theorem le_neg (ha : LE X B a qa) : LE X B (.UnaryOp .USub a pos) (qNeg qa) := PE.imp (pe_un un_neg ha) fun σ H Q ⟨φ, s, S, Q', hr, ev, q, k⟩ =>
  ⟨φ, s, S, _, hr, ev, q, fun φ1 d S1 v H1 e1 hr1 r1 q1 => by
    split at q1
    · cases r1; exact ⟨_, rfl, k _ (.int _) _ _ _ e1 hr1 rfl q1⟩
    · exact q1.elim⟩
end

/-! ### argument lists, displays -/
def lenLe {α : Type} : Nat → List α → Bool
  | _, [] => true
  | 0, _ :: _ => false
  | n + 1, _ :: r => lenLe n r
theorem lenLe_ok {α : Type} : ∀ {n : Nat} {l : List α}, lenLe n l = true → l.length ≤ n
  | _, [], _ => Nat.zero_le _
  | 0, _ :: _, h => by cases h
  | n + 1, _ :: r, h => Nat.succ_le_succ (lenLe_ok (n := n) (l := r) h)
theorem lenLe_line {α : Type} {l : List α} (h : lenLe 1000 l = true) : l.length ≤ sizeLine := Nat.le_trans (lenLe_ok h) (by decide)
section
variable {X : Cx} {B : Bs} {e : Expr} {es : List Expr} {qe : QE} {q : QA} {pos : Pos}
def qNil : QA := fun _ S Q => Q [] S
def qCons (qe : QE) (qr : QA) : QA := fun s S Q => qe s S fun d S1 => qr s S1 fun ds S2 => Q (d :: ds) S2
theorem la_nil : LA X B [] qNil := PA.imp pa_nil fun σ H Q ⟨φ, s, S, Q', hr, ev, q, k⟩ => k _ [] _ _ _ Ext.refl hr rfl q
theorem la_cons (ha : LE X B e qe) (hr : LA X B es q) (hs : starEach (e :: es) X.env = (false, eval e X.env) :: starEach es X.env := by rfl) : LA X B (e :: es) (qCons qe q) := PA.imp (pa_cons ha hr hs) fun σ H Q ⟨φ, s, S, Q', hr, ev, q, k⟩ =>
  ⟨φ, s, S, _, hr, ev, q, fun φ1 d S1 v H1 e1 hr1 r1 q1 => ⟨φ1, s, S1, _, hr1, ev.mono e1, q1, fun φ2 ds S2 vs H2 e2 hr2 r2 q2 =>
    k _ (d :: ds) _ _ _ (e1.trans e2) hr2 ⟨v, vs, rfl, r1.mono e2, r2⟩ q2⟩⟩
def qTup (q : QA) : QE := fun s S Q => q s S fun ds S1 => Br (lenLe 1000 ds) (Q (.tup ds) S1) False
def qLst (q : QA) : QE := fun s S Q => q s S fun ds S1 => Br (lenLe 1000 ds) (Q (.lst ds) S1) False
def qLstM (q : QA) : QE := fun s S Q => q s S fun ds S1 => Br (lenLe 1000 ds) (Q (.ref S1.length) (S1 ++ [.lst ds])) False
theorem Br.get {c : Bool} {p : Prop} (h : Br c p False) : c = true ∧ p := by cases c with
  | true => exact ⟨rfl, h⟩
  | false => exact h.elim
theorem le_tup {x1} (h : LA X B es q) : LE X B (.Tuple es x1 pos) (qTup q) := PE.imp (pe_tup h) fun σ H Q ⟨φ, s, S, Q', hr, ev, q, k⟩ =>
  ⟨φ, s, S, _, hr, ev, q, fun φ1 ds S1 vs H1 e1 hr1 r1 q1 => ⟨by rw [r1.len]; exact lenLe_line q1.get.1, fun p hp => (k.ext e1).tup hr1 hp r1 q1.get.2⟩⟩
theorem le_lst (h : LA X B es q) : LE X B (.List es pos) (qLst q) := PE.imp (pe_lst h) fun σ H Q ⟨φ, s, S, Q', hr, ev, q, k⟩ =>
  ⟨φ, s, S, _, hr, ev, q, fun φ1 ds S1 vs H1 e1 hr1 r1 q1 => ⟨by rw [r1.len]; exact lenLe_line q1.get.1, fun p hp => (k.ext e1).lst hr1 hp r1 q1.get.2⟩⟩
theorem le_lstM (h : LA X B es q) : LE X B (.List es pos) (qLstM q) := PE.imp (pe_lst h) fun σ H Q ⟨φ, s, S, Q', hr, ev, q, k⟩ =>
  ⟨φ, s, S, _, hr, ev, q, fun φ1 ds S1 vs H1 e1 hr1 r1 q1 => ⟨by rw [r1.len]; exact lenLe_line q1.get.1, fun p hp => (k.ext e1).lstM hr1 hp r1 q1.get.2⟩⟩
end

/-! ### subscripts -/
section
variable {X : Cx} {B : Bs} {a b : Expr} {qa qb : QE} {pos : Pos}
theorem IxR.imp {r r' : R2} (h : IxR X r) (i : ∀ x y H Q, r' x y H Q → r x y H Q) : IxR X r' :=
  fun value slice pins s σ H x y v u Q I rx ry q hs => h value slice pins s σ H x y v u Q I rx ry (i _ _ _ _ q) hs
theorem RVs.atI {K : PySem.W.Frag} {φ : Ph} {H : Hp} {ds : List D} {vs : List V} {i : Int} {d : D} (r : RVs K φ H ds vs) (h : L2.atI ds i = some d) : ∃ v, L2.atI vs i = some v ∧ RV K φ H d v := by
  unfold L2.atI at h ⊢
  rw [r.len]
  cases e : ixN ds.length i with
  | none => (rw [e] at h; cases h)
  | some j =>
    rw [e] at h
    obtain ⟨v, h1, h2⟩ := r.get (show ds[j]? = some d from h)
    exact ⟨v, h1, h2⟩
/-- a[i] of a list, a tuple, a text -/
def oIx : QO := fun d e S Q => match e with
  | .int i => match d with
    | .str z => Need (z.length ≤ sizeLine) (Opt (L2.atI z.cps.toList i) fun c => Q (.str ⟨#[c]⟩) S)
    | d => Opt (itemsOf S d) fun xs => Opt (L2.atI xs i) fun v => Q v S
  | _ => False
theorem ox_seq : IxR X (upR X.K B oIx) := IxR.imp ix_seq fun x y H Q ⟨φ, S, d, e, Q', hr, r1, r2, q, k⟩ => by
  unfold oIx at q
  split at q
  · cases r2
    split at q
    · cases r1
      obtain ⟨h1, q⟩ := q
      obtain ⟨c, h2, q⟩ := q.get
      exact .inr (.inr ⟨_, _, c, rfl, rfl, h1, h2, k.here (d := D.str _) hr rfl q⟩)
    · obtain ⟨xs, h1, q⟩ := q.get
      obtain ⟨v, h2, q⟩ := q.get
      obtain ⟨p, vs, rfl, h3, h4⟩ := hr.items h1 r1
      obtain ⟨w', h5, h6⟩ := h4.atI h2
      rcases h3 with h3 | h3
      · exact .inl ⟨p, vs, _, w', rfl, rfl, h3, h5, k.here hr h6 q⟩
      · exact .inr (.inl ⟨p, vs, _, w', rfl, rfl, h3, h5, k.here hr h6 q⟩)
  · exact q.elim
theorem le_ix {ro : QO} (hr : IxR X (upR X.K B ro)) (ha : LE X B a qa) (hb : LE X B b qb) (hs : PlainIx b := by intro _ _; rfl) : LE X B (.Subscript a b pos) (qOp ro qa qb) := PE.imp (pe_ix hr ha hb hs) fun _ _ _ => up_op
/-- slices -/
def cutD (xs : List D) (lo hi : Option Int) : List D := (xs.drop (HT.sIx xs.length 0 lo)).take (HT.sIx xs.length xs.length hi - HT.sIx xs.length 0 lo)
theorem RVs.cut {K : PySem.W.Frag} {φ : Ph} {H : Hp} {ds : List D} {vs : List V} (lo hi : Option Int) (r : RVs K φ H ds vs) : RVs K φ H (cutD ds lo hi) (cutV vs lo hi) := by
  unfold cutD cutV
  rw [r.len]
  exact (r.drop _).take _
abbrev QP := Sl → List O → (Option Int → List O → Prop) → Prop
abbrev rP : Ph → Hp → Option Int → Option Int → Prop := fun _ _ a b => a = b
abbrev LP (X : Cx) (B : Bs) (e : Option Expr) (q : QP) : Prop := PO X e (UP X.K B rP q)
theorem PO.imp {e : Option Expr} {t t' : TO} (h : PO X e t) (i : ∀ σ H Q, t' σ H Q → t σ H Q) : PO X e t' := ⟨fun pins s σ H Q I w => h.run pins s σ H Q I (i _ _ _ w)⟩
def qNoP : QP := fun _ S Q => Q none S
def qSomeP (q : QE) : QP := fun s S Q => q s S fun d S1 => match d with
  | .int i => Q (some i) S1
  | _ => False
theorem lp_none : LP X B none qNoP := PO.imp po_none fun σ H Q ⟨φ, s, S, Q', hr, ev, q, k⟩ => k.here hr rfl q
theorem lp_some (h : LE X B a qa) : LP X B (some a) (qSomeP qa) := PO.imp (po_some h) fun σ H Q ⟨φ, s, S, Q', hr, ev, q, k⟩ =>
  ⟨φ, s, S, _, hr, ev, q, fun φ1 d S1 v H1 e1 hr1 r1 q1 => by
    split at q1
    · cases r1; exact ⟨_, rfl, k _ _ _ _ _ e1 hr1 rfl q1⟩
    · exact q1.elim⟩
def oSl (d : D) (lo hi : Option Int) (S : List O) (Q : D → List O → Prop) : Prop := match d with
  | .str z => Need (z.length ≤ sizeLine) (Q (.str (cutS z lo hi)) S)
  | .tup xs => Q (.tup (cutD xs lo hi)) S
  | .scr ns => Q (.lst (cutD (ns.map D.int) lo hi)) S
  | d => Opt (lsOf S d) fun xs => Q (.lst (cutD xs lo hi)) S
def qSl (qa : QE) (ql qh : QP) : QE := fun s S Q => qa s S fun d S1 => ql s S1 fun lo S2 => qh s S2 fun hi S3 => oSl d lo hi S3 Q
def upSl (K : PySem.W.Frag) (B : Bs) : V → Option Int → Option Int → Hp → VK → Prop := fun x lo hi H Q => ∃ φ S d Q', HR K B φ H S ∧ RV K φ H d x ∧ oSl d lo hi S Q' ∧ Kont K B (rD K) φ H Q' Q
theorem SlR.imp {r r' : V → Option Int → Option Int → Hp → VK → Prop} (h : SlR X r) (i : ∀ x lo hi H Q, r' x lo hi H Q → r x lo hi H Q) : SlR X r' :=
  fun pins s σ H x v vl vu lo hi sl Q I rx hs pl pu q => h pins s σ H x v vl vu lo hi sl Q I rx hs pl pu (i _ _ _ _ _ q)
theorem cutD_whole (xs : List D) (lo hi : Option Int) (h : HT.sIx xs.length 0 lo = 0 ∧ HT.sIx xs.length xs.length hi = xs.length) : cutD xs lo hi = xs := by
  unfold cutD
  rw [h.1, h.2]
  simp
end
section
variable {X : Cx} {B : Bs} {a b e : Expr} {es : List Expr} {qa qb qe : QE} {pos p2 : Pos} {lo hi : Option Expr} {ql qh : QP} {q : QA}
theorem sl_any : SlR X (upSl X.K B) := SlR.imp (sl_list.or (sl_tupA.or sl_str)) fun x lo hi H Q ⟨φ, S, d, Q', hr, r, q, k⟩ => by
  unfold oSl at q
  split at q
  · cases r
    exact .inr (.inr ⟨_, rfl, q.c, k.here (d := D.str _) hr rfl q.q⟩)
  · rename_i xs
    obtain ⟨p, vs, rfl, h1, h2⟩ := r
    refine .inr (.inl ⟨p, vs, rfl, h1, fun hw => ?_, fun hw p' hp => k.tup hr hp (h2.cut lo hi) q⟩)
    rw [h2.len] at hw
    rw [cutD_whole xs lo hi hw] at q
    exact k.here (d := D.tup xs) hr (show RV _ _ _ _ _ from ⟨p, vs, rfl, h1, h2⟩) q
  · obtain ⟨p, rfl, h1⟩ := r
    exact .inl ⟨p, _, rfl, h1.sql, fun p hp => k.lst hr hp (RVs.ofInts.cut lo hi) q⟩
  · obtain ⟨xs, h0, q⟩ := q.get
    obtain ⟨a', vs, rfl, h1, h2⟩ := hr.ls h0 r
    exact .inl ⟨a', vs, rfl, .inl (.inl h1), fun p hp => k.lst hr hp (h2.cut lo hi) q⟩
theorem le_slice (ha : LE X B e qa) (hl : LP X B lo ql) (hu : LP X B hi qh) : LE X B (.Subscript e (.Slice lo hi none p2) pos) (qSl qa ql qh) := PE.imp (pe_slice sl_any ha hl hu) fun σ H Q ⟨φ, s, S, Q', hr, ev, q, k⟩ =>
  ⟨φ, s, S, _, hr, ev, q, fun φ1 d S1 v H1 e1 hr1 r1 q1 => ⟨φ1, s, S1, _, hr1, ev.mono e1, q1, fun φ2 lo' S2 lo2 H2 e2 hr2 r2 q2 => ⟨φ2, s, S2, _, hr2, ev.mono (e1.trans e2), q2, fun φ3 hi' S3 hi2 H3 e3 hr3 r3 q3 => by
    cases r2
    cases r3
    exact ⟨φ3, S3, d, Q', hr3, r1.mono (e2.trans e3), q3, k.ext (e1.trans (e2.trans e3))⟩⟩⟩⟩
end
end LC

set_option Elab.async false
set_option linter.all false
set_option maxRecDepth 100000
set_option maxHeartbeats 5000000
/-! LD3: calls of built-ins, methods of built-in types. -/
namespace LC
open PySem PySem.Spec
open PyProof.Rows L2

section
variable {X : Cx} {B : Bs} {a b e : Expr} {es : List Expr} {qa qb qe : QE} {pos p2 : Pos} {q : QA}
/-! ### calls of built-ins -/
abbrev QC := List D → List O → (D → List O → Prop) → Prop
def upC (K : PySem.W.Frag) (B : Bs) (rc : QC) : List V → Hp → VK → Prop := fun vs H Q => ∃ φ S ds Q', HR K B φ H S ∧ RVs K φ H ds vs ∧ rc ds S Q' ∧ Kont K B (rD K) φ H Q' Q
theorem CallR.imp {f : Value} {r r' : List V → Hp → VK → Prop} (h : CallR X f r) (i : ∀ x H Q, r' x H Q → r x H Q) : CallR X f r' :=
  fun pins s σ H x v Q I rx q => h pins s σ H x v Q I rx (i _ _ _ q)
def qCB (rc : QC) (q : QA) : QE := fun s S Q => q s S fun ds S1 => rc ds S1 Q
theorem up_cb {rc : QC} {q : QA} {σ : L2.St} {H : Hp} {Q : VK} (h : UP X.K B (rD X.K) (qCB rc q) σ H Q) : tCB (upC X.K B rc) (UP X.K B (rDs X.K) q) σ H Q := by
  obtain ⟨φ, s, S, Q', hr, ev, q, k⟩ := h
  exact ⟨φ, s, S, _, hr, ev, q, fun φ1 d S1 v H1 e1 hr1 r1 q1 => ⟨φ1, S1, d, Q', hr1, r1, q1, k.ext e1⟩⟩
theorem le_callB {x : Str} {p : Pos} {id : String} {rc : QC} (hc : CallR X (.builtin id) (upC X.K B rc)) (hg : Gl X x) (hm : X.mg x = none) (hv : bootBuiltins x = some (.builtin id)) (ha : LA X B (e :: es) q) (hn : x ≠ "__name__" := by decide) (hdb : (x == ("__debug__" : Str)) = false := by decide)
    (he : starEach (e :: es) X.env = (false, eval e X.env) :: starEach es X.env := by rfl) (hpl : (backTo pos (starEach es X.env)).any (·.1) = false := by rfl) : LE X B (.Call (.Name x p) (e :: es) [] pos) (qCB rc q) :=
  PE.imp (pe_callB hc hg hm hv ha hn hdb he hpl) fun _ _ _ => up_cb
theorem le_callTy {x : Str} {p : Pos} {T : String} {rc : QC} (hc : CallR X (.type T) (upC X.K B rc)) (hg : Gl X x) (hm : X.mg x = none) (hv : bootBuiltins x = some (.type T)) (ha : LA X B (e :: es) q) (hn : x ≠ "__name__" := by decide) (hdb : (x == ("__debug__" : Str)) = false := by decide)
    (he : starEach (e :: es) X.env = (false, eval e X.env) :: starEach es X.env := by rfl) (hpl : (backTo pos (starEach es X.env)).any (·.1) = false := by rfl) : LE X B (.Call (.Name x p) (e :: es) [] pos) (qCB rc q) :=
  PE.imp (pe_callTy hc hg hm hv ha hn hdb he hpl) fun _ _ _ => up_cb
/-- a built-in's name as a value -/
theorem le_ty {x : Str} {p : Pos} {T : String} (hg : Gl X x) (hm : X.mg x = none) (hv : bootBuiltins x = some (.type T)) (hn : x ≠ "__name__" := by decide) (hd : (x == ("__debug__" : Str)) = false := by decide) : LE X B (.Name x p) (qC (.ty T)) :=
  le_c (pe_bltn (v := .ty T) hg hm hv rfl hn hd) fun _ _ => rfl
/-- len -/
def rcLen : QC := fun ds S Q => match ds with
  | [.str z] => Need (z.length ≤ sizeLine) (Q (.int z.length) S)
  | [d] => Opt (itemsOf S d) fun xs => Q (.int xs.length) S
  | _ => False
theorem cc_len : CallR X (.builtin "len") (upC X.K B rcLen) := CallR.imp (call_len_str.or call_len_seq) fun x H Q ⟨φ, S, ds, Q', hr, r, q, k⟩ => by
  unfold rcLen at q
  split at q
  · obtain ⟨v, w', rfl, r1, r2⟩ := r
    cases r1; cases r2
    exact .inl ⟨_, rfl, q.c, k.here (d := D.int _) hr rfl q.q⟩
  · obtain ⟨v, w', rfl, r1, r2⟩ := r
    cases r2
    obtain ⟨xs, h1, q⟩ := q.get
    obtain ⟨p, vs, rfl, h2, h3⟩ := hr.items h1 r1
    exact .inr ⟨p, vs, rfl, h2, by rw [h3.len]; exact k.here (d := D.int _) hr rfl q⟩
  · exact q.elim
/-- the bools of a list -/
def asBs : List D → Option (List Bool)
  | [] => some []
  | .bl b :: r => (asBs r).map (b :: ·)
  | _ => none
theorem asBs_ok {K : PySem.W.Frag} {φ : Ph} {H : Hp} : ∀ {ds : List D} {vs : List V} {bs : List Bool}, asBs ds = some bs → RVs K φ H ds vs → vs = bs.map V.bl
  | [], _, _, h, r => by cases h; cases r; rfl
  | d :: ds, _, bs, h, ⟨v, ws, e, r1, r2⟩ => by
    subst e
    cases d <;> first | (cases h; done) | skip
    cases e2 : asBs ds with
    | none => simp [asBs, e2] at h
    | some cs =>
      simp [asBs, e2] at h
      subst h
      cases r1
      rw [asBs_ok e2 r2]; rfl
theorem asBs_map {α : Type} (f : α → Bool) (l : List α) : asBs (l.map fun x => D.bl (f x)) = some (l.map f) := by
  induction l with
  | nil => rfl
  | cons x r ih => simp [asBs, ih]
def rcAll (any : Bool) : QC := fun ds S Q => match ds with
  | [d] => Opt (lsOf S d) fun xs => Opt (asBs xs) fun bs => Q (.bl (if any then bs.any id else bs.all id)) S
  | _ => False
theorem lift_all {any : Bool} {x : List V} {H : Hp} {Q : VK} (h : upC X.K B (rcAll any) x H Q) : ∃ (a : Addr) (bs : List Bool), x = [V.ref a] ∧ SqL X.K H a (bs.map V.bl) ∧ Q (.bl (if any then bs.any id else bs.all id)) H := by
  obtain ⟨φ, S, ds, Q', hr, r, q, k⟩ := h
  unfold rcAll at q
  split at q
  · obtain ⟨v, w', rfl, r1, r2⟩ := r
    cases r2
    obtain ⟨xs, h1, q⟩ := q.get
    obtain ⟨bs, h2, q⟩ := q.get
    obtain ⟨a', vs, rfl, h3, h4⟩ := hr.ls h1 r1
    rw [asBs_ok h2 h4] at h3
    exact ⟨a', bs, rfl, .inl (.inl h3), k.here (d := D.bl _) hr rfl q⟩
  · exact q.elim
theorem cc_all (hc : X.calm = true) : CallR X (.builtin "all") (upC X.K B (rcAll false)) := CallR.imp (cr_all hc) fun _ _ _ => lift_all
/-- list(..), tuple(..) of a list, a tuple -/
def rcList : QC := fun ds S Q => match ds with
  | [d] => Opt (itemsOf S d) fun xs => Q (.lst xs) S
  | _ => False
theorem cc_list : CallR X (.type "list") (upC X.K B rcList) := CallR.imp call_list_of fun x H Q ⟨φ, S, ds, Q', hr, r, q, k⟩ => by
  unfold rcList at q
  split at q
  · obtain ⟨v, w', rfl, r1, r2⟩ := r
    cases r2
    obtain ⟨xs, h1, q⟩ := q.get
    obtain ⟨p, vs, rfl, h2, h3⟩ := hr.items h1 r1
    exact ⟨p, vs, rfl, h2, fun l hl => k.lst hr hl h3 q⟩
  · exact q.elim
def rcListM : QC := fun ds S Q => match ds with
  | [d] => Opt (itemsOf S d) fun xs => Q (.ref S.length) (S ++ [.lst xs])
  | _ => False
theorem cc_listM : CallR X (.type "list") (upC X.K B rcListM) := CallR.imp call_list_of fun x H Q ⟨φ, S, ds, Q', hr, r, q, k⟩ => by
  unfold rcListM at q
  split at q
  · obtain ⟨v, w', rfl, r1, r2⟩ := r
    cases r2
    obtain ⟨xs, h1, q⟩ := q.get
    obtain ⟨p, vs, rfl, h2, h3⟩ := hr.items h1 r1
    exact ⟨p, vs, rfl, h2, fun l hl => k.lstM hr hl h3 q⟩
  · exact q.elim
def rcTuple : QC := fun ds S Q => match ds with
  | [.tup xs] => Q (.tup xs) S
  | [.kt xs] => Q (.kt xs) S
  | [.tq ns] => Q (.tq ns) S
  | [.scr ns] => Q (.tup (ns.map D.int)) S
  | [d] => Opt (lsOf S d) fun xs => Q (.tup xs) S
  | _ => False
theorem cc_tuple : CallR X (.type "tuple") (upC X.K B rcTuple) := CallR.imp call_tuple_of fun x H Q ⟨φ, S, ds, Q', hr, r, q, k⟩ => by
  unfold rcTuple at q
  split at q
  · obtain ⟨v, w', rfl, r1, r2⟩ := r
    cases r2
    obtain ⟨p, vs, rfl, h1, h2⟩ := id r1
    exact ⟨p, vs, rfl, .inr ⟨SqT.of h1, k.here hr r1 q⟩⟩
  · obtain ⟨v, w', rfl, r1, r2⟩ := r
    cases r2
    obtain ⟨p, vs, rfl, h1, h2⟩ := id r1
    exact ⟨p, vs, rfl, .inr ⟨h1.sqt, k.here hr r1 q⟩⟩
  · obtain ⟨v, w', rfl, r1, r2⟩ := r
    cases r2
    obtain ⟨p, rfl, h1⟩ := id r1
    exact ⟨p, _, rfl, .inr ⟨h1.sqt, k.here hr r1 q⟩⟩
  · obtain ⟨v, w', rfl, r1, r2⟩ := r
    cases r2
    obtain ⟨p, rfl, h1⟩ := id r1
    exact ⟨p, _, rfl, .inl ⟨h1.sql, fun l hl => k.tup hr hl .ofInts q⟩⟩
  · obtain ⟨v, w', rfl, r1, r2⟩ := r
    cases r2
    obtain ⟨xs, h1, q⟩ := q.get
    obtain ⟨p, vs, rfl, h2, h3⟩ := hr.ls h1 r1
    exact ⟨p, vs, rfl, .inl ⟨.inl (.inl h2), fun l hl => k.tup hr hl h3 q⟩⟩
  · exact q.elim
/-- min, max of two numbers -/
def rcMax2 (mx : Bool) : QC := fun ds S Q => match ds with
  | [.int i, .int j] => Q (.int (if mx then (if j > i then j else i) else (if j < i then j else i))) S
  | _ => False
theorem cc_max2 (hc : X.calm = true) : CallR X (.builtin "max") (upC X.K B (rcMax2 true)) := CallR.imp (call_max2 hc) fun x H Q ⟨φ, S, ds, Q', hr, r, q, k⟩ => by
  unfold rcMax2 at q
  split at q
  · obtain ⟨v, w', rfl, r1, v2, w2, rfl, r2, r3⟩ := r
    cases r1; cases r2; cases r3
    exact ⟨_, _, rfl, k.here (d := D.int _) hr rfl q⟩
  · exact q.elim
theorem cc_min2 (hc : X.calm = true) : CallR X (.builtin "min") (upC X.K B (rcMax2 false)) := CallR.imp (call_min2 hc) fun x H Q ⟨φ, S, ds, Q', hr, r, q, k⟩ => by
  unfold rcMax2 at q
  split at q
  · obtain ⟨v, w', rfl, r1, v2, w2, rfl, r2, r3⟩ := r
    cases r1; cases r2; cases r3
    exact ⟨_, _, rfl, k.here (d := D.int _) hr rfl q⟩
  · exact q.elim
/-- sum of whole numbers -/
def asIs : List D → Option (List Int)
  | [] => some []
  | .int b :: r => (asIs r).map (b :: ·)
  | _ => none
theorem asIs_ok {K : PySem.W.Frag} {φ : Ph} {H : Hp} : ∀ {ds : List D} {vs : List V} {bs : List Int}, asIs ds = some bs → RVs K φ H ds vs → vs = bs.map V.int
  | [], _, _, h, r => by cases h; cases r; rfl
  | d :: ds, _, bs, h, ⟨v, ws, e, r1, r2⟩ => by
    subst e
    cases d <;> first | (cases h; done) | skip
    cases e2 : asIs ds with
    | none => simp [asIs, e2] at h
    | some cs =>
      simp [asIs, e2] at h
      subst h
      cases r1
      rw [asIs_ok e2 r2]; rfl
theorem asIs_ints (l : List Int) : asIs (l.map D.int) = some l := by
  induction l with
  | nil => rfl
  | cons x r ih => simp [asIs, ih]
/-! ### isinstance -/
/-- what the written part says of an own class for isinstance -/
structure IsC (K : PySem.W.Frag) (C : Addr) : Prop where
  cl : Cls K C
  ha : PySem.W.findIn K (.ref C) "__class__" =
    some (some (.builtin "object.__class__"))
  hn : PySem.W.specialIn K (.builtin "object.__class__") "__get__" =
    some (some (.builtin "getset_descriptor.__get__"))
  htk : PySem.W.takesIn K (.builtin "object.__class__") =
    some true
  hm : PySem.W.mroIn K C (.type "object") =
    some true
def tyOf (S : List O) : D → Option Value
  | .non => some (.type "NoneType")
  | .bl _ => some (.type "bool")
  | .int _ => some (.type "int")
  | .str _ => some (.type "str")
  | .tup _ => some (.type "tuple")
  | .lst _ => some (.type "list")
  | .scr _ => some (.type "list")
  | .tq _ => some (.type "tuple")
  | .kt _ => some (.type "tuple")
  | .dK _ _ => some (.type "dict")
  | .dT _ _ => some (.type "dict")
  | .ins C _ _ => some (.ref C)
  | .ref k => match S[k]? with
    | some (.lst _) => some (.type "list")
    | some .drw => some (.type "list")
    | some (.dK _) => some (.type "dict")
    | some (.dT _) => some (.type "dict")
    | some (.ins C _) => some (.ref C)
    | _ => none
  | _ => none
theorem tyOf_ok {φ : Ph} {H : Hp} {S : List O} {d : D} {v : V} {t : Value} (hr : HR X.K B φ H S) (h : tyOf S d = some t) (hc : ∀ C, t = .ref C → IsC X.K C) (r : RV X.K φ H d v) : TyX X.K H v t := by
  cases d with
  | non => cases h; cases r; exact .base .non
  | bl _ => cases h; cases r; exact .base (.bl _)
  | int _ => cases h; cases r; exact .base (.int _)
  | str _ => cases h; cases r; exact .base (.str _)
  | tup xs =>
    cases h
    obtain ⟨p, vs, rfl, h1, h2⟩ := r
    exact .base (.tup h1)
  | lst xs => cases h; obtain ⟨p, vs, rfl, _, h1, h2⟩ := r; exact .base (.lst h1)
  | scr ns =>
    cases h
    obtain ⟨p, rfl, h1⟩ := r
    rcases h1 with ⟨_, h1 | ⟨o, h1⟩⟩ | ⟨o, its, n, h1, h3, _⟩
    · exact .base (.lst h1)
    · exact .base (.frz h1)
    · exact .kList h1 h3
  | tq ns => cases h; obtain ⟨p, rfl, _, o, h1, _⟩ := r; exact .fTuple h1
  | kt xs => cases h; obtain ⟨p, vs, rfl, ⟨o, its, n, h1, h3, _⟩, _⟩ := r; exact .kTuple h1 h3
  | dK ks xs => cases h; obtain ⟨p, vs, rfl, _, h1, _⟩ := r; exact .base (.dK h1)
  | dT ks xs => cases h; obtain ⟨p, vs, rfl, _, h1, _⟩ := r; exact .base (.dT h1)
  | ins C ns xs =>
    cases h
    obtain ⟨p, dx, vs, rfl, _, h1, _⟩ := r
    have c := hc C rfl
    exact .base (.ins h1 c.cl c.ha c.hn c.htk c.hm)
  | ref k =>
    obtain ⟨a, ea, rfl⟩ := r
    simp only [tyOf] at h
    cases e : S[k]? with
    | none => rw [e] at h; cases h
    | some o =>
      rw [e] at h
      obtain ⟨b, eb, ho⟩ := hr.rel.ob k _ e
      rw [ea] at eb; cases eb
      cases o with
      | lst xs => cases h; obtain ⟨vs, h1, h2⟩ := ho; exact .base (.lst h1)
      | drw => cases h; obtain ⟨l, vs, _, h1, h2⟩ := ho; exact .base (.lst h1)
      | dK l => cases h; obtain ⟨vs, h1, h2⟩ := ho; exact .base (.dK h1)
      | dT l => cases h; obtain ⟨vs, h1, h2⟩ := ho; exact .base (.dT h1)
      | ins C fs =>
        cases h
        obtain ⟨dx, gs, h1, h2⟩ := ho
        have c := hc C rfl
        exact .base (.ins h1 c.cl c.ha c.hn c.htk c.hm)
      | non => cases h
  | ty _ => cases h
  | adr _ => cases h
  | bad => cases h
def clsOf : D → Option Value
  | .ty n => some (.type n)
  | .adr C => some (.ref C)
  | _ => none
theorem clsOf_ok {K : PySem.W.Frag} {φ : Ph} {H : Hp} : ∀ {c : D} {v : V} {u : Value}, clsOf c = some u → RV K φ H c v → ClsV v u
  | .ty n, _, _, h, r => by cases h; cases r; exact .ty n
  | .adr C, _, _, h, r => by cases h; cases r; exact .own C
inductive rcIsi (K : PySem.W.Frag) : List D → List O → (D → List O → Prop) → Prop
  | mk {d c : D} {S : List O} {Q : D → List O → Prop} {t u : Value} {b : Bool} (h1 : tyOf S d = some t) (h2 : clsOf c = some u) (h3 : ∀ C, t = .ref C → IsC K C) (h4 : PySem.W.kitOne K t u = some b) (q : Q (.bl b) S) : rcIsi K [d, c] S Q
theorem cc_isi : CallR X (.builtin "isinstance") (upC X.K B (rcIsi X.K)) := CallR.imp call_isi fun x H Q ⟨φ, S, ds, Q', hr, r, q, k⟩ => by
  obtain ⟨h1, h2, h3, h4, q⟩ := q
  obtain ⟨v, w', rfl, r1, v2, w2, rfl, r2, r3⟩ := r
  cases r3
  exact ⟨v, v2, _, _, _, rfl, clsOf_ok h2 r2, tyOf_ok hr h1 h3 r1, h4, k.here (d := D.bl _) hr rfl q⟩

/-! ### methods -/
abbrev QM := D → List D → List O → (D → List O → Prop) → Prop
def upM (K : PySem.W.Frag) (B : Bs) (rm : QM) : V → List V → Hp → VK → Prop := fun x vs H Q => ∃ φ S d ds Q', HR K B φ H S ∧ RV K φ H d x ∧ RVs K φ H ds vs ∧ rm d ds S Q' ∧ Kont K B (rD K) φ H Q' Q
theorem MtR.imp {id : String} {r r' : V → List V → Hp → VK → Prop} (h : MtR X id r) (i : ∀ x xs H Q, r' x xs H Q → r x xs H Q) : MtR X id r' :=
  fun pins s σ H x xs v us Q I rx rs q => h pins s σ H x xs v us Q I rx rs (i _ _ _ _ q)
/-- a value of the built-in type T -/
def tyM (T : String) (d : D) (S : List O) : Prop := match d with
  | .str _ => T = "str"
  | .int _ => T = "int"
  | .lst _ => T = "list"
  | .scr _ => T = "list"
  | .dK _ _ => T = "dict"
  | .dT _ _ => T = "dict"
  | .ref k => match S[k]? with
    | some (.lst _) => T = "list"
    | some .drw => T = "list"
    | some (.dK _) => T = "dict"
    | some (.dT _) => T = "dict"
    | _ => False
  | _ => False
theorem tyM_ok {T : String} {φ : Ph} {H : Hp} {S : List O} {d : D} {v : V} (hr : HR X.K B φ H S) (h : tyM T d S) (r : RV X.K φ H d v) : tyV X.K T v H := by
  cases d with
  | str x => cases r; exact h
  | int x => cases r; exact h
  | lst xs => obtain ⟨p, vs, rfl, _, h1, _⟩ := r; exact .inl ⟨h, vs, .inl (.inl h1)⟩
  | scr ns => obtain ⟨p, rfl, h1⟩ := r; exact .inl ⟨h, _, h1.sql⟩
  | dK ks xs => obtain ⟨p, vs, rfl, _, h1, _⟩ := r; exact .inr (.inr (.inl ⟨h, .inl ⟨_, h1⟩⟩))
  | dT ks xs => obtain ⟨p, vs, rfl, _, h1, _⟩ := r; exact .inr (.inr (.inl ⟨h, .inr ⟨_, h1⟩⟩))
  | ref k =>
    obtain ⟨a, ea, rfl⟩ := r
    simp only [tyM] at h
    cases e : S[k]? with
    | none => rw [e] at h; exact h.elim
    | some o =>
      rw [e] at h
      obtain ⟨b, eb, ho⟩ := hr.rel.ob k _ e
      rw [ea] at eb; cases eb
      cases o with
      | lst xs => obtain ⟨vs, h1, h2⟩ := ho; exact .inl ⟨h, vs, .inl (.inl h1)⟩
      | drw => obtain ⟨l, vs, _, h1, h2⟩ := ho; exact .inl ⟨h, vs, .inl (.inl h1)⟩
      | dK l => obtain ⟨vs, h1, h2⟩ := ho; exact .inr (.inr (.inl ⟨h, .inl ⟨vs, h1⟩⟩))
      | dT l => obtain ⟨vs, h1, h2⟩ := ho; exact .inr (.inr (.inl ⟨h, .inr ⟨vs, h1⟩⟩))
      | ins C fs => exact h.elim
      | non => exact h.elim
  | _ => exact h.elim
def qBM (T : String) (rm : QM) (qo : QE) (q : QA) : QE := fun s S Q => qo s S fun d S1 => Need (tyM T d S1) (q s S1 fun ds S2 => rm d ds S2 Q)
theorem le_bm {T id : String} {rm : QM} {o : Expr} {qo : QE} {name : Str} {apos cpos : Pos} (pa : PlainAttrs T) (slot : Slot T name id) (hty : typeOf (.builtin id) = pure (.type "method_descriptor")) (hm : MtR X id (upM X.K B rm)) (ho : LE X B o qo) (ha : LA X B (e :: es) q)
    (hB0 :
      attributeBase o name X.env (eval o X.env) = eval o X.env := by rfl)
    (hF0 : ((backTo cpos (starEach (e :: es) X.env)).all (fun x => !x.1) && (backToKw cpos (keywordEach [] X.env)).all (fun x => x.1.isSome)  &&
      decide ((e :: es).length + ([] : List Keyword).length + (if ([] : List Keyword).isEmpty then 0 else 1) < 30)) = true := by rfl)
    (hL0 : (apos.endLine == cpos.line) = true := by rfl)
    (hs : starEach (e :: es) X.env = (false, eval e X.env) :: starEach es X.env := by rfl) (hP0 : (backTo cpos (starEach es X.env)).any (·.1) = false := by rfl) :
    LE X B (.Call (.Attribute o name apos) (e :: es) [] cpos) (qBM T rm qo q) := PE.imp (pe_bm pa slot hty hm ho ha hB0 hF0 hL0 hs hP0) fun σ H Q ⟨φ, s, S, Q', hr, ev, q, k⟩ =>
  ⟨φ, s, S, _, hr, ev, q, fun φ1 d S1 v H1 e1 hr1 r1 q1 => ⟨tyM_ok hr1 q1.c r1, ⟨φ1, s, S1, _, hr1, ev.mono e1, q1.q, fun φ2 ds S2 vs H2 e2 hr2 r2 q2 => ⟨φ2, S2, d, ds, Q', hr2, r1.mono e2, r2, q2, k.ext (e1.trans e2)⟩⟩⟩⟩
/-- a list of one's own -/
def lsM (S : List O) (d : D) : Option (Nat × List D) := match d with
  | .ref k => match S[k]? with
    | some (.lst xs) => some (k, xs)
    | _ => none
  | _ => none
theorem HR.lsW {φ : Ph} {H : Hp} {S : List O} {d : D} {k : Nat} {xs : List D} (hr : HR X.K B φ H S) (h : lsM S d = some (k, xs)) {v : V} (r : RV X.K φ H d v) : d = .ref k ∧ S[k]? = some (.lst xs) ∧ ∃ a vs, v = .ref a ∧ φ.own[k]? = some a ∧ H a = some (.lst vs) ∧ RVs X.K φ H xs vs := by
  unfold lsM at h
  split at h
  · split at h
    · rename_i ys e
      cases h
      obtain ⟨a, ea, rfl⟩ := r
      obtain ⟨b, vs, eb, h1, h2⟩ := hr.lstO e
      rw [ea] at eb; cases eb
      exact ⟨rfl, e, a, vs, rfl, ea, h1, h2⟩
    · cases h
  · cases h
/-- append -/
def rmAppend : QM := fun d ds S Q => match ds with
  | [x] => Opt (lsM S d) fun p => Need (p.2.length < sizeLine) (Q .non (S.set p.1 (.lst (p.2 ++ [x]))))
  | _ => False
theorem mm_append : MtR X "list.append" (upM X.K B rmAppend) := MtR.imp mt_append fun x xs H Q ⟨φ, S, d, ds, Q', hr, r, rs, q, k⟩ => by
  unfold rmAppend at q
  split at q
  · obtain ⟨v, w', rfl, r1, r2⟩ := rs
    cases r2
    obtain ⟨⟨kk, ys⟩, h1, h2, q2⟩ := q.get; clear q
    obtain ⟨rfl, hS, a, vs, rfl, ea, h3, h4⟩ := hr.lsW h1 r
    exact ⟨a, vs, v, rfl, rfl, h3, by rw [h4.len]; exact h2, k.write (x := O.lst ys) (y := O.lst _) (d := D.non) hr hS rfl ea (fun e => ⟨_, upd_same, (RVs.app (es := [_]) (ws := [v]) h4 ⟨v, [], rfl, r1, rfl⟩).mono e⟩) (fun _ _ => rfl) q2⟩
  · exact q.elim
/-- insert -/
def rmInsert : QM := fun d ds S Q => match ds with
  | [.int i, x] => Opt (lsM S d) fun p => Need (p.2.length < sizeLine ∧ 0 ≤ i ∧ i < 2 ^ 63) (Q .non (S.set p.1 (.lst (p.2.take i.toNat ++ [x] ++ p.2.drop i.toNat))))
  | _ => False
theorem mm_insert : MtR X "list.insert" (upM X.K B rmInsert) := MtR.imp mt_insert fun x xs H Q ⟨φ, S, d, ds, Q', hr, r, rs, q, k⟩ => by
  unfold rmInsert at q
  split at q
  · obtain ⟨v1, w1, rfl, r1, v, w', rfl, r2, r3⟩ := rs
    cases r3
    cases r1
    obtain ⟨⟨kk, ys⟩, h1, ⟨h2, h0, hb⟩, q2⟩ := q.get; clear q
    obtain ⟨rfl, hS, a, vs, rfl, ea, h3, h4⟩ := hr.lsW h1 r
    refine ⟨a, vs, _, v, rfl, rfl, h3, by rw [h4.len]; exact h2, h0, hb, ?_⟩
    exact k.write (x := O.lst ys) (y := O.lst _) (d := D.non) hr hS rfl ea (fun e => ⟨_, upd_same, (((h4.take _).app (es := [_]) (ws := [v]) ⟨v, [], rfl, r2, rfl⟩).app (h4.drop _)).mono e⟩) (fun _ _ => rfl) q2
  · exact q.elim
/-- count of a number in a list of numbers -/
def rmCount : QM := fun d ds S Q => match ds with
  | [.int i] => Opt (lsOf S d) fun xs => Opt (asIs xs) fun ns => Q (.int (ns.count i : Nat)) S
  | _ => False
theorem mm_count : MtR X "list.count" (upM X.K B rmCount) := MtR.imp mt_lcount fun x xs H Q ⟨φ, S, d, ds, Q', hr, r, rs, q, k⟩ => by
  unfold rmCount at q
  split at q
  · obtain ⟨v, w', rfl, r1, r2⟩ := rs
    cases r2
    cases r1
    obtain ⟨xs, h1, q⟩ := q.get
    obtain ⟨ns, h2, q⟩ := q.get
    obtain ⟨a, vs, rfl, h3, h4⟩ := hr.ls h1 r
    rw [asIs_ok h2 h4] at h3
    exact ⟨a, ns, _, rfl, rfl, .inl (.inl h3), k.here (d := D.int _) hr rfl q⟩
  · exact q.elim
/-- join of texts -/
def asSs : List D → Option (List Str)
  | [] => some []
  | .str b :: r => (asSs r).map (b :: ·)
  | _ => none
theorem asSs_ok {K : PySem.W.Frag} {φ : Ph} {H : Hp} : ∀ {ds : List D} {vs : List V} {bs : List Str}, asSs ds = some bs → RVs K φ H ds vs → vs = bs.map V.str
  | [], _, _, h, r => by cases h; cases r; rfl
  | d :: ds, _, bs, h, ⟨v, ws, e, r1, r2⟩ => by
    subst e
    cases d <;> first | (cases h; done) | skip
    cases e2 : asSs ds with
    | none => simp [asSs, e2] at h
    | some cs =>
      simp [asSs, e2] at h
      subst h
      cases r1
      rw [asSs_ok e2 r2]; rfl
theorem asSs_map {α : Type} (f : α → Str) (l : List α) : asSs (l.map fun x => D.str (f x)) = some (l.map f) := by
  induction l with
  | nil => rfl
  | cons x r ih => simp [asSs, ih]
def qJoin (qo qe : QE) : QE := fun s S Q => qo s S fun d S1 => match d with
  | .str a => qe s S1 fun l S2 => Opt (itemsOf S2 l) fun xs => Opt (asSs xs) fun ys => Need ((ys.map (·.length)).sum + ys.length * a.length ≤ 16777216) (Q (.str (Txt.join a ys)) S2)
  | _ => False
theorem le_join {o e : Expr} {qo qe : QE} {apos pos : Pos} (ho : LE X B o qo) (he : LE X B e qe) (hs : starEach [e] X.env = [(false, eval e X.env)] := by rfl) (hbase : attributeBase o "join" X.env (eval o X.env) = eval o X.env := by rfl) (hline : (apos.endLine == pos.line) = true := by rfl) :
    LE X B (.Call (.Attribute o "join" apos) [e] [] pos) (qJoin qo qe) := PE.imp (pe_join ho he hs hbase hline) fun σ H Q ⟨φ, s, S, Q', hr, ev, q, k⟩ => ⟨φ, s, S, _, hr, ev, q, fun φ1 d S1 v H1 e1 hr1 r1 q1 => by
  split at q1
  · rename_i a
    cases r1
    refine ⟨⟨a, rfl⟩, φ1, s, S1, _, hr1, ev.mono e1, q1, fun φ2 d2 S2 v2 H2 e2 hr2 r2 q2 => ?_⟩
    obtain ⟨xs, h1, q2⟩ := Opt.get q2
    obtain ⟨ys, h2, h3, q2⟩ := q2.get
    obtain ⟨p, vs, rfl, h4, h5⟩ := hr2.items h1 r2
    have h6 := asSs_ok h2 h5
    subst h6
    exact ⟨a, p, ys, rfl, rfl, h4, h3, k _ (.str _) _ _ _ (e1.trans e2) hr2 rfl q2⟩
  · exact q1.elim⟩
end
end LC

set_option Elab.async false
set_option linter.all false
set_option maxRecDepth 100000
set_option maxHeartbeats 5000000
/-! LD4: statements, targets, calls of own defs, fields, instances. -/
namespace LC
open PySem PySem.Spec
open PyProof.Rows L2

/-! ### statements -/
section
variable {X : Cx} {B : Bs} {st : Stmt} {rest body : List Stmt} {qs qt : QS} {e : Expr} {qe : QE} {pos : Pos}
theorem EV.set {φ : Ph} {H : Hp} {s : Sl} {σ : L2.St} {i : Nat} {d : D} {v : V} (ev : EV X.K φ H s σ) (r : RV X.K φ H d v) : EV X.K φ H (s.set i (some d)) (σ.set i (some v)) := by
  refine ⟨by simp [ev.len], fun j x q => ?_⟩
  by_cases hj : j = i
  · subst hj
    have hl : j < s.length := by
      have := (List.getElem?_eq_some_iff.mp q).1
      simpa using this
    rw [List.getElem?_set_self hl] at q
    cases q
    exact ⟨v, by rw [List.getElem?_set_self (by rw [ev.len]; exact hl)], r⟩
  · rw [List.getElem?_set_ne (Ne.symm hj)] at q
    obtain ⟨u, h1, h2⟩ := ev.at' j x q
    exact ⟨u, by rw [List.getElem?_set_ne (Ne.symm hj)]; exact h1, h2⟩
theorem EV.wipe {φ : Ph} {H : Hp} {s : Sl} {σ : L2.St} {i : Nat} (ev : EV X.K φ H s σ) : EV X.K φ H (s.set i none) (σ.set i none) := by
  refine ⟨by simp [ev.len], fun j x q => ?_⟩
  by_cases hj : j = i
  · subst hj
    have hl : j < s.length := by
      have := (List.getElem?_eq_some_iff.mp q).1
      simpa using this
    rw [List.getElem?_set_self hl] at q
    cases q
  · rw [List.getElem?_set_ne (Ne.symm hj)] at q
    obtain ⟨u, h1, h2⟩ := ev.at' j x q
    exact ⟨u, by rw [List.getElem?_set_ne (Ne.symm hj)]; exact h1, h2⟩
def qNext : QS := fun D s S => D.nx s S
def qSeq (a b : QS) : QS := fun D s S => a { D with nx := b D } s S
theorem lss_nil : LSs X B [] qNext := PSs.imp pss_nil fun D σ H ⟨φ, s, S, D', hr, ev, q, ek⟩ => ek.nx _ _ _ _ _ Ext.refl hr ev q
theorem lss_cons (h1 : LS X B st qs) (h2 : LSs X B rest qt) : LSs X B (st :: rest) (qSeq qs qt) := PSs.imp (pss_cons h1 h2) fun D σ H ⟨φ, s, S, D', hr, ev, q, ek⟩ =>
  ⟨φ, s, S, { D' with nx := qt D' }, hr, ev, q, ek.seq (fun φ' H' S' s' σ' ek' hr' ev' q' => ⟨φ', s', S', D', hr', ev', q', ek'⟩) rfl rfl rfl⟩
/-- dead slots are forgotten -/
def wipeD (s : Sl) : List Nat → Sl
  | [] => s
  | v :: vs => (wipeD s vs).set v none
theorem EV.forget {φ : Ph} {H : Hp} {s : Sl} {σ : L2.St} {i : Nat} (ev : EV X.K φ H s σ) : EV X.K φ H (s.set i none) σ := by
  refine ⟨by simp [ev.len], fun j x q => ?_⟩
  by_cases hj : j = i
  · subst hj
    have hl : j < s.length := by
      have := (List.getElem?_eq_some_iff.mp q).1
      simpa using this
    rw [List.getElem?_set_self hl] at q
    cases q
  · rw [List.getElem?_set_ne (Ne.symm hj)] at q
    exact ev.at' j x q
theorem EV.forgets {φ : Ph} {H : Hp} {s : Sl} {σ : L2.St} (ev : EV X.K φ H s σ) : ∀ {vs : List Nat}, EV X.K φ H (wipeD s vs) σ
  | [] => ev
  | _ :: _ => (EV.forgets ev).forget
def qSeqW (vs : List Nat) (a b : QS) : QS := fun D s S => a { D with nx := fun s' S' => b D (wipeD s' vs) S' } s S
theorem lss_consW (vs : List Nat) (h1 : LS X B st qs) (h2 : LSs X B rest qt) : LSs X B (st :: rest) (qSeqW vs qs qt) := PSs.imp (pss_cons h1 h2) fun D σ H ⟨φ, s, S, D', hr, ev, q, ek⟩ =>
  ⟨φ, s, S, { D' with nx := fun s' S' => qt D' (wipeD s' vs) S' }, hr, ev, q, ek.seq (fun φ' H' S' s' σ' ek' hr' ev' q' => ⟨φ', _, S', D', hr', ev'.forgets, q', ek'⟩) rfl rfl rfl⟩
def qDrop (qe : QE) : QS := fun D s S => qe s S fun _ S1 => D.nx s S1
theorem ls_expr (he : LE X B e qe) (hs : swapsWith e none pos.line X.env = pure false := by rfl) : LS X B (.Expr e pos) (qDrop qe) := PS.imp (ps_expr he hs) fun D σ H ⟨φ, s, S, D', hr, ev, q, ek⟩ =>
  ⟨φ, s, S, _, hr, ev, q, fun φ1 d S1 v H1 e1 hr1 r1 q1 => ek.nx _ _ _ _ _ e1 hr1 (ev.mono e1) q1⟩
def qRet (qe : QE) : QS := fun D s S => qe s S D.rt
theorem ls_ret (he : LE X B e qe) : LS X B (.Return (some e) pos) (qRet qe) := PS.imp (ps_ret he) fun D σ H ⟨φ, s, S, D', hr, ev, q, ek⟩ =>
  ⟨φ, s, S, _, hr, ev, q, fun φ1 d S1 v H1 e1 hr1 r1 q1 => ek.rt _ _ _ _ _ e1 hr1 r1 q1⟩
def qIfS (t : QT) (a b : QS) : QS := fun D s S => t s S fun c S1 => Br c (a D s S1) (b D s S1)
theorem ls_if {c : Expr} {a b : List Stmt} {t : QT} {qa qb : QS} (hc : LT X B c t) (ha : LSs X B a qa) (hb : LSs X B b qb) : LS X B (.If c a b pos) (qIfS t qa qb) := PS.imp (ps_if hc ha hb) fun D σ H ⟨φ, s, S, D', hr, ev, q, ek⟩ =>
  ⟨φ, s, S, _, hr, ev, q, fun φ1 d S1 v H1 e1 hr1 r1 q1 => by
    cases r1
    cases d with
    | true => exact ⟨φ1, s, S1, D', hr1, ev.mono e1, q1.t rfl, ek.ext e1⟩
    | false => exact ⟨φ1, s, S1, D', hr1, ev.mono e1, q1.f rfl, ek.ext e1⟩⟩

/-! ### targets -/
abbrev QG := D → Sl → List O → (Sl → List O → Prop) → Prop
def KontG (K : PySem.W.Frag) (B : Bs) (φ : Ph) (H : Hp) (Q' : Sl → List O → Prop) (Q : L2.St → Hp → Prop) : Prop :=
  ∀ φ' s' S' σ' H', Ext K φ φ' H H' → HR K B φ' H' S' → EV K φ' H' s' σ' → Q' s' S' → Q σ' H'
def UG (K : PySem.W.Frag) (B : Bs) (g : QG) : TG := fun v σ H Q => ∃ φ d s S Q', HR K B φ H S ∧ EV K φ H s σ ∧ RV K φ H d v ∧ g d s S Q' ∧ KontG K B φ H Q' Q
abbrev LG (X : Cx) (B : Bs) (e : Expr) (g : QG) : Prop := PG X e (UG X.K B g)
theorem PG.imp {e : Expr} {t t' : TG} (h : PG X e t) (i : ∀ v σ H Q, t' v σ H Q → t v σ H Q) : PG X e t' := ⟨fun pins s σ H v u Q I r w => h.run pins s σ H v u Q I r (i _ _ _ _ w)⟩
def qgName (i : Nat) : QG := fun d s S Q => Q (s.set i (some d)) S
theorem lg_name {i : Nat} {x : Str} (hN : X.N.Nodup) (hi : X.N[i]? = some x) (hx : Loc X.env.scope x := by first | exact .inl rfl | exact .inr rfl) (hf : X.fn x = true ∨ X.env.scope.names.lookup x = some .local := by first | exact .inl rfl | exact .inr rfl | assumption) : LG X B (.Name x pos) (qgName i) :=
  PG.imp (pg_name hN hi hx hf) fun v σ H Q ⟨φ, d, s, S, Q', hr, ev, r, q, k⟩ => k _ _ _ _ _ Ext.refl hr (ev.set r) q
/-- target = e -/
def qAsg (qe : QE) (g : QG) : QS := fun D s S => qe s S fun d S1 => g d s S1 D.nx
theorem up_asg {g : QG} {D : Ends} {σ : L2.St} {H : Hp} (h : US X.K B (qAsg qe g) D σ H) : tAsg (UP X.K B (rD X.K) qe) (UG X.K B g) D σ H := by
  obtain ⟨φ, s, S, D', hr, ev, q, ek⟩ := h
  exact ⟨φ, s, S, _, hr, ev, q, fun φ1 d S1 v H1 e1 hr1 r1 q1 => ⟨φ1, d, s, S1, D'.nx, hr1, ev.mono e1, r1, q1, fun φ2 s2 S2 σ2 H2 e2 hr2 ev2 q2 => ek.nx _ _ _ _ _ (e1.trans e2) hr2 ev2 q2⟩⟩
theorem ls_asg {tg : Expr} {g : QG} (he : LE X B e qe) (hg : LG X B tg g) (hs : swapsWithSole [tg] e pos.line X.env = pure false := by rfl) (hw : swappedStores [tg] e X.env = pure none := by rfl)
    (h1 : (assignEach [tg] X.env).map (·.2) = [assign tg X.env] := by rfl) : LS X B (.Assign [tg] e pos) (qAsg qe g) := PS.imp (ps_asg he hg hs hw h1) fun _ _ _ => up_asg
def qSet (i : Nat) (qe : QE) : QS := fun D s S => qe s S fun d S1 => D.nx (s.set i (some d)) S1
theorem ls_set (i : Nat) {x : Str} {pos' : Pos} (he : LE X B e qe) (hN : X.N.Nodup) (hi : X.N[i]? = some x := by rfl) (hx : Loc X.env.scope x := by first | exact .inl rfl | exact .inr rfl) (hs : swapsWith e (some (.Name x pos')) pos.line X.env = pure false := by rfl) (hf : X.fn x = true ∨ X.env.scope.names.lookup x = some .local := by first | exact .inl rfl | exact .inr rfl | assumption) :
    LS X B (.Assign [.Name x pos'] e pos) (qSet i qe) := PS.imp (ps_set hN hi hx he hs hf) fun D σ H ⟨φ, s, S, D', hr, ev, q, ek⟩ =>
  ⟨φ, s, S, _, hr, ev, q, fun φ1 d S1 v H1 e1 hr1 r1 q1 => ek.nx _ _ _ _ _ e1 hr1 ((ev.mono e1).set r1) q1⟩
/-- o[i] = .. -/
abbrev QSt := D → D → D → List O → (List O → Prop) → Prop
def upSet (K : PySem.W.Frag) (B : Bs) (t : QSt) : TSet := fun o i v H Q => ∃ φ S do' di dv Q', HR K B φ H S ∧ RV K φ H do' o ∧ RV K φ H di i ∧ RV K φ H dv v ∧ t do' di dv S Q' ∧ ∀ φ' S' H', Ext K φ φ' H H' → HR K B φ' H' S' → Q' S' → Q H'
theorem PSet.imp {t t' : TSet} (h : PSet X t) (i : ∀ o j v H Q, t' o j v H Q → t o j v H Q) : PSet X t' := fun pins s σ H o j v ov iv u Q I r1 r2 r3 w => h pins s σ H o j v ov iv u Q I r1 r2 r3 (i _ _ _ _ _ w)
def qgSub (qo qi : QE) (t : QSt) : QG := fun d s S Q => qo s S fun o S1 => qi s S1 fun i S2 => t o i d S2 fun S3 => Q s S3
theorem lg_sub {o i : Expr} {qo qi : QE} {t : QSt} (ho : LE X B o qo) (hi : LE X B i qi) (hs : PSet X (upSet X.K B t))
    (ha : ∀ v,
      assign (.Subscript o i pos) X.env v = (do
      let v1 ← holding [v] (eval o X.env); let v2 ← holding [v, v1] (eval i X.env)
      standAt pos
      holding [v, v1, v2] (setItem v1 v2 v)
      release [v, v1, v2] []) := by intro _; rfl) : LG X B (.Subscript o i pos) (qgSub qo qi t) := PG.imp (pg_sub ho hi hs ha) fun v σ H Q ⟨φ, d, s, S, Q', hr, ev, r, q, k⟩ =>
  ⟨φ, s, S, _, hr, ev, q, fun φ1 d1 S1 v1 H1 e1 hr1 r1 q1 => ⟨φ1, s, S1, _, hr1, ev.mono e1, q1, fun φ2 d2 S2 v2 H2 e2 hr2 r2 q2 =>
    ⟨φ2, S2, d1, d2, d, _, hr2, r1.mono e2, r2, r.mono (e1.trans e2), q2, fun φ3 S3 H3 e3 hr3 q3 => k _ _ _ _ _ (e1.trans (e2.trans e3)) hr3 (ev.mono (e1.trans (e2.trans e3))) q3⟩⟩⟩
def otList : QSt := fun o i d S Q => match i with
  | .int z => Opt (lsM S o) fun p => Opt (ixN p.2.length z) fun j => Q (S.set p.1 (.lst (p.2.set j d)))
  | _ => False
theorem st_list : PSet X (upSet X.K B otList) := PSet.imp set_list fun o i v H Q ⟨φ, S, d1, d2, d3, Q', hr, r1, r2, r3, q, k⟩ => by
  unfold otList at q
  split at q
  · cases r2
    obtain ⟨⟨kk, xs⟩, h1, q1⟩ := q.get; clear q
    obtain ⟨j, h2, q2⟩ := q1.get; clear q1
    obtain ⟨rfl, hS, a, vs, rfl, ea, h3, h4⟩ := hr.lsW h1 r1
    obtain ⟨e, hr'⟩ := hr.write (o := .lst (vs.set j v)) (x := O.lst xs) (y := O.lst (xs.set j d3)) hS rfl ea fun e => ⟨_, upd_same, (RVs.set r3 j h4).mono e⟩
    exact ⟨a, vs, _, j, rfl, rfl, h3, by rw [h4.len]; exact h2, k _ _ _ e hr' q2⟩
  · exact q.elim
end

/-! ### own defs: promises over data -/
abbrev EDt := Addr → List (Str × D) → List O → Prop
abbrev SpD := List D → List O → (D → List O → Prop) → EDt → Prop
/-- an exception of the class at C with its fields -/
def XRel (K : PySem.W.Frag) (φ : Ph) (H : Hp) (C : Addr) (fs : List (Str × D)) (cls : Value) (d : Option Addr) : Prop := cls = .ref C ∧ ∃ dx gs, d = some dx ∧ H dx = some (.xd gs) ∧ RKV K φ H fs gs
def upF (K : PySem.W.Frag) (sp : SpD) : Sp := fun vs H Q E => ∃ φ ds S Q' E' T, Rel K φ H S ∧ RVs K φ H ds vs ∧ LamX.Tabs T H ∧ sp ds S Q' E' ∧ (∀ φ' d S' v H', Ext K φ φ' H H' → Rel K φ' H' S' → LamX.Tabs T H' → RV K φ' H' d v → Q' d S' → Q v H') ∧
  (∀ φ' C fs S' cls d H', Ext K φ φ' H H' → Rel K φ' H' S' → LamX.Tabs T H' → XRel K φ' H' C fs cls d → E' C fs S' → E cls d H')
/-- the wish about exceptions, with slots -/
abbrev WD := Addr → List (Str × D) → Sl → List O → Prop
def WL (K : PySem.W.Frag) (B : Bs) (W' : WD) (W : WX) : Prop := ∀ φ' C fs s S' cls d σ H', HR K B φ' H' S' → EV K φ' H' s σ → XRel K φ' H' C fs cls d → W' C fs s S' → W cls d σ H'
def W0 : WD := fun _ _ _ _ => False
theorem WL0 {X : Cx} {B : Bs} {W : WX} : WL X.K B W0 W := fun _ _ _ _ _ _ _ _ _ _ _ _ h => h.elim
section
variable {X : Cx} {B : Bs} {k : Nat} {f C : Addr} {fd : FuncData} {ps : List Str} {sp : SpD} {dds : List D} {dvs : List V} {ds : List Value} {W : WX} {W' : WD} {x m : Str} {p pos apos : Pos} {e o : Expr} {es : List Expr} {q : QA} {qo : QE}
def qCall (sp : SpD) (dds : List D) (W' : WD) (q : QA) : QE := fun s S Q => q s S fun ds S1 => sp (ds ++ dds) S1 Q fun C fs S' => W' C fs s S'
/-- data that stand for values anywhere -/
def RVc (K : PySem.W.Frag) (ds : List D) (vs : List V) : Prop := ∀ φ H, RVs K φ H ds vs
theorem RVc.nil {K : PySem.W.Frag} : RVc K [] [] := fun _ _ => rfl
theorem upF_at {φ : Ph} {H : Hp} {S : List O} {s : Sl} {σ : L2.St} {ds : List D} {vs : List V} {Q' : D → List O → Prop} {Q : VK} (hr : HR X.K B φ H S) (ev : EV X.K φ H s σ) (r : RVs X.K φ H ds vs) (wl : WL X.K B W' W)
    (h : sp ds S Q' fun C fs S' => W' C fs s S') (k : Kont X.K B (rD X.K) φ H Q' Q) : upF X.K sp vs H Q (WE W σ) :=
  ⟨φ, ds, S, Q', _, B.T, hr.rel, r, hr.tab, h, fun φ' d S' v H' e1 r1 t1 rv q => k _ _ _ _ _ e1 (hr.mono e1 r1 t1) rv q, fun φ' C fs S' cls d H' e1 r1 t1 xr q => wl _ _ _ _ _ _ _ _ _ (hr.mono e1 r1 t1) (ev.mono e1) xr q⟩
theorem le_call (F : FnOk X.prog X.w X.K X.mg X.base (L2.CX X.prog X.w) k f fd ps (upF X.K sp)) (hr : Room k X.A) (hg : Gl X x) (hm : X.mg x = some (.ref f)) (hk : PySem.W.keepIn X.K (.ref f) = true) (hb : Binds X.K fd ps ds) (hd : Vals dvs ds) (hdd : RVc X.K dds dvs) (tk : Takes X W) (wl : WL X.K B W' W)
    (ha : LA X B (e :: es) q) (hdb : (x == ("__debug__" : Str)) = false := by decide) (he : starEach (e :: es) X.env = (false, eval e X.env) :: starEach es X.env := by rfl) (hpl : (backTo pos (starEach es X.env)).any (·.1) = false := by rfl) :
    LE X B (.Call (.Name x p) (e :: es) [] pos) (qCall sp dds W' q) := PE.imp (pe_callSD F hr hg hm hk hb hd (E := WE W) (fun σ => passAt tk σ) ha hdb he hpl) fun σ H Q ⟨φ, s, S, Q', hr, ev, q, k⟩ =>
  ⟨φ, s, S, _, hr, ev, q, fun φ1 ds S1 vs H1 e1 hr1 r1 q1 => upF_at hr1 (ev.mono e1) (r1.app (hdd _ _)) wl q1 (k.ext e1)⟩
theorem RKV.lookup {K : PySem.W.Frag} {φ : Ph} {H : Hp} {m : Str} : ∀ {fs : List (Str × D)} {gs : List (Str × V)}, RKV K φ H fs gs → (match fs.lookup m with | some d => ∃ v, gs.lookup m = some v ∧ RV K φ H d v | none => gs.lookup m = none)
  | [], _, h => by cases h; rfl
  | (n, d) :: fs, _, ⟨v, r, e, h1, h2⟩ => by
    subst e
    have ih := RKV.lookup (m := m) h2
    by_cases hm : m = n
    · subst hm
      simp [List.lookup]
      exact h1
    · have hb : (m == n) = false := by simpa using hm
      simp only [List.lookup, hb]
      exact ih
theorem RKV.lookup_none {K : PySem.W.Frag} {φ : Ph} {H : Hp} {m : Str} {fs : List (Str × D)} {gs : List (Str × V)} (r : RKV K φ H fs gs) (h : fs.lookup m = none) : gs.lookup m = none := by
  have := RKV.lookup (m := m) r
  rw [h] at this
  exact this
theorem RKV.lookup_some {K : PySem.W.Frag} {φ : Ph} {H : Hp} {m : Str} {d : D} {fs : List (Str × D)} {gs : List (Str × V)} (r : RKV K φ H fs gs) (h : fs.lookup m = some d) : ∃ v, gs.lookup m = some v ∧ RV K φ H d v := by
  have := RKV.lookup (m := m) r
  rw [h] at this
  exact this
theorem RKV.len {κ : Type} {K : PySem.W.Frag} {φ : Ph} {H : Hp} : ∀ {fs : List (κ × D)} {gs : List (κ × V)}, RKV K φ H fs gs → gs.length = fs.length
  | [], _, h => by cases h; rfl
  | (n, d) :: fs, _, ⟨v, r, e, h1, h2⟩ => by subst e; simp [RKV.len h2]
/-- an instance: its class, its fields -/
def insOf (S : List O) (d : D) : Option (Addr × List (Str × D)) := match d with
  | .ins C ns xs => some (C, ns.zip xs)
  | .ref k => match S[k]? with
    | some (.ins C fs) => some (C, fs)
    | _ => none
  | _ => none
theorem HR.ins {φ : Ph} {H : Hp} {S : List O} {d : D} {C : Addr} {fs : List (Str × D)} (hr : HR X.K B φ H S) (h : insOf S d = some (C, fs)) {v : V} (r : RV X.K φ H d v) : ∃ a dx gs, v = .ref a ∧ H a = some (.ins C dx gs) ∧ RKV X.K φ H fs gs := by
  unfold insOf at h
  split at h
  · cases h
    obtain ⟨p, dx, vs, rfl, _, h1, h2, h3⟩ := r
    exact ⟨p, dx, _, rfl, h1, h3.zip h2⟩
  · split at h
    · rename_i e
      cases h
      obtain ⟨a, ea, rfl⟩ := r
      obtain ⟨b, eb, dx, gs, h1, h2⟩ := hr.rel.ob _ _ e
      rw [ea] at eb; cases eb
      exact ⟨a, dx, gs, rfl, h1, h2⟩
    · cases h
  · cases h
/-- an instance of one's own -/
def insM (S : List O) (d : D) : Option (Nat × Addr × List (Str × D)) := match d with
  | .ref k => match S[k]? with
    | some (.ins C fs) => some (k, C, fs)
    | _ => none
  | _ => none
theorem HR.insW {φ : Ph} {H : Hp} {S : List O} {d : D} {k : Nat} {C : Addr} {fs : List (Str × D)} (hr : HR X.K B φ H S) (h : insM S d = some (k, C, fs)) {v : V} (r : RV X.K φ H d v) : d = .ref k ∧ S[k]? = some (.ins C fs) ∧ ∃ a dx gs, v = .ref a ∧ φ.own[k]? = some a ∧ H a = some (.ins C dx gs) ∧ RKV X.K φ H fs gs := by
  unfold insM at h
  split at h
  · split at h
    · rename_i e
      cases h
      obtain ⟨a, ea, rfl⟩ := r
      obtain ⟨b, eb, dx, gs, h1, h2⟩ := hr.rel.ob _ _ e
      rw [ea] at eb; cases eb
      exact ⟨rfl, e, a, dx, gs, rfl, ea, h1, h2⟩
    · cases h
  · cases h
/-- o.m(..) of an instance -/
def qMeth (C : Addr) (m : Str) (sp : SpD) (dds : List D) (W' : WD) (qo : QE) (q : QA) : QE := fun s S Q => qo s S fun d S1 => Opt (insOf S1 d) fun p => Need (p.1 = C ∧ p.2.lookup m = none) (q s S1 fun ds S2 => sp (d :: (ds ++ dds)) S2 Q fun C fs S' => W' C fs s S')
theorem up_meth {σ : L2.St} {H : Hp} {Q : VK} (hdd : RVc X.K dds dvs) (wl : WL X.K B W' W) (h : UP X.K B (rD X.K) (qMeth C m sp dds W' qo q) σ H Q) : UP X.K B (rD X.K) qo σ H fun x H1 => ∃ a dx fs, x = .ref a ∧ H1 a = some (.ins C dx fs) ∧ fs.lookup m = none ∧
    UP X.K B (rDs X.K) q σ H1 fun vs H2 => upF X.K sp (x :: (vs ++ dvs)) H2 Q (WE W σ) := by
  obtain ⟨φ, s, S, Q', hr, ev, q, k⟩ := h
  refine ⟨φ, s, S, _, hr, ev, q, fun φ1 d S1 v H1 e1 hr1 r1 q1 => ?_⟩
  obtain ⟨⟨C', fs⟩, h1, ⟨h2, h3⟩, q2⟩ := Opt.get q1; clear q1
  have h2' : C' = C := h2
  subst h2'
  obtain ⟨a, dx, gs, rfl, h4, h5⟩ := hr1.ins h1 r1
  refine ⟨a, dx, gs, rfl, h4, h5.lookup_none h3, φ1, s, S1, _, hr1, ev.mono e1, q2, fun φ2 ds S2 vs H2 e2 hr2 r2 q2 => ?_⟩
  exact upF_at hr2 (ev.mono (e1.trans e2)) (show RVs X.K φ2 H2 (d :: (ds ++ dds)) (V.ref a :: (vs ++ dvs)) from ⟨_, _, rfl, r1.mono e2, r2.app (hdd _ _)⟩) wl q2 (k.ext (e1.trans e2))
end

/-! ### methods, instances -/
/-- a call of a method is read as such here -/
def McAt (X : Cx) (o : Expr) (m : Str) (es : List Expr) (apos pos : Pos) : Prop := ∃ pl : Sem Bool, eval (.Call (.Attribute o m apos) es [] pos) X.env = (do let ov ← eval o X.env; standAt apos.atName; let (f, first) ← holding [ov] (getMethod ov m pl); callWith pos f first (backTo pos (starEach es X.env)) (backToKw pos (keywordEach [] X.env)))
section
variable {X : Cx} {B : Bs} {k : Nat} {f C : Addr} {fd : FuncData} {ps : List Str} {sp : Sp} {spd : SpD} {dds : List D} {dvs : List V} {ds : List Value} {W : WX} {W' : WD} {x m : Str} {p pos apos : Pos} {e o : Expr} {es : List Expr} {q : QA} {qo : QE}
/-- o.m(..), with a wish at the slots -/
def tMtE (C : Addr) (m : Str) (sp : Sp) (dvs : List V) (E : L2.St → XK) (ta : TE) (t : TA) : TE := fun σ H Q => ta σ H fun y G => ∃ aa dd gs, y = .ref aa ∧ G aa = some (.ins C dd gs) ∧ gs.lookup m = none ∧ t σ G fun vs H2 => sp (y :: (vs ++ dvs)) H2 Q (E σ)
theorem pe_mtE {ta : TE} {t : TA} {E : L2.St → XK} (ho : PE X o ta) (c : Cls X.K C) (hm : Meth X.K C m f) (F : FnOk X.prog X.w X.K X.mg X.base (L2.CX X.prog X.w) k f fd ps sp) (rm : Room k X.A) (bd : Binds X.K fd ps ds) (vd : Vals dvs ds)
    (px : ∀ σ, PassesAt (L2.CX X.prog X.w) X σ (E σ)) (ha : PA X (e :: es) t) (mc : McAt X o m (e :: es) apos pos) (st : starEach (e :: es) X.env = (false, eval e X.env) :: starEach es X.env) (pn : (backTo pos (starEach es X.env)).any (·.1) = false) : PE X (.Call (.Attribute o m apos) (e :: es) [] pos) (tMtE C m sp dvs E ta t) := ⟨fun pins s σ H Q I h => by
  obtain ⟨pl, mc⟩ := mc
  refine PySem.W.methodCall_KW (pl := pl) (thn (ho.run pins s σ H _ I h) fun w0 s1 z => ?_) mc
  obtain ⟨y, G, J, ry, aa, dd, gs, ey, ea, lk, q⟩ := z
  subst ey
  have ew : w0 = Value.ref aa := ry
  subst ew
  refine getmeth_ok J ea c hm lk (PySem.W.callWith_K (first := [.ref aa]) (h₀ := X.base) J.ok.mod.kin hm.kp (thn (ha.run pos pins s1 σ G _ J q) fun us s2 z2 => ?_) st pn)
  obtain ⟨vs, H2, J2, r, q2⟩ := z2
  exact ⟨J2.kIn, run_fnSD (us := .ref aa :: us) (vs := .ref aa :: vs) F rm bd vd (px σ) J2 (.cons rfl r) q2⟩⟩
theorem pe_mtE0 {ta : TE} {E : L2.St → XK} (ho : PE X o ta) (c : Cls X.K C) (hm : Meth X.K C m f) (F : FnOk X.prog X.w X.K X.mg X.base (L2.CX X.prog X.w) k f fd ps sp) (rm : Room k X.A) (bd : Binds X.K fd ps ds) (vd : Vals dvs ds)
    (px : ∀ σ, PassesAt (L2.CX X.prog X.w) X σ (E σ)) (mc : McAt X o m [] apos pos) : PE X (.Call (.Attribute o m apos) [] [] pos) (tMtE C m sp dvs E ta tNil) := ⟨fun pins s σ H Q I h => by
  obtain ⟨pl, mc⟩ := mc
  refine PySem.W.methodCall_KW (pl := pl) (thn (ho.run pins s σ H _ I h) fun w0 s1 z => ?_) mc
  obtain ⟨y, G, J, ry, aa, dd, gs, ey, ea, lk, q⟩ := z
  subst ey
  have ew : w0 = Value.ref aa := ry
  subst ew
  exact getmeth_ok J ea c hm lk (PySem.W.callWith_K0 (first := [.ref aa]) J.kIn hm.kp (run_fnSD (us := [.ref aa]) (vs := [.ref aa]) F rm bd vd (px σ) J (.cons rfl .nil) q))⟩
theorem le_meth (ho : LE X B o qo) (c : Cls X.K C) (hm : Meth X.K C m f) (F : FnOk X.prog X.w X.K X.mg X.base (L2.CX X.prog X.w) k f fd ps (upF X.K spd)) (rm : Room k X.A) (bd : Binds X.K fd ps ds) (vd : Vals dvs ds) (hdd : RVc X.K dds dvs) (tk : Takes X W) (wl : WL X.K B W' W) (ha : LA X B (e :: es) q)
    (mc : McAt X o m (e :: es) apos pos := by exact ⟨_, rfl⟩) (st : starEach (e :: es) X.env = (false, eval e X.env) :: starEach es X.env := by rfl) (pn : (backTo pos (starEach es X.env)).any (·.1) = false := by rfl) : LE X B (.Call (.Attribute o m apos) (e :: es) [] pos) (qMeth C m spd dds W' qo q) :=
  PE.imp (pe_mtE ho c hm F rm bd vd (E := WE W) (fun σ => passAt tk σ) ha mc st pn) fun _ _ _ => up_meth hdd wl
theorem le_meth0 (ho : LE X B o qo) (c : Cls X.K C) (hm : Meth X.K C m f) (F : FnOk X.prog X.w X.K X.mg X.base (L2.CX X.prog X.w) k f fd ps (upF X.K spd)) (rm : Room k X.A) (bd : Binds X.K fd ps ds) (vd : Vals dvs ds) (hdd : RVc X.K dds dvs) (tk : Takes X W) (wl : WL X.K B W' W)
    (mc : McAt X o m [] apos pos := by exact ⟨_, rfl⟩) : LE X B (.Call (.Attribute o m apos) [] [] pos) (qMeth C m spd dds W' qo qNil) := PE.imp (pe_mtE0 ho c hm F rm bd vd (E := WE W) (fun σ => passAt tk σ) mc) fun σ H Q h => by
  obtain ⟨φ, s, S, Q', hr, ev, q, k⟩ := up_meth hdd wl h
  exact ⟨φ, s, S, Q', hr, ev, q, fun φ1 d S1 v H1 e1 hr1 r1 q1 => by
    obtain ⟨a, dx, gs, e2, e3, e4, φ2, s2, S2, Q2, hr2, ev2, q2, k2⟩ := k φ1 d S1 v H1 e1 hr1 r1 q1
    exact ⟨a, dx, gs, e2, e3, e4, k2 φ2 [] S2 [] _ Ext.refl hr2 rfl q2⟩⟩
/-- C(..): a new instance, then its __init__ -/
theorem run_mk {fI : Addr} {E : L2.St → XK} {pins : List (Addr × Obj)} {σ : L2.St} {H : Hp} {s : Shared} {Q : VK} {us : List Value} {vs : List V} (M : Mk X.K C fI) (F : FnOk X.prog X.w X.K X.mg X.base (L2.CX X.prog X.w) k fI fd ps sp) (rm : Room (k + 1) X.A) (bd : Binds X.K fd ps ds) (vd : Vals dvs ds)
    (px : PassesAt (L2.CX X.prog X.w) X σ (E σ)) (I : Inv X pins σ H s) (r : Vals vs us) (h : ∀ y dy, H y = none → H dy = none → dy ≠ y → sp (.ref y :: (vs ++ dvs)) (upd (upd H dy (.own y)) y (.ins C dy [])) (fun v H2 => v = .non ∧ Q (.ref y) H2) (E σ)) :
    wpAny (model X.prog X.w) X.A (call (.ref C) us) (EP X pins σ Q) X.xe s := by
  have w := h (s.heap.objs.size + 1) s.heap.objs.size (I.hok.fresh (Nat.le_succ _)) (I.hok.fresh (Nat.le_refl _)) (Nat.ne_of_lt (Nat.lt_succ_self _))
  have J := Inv.made (C := C) I
  have r2 : Vals (V.ref (s.heap.objs.size + 1) :: (vs ++ dvs)) (Value.ref (s.heap.objs.size + 1) :: (us ++ ds)) := .cons rfl (r.append vd)
  have hl : (Value.ref (s.heap.objs.size + 1) :: us ++ ds).length = ps.length := (r2.length.symm.trans (F.len _ _ _ _ w))
  refine wpAny_call (make_map (f := fI) I.kIn M.makes M.init (beq_iff_eq.mp M.fn) (codeAny_mono (F.run _ X.stack _ _ ⟨Value.ref (s.heap.objs.size + 1) :: us, []⟩ (Value.ref (s.heap.objs.size + 1) :: (us ++ ds)) _ _ (E σ) (rm.make C us []) (J.env0.make C us []) (bd _ (Value.ref (s.heap.objs.size + 1) :: us) J.kIn hl) r2 w) fun fl s' z => ?_))
  match fl, z with
  | .error ex, z => exact px pins _ _ ex s' J z
  | .ok (.ret u), z =>
    obtain ⟨v, H', J3, rv, ev, q3⟩ := J.after z
    subst ev
    exact ⟨rv, ⟨V.ref (s.heap.objs.size + 1), H', J3, rfl, q3⟩⟩
  | .ok .next, z => exact False.elim z
  | .ok .brk, z => exact False.elim z
  | .ok .cont, z => exact False.elim z
/-! ### fields -/
/-- where the class is known -/
def qFldC (C : Addr) (qo : QE) (m : Str) : QE := fun s S Q => qo s S fun d S1 => Opt (insOf S1 d) fun p => Need (p.1 = C) (Opt (p.2.lookup m) fun v => Q v S1)
theorem le_fldC {C : Addr} (c : Cls X.K C) (na : NoAttr X.K C m) (he : LE X B o qo) (hb : attributeBase o m X.env (eval o X.env) = eval o X.env := by rfl) : LE X B (.Attribute o m pos) (qFldC C qo m) := PE.imp (pe_fld he hb) fun σ H Q ⟨φ, s, S, Q', hr, ev, q, k⟩ =>
  ⟨φ, s, S, _, hr, ev, q, fun φ1 d S1 v H1 e1 hr1 r1 q1 => by
    obtain ⟨⟨C', fs⟩, h1, h2, q2⟩ := Opt.get q1
    have h2' : C' = C := h2
    subst h2'
    obtain ⟨dv, h4, q3⟩ := q2.get
    obtain ⟨a, dx, gs, rfl, h5, h6⟩ := hr1.ins h1 r1
    obtain ⟨u, h7, h8⟩ := h6.lookup_some h4
    exact ⟨a, _, dx, gs, u, rfl, h5, c, na, h7, k _ _ _ _ _ e1 hr1 h8 q3⟩⟩
def putD (f : Str) (v : D) : List (Str × D) → List (Str × D)
  | [] => [(f, v)]
  | (g, x) :: r => if g = f then (g, v) :: r else (g, x) :: putD f v r
theorem RKV.put {K : PySem.W.Frag} {φ : Ph} {H : Hp} {f : Str} {d : D} {v : V} (r : RV K φ H d v) : ∀ {fs : List (Str × D)} {gs : List (Str × V)}, RKV K φ H fs gs → RKV K φ H (putD f d fs) (putF f v gs)
  | [], _, h => by cases h; exact ⟨v, [], rfl, r, rfl⟩
  | (g, x) :: fs, _, ⟨u, gs, e, h1, h2⟩ => by
    subst e
    show RKV K φ H (if g = f then (g, d) :: fs else (g, x) :: putD f d fs) (if g = f then (g, v) :: gs else (g, u) :: putF f v gs)
    by_cases hg : g = f
    · rw [if_pos hg, if_pos hg]; exact ⟨v, gs, rfl, r, h2⟩
    · rw [if_neg hg, if_neg hg]; exact ⟨u, _, rfl, h1, RKV.put r h2⟩
def qsFld (C : Addr) (qo qv : QE) (m : Str) : QS := fun D s S => qv s S fun dv S1 => qo s S1 fun d S2 => Opt (insM S2 d) fun p => Need (p.2.1 = C) (Br (lenLe 900 p.2.2) (D.nx s (S2.set p.1 (.ins C (putD m dv p.2.2)))) False)
theorem ls_fldC {C : Addr} {value : Expr} {qv : QE} {pos' : Pos} (c : Cls X.K C) (na : NoAttr X.K C m) (ho : LE X B o qo) (hv : LE X B value qv) (hs : swapsWith value (some (.Attribute o m pos')) pos.line X.env = pure false := by rfl) : LS X B (.Assign [.Attribute o m pos'] value pos) (qsFld C qo qv m) :=
  PS.imp (ps_fld ho hv hs) fun D σ H ⟨φ, s, S, D', hr, ev, q, ek⟩ =>
    ⟨φ, s, S, _, hr, ev, q, fun φ1 d1 S1 v1 H1 e1 hr1 r1 q1 => ⟨φ1, s, S1, _, hr1, ev.mono e1, q1, fun φ2 d2 S2 v2 H2 e2 hr2 r2 q2 => by
      obtain ⟨⟨kk, C', fs⟩, h1, h2, q3⟩ := Opt.get q2; clear q2
      obtain ⟨h3, q3⟩ := Br.get q3
      have h2' : C' = C := h2
      subst h2'
      obtain ⟨rfl, hS, a, dx, gs, rfl, ea, h5, h6⟩ := hr2.insW h1 r2
      obtain ⟨e3, hr3⟩ := hr2.write (o := .ins C' dx (putF m v1 gs)) (x := O.ins C' fs) (y := O.ins C' (putD m d1 fs)) hS rfl ea fun e3 => ⟨dx, _, upd_same, (RKV.put (r1.mono e2) h6).mono e3⟩
      exact ⟨a, C', dx, gs, rfl, h5, c, na, by rw [h6.len]; exact Nat.lt_of_le_of_lt (lenLe_ok h3) (by decide), ek.nx _ _ _ _ _ (e1.trans (e2.trans e3)) hr3 (ev.mono (e1.trans (e2.trans e3))) q3⟩⟩⟩
end
end LC

set_option Elab.async false
set_option linter.all false
set_option maxRecDepth 100000
set_option maxHeartbeats 5000000
/-! LD5: what is dropped, what no longer changes, loops. -/
namespace LC
open PySem PySem.Spec
open PyProof.Rows L2

/-! ### data that speak of numbers below n alone -/
mutual
def D.lt (n : Nat) : D → Prop
  | .ref k => k < n
  | .tup xs => D.lts n xs
  | .kt xs => D.lts n xs
  | .lst xs => D.lts n xs
  | .ins _ _ xs => D.lts n xs
  | .dK _ xs => D.lts n xs
  | .dT _ xs => D.lts n xs
  | _ => True
def D.lts (n : Nat) : List D → Prop
  | [] => True
  | d :: r => D.lt n d ∧ D.lts n r
end
theorem D.lts_mem {n : Nat} {ds : List D} : D.lts n ds ↔ ∀ d ∈ ds, D.lt n d := by
  induction ds with
  | nil => exact ⟨fun _ d h => absurd h (List.not_mem_nil), fun _ => trivial⟩
  | cons d r ih =>
    constructor
    · rintro ⟨h1, h2⟩ x hx
      rcases (List.mem_cons).mp hx with rfl | hx
      · exact h1
      · exact ih.mp h2 x hx
    · intro h
      exact ⟨h d List.mem_cons_self, ih.mpr fun x hx => h x (List.mem_cons_of_mem _ hx)⟩
theorem D.lts_map {α : Type} {f : α → D} {n : Nat} {l : List α} (h : ∀ a ∈ l, D.lt n (f a)) : D.lts n (l.map f) := D.lts_mem.mpr fun d hd => by
  obtain ⟨a, ha, rfl⟩ := List.mem_map.mp hd
  exact h a ha
theorem D.lts_ints {n : Nat} (ns : List Int) : D.lts n (ns.map D.int) := D.lts_map fun _ _ => trivial
theorem D.lts_app {n : Nat} {ds es : List D} (h : D.lts n ds) (g : D.lts n es) : D.lts n (ds ++ es) := by
  rw [D.lts_mem] at h g ⊢
  intro d hd
  rcases List.mem_append.mp hd with hd | hd
  · exact h d hd
  · exact g d hd
mutual
theorem D.lt.mono {n m : Nat} (hm : n ≤ m) : ∀ {d : D}, D.lt n d → D.lt m d
  | .ref _, h => Nat.lt_of_lt_of_le h hm
  | .tup _, h => D.lts.mono hm h
  | .kt _, h => D.lts.mono hm h
  | .lst _, h => D.lts.mono hm h
  | .ins _ _ _, h => D.lts.mono hm h
  | .dK _ _, h => D.lts.mono hm h
  | .dT _ _, h => D.lts.mono hm h
  | .non, _ => trivial
  | .bl _, _ => trivial
  | .int _, _ => trivial
  | .str _, _ => trivial
  | .ty _, _ => trivial
  | .adr _, _ => trivial
  | .scr _, _ => trivial
  | .tq _, _ => trivial
  | .bad, _ => trivial
theorem D.lts.mono {n m : Nat} (hm : n ≤ m) : ∀ {d : List D}, D.lts n d → D.lts m d
  | [], _ => trivial
  | _ :: _, h => ⟨D.lt.mono hm h.1, D.lts.mono hm h.2⟩
end
/-! ### what is numbered m and above, by value -/
section
variable (m : Nat) (S : List O)
mutual
def Rs : D → D → Prop
  | .ref k, d => d = .ref k ∧ k < m
  | .tup ys, d => ∃ xs, d = .tup xs ∧ RsL ys xs
  | .kt ys, d => ∃ xs, d = .kt xs ∧ RsL ys xs
  | .lst ys, d => (∃ xs, d = .lst xs ∧ RsL ys xs) ∨ ∃ k xs, d = .ref k ∧ m ≤ k ∧ S[k]? = some (.lst xs) ∧ RsL ys xs
  | .ins C ns ys, d => (∃ xs, d = .ins C ns xs ∧ RsL ys xs) ∨ ∃ k fs, d = .ref k ∧ m ≤ k ∧ S[k]? = some (.ins C fs) ∧ ns = fs.map (·.1) ∧ RsL ys (fs.map (·.2))
  | .dK ks ys, d => (∃ xs, d = .dK ks xs ∧ RsL ys xs) ∨ ∃ k fs, d = .ref k ∧ m ≤ k ∧ S[k]? = some (.dK fs) ∧ ks = fs.map (·.1) ∧ RsL ys (fs.map (·.2))
  | .dT ks ys, d => (∃ xs, d = .dT ks xs ∧ RsL ys xs) ∨ ∃ k fs, d = .ref k ∧ m ≤ k ∧ S[k]? = some (.dT fs) ∧ ks = fs.map (·.1) ∧ RsL ys (fs.map (·.2))
  | .non, d => d = .non
  | .bl b, d => d = .bl b
  | .int i, d => d = .int i
  | .str x, d => d = .str x
  | .ty x, d => d = .ty x
  | .adr x, d => d = .adr x
  | .scr x, d => d = .scr x
  | .tq x, d => d = .tq x
  | .bad, d => d = .bad
def RsL : List D → List D → Prop
  | [], xs => xs = []
  | y :: ys, xs => ∃ x r, xs = x :: r ∧ Rs y x ∧ RsL ys r
end
end
mutual
theorem Rs.same {m : Nat} {S : List O} : ∀ {d : D}, D.lt m d → Rs m S d d
  | .ref k, h => ⟨rfl, h⟩
  | .tup xs, h => ⟨xs, rfl, RsL.same h⟩
  | .kt xs, h => ⟨xs, rfl, RsL.same h⟩
  | .lst xs, h => .inl ⟨xs, rfl, RsL.same h⟩
  | .ins _ _ xs, h => .inl ⟨xs, rfl, RsL.same h⟩
  | .dK _ xs, h => .inl ⟨xs, rfl, RsL.same h⟩
  | .dT _ xs, h => .inl ⟨xs, rfl, RsL.same h⟩
  | .non, _ => rfl
  | .bl _, _ => rfl
  | .int _, _ => rfl
  | .str _, _ => rfl
  | .ty _, _ => rfl
  | .adr _, _ => rfl
  | .scr _, _ => rfl
  | .tq _, _ => rfl
  | .bad, _ => rfl
theorem RsL.same {m : Nat} {S : List O} : ∀ {ds : List D}, D.lts m ds → RsL m S ds ds
  | [], _ => rfl
  | d :: r, h => ⟨d, r, rfl, Rs.same h.1, RsL.same h.2⟩
end
theorem Rs.ofL {m : Nat} {S : List O} {k : Nat} {xs ys : List D} (hm : m ≤ k) (h : S[k]? = some (.lst xs)) (r : RsL m S ys xs) : Rs m S (.lst ys) (.ref k) := .inr ⟨k, xs, rfl, hm, h, r⟩
/-- a list that was one's own, handed on as it is -/
theorem Rs.ofL' {m : Nat} {S : List O} {k : Nat} {xs : List D} (hm : m ≤ k) (h : S[k]? = some (.lst xs)) (r : D.lts m xs) : Rs m S (.lst xs) (.ref k) := Rs.ofL hm h (RsL.same r)
/-- the first m numbers -/
def Ph.cut (φ : Ph) (m : Nat) : Ph := ⟨φ.hid, φ.own.take m⟩
theorem Fz.cut {φ : Ph} {m : Nat} {a : Addr} (h : Fz φ a) : Fz (φ.cut m) a := ⟨h.1, fun z => h.2 (List.mem_of_mem_take z)⟩
section
variable {K : PySem.W.Frag} {φ : Ph} {H : Hp} {S : List O}
theorem LsA.cut {m : Nat} {a : Addr} {xs : List V} (h : LsA K φ H a xs) : LsA K (φ.cut m) H a xs := h.imp (fun ⟨f, g⟩ => ⟨f.cut, g⟩) id
/-- from the m-th on: no number of the first -/
theorem Rel.above (r : Rel K φ H S) {m k : Nat} {a : Addr} (hm : m ≤ k) (h : φ.own[k]? = some a) : Fz (φ.cut m) a := by
  refine ⟨fun z => r.dj a z (List.mem_of_getElem? h), fun z => ?_⟩
  obtain ⟨j, hj⟩ := List.getElem?_of_mem z
  have hjm : j < m := by
    have := (List.getElem?_eq_some_iff.mp hj).1
    simp only [Ph.cut, List.length_take] at this; omega
  have hj' : φ.own[j]? = some a := by
    have : (φ.own.take m)[j]? = some a := hj
    rwa [List.getElem?_take_of_lt hjm] at this
  obtain ⟨l1, g1⟩ := List.getElem?_eq_some_iff.mp hj'
  obtain ⟨l2, g2⟩ := List.getElem?_eq_some_iff.mp h
  have := (List.getElem_inj r.nd).mp (g1.trans g2.symm)
  omega
mutual
theorem Rs.rv {m : Nat} (r : Rel K φ H S) : ∀ {d' d : D} {v : V}, Rs m S d' d → RV K φ H d v → RV K (φ.cut m) H d' v
  | .ref k, _, _, ⟨e, hk⟩, h => by
    subst e
    obtain ⟨a, h1, h2⟩ := h
    exact ⟨a, by show (φ.own.take m)[k]? = _; rw [List.getElem?_take_of_lt hk]; exact h1, h2⟩
  | .tup ys, _, _, ⟨xs, e, q⟩, h => by
    subst e
    obtain ⟨p, vs, h1, h2, h3⟩ := h
    exact ⟨p, vs, h1, h2, RsL.rv r q h3⟩
  | .kt ys, _, _, ⟨xs, e, q⟩, h => by
    subst e
    obtain ⟨p, vs, h1, h2, h3⟩ := h
    exact ⟨p, vs, h1, h2, RsL.rv r q h3⟩
  | .lst ys, _, _, q, h => by
    rcases q with ⟨xs, e, q⟩ | ⟨k, xs, e, hk, hS, q⟩
    · subst e
      obtain ⟨p, vs, h1, h2, h3, h4⟩ := h
      exact ⟨p, vs, h1, h2.cut, h3, RsL.rv r q h4⟩
    · subst e
      obtain ⟨a, h1, h2⟩ := h
      obtain ⟨b, g1, vs, g2, g3⟩ := r.ob k _ hS
      rw [h1] at g1; cases g1
      exact ⟨a, vs, h2, r.above hk h1, g2, RsL.rv r q g3⟩
  | .ins C ns ys, _, _, q, h => by
    rcases q with ⟨xs, e, q⟩ | ⟨k, fs, e, hk, hS, en, q⟩
    · subst e
      obtain ⟨p, dx, vs, h1, h2, h3, h4, h5⟩ := h
      exact ⟨p, dx, vs, h1, h2.cut, h3, h4.trans (RsL.len q), RsL.rv r q h5⟩
    · subst e en
      obtain ⟨a, h1, h2⟩ := h
      obtain ⟨b, g1, dx, gs, g2, g3⟩ := r.ob k _ hS
      rw [h1] at g1; cases g1
      obtain ⟨vs, e1, g4⟩ := g3.split
      subst e1
      exact ⟨a, dx, vs, h2, r.above hk h1, g2, by rw [← RsL.len q]; simp, RsL.rv r q g4⟩
  | .dK ns ys, _, _, q, h => by
    rcases q with ⟨xs, e, q⟩ | ⟨k, fs, e, hk, hS, en, q⟩
    · subst e
      obtain ⟨p, vs, h1, h2, h3, h4, h5⟩ := h
      exact ⟨p, vs, h1, h2.cut, h3, h4.trans (RsL.len q), RsL.rv r q h5⟩
    · subst e en
      obtain ⟨a, h1, h2⟩ := h
      obtain ⟨b, g1, gs, g2, g3⟩ := r.ob k _ hS
      rw [h1] at g1; cases g1
      obtain ⟨vs, e1, g4⟩ := g3.split
      subst e1
      exact ⟨a, vs, h2, r.above hk h1, g2, by rw [← RsL.len q]; simp, RsL.rv r q g4⟩
  | .dT ns ys, _, _, q, h => by
    rcases q with ⟨xs, e, q⟩ | ⟨k, fs, e, hk, hS, en, q⟩
    · subst e
      obtain ⟨p, vs, h1, h2, h3, h4, h5⟩ := h
      exact ⟨p, vs, h1, h2.cut, h3, h4.trans (RsL.len q), RsL.rv r q h5⟩
    · subst e en
      obtain ⟨a, h1, h2⟩ := h
      obtain ⟨b, g1, gs, g2, g3⟩ := r.ob k _ hS
      rw [h1] at g1; cases g1
      obtain ⟨vs, e1, g4⟩ := g3.split
      subst e1
      exact ⟨a, vs, h2, r.above hk h1, g2, by rw [← RsL.len q]; simp, RsL.rv r q g4⟩
  | .non, _, _, e, h => by cases e; exact h
  | .bl _, _, _, e, h => by cases e; exact h
  | .int _, _, _, e, h => by cases e; exact h
  | .str _, _, _, e, h => by cases e; exact h
  | .ty _, _, _, e, h => by cases e; exact h
  | .adr _, _, _, e, h => by cases e; exact h
  | .scr _, _, _, e, h => by cases e; obtain ⟨p, h1, h2⟩ := h; exact ⟨p, h1, h2.cut⟩
  | .tq _, _, _, e, h => by cases e; obtain ⟨p, h1, h2⟩ := h; exact ⟨p, h1, h2.1.cut, h2.2⟩
  | .bad, _, _, e, h => by cases e; exact h
theorem RsL.rv {m : Nat} (r : Rel K φ H S) : ∀ {ys xs : List D} {vs : List V}, RsL m S ys xs → RVs K φ H xs vs → RVs K (φ.cut m) H ys vs
  | [], _, _, e, h => by cases e; exact h
  | y :: ys, _, _, ⟨x, t, e, q1, q2⟩, h => by
    subst e
    obtain ⟨v, ws, e2, h1, h2⟩ := h
    exact ⟨v, ws, e2, Rs.rv r q1 h1, RsL.rv r q2 h2⟩
theorem RsL.len {m : Nat} {S : List O} : ∀ {ys xs : List D}, RsL m S ys xs → xs.length = ys.length
  | [], _, e => by cases e; rfl
  | y :: ys, _, ⟨x, t, e, q1, q2⟩ => by subst e; simp [RsL.len q2]
end
/-- as an object -/
def RsO (m : Nat) (S : List O) : O → O → Prop
  | .lst ys, .lst xs => RsL m S ys xs
  | .drw, .drw => True
  | .drw, .lst xs => ∃ l, RsL m S l xs ∧ DrawL l
  | .ins C fs', .ins C2 fs => C = C2 ∧ fs'.map (·.1) = fs.map (·.1) ∧ RsL m S (fs'.map (·.2)) (fs.map (·.2))
  | .dK fs', .dK fs => fs'.map (·.1) = fs.map (·.1) ∧ RsL m S (fs'.map (·.2)) (fs.map (·.2))
  | .dT fs', .dT fs => fs'.map (·.1) = fs.map (·.1) ∧ RsL m S (fs'.map (·.2)) (fs.map (·.2))
  | .non, _ => True
  | _, _ => False
def RsS (m : Nat) (S : List O) : List O → List O → Prop
  | [], l => l = []
  | o' :: r, l => ∃ o t, l = o :: t ∧ RsO m S o' o ∧ RsS m S r t
theorem RKV.join {κ : Type} : ∀ {fs : List (κ × D)} {vs : List V}, RVs K φ H (fs.map (·.2)) vs → RKV K φ H fs ((fs.map (·.1)).zip vs)
  | [], _, h => by cases h; rfl
  | p :: fs, _, ⟨v, ws, e, h1, h2⟩ => by subst e; exact ⟨v, _, rfl, h1, RKV.join h2⟩
theorem RsO.ro {m : Nat} (r : Rel K φ H S) {o' o : O} {a : Addr} (q : RsO m S o' o) (h : RO K φ H o a) : RO K (φ.cut m) H o' a := by
  cases o' with
  | lst ys => cases o <;> first | exact q.elim | (obtain ⟨vs, h1, h2⟩ := h; exact ⟨vs, h1, RsL.rv r q h2⟩)
  | drw =>
    cases o <;> first | exact q.elim | skip
    · obtain ⟨l, q1, q2⟩ := q
      obtain ⟨vs, h1, h2⟩ := h
      exact ⟨l, vs, q2, h1, RsL.rv r q1 h2⟩
    · obtain ⟨l, vs, h0, h1, h2⟩ := h
      refine ⟨l, vs, h0, h1, ?_⟩
      obtain ⟨ns, i, z, s, rfl, _⟩ := h0
      have lt : D.lts m [D.lst (ns.map D.int), D.int i, D.int z, D.int s] := ⟨D.lts_ints ns, trivial, trivial, trivial, trivial⟩
      exact RsL.rv r (RsL.same lt) h2
  | ins C fs' =>
    cases o <;> first | exact q.elim | skip
    obtain ⟨rfl, e, q⟩ := q
    obtain ⟨dx, gs, h1, h2⟩ := h
    obtain ⟨vs, e2, h3⟩ := h2.split
    subst e2
    exact ⟨dx, _, h1, by rw [← e]; exact RKV.join (RsL.rv r q h3)⟩
  | dK fs' =>
    cases o <;> first | exact q.elim | skip
    obtain ⟨e, q⟩ := q
    obtain ⟨gs, h1, h2⟩ := h
    obtain ⟨vs, e2, h3⟩ := h2.split
    subst e2
    exact ⟨_, h1, by rw [← e]; exact RKV.join (RsL.rv r q h3)⟩
  | dT fs' =>
    cases o <;> first | exact q.elim | skip
    obtain ⟨e, q⟩ := q
    obtain ⟨gs, h1, h2⟩ := h
    obtain ⟨vs, e2, h3⟩ := h2.split
    subst e2
    exact ⟨_, h1, by rw [← e]; exact RKV.join (RsL.rv r q h3)⟩
  | non => exact h.is_some
theorem RsS.len {m : Nat} : ∀ {l' l : List O}, RsS m S l' l → l'.length = l.length
  | [], _, e => by cases e; rfl
  | _ :: _, _, ⟨o, t, e, _, q⟩ => by subst e; simp [RsS.len q]
theorem RsS.get {m : Nat} : ∀ {l' l : List O} {i : Nat} {o' : O}, RsS m S l' l → l'[i]? = some o' → ∃ o, l[i]? = some o ∧ RsO m S o' o
  | [], _, _, _, _, h => by simp at h
  | x :: r, _, 0, _, ⟨o, t, e, q1, q2⟩, h => by subst e; simp at h; subst h; exact ⟨o, rfl, q1⟩
  | x :: r, _, i + 1, _, ⟨o, t, e, q1, q2⟩, h => by subst e; exact RsS.get (i := i) q2 (by simpa using h)
theorem Rel.cut {m : Nat} {S2 : List O} (r : Rel K φ H S) (hm : m ≤ S.length) (q : RsS m S S2 (S.take m)) : Rel K (φ.cut m) H S2 := by
  refine ⟨(List.take_sublist m φ.own).nodup r.nd, fun a ha z => r.dj a ha (List.mem_of_mem_take z), r.hd, ?_, fun i o h => ?_⟩
  · rw [q.len]; simp only [Ph.cut, List.length_take, r.len]
  · obtain ⟨o1, h1, h2⟩ := q.get h
    have hi : i < m := by
      have := (List.getElem?_eq_some_iff.mp h1).1
      rw [List.length_take] at this; omega
    rw [List.getElem?_take_of_lt hi] at h1
    obtain ⟨a, g1, g2⟩ := r.ob i o1 h1
    exact ⟨a, by show (φ.own.take m)[i]? = _; rw [List.getElem?_take_of_lt hi]; exact g1, RsO.ro r h2 g2⟩
theorem Ext.cut {φ' : Ph} {H' : Hp} {m : Nat} (e : Ext K φ φ' H H') (hm : φ.own.length ≤ m) : Ext K φ (φ'.cut m) H H' := ⟨e.hid, by
  obtain ⟨t, ht⟩ := e.pre
  show φ.own <+: φ'.own.take m
  rw [← ht, List.take_append, List.take_of_length_le hm]
  exact List.prefix_append _ _, e.tup, e.xd, fun a u h g n => let ⟨h1, g1⟩ := e.fz a u h g n; ⟨fun z => h1 (List.mem_of_mem_take z), g1⟩⟩
mutual
theorem RV.lt : ∀ {d : D} {v : V}, RV K φ H d v → D.lt φ.own.length d
  | .non, _, _ => trivial
  | .bl _, _, _ => trivial
  | .int _, _, _ => trivial
  | .str _, _, _ => trivial
  | .ty _, _, _ => trivial
  | .adr _, _, _ => trivial
  | .scr _, _, _ => trivial
  | .tq _, _, _ => trivial
  | .ref k, _, ⟨a, h1, h2⟩ => (List.getElem?_eq_some_iff.mp h1).1
  | .tup _, _, ⟨p, vs, h1, h2, h3⟩ => RVs.lt h3
  | .kt _, _, ⟨p, vs, h1, h2, h3⟩ => RVs.lt h3
  | .lst _, _, ⟨p, vs, h1, h2, h3, h4⟩ => RVs.lt h4
  | .ins _ _ _, _, ⟨p, dx, vs, h1, h2, h3, h4, h5⟩ => RVs.lt h5
  | .dK _ _, _, ⟨p, vs, h1, h2, h3, h4, h5⟩ => RVs.lt h5
  | .dT _ _, _, ⟨p, vs, h1, h2, h3, h4, h5⟩ => RVs.lt h5
  | .bad, _, h => h.elim
theorem RVs.lt : ∀ {ds : List D} {vs : List V}, RVs K φ H ds vs → D.lts φ.own.length ds
  | [], _, h => trivial
  | _ :: _, _, ⟨v, ws, h1, h2, h3⟩ => ⟨RV.lt h2, RVs.lt h3⟩
end
end

/-! ### dropping what was made behind the n-th -/
def RsSl (m : Nat) (S : List O) : Sl → Sl → Prop
  | [], l => l = []
  | none :: r, l => ∃ x t, l = x :: t ∧ RsSl m S r t
  | some d' :: r, l => ∃ d t, l = some d :: t ∧ Rs m S d' d ∧ RsSl m S r t
theorem RsSl.ev {X : Cx} {φ : Ph} {H : Hp} {S : List O} {m : Nat} (r : Rel X.K φ H S) : ∀ {s t : Sl} {σ : L2.St}, RsSl m S s t → EV X.K φ H t σ → EV X.K (φ.cut m) H s σ
  | [], t, σ, e, ev => by cases e; exact ⟨ev.len, fun i d h => by simp at h⟩
  | none :: s, _, σ, ⟨y, t, e, q⟩, ev => by
    subst e
    cases σ with
    | nil => have := ev.len; simp at this
    | cons x σ =>
      have ih := RsSl.ev (σ := σ) r q ⟨by have := ev.len; simpa using this, fun i d q => ev.at' (i + 1) d (by simpa using q)⟩
      refine ⟨by have := ih.len; simp [this], fun i d q => ?_⟩
      cases i with
      | zero => simp at q
      | succ i => exact ih.at' i d (by simpa using q)
  | some d' :: s, _, σ, ⟨d, t, e, q1, q⟩, ev => by
    subst e
    cases σ with
    | nil => have := ev.len; simp at this
    | cons x σ =>
      have ih := RsSl.ev (σ := σ) r q ⟨by have := ev.len; simpa using this, fun i d q => ev.at' (i + 1) d (by simpa using q)⟩
      refine ⟨by have := ih.len; simp [this], fun i z q => ?_⟩
      cases i with
      | zero =>
        have q' : d' = z := by simpa using q
        subst q'
        obtain ⟨v, e1, e2⟩ := ev.at' 0 d (by simp)
        exact ⟨v, e1, Rs.rv r q1 e2⟩
      | succ i => exact ih.at' i z (by simpa using q)
/-- P holds, or holds where all behind the m-th object is dropped -/
def Wk (n : Nat) (P : Sl → List O → Prop) (s : Sl) (S : List O) : Prop := P s S ∨ ∃ m s2 S2, n ≤ m ∧ m ≤ S.length ∧ RsSl m S s2 s ∧ RsS m S S2 (S.take m) ∧ P s2 S2
section
variable {X : Cx} {B : Bs}
theorem HR.cut {φ φ' : Ph} {H H' : Hp} {S S' S2 : List O} {m : Nat} (hr : HR X.K B φ H S) (e : Ext X.K φ φ' H H') (hr' : HR X.K B φ' H' S') (hm : S.length ≤ m) (hl : m ≤ S'.length) (l : RsS m S' S2 (S'.take m)) : Ext X.K φ (φ'.cut m) H H' ∧ HR X.K B (φ'.cut m) H' S2 := by
  have e2 : Ext X.K φ (φ'.cut m) H H' := e.cut (by rw [hr.rel.len]; exact hm)
  exact ⟨e2, hr.ext.trans e2, hr'.rel.cut hl l, hr'.tab⟩
theorem Wk.at {φ φ' : Ph} {H H' : Hp} {S S' : List O} {P : Sl → List O → Prop} {s : Sl} {σ : L2.St} (hr : HR X.K B φ H S) (e : Ext X.K φ φ' H H') (hr' : HR X.K B φ' H' S') (ev : EV X.K φ' H' s σ) (w : Wk S.length P s S') :
    ∃ φ2 s2 S2, Ext X.K φ φ2 H H' ∧ HR X.K B φ2 H' S2 ∧ EV X.K φ2 H' s2 σ ∧ P s2 S2 := by
  rcases w with w | ⟨m, s2, S2, h1, h2, h3, h4, h5⟩
  · exact ⟨φ', s, S', e, hr', ev, w⟩
  · obtain ⟨e2, hr2⟩ := hr.cut e hr' h1 h2 h4
    exact ⟨_, s2, _, e2, hr2, h3.ev hr'.rel ev, h5⟩
/-- the rest, from the m-th object on by value -/
def qFz (b : QS) : QS := fun D s S => ∃ m s2 S2, D.n ≤ m ∧ m ≤ S.length ∧ RsSl m S s2 s ∧ RsS m S S2 (S.take m) ∧ b D s2 S2
theorem lss_fz {ss : List Stmt} {q : QS} (h : LSs X B ss q) : LSs X B ss (qFz q) := PSs.imp h fun D σ H ⟨φ, s, S, D', hr, ev, ⟨m, s2, S2, h1, h2, h3, h4, q⟩, ⟨φe, He, x, k0⟩⟩ => by
  have e : Ext X.K φe (φ.cut m) He H := x.cut (Nat.le_trans k0.hE h1)
  have eB : Ext X.K B.φ0 (φ.cut m) B.H0 H := hr.ext.cut (Nat.le_trans k0.hB h1)
  exact ⟨φ.cut m, s2, S2, D', ⟨eB, hr.rel.cut h2 h4, hr.tab⟩, h3.ev hr.rel ev, q, φe, He, e, k0⟩
/-! ### what is walked -/
/-- J yields the values xs while keep stands -/
def ItOk (K : PySem.W.Frag) (B : Bs) (φ1 : Ph) (H1 : Hp) (xs : List D) (keep : List O → Prop) (J : It) : Prop := ∀ (i : Nat) (φ : Ph) (H : Hp) (S : List O), Ext K φ1 φ H1 H → HR K B φ H S → keep S →
  (i < xs.length → J.go i H) ∧ (i = xs.length → J.stop i H) ∧ ∀ x H' d, J.yld i H x H' → xs[i]? = some d → ∃ φ', Ext K φ φ' H H' ∧ HR K B φ' H' S ∧ RV K φ' H' d x
abbrev QI := Sl → List O → (List D → (List O → Prop) → List O → Prop) → Prop
def UI (K : PySem.W.Frag) (B : Bs) (q : QI) : TI := fun σ H R => ∃ φ s S R', HR K B φ H S ∧ EV K φ H s σ ∧ q s S R' ∧
  ∀ φ' xs keep S' J H', Ext K φ φ' H H' → HR K B φ' H' S' → ItOk K B φ' H' xs keep J → R' xs keep S' → R J H'
abbrev LI (X : Cx) (B : Bs) (tg iter : Expr) (q : QI) : Prop := PI X tg iter (UI X.K B q)
theorem PI.imp {tg iter : Expr} {t t' : TI} (h : PI X tg iter t) (i : ∀ σ H R, t' σ H R → t σ H R) : PI X tg iter t' := ⟨fun pins s σ H R I w => h.run pins s σ H R I (i _ _ _ w)⟩
variable {tg e : Expr} {qe : QE} {qa : QA} {p pos : Pos}
/-- a list -/
def qiList (qe : QE) : QI := fun s S R => qe s S fun d S1 => match d with
  | .tup _ => False
  | .tq _ => False
  | .kt _ => False
  | d => Opt (itemsOf S1 d) fun xs => R xs (fun S' => itemsOf S' d = some xs) S1
theorem li_list (he : LE X B e qe) : LI X B tg e (qiList qe) := PI.imp (pi_list he) fun σ H R ⟨φ, s, S, R', hr, ev, q, k⟩ =>
  ⟨φ, s, S, _, hr, ev, q, fun φ1 d S1 v H1 e1 hr1 r1 q1 => by
    split at q1
    · exact q1.elim
    · exact q1.elim
    · exact q1.elim
    · rename_i hd hdq hdk
      obtain ⟨xs, h1, q1⟩ := q1.get
      have at_ : ∀ (φ2 : Ph) (H2 : Hp) (S2 : List O) (p : Addr), RV X.K φ2 H2 d (.ref p) → HR X.K B φ2 H2 S2 → itemsOf S2 d = some xs → ∃ vs, SqL X.K H2 p vs ∧ RVs X.K φ2 H2 xs vs := fun φ2 H2 S2 p r2 hr2 hk => by
        unfold itemsOf at hk
        split at hk
        · exact absurd rfl (hd _)
        · cases hk
          obtain ⟨p', e, h1⟩ := r2
          cases e
          exact ⟨_, h1.sql, .ofInts⟩
        · exact absurd rfl (hdq _)
        · exact absurd rfl (hdk _)
        · obtain ⟨a, vs, e, h1, h2⟩ := hr2.ls hk r2
          cases e
          exact ⟨vs, .inl (.inl h1), h2⟩
      obtain ⟨p, vs0, rfl, _, _⟩ := hr1.items h1 r1
      obtain ⟨vs, h3, h4⟩ := at_ φ1 H1 S1 p r1 hr1 h1
      refine ⟨p, rfl, ⟨vs, h3⟩, k _ _ _ _ _ _ e1 hr1 (fun i φ2 H2 S2 e2 hr2 hk => ?_) q1⟩
      obtain ⟨ws, h5, h6⟩ := at_ φ2 H2 S2 p (r1.mono e2) hr2 hk
      refine ⟨fun hi => ⟨ws, ws[i]'(by rw [h6.len]; exact hi), h5, by simp [h6.len, hi]⟩, fun hi => ⟨ws, h5, by rw [h6.len, hi]; exact Nat.le_refl _⟩, fun x H' d' y hd => ?_⟩
      obtain ⟨rfl, y⟩ := y
      obtain ⟨v, g1, g2⟩ := h6.get hd
      have := y ws h5
      rw [g1] at this; cases this
      exact ⟨φ2, Ext.refl, hr2, g2⟩⟩
def qiTup (qe : QE) : QI := fun s S R => qe s S fun d S1 => match d with
  | .tup xs => R xs (fun _ => True) S1
  | .tq ns => R (ns.map D.int) (fun _ => True) S1
  | .kt xs => R xs (fun _ => True) S1
  | _ => False
theorem li_tup (he : LE X B e qe) : LI X B tg e (qiTup qe) := PI.imp (pi_tup he) fun σ H R ⟨φ, s, S, R', hr, ev, q, k⟩ =>
  ⟨φ, s, S, _, hr, ev, q, fun φ1 d S1 v H1 e1 hr1 r1 q1 => by
    have h0 : ∃ xs a vs, v = .ref a ∧ (∀ φ2 H2, Ext X.K φ1 φ2 H1 H2 → SqT X.K H2 a vs) ∧ RVs X.K φ1 H1 xs vs ∧ R' xs (fun _ => True) S1 := by
      split at q1
      · obtain ⟨a, vs, rfl, h3, h4⟩ := r1
        exact ⟨_, a, vs, rfl, fun _ _ e => SqT.of (e.tup _ _ h3), h4, q1⟩
      · obtain ⟨a, rfl, h3⟩ := r1
        exact ⟨_, a, _, rfl, fun _ _ e => (h3.mono e).sqt, .ofInts, q1⟩
      · obtain ⟨a, vs, rfl, h3, h4⟩ := r1
        exact ⟨_, a, vs, rfl, fun _ _ _ => h3.sqt, h4, q1⟩
      · exact q1.elim
    obtain ⟨xs, a, vs, rfl, h3, h4, q1⟩ := h0
    refine ⟨a, rfl, ⟨vs, h3 _ _ Ext.refl⟩, k _ _ _ _ _ _ e1 hr1 (fun i φ2 H2 S2 e2 hr2 hk => ?_) q1⟩
    have h5 := h3 _ _ e2
    have h6 := h4.mono e2
    refine ⟨fun hi => ⟨vs, vs[i]'(by rw [h6.len]; exact hi), h5, by simp [h6.len, hi]⟩, fun hi => ⟨vs, h5, by rw [h6.len, hi]; exact Nat.le_refl _⟩, fun x H' d y hd => ?_⟩
    obtain ⟨rfl, y⟩ := y
    obtain ⟨v, g1, g2⟩ := h6.get hd
    have := y vs h5
    rw [g1] at this; cases this
    exact ⟨φ2, Ext.refl, hr2, g2⟩⟩
/-- lo, lo + 1, .. -/
def rngD (lo : Int) (n : Nat) : List D := (List.range n).map fun i => D.int (lo + (i : Nat))
theorem rngD_get {lo : Int} {n i : Nat} {d : D} (h : (rngD lo n)[i]? = some d) : i < n ∧ d = .int (lo + i) := by
  unfold rngD at h
  rw [List.getElem?_map] at h
  by_cases hi : i < n
  · rw [List.getElem?_range hi] at h
    simp at h
    exact ⟨hi, h.symm⟩
  · rw [List.getElem?_eq_none (by simpa using hi)] at h; cases h
theorem rngD_len {lo : Int} {n : Nat} : (rngD lo n).length = n := by unfold rngD; simp
theorem itOk_rng {φ1 : Ph} {H1 : Hp} (lo : Int) (n : Nat) : ItOk X.K B φ1 H1 (rngD lo n) (fun _ => True) (Itr lo n) := fun i φ H S e hr _ =>
  ⟨fun hi => by rw [rngD_len] at hi; exact hi, fun hi => by rw [rngD_len] at hi; exact Nat.le_of_eq hi.symm, fun x H' d y hd => by
    obtain ⟨rfl, rfl⟩ := y
    obtain ⟨_, rfl⟩ := rngD_get hd
    exact ⟨φ, Ext.refl, hr, rfl⟩⟩
def qiRng1 (qa : QA) : QI := fun s S R => qa s S fun ds S1 => match ds with
  | [.int j] => -(2 ^ 62) ≤ j ∧ j < 2 ^ 62 ∧ R (rngD 0 j.toNat) (fun _ => True) S1
  | _ => False
theorem li_rng1 {a : Expr} (hg : Gl X "range") (hm : X.mg "range" = none) (ha : LA X B [a] qa) (hs : starEach [a] X.env = [(false, eval a X.env)] := by rfl) : LI X B tg (.Call (.Name "range" p) [a] [] pos) (qiRng1 qa) := PI.imp (pi_range1 hg hm ha hs) fun σ H R ⟨φ, s, S, R', hr, ev, q, k⟩ =>
  ⟨φ, s, S, _, hr, ev, q, fun φ1 d S1 v H1 e1 hr1 r1 q1 => by
    split at q1
    · obtain ⟨v1, ws, rfl, r1, r2⟩ := r1
      cases r1; cases r2
      exact ⟨_, rfl, q1.1, q1.2.1, k _ _ _ _ _ _ e1 hr1 (itOk_rng 0 _) q1.2.2⟩
    · exact q1.elim⟩
/-! ### for -/
inductive forBody (g : QG) (qb : QS) (D : Ed) (s : Sl) (xs : List LC.D) (keep : List O → Prop) (S1 : List O) : Prop
  | mk (P : Nat → Sl → List O → Prop) (h0 : P 0 s S1) (hk : ∀ i s' S', i ≤ xs.length → P i s' S' → keep S')
    (st : ∀ i x s' S', xs[i]? = some x → P i s' S' → g x s' S' fun s2 S2 => qb { nx := Wk S1.length (P (i + 1)), ct := Wk S1.length (P (i + 1)), bk := D.nx, rt := D.rt, n := S1.length } s2 S2)
    (he : ∀ s' S', P xs.length s' S' → D.nx s' S')
def qFor (qi : QI) (g : QG) (qb : QS) : QS := fun D s S => qi s S fun xs keep S1 => forBody g qb D s xs keep S1
theorem ls_for {iter : Expr} {body : List Stmt} {qi : QI} {g : QG} {qb : QS} (hp : PassesOwn (model X.prog X.w) X.A X.env X.xe) (hc : X.calm = true) (hi : LI X B tg iter qi) (hg : LG X B tg g) (hb : LSs X B body qb)
    (hs : ∀ x, foldedSetIterable iter X.env x = pure x := by intro _; rfl) : LS X B (.For tg iter body [] pos) (qFor qi g qb) := PS.imp (ps_for hp hc hi hg hb hs) fun D σ H ⟨φ, s, S, D', hr, ev, q, ek⟩ =>
  ⟨φ, s, S, _, hr, ev, q, fun φ1 xs keep S1 J H1 e1 hr1 ok q1 => by
    obtain ⟨P, p0, pk, ps, pe⟩ := q1
    refine ⟨fun i m σ H => m = xs.length - i ∧ i ≤ xs.length ∧ ∃ φ s S, Ext X.K φ1 φ H1 H ∧ HR X.K B φ H S ∧ EV X.K φ H s σ ∧ P i s S, ⟨xs.length, rfl, Nat.zero_le _, φ1, s, S1, Ext.refl, hr1, ev.mono e1, p0⟩, ?_⟩
    rintro i m σ2 H2 ⟨rfl, hi, φ2, s2, S2, e2, hr2, ev2, p2⟩
    have o := ok i φ2 H2 S2 e2 hr2 (pk i s2 S2 hi p2)
    by_cases hlt : i < xs.length
    · refine .inr ⟨o.1 hlt, fun σ' H' => ∃ φ s S, Ext X.K φ1 φ H1 H' ∧ HR X.K B φ H' S ∧ EV X.K φ H' s σ' ∧ P (i + 1) s S, fun σ' H' ⟨φ3, s3, S3, e3, hr3, ev3, p3⟩ => ⟨xs.length - (i + 1), by omega, rfl, hlt, φ3, s3, S3, e3, hr3, ev3, p3⟩, fun x H' y => ?_⟩
      have hx : xs[i]? = some xs[i] := List.getElem?_eq_getElem hlt
      obtain ⟨φ3, e3, hr3, r3⟩ := o.2.2 x H' _ y hx
      refine ⟨φ3, xs[i], s2, S2, _, hr3, ev2.mono e3, r3, ps i _ s2 S2 hx p2, fun φ4 s4 S4 σ4 H4 e4 hr4 ev4 q4 => ?_⟩
      refine ⟨φ4, s4, S4, _, hr4, ev4, q4, ?_⟩
      have e14 := e2.trans (e3.trans e4)
      exact ⟨φ1, H1, e14, by rw [← hr1.rel.len]; exact hr1.ext.pre.length_le, by rw [hr1.rel.len]; exact Nat.le_refl _, fun φ' H' S' s' σ' e' hr' ev' w => Wk.at hr1 e' hr' ev' w, fun φ' H' S' d v e' hr' r w => ek.rt _ _ _ _ _ (e1.trans e') hr' r w,
        fun φ' H' S' s' σ' e' hr' ev' w => ek.nx _ _ _ _ _ (e1.trans e') hr' ev' w, fun φ' H' S' s' σ' e' hr' ev' w => Wk.at hr1 e' hr' ev' w⟩
    · have hi' : i = xs.length := by omega
      subst hi'
      exact .inl ⟨o.2.1 rfl, ek.nx _ _ _ _ _ (e1.trans e2) hr2 ev2 (pe s2 S2 p2)⟩⟩

/-! ### while -/
end
end LC

set_option Elab.async false
set_option linter.all false
set_option maxRecDepth 100000
set_option maxHeartbeats 5000000
/-! LD6: targets of names, list comprehensions, own defs. -/
namespace LC
open PySem PySem.Spec
open PyProof.Rows L2

/-! ### targets that are names, or tuples of such -/
inductive Tgt where
  | nm (i : Nat) | tp (ts : List Tgt)
mutual
def gT (K : PySem.W.Frag) : Tgt → TG
  | .nm i => gName i
  | .tp ts => gTup K ts.length (gTs K ts)
def gTs (K : PySem.W.Frag) : List Tgt → TGs
  | [] => gNil
  | t :: r => gCons (gT K t) (gTs K r)
end
mutual
def stT : Tgt → D → Sl → Option Sl
  | .nm i, d, s => some (s.set i (some d))
  | .tp ts, .tup xs, s => stTs ts xs s
  | .tp _, _, _ => none
def stTs : List Tgt → List D → Sl → Option Sl
  | [], [], s => some s
  | t :: ts, d :: ds, s => (stT t d s).bind (stTs ts ds)
  | _, _, _ => none
end
mutual
def Tgt.ix : Tgt → List Nat
  | .nm i => [i]
  | .tp ts => Tgt.ixs ts
def Tgt.ixs : List Tgt → List Nat
  | [] => []
  | t :: r => t.ix ++ Tgt.ixs r
end
theorem wipe_at {σ : L2.St} {j : Nat} : ∀ {vs : List Nat}, (wipe σ vs)[j]? = if j ∈ vs ∧ j < σ.length then some none else σ[j]?
  | [] => by simp [wipe]
  | v :: vs => by
    show ((wipe σ vs).set v none)[j]? = _
    by_cases hv : v = j
    · subst hv
      by_cases hl : v < σ.length
      · rw [List.getElem?_set_self (by rw [wipe_length]; exact hl), if_pos ⟨List.mem_cons_self, hl⟩]
      · rw [if_neg (fun h => hl h.2), List.getElem?_eq_none (by simp [wipe_length]; omega), List.getElem?_eq_none (by omega)]
    · rw [List.getElem?_set_ne hv, wipe_at (vs := vs)]
      by_cases hm : j ∈ vs ∧ j < σ.length
      · rw [if_pos hm, if_pos ⟨List.mem_cons_of_mem _ hm.1, hm.2⟩]
      · rw [if_neg hm, if_neg fun h => hm ⟨(List.mem_cons.mp h.1).resolve_left fun e => hv e.symm, h.2⟩]
theorem wipe_set {σ : L2.St} {i : Nat} {x : Option V} {vs : List Nat} (h : i ∈ vs) : wipe (σ.set i x) vs = wipe σ vs := by
  apply List.ext_getElem?
  intro j
  rw [wipe_at, wipe_at, List.length_set]
  by_cases hm : j ∈ vs ∧ j < σ.length
  · rw [if_pos hm, if_pos hm]
  · rw [if_neg hm, if_neg hm]
    by_cases hij : i = j
    · subst hij
      have hl : ¬ i < σ.length := fun q => hm ⟨h, q⟩
      rw [List.getElem?_eq_none (by simp; omega), List.getElem?_eq_none (by omega)]
    · rw [List.getElem?_set_ne hij]
section
variable {X : Cx} {B : Bs}
mutual
theorem gT_ok {φ : Ph} {H : Hp} {vs : List Nat} : ∀ {t : Tgt} {d : D} {s s2 : Sl} {v : V} {σ : L2.St} {Q : L2.St → Hp → Prop}, stT t d s = some s2 → RV X.K φ H d v → EV X.K φ H s σ → (∀ i ∈ t.ix, i ∈ vs) → (∀ σ2, EV X.K φ H s2 σ2 → wipe σ2 vs = wipe σ vs → Q σ2 H) → gT X.K t v σ H Q
  | .nm i, d, s, _, v, σ, Q, h, r, ev, hi, q => by
    cases h
    exact q _ (ev.set r) (wipe_set (hi i (by simp [Tgt.ix])))
  | .tp ts, d, s, s2, v, σ, Q, h, r, ev, hi, q => by
    cases d with
    | tup xs =>
      obtain ⟨p, vs', rfl, h1, h2⟩ := r
      have hl := stTs_len h
      exact ⟨p, vs', rfl, h1, by rw [h2.len, hl], gTs_ok h h2 ev hi q⟩
    | _ => cases h
theorem gTs_ok {φ : Ph} {H : Hp} {vs : List Nat} : ∀ {ts : List Tgt} {ds : List D} {s s2 : Sl} {us : List V} {σ : L2.St} {Q : L2.St → Hp → Prop}, stTs ts ds s = some s2 → RVs X.K φ H ds us → EV X.K φ H s σ → (∀ i ∈ Tgt.ixs ts, i ∈ vs) → (∀ σ2, EV X.K φ H s2 σ2 → wipe σ2 vs = wipe σ vs → Q σ2 H) → gTs X.K ts us σ H Q
  | [], [], s, s2, us, σ, Q, h, r, ev, hi, q => by
    cases h; cases r
    exact ⟨rfl, q _ ev rfl⟩
  | t :: ts, d :: ds, s, s2, us, σ, Q, h, r, ev, hi, q => by
    obtain ⟨v, ws, rfl, r1, r2⟩ := r
    cases e : stT t d s with
    | none => simp [stTs, e] at h
    | some s1 =>
      have h' : stTs ts ds s1 = some s2 := by simpa [stTs, e] using h
      exact ⟨v, ws, rfl, gT_ok e r1 ev (fun i m => hi i (by simp [Tgt.ixs, m])) fun σ1 ev1 w1 => gTs_ok h' r2 ev1 (fun i m => hi i (by simp [Tgt.ixs, m])) fun σ2 ev2 w2 => q σ2 ev2 (w2.trans w1)⟩
  | [], _ :: _, _, _, _, _, _, h, _, _, _, _ => by cases h
  | _ :: _, [], _, _, _, _, _, h, _, _, _, _ => by cases h
theorem stTs_len : ∀ {ts : List Tgt} {ds : List D} {s s2 : Sl}, stTs ts ds s = some s2 → ds.length = ts.length
  | [], [], _, _, _ => rfl
  | t :: ts, d :: ds, s, s2, h => by
    cases e : stT t d s with
    | none => simp [stTs, e] at h
    | some s1 =>
      have h' : stTs ts ds s1 = some s2 := by simpa [stTs, e] using h
      simp [stTs_len h']
  | [], _ :: _, _, _, h => by cases h
  | _ :: _, [], _, _, h => by cases h
end
/-- d goes to the target's names -/
def qgT (t : Tgt) : QG := fun d s S Q => ∃ s2, stT t d s = some s2 ∧ Q s2 S
theorem lg_T {tg : Expr} {t : Tgt} (h : PG X tg (gT X.K t)) : LG X B tg (qgT t) := PG.imp h fun v σ H Q ⟨φ, d, s, S, Q', hr, ev, r, ⟨s2, h1, q⟩, k⟩ =>
  gT_ok (vs := t.ix) h1 r ev (fun _ m => m) fun σ2 ev2 _ => k _ _ _ _ _ Ext.refl hr ev2 q
/-- a target of one name -/
theorem tg_nm (i : Nat) {x : Str} {pos : Pos} (hN : X.N.Nodup) (hi : X.N[i]? = some x := by rfl) (hx : Loc X.env.scope x := by first | exact .inl rfl | exact .inr rfl) (hf : X.fn x = true ∨ X.env.scope.names.lookup x = some .local := by first | exact .inl rfl | exact .inr rfl | assumption) : PG X (.Name x pos) (gT X.K (.nm i)) := pg_name hN hi hx hf
theorem tg_nil : PGs X [] (gTs X.K []) := pgs_nil
theorem tg_cons {e : Expr} {es : List Expr} {t : Tgt} {ts : List Tgt} (h1 : PG X e (gT X.K t)) (h2 : PGs X es (gTs X.K ts)) (hs : (assignEach (e :: es) X.env).map (·.2) = assign e X.env :: (assignEach es X.env).map (·.2) := by rfl) : PGs X (e :: es) (gTs X.K (t :: ts)) := pgs_cons h1 h2 hs
theorem tg_tp {es : List Expr} {k : Nat} {pos : Pos} {ts : List Tgt} (hc : X.calm = true) (h : PGs X es (gTs X.K ts)) (hn : (assignEach es X.env).length = ts.length := by rfl) (hst : (assignEach es X.env).findIdx? (·.1) = none := by rfl) : PG X (.Tuple es k pos) (gT X.K (.tp ts)) := pg_tup hc h hn hst

/-! ### list comprehensions -/
abbrev LTs (X : Cx) (B : Bs) (ifs : List Expr) (q : QT) : Prop := PTs X ifs (UP X.K B rB q)
def qYes : QT := fun _ S Q => Q true S
theorem PTs.imp {ifs : List Expr} {t t' : TT} (h : PTs X ifs t) (i : ∀ σ H Q, t' σ H Q → t σ H Q) : PTs X ifs t' := ⟨fun pins s σ H Q I w => h.run pins s σ H Q I (i _ _ _ w)⟩
theorem lts_nil : LTs X B [] qYes := PTs.imp pts_nil fun σ H Q ⟨φ, s, S, Q', hr, ev, q, k⟩ => k _ _ _ _ _ Ext.refl hr rfl q
theorem EV.wipes {φ : Ph} {H : Hp} {s : Sl} {σ : L2.St} (ev : EV X.K φ H s σ) : ∀ {vs : List Nat}, EV X.K φ H (wipeD s vs) (L2.wipe σ vs)
  | [] => ev
  | _ :: _ => (EV.wipes ev).wipe
theorem Rel.lts {K : PySem.W.Frag} {φ : Ph} {H : Hp} {S : List O} (r : Rel K φ H S) (T : List O) : RsS S.length (S ++ T) S S := by
  have key : ∀ (l : List O) (j : Nat), (∀ i o, l[i]? = some o → S[j + i]? = some o) → RsS S.length (S ++ T) l l := fun l => by
    induction l with
    | nil => intro _ _; rfl
    | cons o t ih =>
      intro j h
      refine ⟨o, t, rfl, ?_, ih (j + 1) fun i x hx => by have := h (i + 1) x (by simpa using hx); rwa [show j + (i + 1) = j + 1 + i by omega] at this⟩
      obtain ⟨a, h1, h2⟩ := r.ob (j + 0) o (h 0 o rfl)
      rw [← r.len]
      cases o with
      | lst xs => obtain ⟨vs, h3, h4⟩ := h2; exact RsL.same h4.lt
      | drw => trivial
      | ins C fs => obtain ⟨dx, gs, h3, h4⟩ := h2; obtain ⟨vs, _, h5⟩ := h4.split; exact ⟨rfl, rfl, RsL.same h5.lt⟩
      | dK l' => obtain ⟨gs, h3, h4⟩ := h2; obtain ⟨vs, _, h5⟩ := h4.split; exact ⟨rfl, RsL.same h5.lt⟩
      | dT l' => obtain ⟨gs, h3, h4⟩ := h2; obtain ⟨vs, _, h5⟩ := h4.split; exact ⟨rfl, RsL.same h5.lt⟩
      | non => trivial
  exact key S 0 fun i o h => by rw [Nat.zero_add]; exact h
/-- [e for t in .. if ..]: P tells what is made so far; the objects stay as they are -/
inductive lcV (t : Tgt) (qt : QT) (qe : QE) (vs : List Nat) (s : Sl) (Q : List D → Prop) (xs : List D) (keep : List O → Prop) (S1 : List O) : Prop
  | mk (P : Nat → List D → Prop) (h0 : P 0 []) (hk : ∀ acc, keep (S1 ++ [.lst acc])) (hl : xs.length < sizeLine)
    (st : ∀ i x acc, xs[i]? = some x → acc.length ≤ i → P i acc → ∃ s2, stT t x (wipeD s vs) = some s2 ∧ qt s2 (S1 ++ [.lst acc]) fun b S3 => S3 = S1 ++ [.lst acc] ∧ Br b (qe s2 (S1 ++ [.lst acc]) fun y S4 => S4 = S1 ++ [.lst acc] ∧ D.lt S1.length y ∧ P (i + 1) (acc ++ [y]))
      (P (i + 1) acc))
    (he : ∀ acc, P xs.length acc → acc.length ≤ xs.length → Q acc)
def qLc (mu : Bool) (qi : QI) (t : Tgt) (qt : QT) (qe : QE) (vs : List Nat) : QE := fun s S Q => qi s S fun xs keep S1 => lcV t qt qe vs s (fun acc => if mu then Q (.ref S1.length) (S1 ++ [.lst acc]) else Q (.lst acc) S1) xs keep S1
theorem up_lc {mu : Bool} {qi : QI} {t : Tgt} {qt : QT} {qe : QE} {vs : List Nat} (hv : ∀ i ∈ t.ix, i ∈ vs) {σ : L2.St} {H : Hp} {Q : VK} (h : UP X.K B (rD X.K) (qLc mu qi t qt qe vs) σ H Q) : tLc (UI X.K B qi) (gT X.K t) (UP X.K B rB qt) (UP X.K B (rD X.K) qe) vs σ H Q := by
  obtain ⟨φ, s, S, Q', hr, ev, q, k⟩ := h
  refine ⟨φ, s, S, _, hr, ev, q, fun φ1 xs keep S1 J H1 e1 hr1 ok q1 D hD => ?_⟩
  obtain ⟨P, p0, pk, hsz, ps, pe⟩ := q1
  have e2 : Ext X.K φ1 (φ1.add D) H1 (upd H1 D (.lst [])) := ext_add hD
  have hr2 : HR X.K B (φ1.add D) (upd H1 D (.lst [])) (S1 ++ [.lst []]) := hr1.new (x := O.lst []) hD ⟨[], upd_same, rfl⟩
  have hDn : (φ1.add D).own[S1.length]? = some D := hr1.rel.last D
  refine ⟨fun i m H => m = xs.length - i ∧ i ≤ xs.length ∧ ∃ φ acc, Ext X.K (φ1.add D) φ (upd H1 D (.lst [])) H ∧ HR X.K B φ H (S1 ++ [.lst acc]) ∧ acc.length ≤ i ∧ LC.D.lts S1.length acc ∧ P i acc, ⟨xs.length, rfl, Nat.zero_le _, φ1.add D, [], Ext.refl, hr2, Nat.le_refl _, trivial, p0⟩, ?_⟩
  rintro i m H2 ⟨rfl, hi, φ2, acc, e3, hr3, hac, hlt', p2⟩
  have o := ok i φ2 H2 (S1 ++ [.lst acc]) (e2.trans e3) hr3 (pk acc)
  by_cases hlt : i < xs.length
  · refine .inr ⟨o.1 hlt, fun H' => ∃ φ acc, Ext X.K (φ1.add D) φ (upd H1 D (.lst [])) H' ∧ HR X.K B φ H' (S1 ++ [.lst acc]) ∧ acc.length ≤ i + 1 ∧ LC.D.lts S1.length acc ∧ P (i + 1) acc, fun H' ⟨φ3, S3, a1, a2, a3⟩ => ⟨xs.length - (i + 1), by omega, rfl, hlt, φ3, S3, a1, a2, a3⟩, fun x H' y => ?_⟩
    have hx : xs[i]? = some xs[i] := List.getElem?_eq_getElem hlt
    obtain ⟨φ3, e4, hr4, r4⟩ := o.2.2 x H' _ y hx
    obtain ⟨s2, hs2, q2⟩ := ps i _ acc hx hac p2
    have ev4 : EV X.K φ3 H' (wipeD s vs) (wipe σ vs) := (ev.mono (e1.trans (e2.trans (e3.trans e4)))).wipes
    refine gT_ok (vs := vs) hs2 r4 ev4 hv fun σ5 ev5 w5 => ⟨?_, ?_⟩
    · rw [w5]
      have : ∀ (σ : L2.St), wipe (wipe σ vs) vs = wipe σ vs := fun σ => by
        apply List.ext_getElem?
        intro j
        rw [wipe_at, wipe_at, wipe_length]
        by_cases hm : j ∈ vs ∧ j < σ.length
        · simp [hm]
        · rw [if_neg hm]
      exact this σ
    · refine ⟨φ3, s2, _, _, hr4, ev5, q2, fun φ6 b S6 v6 H6 e6 hr6 r6 q6 => ?_⟩
      cases r6
      obtain ⟨rfl, q6⟩ := q6
      have e06 := e3.trans (e4.trans e6)
      cases b with
      | false => exact ⟨φ6, acc, e06, hr6, Nat.le_succ_of_le hac, hlt', q6⟩
      | true =>
        refine ⟨φ6, s2, _, _, hr6, ev5.mono e6, q6, fun φ7 y S7 v7 H7 e7 hr7 r7 q7 => ?_⟩
        obtain ⟨rfl, hy, q7⟩ := q7
        have e07 := e06.trans e7
        have h8 : (S1 ++ [O.lst acc])[S1.length]? = some (.lst acc) := by simp
        obtain ⟨a, av, ea, h10, h11⟩ := hr7.lstO h8
        have : a = D := by
          have := e07.get hDn
          rw [ea] at this; exact Option.some.inj this
        subst this
        refine ⟨av, h10, by rw [h11.len]; omega, ?_⟩
        obtain ⟨e8, hr8⟩ := hr7.write (o := .lst (av ++ [v7])) (x := O.lst acc) (y := O.lst (acc ++ [y])) h8 rfl ea fun e8 => ⟨_, upd_same, (RVs.app (es := [y]) (ws := [v7]) h11 ⟨v7, [], rfl, r7, rfl⟩).mono e8⟩
        have es : (S1 ++ [O.lst acc]).set S1.length (.lst (acc ++ [y])) = S1 ++ [.lst (acc ++ [y])] := by rw [List.set_append_right _ _ (Nat.le_refl _)]; simp
        rw [es] at hr8
        exact ⟨φ7, acc ++ [y], e07.trans e8, hr8, by simp; omega, LC.D.lts_app hlt' ⟨hy, trivial⟩, q7⟩
  · have hi' : i = xs.length := by omega
    subst hi'
    have fin := pe acc p2 hac
    have hn : S1.length ≤ (S1 ++ [O.lst acc]).length := by simp
    have h8 : (S1 ++ [O.lst acc])[S1.length]? = some (.lst acc) := by simp
    refine .inl ⟨o.2.1 rfl, ?_⟩
    cases mu with
    | true => exact k _ (.ref S1.length) _ _ _ (e1.trans (e2.trans e3)) hr3 (show RV _ _ _ _ _ from ⟨D, e3.get hDn, rfl⟩) (by simpa using fin)
    | false =>
      obtain ⟨e9, hr9⟩ := hr1.cut (e2.trans e3) hr3 (Nat.le_refl _) hn (S2 := S1) (by rw [List.take_left]; exact hr1.rel.lts _)
      have rv : RV X.K (φ2.cut S1.length) H2 (.lst acc) (.ref D) := Rs.rv hr3.rel (Rs.ofL' (Nat.le_refl _) h8 hlt') ⟨D, e3.get hDn, rfl⟩
      exact k _ (.lst acc) _ _ _ (e1.trans e9) hr9 rv (by simpa using fin)
section
variable {elt tg iter : Expr} {ifs : List Expr} {scope : Scope} {own : List (Str × Nat)} {pos : Pos} {qi : QI} {t : Tgt} {qt : QT} {qe : QE}
/-- the block's context -/
abbrev Blk (X : Cx) (scope : Scope) (C : Cx → Prop) : Prop := ∀ (s : Shared) (H : Hp) (A : Addr) (cl : List (Str × Addr)) (fp : List Addr), C (X.blk s H scope (compEnvC scope cl A X.env) fp)
theorem le_lc (mu : Bool) (own : List (Str × Nat)) (t : Tgt) (hc : X.calm = true) (hN : X.N.Nodup) (hi : LI X B tg iter qi) (ok : BlkOk X.N X.env.scope scope own)
    (hg : Blk X scope fun Y => PG Y tg (gT X.K t)) (ht : Blk X scope fun Y => LTs Y B ifs qt) (he : Blk X scope fun Y => LE Y B elt qe) (hv : ∀ i ∈ t.ix, i ∈ own.map (·.2) := by decide) (hs : ∀ x, foldedSetIterable iter X.env x = pure x := by intro _; rfl) :
    LE X B (.ListComp elt [⟨tg, iter, ifs, 0⟩] scope pos) (qLc mu qi t qt qe (own.map (·.2))) := PE.imp (pe_lc hc hN hi ok hg ht he hs) fun _ _ _ => up_lc hv
end
end
end LC

set_option Elab.async false
set_option linter.all false
set_option maxRecDepth 100000
set_option maxHeartbeats 5000000
/-! LD7: own defs: their bodies, and what the caller's objects have to do with them. -/
namespace LC
open PySem PySem.Spec
open PyProof.Rows L2
/-- what is handed back from a def that was entered with n objects -/
def Rt (n : Nat) (Q' : D → List O → Prop) (d : D) (S : List O) : Prop := ∃ m d' S2, n ≤ m ∧ m ≤ S.length ∧ RsS m S S2 (S.take m) ∧ Rs m S d' d ∧ Q' d' S2
def Xt (n : Nat) (E' : EDt) (C : Addr) (fs : List (Str × D)) (S : List O) : Prop := ∃ m fs' S2, n ≤ m ∧ m ≤ S.length ∧ RsS m S S2 (S.take m) ∧ fs'.map (·.1) = fs.map (·.1) ∧ RsL m S (fs'.map (·.2)) (fs.map (·.2)) ∧ E' C fs' S2
section
variable {P : Program} {w : World} {K : PySem.W.Frag}
variable {mg : Str → Option Value} {base : Heap}
/-- the slots at a def's entry -/
def startD (N : List Str) (ds : List D) : Sl := ds.map some ++ List.replicate (N.length - ds.length) none
theorem start_ok {X : Cx} {φ : Ph} {H : Hp} {N : List Str} {ds : List D} {vs : List V} (r : RVs X.K φ H ds vs) : EV X.K φ H (startD N ds) (L2.start N vs) := by
  refine ⟨by simp [startD, L2.start, r.len], fun i d h => ?_⟩
  unfold startD at h
  by_cases hi : i < ds.length
  · rw [List.getElem?_append_left (by simpa using hi), List.getElem?_map] at h
    cases e : ds[i]? with
    | none => (rw [e] at h; cases h)
    | some x =>
      rw [e] at h
      cases h
      obtain ⟨v, h1, h2⟩ := r.get e
      refine ⟨v, ?_, h2⟩
      unfold L2.start
      rw [List.getElem?_append_left (by simpa [r.len] using hi), List.getElem?_map, h1]; rfl
  · rw [List.getElem?_append_right (by simpa using hi), List.getElem?_replicate] at h
    split at h <;> cases h
/-- a body, by what holds at its entry and at its ends -/
abbrev OkG := List D → List O → (D → List O → Prop) → EDt → Nat → Prop
abbrev BodyG (P : Program) (w : World) (K : PySem.W.Frag) (mg : Str → Option Value) (base : Heap) (qual : Str) (st : Stmt) (f : Addr) (N : List Str) (k : Nat) (ok : OkG) : Prop :=
  ∀ (cdv : Value) (A : Around) (outer : List Env) (s : Shared) (H : Hp) (E : XK) (φ : Ph) (T : List (Addr × Str)) (W' : WD), Room k (A.deeper (envOfC qual (defScope st) s.heap.objs.size f cdv)) → WL K ⟨φ, H, T⟩ W' (fun cls d _ H => E cls d H) →
      ∃ q, LSs (cxOf (L2.CX P w) P w K mg base N qual (defScope st) f cdv A outer s H E) ⟨φ, H, T⟩ (defBody st) q ∧
        ∀ ds S R X n, ok ds S R X n → W' = (fun C fs _ S' => X C fs S') → q { nx := fun _ S' => R .non S', rt := R, n := n } (startD N ds) S
/-- what is promised, by such ends -/
def Conv (sp : SpD) (ok : OkG) : Prop := ∀ ds S Q' E', sp ds S Q' E' → D.lts S.length ds → ∃ R X, ok ds S R X S.length ∧ (∀ d S', R d S' → Rt S.length Q' d S') ∧ ∀ C fs S', X C fs S' → Xt S.length E' C fs S'
section
variable {X : Cx} {φ : Ph} {H : Hp} {T : List (Addr × Str)} {S' : List O} {Q' : D → List O → Prop} {E' : EDt} {Q : VK} {E : XK}
theorem ends_cut (r : Rel K φ H S') {φ' : Ph} {H' : Hp} {S1 S2 : List O} {m : Nat} (hr' : HR K ⟨φ, H, T⟩ φ' H' S1) (h1 : S'.length ≤ m) (h2 : m ≤ S1.length) (h3 : RsS m S1 S2 (S1.take m)) : Ext K φ (φ'.cut m) H H' ∧ Rel K (φ'.cut m) H' S2 :=
  ⟨hr'.ext.cut (by show φ.own.length ≤ m; rw [r.len]; exact h1), hr'.rel.cut h2 h3⟩
theorem ends_x (r : Rel K φ H S') (ke : ∀ φ' C fs S'' cls d H', Ext K φ φ' H H' → Rel K φ' H' S'' → LamX.Tabs T H' → XRel K φ' H' C fs cls d → E' C fs S'' → E cls d H') {φ' : Ph} {H' : Hp} {S1 : List O} {C : Addr} {fs : List (Str × D)} {cls : Value} {d : Option Addr} (hr' : HR K ⟨φ, H, T⟩ φ' H' S1) (xr : XRel K φ' H' C fs cls d) (h : Xt S'.length E' C fs S1) : E cls d H' := by
  obtain ⟨m, fs2, S2, h1, h2, h3, h4, h5, he⟩ := h
  obtain ⟨e1, r1⟩ := ends_cut r hr' h1 h2 h3
  obtain ⟨rfl, dx, gs, rfl, g1, g2⟩ := xr
  obtain ⟨us, eu, g3⟩ := g2.split
  subst eu
  exact ke _ _ fs2 S2 _ _ _ e1 r1 hr'.tab ⟨rfl, dx, _, rfl, g1, by rw [← h4]; exact RKV.join (RsL.rv hr'.rel h5 g3)⟩ he
theorem ends_r (r : Rel K φ H S') (kq : ∀ φ' d S'' v H', Ext K φ φ' H H' → Rel K φ' H' S'' → LamX.Tabs T H' → RV K φ' H' d v → Q' d S'' → Q v H') {φ' : Ph} {H' : Hp} {S1 : List O} {d : D} {v : V} (hr' : HR K ⟨φ, H, T⟩ φ' H' S1) (rv : RV K φ' H' d v) (h : Rt S'.length Q' d S1) : Q v H' := by
  obtain ⟨m, d2, S2, h1, h2, h3, h4, hd⟩ := h
  obtain ⟨e1, r1⟩ := ends_cut r hr' h1 h2 h3
  exact kq _ d2 S2 _ _ e1 r1 hr'.tab (Rs.rv hr'.rel h4 rv) hd
end
theorem body_at {qual : Str} {st : Stmt} {f : Addr} {N : List Str} {k : Nat} {sp : SpD} {ok : OkG} (cv : Conv sp ok) (hb : BodyG P w K mg base qual st f N k ok) (cdv : Value) (A : Around) (outer : List Env) (s : Shared) (H : Hp) (vs : List V) (Q : VK) (E : XK) (hr : Room k (A.deeper (envOfC qual (defScope st) s.heap.objs.size f cdv)))
    (h : upF K sp vs H Q E) : ∃ t, PSs (cxOf (L2.CX P w) P w K mg base N qual (defScope st) f cdv A outer s H E) (defBody st) t ∧ t { nx := fun _ H' => Q .non H', rt := Q } (L2.start N vs) H := by
  obtain ⟨φ, ds, S', Q', E', T, r, rs, tt, h, kq, ke⟩ := h
  have lts := rs.lt
  rw [r.len] at lts
  obtain ⟨R, Xe, hok, cR, cX⟩ := cv _ _ _ _ h lts
  obtain ⟨q, hq, hh⟩ := hb cdv A outer s H E φ T (fun C fs _ S1 => Xe C fs S1) hr (fun φ' C fs s' S1 cls d σ H' hr' ev xr x => ends_x r ke hr' xr (cX _ _ _ x))
  refine ⟨_, hq, φ, startD N ds, S', { nx := fun _ S1 => R .non S1, rt := R, n := S'.length }, ⟨Ext.refl, r, tt⟩, start_ok rs, hh ds S' R Xe _ hok rfl, φ, H, Ext.refl, ?_⟩
  exact ⟨by show φ.own.length ≤ S'.length; rw [r.len]; exact Nat.le_refl _, by show φ.own.length ≤ S'.length; rw [r.len]; exact Nat.le_refl _, fun φ' H' S1 s' σ' e hr' ev x => ends_r r kq hr' (show RV K φ' H' .non .non from rfl) (cR _ _ x), fun φ' H' S1 d v e hr' rv x => ends_r r kq hr' rv (cR _ _ x), fun _ _ _ _ _ _ _ _ h => h.elim, fun _ _ _ _ _ _ _ _ h => h.elim⟩
/-- a def's body, by a promise over data -/
theorem FunD.ok {x qual : Str} {st : Stmt} {f : Addr} {fd : FuncData} {N ps : List Str} {k : Nat} {sp : SpD} {ok : OkG} (cv : Conv sp ok) (F : Fun K x qual st f fd) (S : FnScope N ps (defScope st)) (len : ∀ ds S Q E, sp ds S Q E → ds.length = ps.length) (hb : BodyG P w K mg base qual st f N k ok) : FnOk P w K mg base (L2.CX P w) (k + 1) f fd ps (upF K sp) :=
  F.okX S (fun vs H Q E ⟨φ, ds, S, Q', E', T, r, rs, tt, h, _⟩ => by rw [rs.len]; exact len _ _ _ _ h) fun cdv A outer s H vs Q E hr h => body_at cv hb cdv A outer s H vs Q E hr h
end

/-! ### what a caller sees -/
section
variable {K : PySem.W.Frag} {φ1 φ2 : Ph} {H : Hp}
mutual
theorem RV.tr {m : Nat} (hk : ∀ (k : Nat) (a : Addr), k < m → φ1.own[k]? = some a → φ2.own[k]? = some a) (hf : ∀ a, Fz φ1 a → Fz φ2 a) : ∀ {d : D} {v : V}, D.lt m d → RV K φ1 H d v → RV K φ2 H d v
  | .non, _, _, h => h
  | .bl _, _, _, h => h
  | .int _, _, _, h => h
  | .str _, _, _, h => h
  | .ty _, _, _, h => h
  | .adr _, _, _, h => h
  | .ref k, _, l, ⟨a, h1, h2⟩ => ⟨a, hk k a l h1, h2⟩
  | .tup _, _, l, ⟨p, vs, h1, h2, h3⟩ => ⟨p, vs, h1, h2, RVs.tr hk hf l h3⟩
  | .lst _, _, l, ⟨p, vs, h1, h2, h3, h4⟩ => ⟨p, vs, h1, hf _ h2, h3, RVs.tr hk hf l h4⟩
  | .ins _ _ _, _, l, ⟨p, dx, vs, h1, h2, h3, h4, h5⟩ => ⟨p, dx, vs, h1, hf _ h2, h3, h4, RVs.tr hk hf l h5⟩
  | .dK _ _, _, l, ⟨p, vs, h1, h2, h3, h4, h5⟩ => ⟨p, vs, h1, hf _ h2, h3, h4, RVs.tr hk hf l h5⟩
  | .dT _ _, _, l, ⟨p, vs, h1, h2, h3, h4, h5⟩ => ⟨p, vs, h1, hf _ h2, h3, h4, RVs.tr hk hf l h5⟩
  | .scr _, _, _, ⟨p, h1, h2⟩ => ⟨p, h1, h2.imp (fun ⟨f, g⟩ => ⟨hf _ f, g⟩) id⟩
  | .tq _, _, _, ⟨p, h1, h2⟩ => ⟨p, h1, hf _ h2.1, h2.2⟩
  | .kt _, _, l, ⟨p, vs, h1, h2, h3⟩ => ⟨p, vs, h1, h2, RVs.tr hk hf l h3⟩
  | .bad, _, _, h => h.elim
theorem RVs.tr {m : Nat} (hk : ∀ (k : Nat) (a : Addr), k < m → φ1.own[k]? = some a → φ2.own[k]? = some a) (hf : ∀ a, Fz φ1 a → Fz φ2 a) : ∀ {ds : List D} {vs : List V}, D.lts m ds → RVs K φ1 H ds vs → RVs K φ2 H ds vs
  | [], _, _, h => h
  | _ :: _, _, l, ⟨v, ws, h1, h2, h3⟩ => ⟨v, ws, h1, RV.tr hk hf l.1 h2, RVs.tr hk hf l.2 h3⟩
end
theorem RKV.tr {m : Nat} (hk : ∀ (k : Nat) (a : Addr), k < m → φ1.own[k]? = some a → φ2.own[k]? = some a) (hf : ∀ a, Fz φ1 a → Fz φ2 a) {fs : List (Str × D)} {gs : List (Str × V)} (l : D.lts m (fs.map (·.2))) (r : RKV K φ1 H fs gs) : RKV K φ2 H fs gs := by
  obtain ⟨us, eu, g3⟩ := r.split
  subst eu
  exact RKV.join (g3.tr hk hf l)
end
abbrev XD := Addr → List (Str × D) → Prop
abbrev SpP := List D → (D → Prop) → XD → Prop
/-- a def that changes nothing -/
def lp (sp : SpP) : SpD := fun ds S Q E => sp ds (fun d => Q d S) fun C fs => E C fs S
def at0 (sp : SpP) : SpD := fun ds S Q E => S = [] ∧ sp ds (fun d => Q d []) fun C fs => E C fs []
/-- the objects of the outer defs, all hidden -/
def Ph.all (φ : Ph) : Ph := ⟨φ.hid ++ φ.own, []⟩
section
variable {K : PySem.W.Frag}
theorem Rel.all {φ : Ph} {H : Hp} {S : List O} (r : Rel K φ H S) : Rel K φ.all H [] :=
  ⟨List.nodup_nil, fun _ _ z => (List.not_mem_nil z), fun a ha => (List.mem_append.mp ha).elim (r.hd a) fun h => r.own_some h, rfl, fun i o h => by simp at h⟩
theorem Fz.all {φ : Ph} {a : Addr} (h : Fz φ a) : Fz φ.all a := ⟨fun z => (List.mem_append.mp z).elim h.1 h.2, List.not_mem_nil⟩
theorem Fz.unall {φ : Ph} {a : Addr} (h : a ∉ φ.all.hid) : Fz φ a := ⟨fun z => h (List.mem_append_left _ z), fun z => h (List.mem_append_right _ z)⟩
theorem Ext.unall {φ φ' : Ph} {H H' : Hp} (e : Ext K φ.all φ' H H') : Ext K φ φ H H' := ⟨rfl, List.prefix_refl _, e.tup, e.xd, fun a u h g n => ⟨h, (e.fz a u List.not_mem_nil g n).2⟩⟩
theorem Rel.unall {φ φ' : Ph} {H H' : Hp} {S : List O} (r : Rel K φ H S) (e : Ext K φ.all φ' H H') : Rel K φ H' S := r.kept e.unall fun b u g n => (e.fz b u List.not_mem_nil g n).2
theorem upF_pure {sp : SpP} (hp : ∀ ds Q E, sp ds Q E → D.lts 0 ds) {vs : List V} {H : Hp} {Q : VK} {E : XK} (h : upF K (lp sp) vs H Q E) : upF K (at0 sp) vs H Q E := by
  obtain ⟨φ, ds, S, Q', E', T, r, rs, tt, h, kq, ke⟩ := h
  refine ⟨φ.all, ds, [], fun d S1 => S1 = [] ∧ Q' d S, fun C fs S1 => S1 = [] ∧ E' C fs S, T, r.all, rs.tr (fun k a hk => absurd hk (Nat.not_lt_zero k)) (fun a => Fz.all) (hp _ _ _ h), tt, ⟨rfl, ?_⟩, ?_, ?_⟩
  · have e1 : (fun d => [] = ([] : List O) ∧ Q' d S) = fun d => Q' d S := funext fun d => propext ⟨fun z => z.2, fun z => ⟨rfl, z⟩⟩
    have e2 : (fun C fs => [] = ([] : List O) ∧ E' C fs S) = fun C fs => E' C fs S := funext fun C => funext fun fs => propext ⟨fun z => z.2, fun z => ⟨rfl, z⟩⟩
    show sp ds (fun d => [] = ([] : List O) ∧ Q' d S) (fun C fs => [] = ([] : List O) ∧ E' C fs S)
    rw [e1, e2]
    exact h
  · rintro φ' d S1 v H' e r1 t1 rv ⟨rfl, q⟩
    have e0 : φ'.own.length = 0 := r1.len
    refine kq φ d S v H' e.unall (r.unall e) t1 (rv.tr (m := 0) (fun k a hk => absurd hk (Nat.not_lt_zero k)) (fun a z => Fz.unall (by rw [← e.hid]; exact z.1)) ?_) q
    have := rv.lt
    rwa [e0] at this
  · rintro φ' C fs S1 cls d H' e r1 t1 ⟨hc, dx, gs, hd, h1, h2⟩ ⟨rfl, q⟩
    have e0 : φ'.own.length = 0 := r1.len
    refine ke φ C fs S cls d H' e.unall (r.unall e) t1 ⟨hc, dx, gs, hd, h1, h2.tr (m := 0) (fun k a hk => absurd hk (Nat.not_lt_zero k)) (fun a z => Fz.unall (by rw [← e.hid]; exact z.1)) ?_⟩ q
    obtain ⟨us, eu, g3⟩ := h2.split
    have := g3.lt
    rwa [e0] at this
/-! with the drawing -/
def ld (sp : SpP) : SpD := fun ds S Q E => match ds, S with
  | .ref 0 :: r, .drw :: _ => sp r (fun d => Q d S) fun C fs => E C fs S
  | _, _ => False
def at1 (sp : SpP) : SpD := fun ds S Q E => ∃ r, ds = .ref 0 :: r ∧ S = [.drw] ∧ sp r (fun d => Q d [.drw]) fun C fs => E C fs [.drw]
/-- one object handed on, the others hidden -/
def Ph.one (φ : Ph) (a : Addr) : Ph := ⟨φ.hid ++ φ.own.filter (· ≠ a), [a]⟩
section
variable {φ : Ph} {H : Hp} {S : List O} {a : Addr} {k : Nat}
theorem Rel.one {o o' : O} (r : Rel K φ H S) (hk : φ.own[k]? = some a) (h : RO K (φ.one a) H o' a) : Rel K (φ.one a) H [o'] := by
  refine ⟨(by show [a].Nodup; simp), fun b hb z => ?_, fun b hb => ?_, rfl, fun i x hx => ?_⟩
  · rw [List.mem_singleton.mp z] at hb
    rcases List.mem_append.mp hb with hb | hb
    · exact r.dj a hb (List.mem_of_getElem? hk)
    · simpa using (List.mem_filter.mp hb).2
  · rcases List.mem_append.mp hb with hb | hb
    · exact r.hd b hb
    · exact r.own_some (List.mem_filter.mp hb).1
  · cases i with
    | zero => simp at hx; subst hx; exact ⟨a, rfl, h⟩
    | succ i => simp at hx
theorem Fz.one (h : Fz φ b) (ha : a ∈ φ.own) : Fz (φ.one a) b := ⟨fun z => (List.mem_append.mp z).elim h.1 fun z => h.2 (List.mem_filter.mp z).1, fun z => h.2 (List.mem_singleton.mp z ▸ ha)⟩
theorem Fz.unone {b : Addr} (h : b ∉ (φ.one a).hid) (hn : b ≠ a) : Fz φ b := ⟨fun z => h (List.mem_append_left _ z), fun z => h (List.mem_append_right _ (List.mem_filter.mpr ⟨z, by simpa using hn⟩))⟩
theorem Ext.unone {φ' : Ph} {H' : Hp} (e : Ext K (φ.one a) φ' H H') (ha : a ∈ φ.own) : Ext K φ φ H H' := ⟨rfl, List.prefix_refl _, e.tup, e.xd, fun b u h g n => ⟨h, (e.fz b u (fun z => h (List.mem_singleton.mp z ▸ ha)) g n).2⟩⟩
theorem DrawL.lts {l : List D} {m : Nat} (h : DrawL l) : D.lts m l := by
  obtain ⟨ns, i, r, s, rfl, _⟩ := h
  exact ⟨D.lts_ints ns, trivial, trivial, trivial, trivial⟩
/-- the one object is again as it was: a drawing's list -/
theorem Rel.unone {φ' : Ph} {H' : Hp} {S1 : List O} (r : Rel K φ H S) (hk : φ.own[k]? = some a) (hS : S[k]? = some .drw) (e : Ext K (φ.one a) φ' H H') (r1 : Rel K φ' H' S1) (h1 : S1[0]? = some .drw) : Rel K φ H' S := by
  have ha := List.mem_of_getElem? hk
  refine ⟨r.nd, r.dj, fun b hb => ?_, r.len, fun i x hx => ?_⟩
  · obtain ⟨u, g, n⟩ := r.hd b hb
    exact ⟨u, (e.fz b u (fun z => r.dj b hb (List.mem_singleton.mp z ▸ ha)) g n).2, n⟩
  · by_cases hi : i = k
    · subst hi
      rw [hS] at hx; cases hx
      refine ⟨a, hk, ?_⟩
      obtain ⟨b, g1, l, vs, g2, g3, g4⟩ := r1.ob 0 _ h1
      have : φ'.own[0]? = some a := e.get (k := 0) rfl
      rw [this] at g1; cases g1
      exact ⟨l, vs, g2, g3, g4.tr (m := 0) (fun k a hk => absurd hk (Nat.not_lt_zero k)) (fun b z => Fz.unone (by rw [← e.hid]; exact z.1) fun y => z.2 (y ▸ List.mem_of_getElem? this)) g2.lts⟩
    · obtain ⟨b, g1, g2⟩ := r.ob i x hx
      refine ⟨b, g1, g2.mono (e.unone ha) fun u hu n => (e.fz b u (fun z => ?_) hu n).2⟩
      have hz := List.mem_singleton.mp z
      subst hz
      obtain ⟨l1, f1⟩ := List.getElem?_eq_some_iff.mp g1
      obtain ⟨l2, f2⟩ := List.getElem?_eq_some_iff.mp hk
      exact hi ((List.getElem_inj r.nd).mp (f1.trans f2.symm))
end
theorem upF_draw {sp : SpP} (hp : ∀ ds Q E, sp ds Q E → D.lts 0 ds) {vs : List V} {H : Hp} {Q : VK} {E : XK} (h : upF K (ld sp) vs H Q E) : upF K (at1 sp) vs H Q E := by
  obtain ⟨φ, ds, S, Q', E', T, r, rs, tt, h, kq, ke⟩ := h
  unfold ld at h
  split at h
  · rename_i rest S'
    have hS : (O.drw :: S')[0]? = some .drw := rfl
    obtain ⟨v0, ws, rfl, ⟨a, hk, rfl⟩, rs⟩ := rs
    have ha := List.mem_of_getElem? hk
    obtain ⟨b, hb, l, vs, g2, g3, g4⟩ := r.ob 0 _ hS
    rw [hk] at hb; cases hb
    have tr0 : ∀ {ds : List D} {vs : List V}, D.lts 0 ds → RVs K φ H ds vs → RVs K (φ.one a) H ds vs := fun l h => h.tr (m := 0) (fun k a hk => absurd hk (Nat.not_lt_zero k)) (fun b z => z.one ha) l
    have own1 : ∀ {φ' : Ph} {H' : Hp}, Ext K (φ.one a) φ' H H' → φ'.own.length = 1 → ∀ (k : Nat) (x : Addr), k < 1 → φ'.own[k]? = some x → φ.own[k]? = some x := fun e h1 k x hk' hx => by
      have : k = 0 := by omega
      subst this
      rw [e.get (k := 0) (a := a) rfl] at hx; cases hx; exact hk
    have fz1 : ∀ {φ' : Ph} {H' : Hp}, Ext K (φ.one a) φ' H H' → ∀ b, Fz φ' b → Fz φ b := fun e b z => Fz.unone (by rw [← e.hid]; exact z.1) fun y => z.2 (y ▸ List.mem_of_getElem? (e.get (k := 0) (a := a) rfl))
    have e1 : ∀ (p : Prop) , (([O.drw] : List O) = [.drw] ∧ p) = p := fun p => propext ⟨fun z => z.2, fun z => ⟨rfl, z⟩⟩
    refine ⟨φ.one a, .ref 0 :: rest, [.drw], fun d S1 => S1 = [.drw] ∧ Q' d (.drw :: S'), fun C fs S1 => S1 = [.drw] ∧ E' C fs (.drw :: S'), T, r.one (o := .drw) hk ⟨l, vs, g2, g3, tr0 g2.lts g4⟩, ⟨_, _, rfl, ⟨a, rfl, rfl⟩, tr0 (hp _ _ _ h) rs⟩, tt, ?_, ?_, ?_⟩
    · refine ⟨rest, rfl, rfl, ?_⟩
      show sp rest (fun d => ([O.drw] : List O) = [.drw] ∧ Q' d (.drw :: S')) (fun C fs => ([O.drw] : List O) = [.drw] ∧ E' C fs (.drw :: S'))
      rw [funext fun d => e1 (Q' d (.drw :: S')), funext fun C => funext fun fs => e1 (E' C fs (.drw :: S'))]
      exact h
    · rintro φ' d S1 v H' e r1 t1 rv ⟨rfl, q⟩
      have e0 : φ'.own.length = 1 := r1.len
      have l1 := rv.lt
      rw [e0] at l1
      exact kq φ d _ v H' (e.unone ha) (r.unone hk hS e r1 rfl) t1 (rv.tr (own1 e e0) (fz1 e) l1) q
    · rintro φ' C fs S1 cls d H' e r1 t1 ⟨hc, dx, gs, hd, h1, h2⟩ ⟨rfl, q⟩
      have e0 : φ'.own.length = 1 := r1.len
      have l1 : D.lts 1 (fs.map (·.2)) := by
        obtain ⟨us, eu, g3⟩ := h2.split
        have := g3.lt
        rwa [e0] at this
      exact ke φ C fs _ cls d H' (e.unone ha) (r.unone hk hS e r1 rfl) t1 ⟨hc, dx, gs, hd, h1, h2.tr (own1 e e0) (fz1 e) l1⟩ q
  · exact h.elim
/-! an __init__: one's own instance, new -/
abbrev SpI := List D → (List (Str × D) → Prop) → XD → Prop
def atI (C : Addr) (sp : SpI) : SpD := fun ds S Q E => ∃ r, ds = .ref 0 :: r ∧ S = [.ins C []] ∧ sp r (fun fs => Q .non [.ins C fs]) fun C' fs => E C' fs [.non]
/-- no numbers in what it tells -/
def PureI (sp : SpI) : Prop := ∀ ds Q E, sp ds Q E → D.lts 0 ds ∧ sp ds (fun fs => D.lts 0 (fs.map (·.2)) ∧ Q fs) fun C fs => D.lts 0 (fs.map (·.2)) ∧ E C fs
end
section
variable {X : Cx} {B : Bs} {k : Nat} {f C : Addr} {fd : FuncData} {ps : List Str} {sp : SpI} {dds : List D} {dvs : List V} {ds : List Value} {W : WX} {W' : WD} {x m : Str} {p pos apos : Pos} {e o : Expr} {es : List Expr} {q : QA}
/-- C(..), by value -/
def qMkV (C : Addr) (sp : SpI) (dds : List D) (W' : WD) (q : QA) : QE := fun s S Q => q s S fun ds S1 => sp (ds ++ dds) (fun fs => Q (.ins C (fs.map (·.1)) (fs.map (·.2))) S1) fun C fs => W' C fs s S1
theorem mkV_at {φ : Ph} {H : Hp} {S : List O} {s : Sl} {σ : L2.St} {dl : List D} {vs : List V} {Q' : D → List O → Prop} {Q : VK} (hp : PureI sp) (hr : HR X.K B φ H S) (ev : EV X.K φ H s σ) (r : RVs X.K φ H dl vs) (hdd : RVc X.K dds dvs) (wl : WL X.K B W' W)
    (h : sp (dl ++ dds) (fun fs => Q' (.ins C (fs.map (·.1)) (fs.map (·.2))) S) fun C fs => W' C fs s S) (k : Kont X.K B (rD X.K) φ H Q' Q) :
    ∀ x dx, H x = none → H dx = none → dx ≠ x → upF X.K (atI C sp) (.ref x :: (vs ++ dvs)) (upd (upd H dx (.own x)) x (.ins C dx [])) (fun v H2 => v = .non ∧ Q (.ref x) H2) (WE W σ) := fun x dx hx hdx hne => by
  have hx1 : upd H dx (.own x) x = none := by rw [upd_ne hne.symm]; exact hx
  have e1 : Ext X.K φ φ H (upd H dx (.own x)) := ext_new hdx
  have e2 : Ext X.K φ (φ.add x) (upd H dx (.own x)) (upd (upd H dx (.own x)) x (.ins C dx [])) := ext_add hx1
  have at_ : ∀ b u, H b = some u → upd (upd H dx (.own x)) x (.ins C dx []) b = some u := fun b u z => by rw [upd_ne (ne_of_none z hx), upd_ne (ne_of_none z hdx)]; exact z
  have xh : x ∉ φ.hid ++ φ.own := fun z => by
    rcases List.mem_append.mp z with z | z
    · obtain ⟨u, g, _⟩ := hr.rel.hd x z; rw [hx] at g; cases g
    · obtain ⟨u, g, _⟩ := hr.rel.own_some z; rw [hx] at g; cases g
  obtain ⟨lt, h⟩ := hp _ _ _ h
  have rc : Rel X.K ⟨φ.hid ++ φ.own, [x]⟩ (upd (upd H dx (.own x)) x (.ins C dx [])) [.ins C []] := by
    refine ⟨(by show [x].Nodup; simp), fun b hb z => xh (List.mem_singleton.mp z ▸ hb), fun b hb => ?_, rfl, fun i y hy => ?_⟩
    · have t : Trk H b := (List.mem_append.mp hb).elim (hr.rel.hd b) fun z => hr.rel.own_some z
      obtain ⟨u, g, n⟩ := t
      exact ⟨u, at_ _ _ g, n⟩
    · cases i with
      | zero => simp at hy; subst hy; exact ⟨x, rfl, dx, [], upd_same, rfl⟩
      | succ i => simp at hy
  have rr := (r.mono (e1.trans e2)).app (hdd (φ.add x) (upd (upd H dx (.own x)) x (.ins C dx [])))
  have rr2 : RVs X.K ⟨φ.hid ++ φ.own, [x]⟩ (upd (upd H dx (.own x)) x (.ins C dx [])) (dl ++ dds) (vs ++ dvs) := rr.tr (m := 0) (fun k a hk => absurd hk (Nat.not_lt_zero k)) (fun b z => ⟨fun y => (List.mem_append.mp y).elim z.1 fun y => z.2 (List.mem_append_left _ y), fun y => z.2 (List.mem_append_right _ y)⟩) lt
  have eE : ∀ {φ' : Ph} {H' : Hp}, Ext X.K ⟨φ.hid ++ φ.own, [x]⟩ φ' (upd (upd H dx (.own x)) x (.ins C dx [])) H' → Ext X.K φ φ H H' := fun e => ⟨rfl, List.prefix_refl _, fun p vs h => e.tup p vs (e2.tup p vs (e1.tup p vs h)), fun p gs h => e.xd p gs (e2.xd p gs (e1.xd p gs h)), fun b u h g n => ⟨h, (e.fz b u (fun z => by rw [List.mem_singleton.mp z, hx] at g; cases g) (at_ _ _ g) n).2⟩⟩
  have rR : ∀ {φ' : Ph} {H' : Hp}, Ext X.K ⟨φ.hid ++ φ.own, [x]⟩ φ' (upd (upd H dx (.own x)) x (.ins C dx [])) H' → Rel X.K φ H' S := fun e => hr.rel.kept (eE e) fun b u g n => (e.fz b u (fun z => by rw [List.mem_singleton.mp z, hx] at g; cases g) (at_ _ _ g) n).2
  have fz1 : ∀ {φ' : Ph} {H' : Hp}, Ext X.K ⟨φ.hid ++ φ.own, [x]⟩ φ' (upd (upd H dx (.own x)) x (.ins C dx [])) H' → ∀ b, b ∉ φ'.hid → Fz φ b := fun e b z => by
    rw [e.hid] at z
    exact ⟨fun y => z (List.mem_append_left _ y), fun y => z (List.mem_append_right _ y)⟩
  refine ⟨⟨φ.hid ++ φ.own, [x]⟩, .ref 0 :: (dl ++ dds), [.ins C []], fun d S1 => d = .non ∧ ∃ fs, S1 = [.ins C fs] ∧ D.lts 0 (fs.map (·.2)) ∧ Q' (.ins C (fs.map (·.1)) (fs.map (·.2))) S, fun C' fs S1 => D.lts 0 (fs.map (·.2)) ∧ W' C' fs s S, B.T, rc, ⟨_, _, rfl, ⟨x, rfl, rfl⟩, rr2⟩, tabs_new hx1 (tabs_new hdx hr.tab), ?_, ?_, ?_⟩
  · refine ⟨dl ++ dds, rfl, rfl, ?_⟩
    have e3 : (fun fs : List (Str × D) => (D.non = D.non ∧ ∃ fs', [O.ins C fs] = [O.ins C fs'] ∧ D.lts 0 (fs'.map (·.2)) ∧ Q' (.ins C (fs'.map (·.1)) (fs'.map (·.2))) S)) = fun fs => D.lts 0 (fs.map (·.2)) ∧ Q' (.ins C (fs.map (·.1)) (fs.map (·.2))) S := funext fun fs => propext ⟨fun ⟨_, fs', z, y⟩ => by cases z; exact y, fun z => ⟨rfl, fs, rfl, z⟩⟩
    show sp (dl ++ dds) (fun fs : List (Str × D) => (D.non = D.non ∧ ∃ fs', [O.ins C fs] = [O.ins C fs'] ∧ D.lts 0 (fs'.map (·.2)) ∧ Q' (.ins C (fs'.map (·.1)) (fs'.map (·.2))) S)) _
    rw [e3]
    exact h
  · rintro φ' d S1 v H' e r1 t1 rv ⟨rfl, fs, rfl, l1, q⟩
    cases rv
    refine ⟨rfl, k _ _ _ _ _ (eE e) (hr.mono (eE e) (rR e) t1) ?_ q⟩
    have r0 : RV X.K (φ'.cut 0) H' (.ins C (fs.map (·.1)) (fs.map (·.2))) (.ref x) := Rs.rv (m := 0) r1 (.inr ⟨0, fs, rfl, Nat.le_refl _, rfl, rfl, RsL.same l1⟩) ⟨x, e.get (k := 0) rfl, rfl⟩
    exact r0.tr (m := 0) (fun k a hk => absurd hk (Nat.not_lt_zero k)) (fun b (z : Fz (φ'.cut 0) b) => fz1 e b z.1) l1
  · rintro φ' C' fs S1 cls d H' e r1 t1 ⟨hc, dx', gs, hd, h1, h2⟩ ⟨l1, q⟩
    refine wl _ _ _ _ S _ _ _ _ (hr.mono (eE e) (rR e) t1) (ev.mono (eE e)) ⟨hc, dx', gs, hd, h1, ?_⟩ q
    obtain ⟨us, eu, g3⟩ := h2.split
    subst eu
    refine RKV.join ?_
    have := RsL.rv (m := 0) r1 (RsL.same l1) g3
    exact this.tr (m := 0) (fun k a hk => absurd hk (Nat.not_lt_zero k)) (fun b (z : Fz (φ'.cut 0) b) => fz1 e b z.1) l1
theorem le_mkV {fI : Addr} (hp : PureI sp) (M : Mk X.K C fI) (F : FnOk X.prog X.w X.K X.mg X.base (L2.CX X.prog X.w) k fI fd ps (upF X.K (atI C sp))) (rm : Room (k + 1) X.A) (hm : X.mg x = some (.ref C)) (bd : Binds X.K fd ps ds) (vd : Vals dvs ds) (hdd : RVc X.K dds dvs) (tk : Takes X W) (wl : WL X.K B W' W) (ha : LA X B (e :: es) q) (hg : Gl X x := by rfl)
    (nx : (x == ("__debug__" : Str)) = false := by decide) (st : starEach (e :: es) X.env = (false, eval e X.env) :: starEach es X.env := by rfl) (pn : (backTo pos (starEach es X.env)).any (·.1) = false := by rfl) : LE X B (.Call (.Name x p) (e :: es) [] pos) (qMkV C sp dds W' q) := ⟨fun pins s σ H Q I ⟨φ, s', S, Q', hr', ev, q, kk⟩ => by
  refine wpAny_Call_Name_kw (ld_glob I hg hm ?_ nx)
  refine PySem.W.callWith_K (h₀ := X.base) I.ok.mod.kin M.kp (thn (ha.run pos pins s σ H (fun vs H1 => ∃ φ1 dl S1, Ext X.K φ φ1 H H1 ∧ HR X.K B φ1 H1 S1 ∧ RVs X.K φ1 H1 dl vs ∧ sp (dl ++ dds) (fun fs => Q' (.ins C (fs.map (·.1)) (fs.map (·.2))) S1) fun C fs => W' C fs s' S1) I
    ⟨φ, s', S, _, hr', ev, q, fun φ1 dl S1 vs H1 e1 hr1 r1 q1 => ⟨φ1, dl, S1, e1, hr1, r1, q1⟩⟩) fun us s1 ⟨vs, H1, I1, r, φ1, dl, S1, e1, hr1, r1, q1⟩ => ⟨I1.kIn, ?_⟩) st pn
  exact run_mk (E := WE W) M F rm bd vd (passAt tk σ) I1 r (mkV_at hp hr1 (ev.mono e1) r1 hdd wl q1 (kk.ext e1))⟩
end
end LC

set_option Elab.async false
set_option linter.all false
set_option maxRecDepth 100000
set_option maxHeartbeats 5000000
/-! LD8: exceptions: classes with an own __init__, raise, try .. except. -/
namespace LC
open PySem PySem.Spec
open PyProof.Rows L2

/-! ### C.m(..), m a plain def of the class -/
section
variable {X : Cx} {k : Nat} {f C : Addr} {fd : FuncData} {ps : List Str} {sp : Sp} {E : XK} {x m : Str} {p1 p2 pos : Pos} {e : Expr} {es : List Expr} {t : TA} {mc : Value}
theorem pe_clsm {pl : Sem Bool} (hg : Gl X x) (hm : X.mg x = some (.ref C)) (r : ClX.CRead X.K C mc) (hc : PySem.W.findCls X.K (.ref C) mc m = some (.val (.ref f))) (F : FnOk X.prog X.w X.K X.mg X.base (L2.CX X.prog X.w) k f fd ps sp) (hk : PySem.W.keepIn X.K (.ref f) = true) (hr : Room k X.A) (hb : Binds X.K fd ps [])
    (hx : Passes (L2.CX X.prog X.w) X E) (ha : PA X (e :: es) t) (hdb : (x == ("__debug__" : Str)) = false := by decide)
    (hst : starEach (e :: es) X.env = (false, eval e X.env) :: starEach es X.env := by rfl) 
    (hpl : (backTo pos (starEach es X.env)).any (·.1) = false := by rfl)
    (ht : eval (.Call (.Attribute (.Name x p1) m p2) (e :: es) [] pos) X.env = (do
      let ov ← eval (.Name x p1) X.env
      standAt p2.atName
      let (fn, pre) ← holding [ov] (getMethod ov m pl)
      callWith pos fn pre (backTo pos (starEach (e :: es) X.env)) (backToKw pos (keywordEach [] X.env))) := by rfl) :
    PE X (.Call (.Attribute (.Name x p1) m p2) (e :: es) [] pos) (tCall sp [] E t) := by
  refine ⟨fun pn s σ H Q I hh => ?_⟩
  refine PySem.W.methodCall_KW (pl := pl) (ld_glob I hg hm ?_ hdb) ht
  refine PySem.W.method_cls I.kIn r.ga (ClX.getcval_ok (v := .ref f) I r ⟨hc, rfl⟩ fun s' I' => ?_)
  refine PySem.W.callWith_K (first := []) (h₀ := X.base) I.ok.mod.kin hk (thn (ha.run pos pn s' σ H _ I' hh) fun ws t2 ⟨vs, M2, J2, r2, q2⟩ => ⟨J2.kIn, ?_⟩) hst hpl
  exact run_fn (us := ws) (vs := vs) F hr hb .nil hx J2 r2 q2
end

/-! ### an exception's __init__ -/
/-- self gets its own dict with the fields fl; all else stays -/
def spX (C : Addr) (n : Nat) (fl : List V → List (Str × V)) : Sp := fun vs H Q _ => ∃ (a : Addr) (us : List V), vs = .ref a :: us ∧ us.length = n ∧ H a = some (exo a C none) ∧
  ∀ (d : Addr) (Hf : Hp), H d = none → d ≠ a → Hf a = some (exo a C (some d)) → Hf d = some (exd d (fl us)) → (∀ b, b ≠ a → b ≠ d → Hf b = H b) → Q .non Hf
/-- the base's: called with any of the classes -/
def spX0 (K : PySem.W.Frag) : Sp := fun vs H Q _ => ∃ (a C : Addr) (y : V), vs = [.ref a, y] ∧ OexC K C ∧ PySem.W.findIn K (.ref C) "called" = some none ∧ H a = some (exo a C none) ∧
  ∀ d, H d = none → d ≠ a → Q .non (upd (upd H d (exd d [("called", y)])) a (exo a C (some d)))
section
variable {X : Cx} {B : Bs} {x : Str} {C fI : Addr} {k : Nat} {fd : FuncData} {ps : List Str} {ds : List Value} {dvs : List V} {p pos : Pos} {e : Expr} {es : List Expr} {q : QA}
/-- as HandS's pmk_oex, without arguments -/
theorem pmk_oex0 {sp : Sp} (T : OexC X.K C) (iC : PySem.W.findIn X.K (.ref C) "__init__" = some (some (.ref fI))) (tI : PySem.W.typeIn X.K (.ref fI) = some (.type "function"))
    (F1 : FnOk X.prog X.w X.K X.mg X.base (L2.CX X.prog X.w) k fI fd ps sp) (hr : Room (k + 1) X.A) (hb : Binds X.K fd ps ds) (hd : Vals dvs ds) (hx : Passes (L2.CX X.prog X.w) X (fun _ _ _ => False)) (hg : Gl X x) (hm : X.mg x = some (.ref C))
    (hdb : (x == ("__debug__" : Str)) = false := by decide) :
    PMk X (.Call (.Name x p) [] [] pos) (tMkO C sp dvs tNil) := by
  intro pn s σ H Q I h
  obtain ⟨hz, q1⟩ := h
  obtain ⟨m0, q, N, bs, bm, sn, sub, ab, col, dd, k0, k1, k2, k3, k5, gC, gbm⟩ := T.cls
  apply wpAny_Call_Name_kw; refine ld_glob I hg hm ?_ hdb
  refine PySem.W.callWith_K0 I.kIn T.kC ?_
  show wpAny _ _ (call (.ref C) []) _ _ _
  obtain ⟨hpo, gg, dd0, tt, oo⟩ := s
  have hSz : hpo.objs.size ≤ hpo.objs.size + 1 := Nat.le_succ _
  have hq := q1 (hpo.objs.size + 1) (I.hok.fresh hSz)
  have kp : ∀ b o, hpo.get? b = some o → ((hpo.push (PySem.W.kdv_tup [])).push (PySem.HandSPX.excO C hpo.objs.size)).get? b = some o := fun b o e => Heap.get?_push_of_some _ (Heap.get?_push_of_some _ e)
  have hGet : ((hpo.push (PySem.W.kdv_tup [])).push (PySem.HandSPX.excO C hpo.objs.size)).get? (hpo.objs.size + 1) = some (PySem.HandSPX.excO C hpo.objs.size) := by heap_get
  have J2 : Inv X pn σ (upd H (hpo.objs.size + 1) (exo (hpo.objs.size + 1) C none)) ⟨(hpo.push (PySem.W.kdv_tup [])).push (PySem.HandSPX.excO C hpo.objs.size), gg, dd0, tt, oo⟩ :=
    I.laid (t' := tt) (a := hpo.objs.size + 1) (o := exo (hpo.objs.size + 1) C none) (h' := (hpo.push (PySem.W.kdv_tup [])).push (PySem.HandSPX.excO C hpo.objs.size)) kp hSz (exo_ok hGet)
  have rr : Vals (V.ref (hpo.objs.size + 1) :: ([] ++ dvs)) (Value.ref (hpo.objs.size + 1) :: ([] ++ ds)) := .cons rfl hd
  have hLen : (Value.ref (hpo.objs.size + 1) :: ([] : List Value) ++ ds).length = ps.length := by
    have e := rr.length
    rw [F1.len _ _ _ _ hq] at e
    exact e.symm
  refine wpAny_call (PySem.HandSPX.call_own F.excBase_ValueError (fun Y => PySem.HandSPX.refsVE_contains Y bm gbm) (I.kIn _ _ gC) (PySem.W.looks_findIn I.kIn iC) (fun self => PySem.W.bind_fn I.kIn self tI) (by show 0 ≤ sizeLine; exact Nat.zero_le _)
    (codeAny_mono (F1.run _ X.stack _ _ ⟨Value.ref (hpo.objs.size + 1) :: [], []⟩ (Value.ref (hpo.objs.size + 1) :: ([] ++ ds)) _ _ (fun _ _ _ => False) (hr.make C [] []) (J2.env0.make C [] []) (by have z := hb ⟨(hpo.push (PySem.W.kdv_tup [])).push (PySem.HandSPX.excO C hpo.objs.size), gg, dd0, tt, oo⟩ [Value.ref (hpo.objs.size + 1)] J2.kIn hLen; simpa using z) rr hq) fun r s' hq' => ?_))
  cases r with
  | error ex => exact hx pn σ _ _ ex s' J2 hq'
  | ok fl =>
    cases fl with
    | ret u =>
      obtain ⟨v, M2, o2, b2, u2, k2, rv, ev, d, fs, e1, e2, e3, q2⟩ := hq'
      subst ev
      obtain ⟨h2, g2, dd2, t2, oo'⟩ := s'
      exact ⟨rv, mk_end (raises_own T.exC T.tyC) I hSz kp u2 k2 o2 b2 e1 e2 e3 q2⟩
    | next => exact hq'.elim
    | brk => exact False.elim hq'
    | cont => exact hq'.elim
/-- the fields of such an exception, over data -/
def FlD (K : PySem.W.Frag) (fl : List V → List (Str × V)) (flD : List D → List (Str × D)) : Prop := ∀ φ H ds us, RVs K φ H ds us → RKV K φ H (flD ds) (fl us)
theorem mk_at {φ : Ph} {H : Hp} {S : List O} {dl dds : List D} {vs : List V} {n : Nat} {fl : List V → List (Str × V)} {flD : List D → List (Str × D)} {Q : XK} (hfl : FlD X.K fl flD) (hr : HR X.K B φ H S) (r : RVs X.K φ H dl vs) (hdd : RVc X.K dds dvs) (hn : dl.length + dds.length = n)
    (q : ∀ φ' H' cls d, Ext X.K φ φ' H H' → HR X.K B φ' H' S → XRel X.K φ' H' C (flD (dl ++ dds)) cls d → Q cls d H') :
    ∀ a, H a = none → spX C n fl (.ref a :: (vs ++ dvs)) (upd H a (exo a C none)) (fun v H2 => v = .non ∧ ∃ (d : Addr) (fs : List (Str × V)), H2 a = some (exo a C (some d)) ∧ H2 d = some (exd d fs) ∧ H d = none ∧ Q (.ref C) (some d) (upd (del H2 a) d (.xd fs))) (fun _ _ _ => False) := fun a ha => by
  have rr := r.app (hdd φ H)
  refine ⟨a, vs ++ dvs, rfl, by rw [rr.len, List.length_append]; exact hn, upd_same, fun d Hf hd hne h1 h2 h3 => ⟨rfl, d, fl (vs ++ dvs), h1, h2, by rw [upd_ne hne] at hd; exact hd, ?_⟩⟩
  rw [upd_ne hne] at hd
  have at_ : ∀ b u, H b = some u → upd (del Hf a) d (.xd (fl (vs ++ dvs))) b = some u := fun b u hb => by
    have h4 : b ≠ a := ne_of_none hb ha
    have h5 : b ≠ d := ne_of_none hb hd
    rw [upd_ne h5, del_ne h4, h3 b h4 h5, upd_ne h4]; exact hb
  have e : Ext X.K φ φ H (upd (del Hf a) d (.xd (fl (vs ++ dvs)))) := ext_at at_
  exact q φ _ _ _ e (hr.mono e (hr.rel.kept e fun b u h _ => at_ b u h) (hr.tab.ext at_)) ⟨rfl, d, _, rfl, upd_same, hfl _ _ _ _ (rr.mono e)⟩
/-- raise C(..) -/
def qRaise (C : Addr) (flD : List D → List (Str × D)) (n : Nat) (dds : List D) (W' : WD) (q : QA) : QS := fun _ s S => q s S fun ds S1 => Br (lenLe 1000 ds && Nat.beq (ds ++ dds).length n) (W' C (flD (ds ++ dds)) s S1) False
theorem raise_ok {ds dds : List D} {n : Nat} (h : (lenLe 1000 ds && Nat.beq (ds ++ dds).length n) = true) : ds.length ≤ 1000 ∧ ds.length + dds.length = n := by
  rw [Bool.and_eq_true] at h
  exact ⟨lenLe_ok h.1, by rw [← List.length_append]; exact Nat.eq_of_beq_eq_true h.2⟩
theorem ls_raise0 {W : WX} {W' : WD} {n : Nat} {fl : List V → List (Str × V)} {flD : List D → List (Str × D)} {dds : List D} {rpos : Pos} (hfl : FlD X.K fl flD) (hc : X.calm = true) (T : OexC X.K C) (iC : PySem.W.findIn X.K (.ref C) "__init__" = some (some (.ref fI))) (tI : PySem.W.typeIn X.K (.ref fI) = some (.type "function"))
    (F1 : FnOk X.prog X.w X.K X.mg X.base (L2.CX X.prog X.w) k fI fd ps (spX C n fl)) (hr : Room (k + 1) X.A) (hb : Binds X.K fd ps ds) (hd : Vals dvs ds) (hdd : RVc X.K dds dvs) (tk : Takes X W) (wl : WL X.K B W' W) (hx : Passes (L2.CX X.prog X.w) X (fun _ _ _ => False)) (hg : Gl X x) (hm : X.mg x = some (.ref C))
    (hdb : (x == ("__debug__" : Str)) = false := by decide) :
    LS X B (.Raise (some (.Call (.Name x p) [] [] pos)) none rpos) (qRaise C flD n dds W' qNil) := PS.imp (ps_raise hc tk (pmk_oex0 T iC tI F1 hr hb hd hx hg hm hdb)) fun D σ H ⟨φ, s, S, D', hr', ev, qq, ek⟩ => let ⟨hb, q⟩ := Br.get qq; let ⟨h1, h2⟩ := raise_ok hb
  ⟨Nat.zero_le _, mk_at (dl := []) hfl hr' rfl hdd h2 fun φ' H' cls d e2 hr2 xr => wl _ _ _ _ _ _ _ _ _ hr2 (ev.mono e2) xr q⟩

/-! ### try .. except X as n -/
theorem pe_xfA {a : Addr} {oe : Obj} {cls : Value} {d : Option Addr} {pn : List (Addr × Obj)} {e : Expr} {te : TE} {pos : Pos} {n : Str}
    (hz : Zc cls d oe)
    (hf : ∃ vs, oe.data = .fields vs) (he : PE (X.suite a ((a, oe) :: pn)) e te) (hb : attributeBase e n X.env (eval e X.env) = eval e X.env := by rfl) :
    PE (X.suite a ((a, oe) :: pn)) (.Attribute e n pos) (fun σ H Q => te σ H fun x H1 => x = .ref a ∧ ∃ (C dd : Addr) (fs : List (Str × V)) (v : V), cls = .ref C ∧ XfC X.K C ∧ PySem.W.findIn X.K (.ref C) n = some none ∧ d = some dd ∧ H1 dd = some (.xd fs) ∧ fs.lookup n = some v ∧ Q v H1) := by
  refine ⟨fun pn s σ H Q I h => ?_⟩
  refine attr_of hb (thn (he.run pn s σ H _ I h) fun u t1 hz1 => ?_)
  obtain ⟨x, H1, J1, rx, ex, C, dd, fs, v, ec, T, hno, ed, ea, l, q⟩ := hz1
  subst ex
  have eu : u = Value.ref a := rx
  subst eu
  subst ec
  subst ed
  obtain ⟨ha, _⟩ := J1.pin (a, oe) (List.mem_append_left _ List.mem_cons_self)
  obtain ⟨vs, hd⟩ := hf
  have hOb : ObjOk X.prog X.w H1 t1.heap dd (.xd fs) := J1.hok dd _ ea
  obtain ⟨mm, hN, hr⟩ := hOb
  obtain ⟨o2, hO2, hL2⟩ := lookIn_ns hN
  obtain ⟨u, hu, rr⟩ := RelO.some_of (v := v) (o := mm n) (by rw [← l]; exact hr n)
  have JJ : PySem.W.InstAt t1.heap a oe C (some o2) := ⟨ha, hz.1, by unfold PySem.W.notCls; rw [hd] <;> rfl, by rw [hz.2]; exact hO2⟩
  exact HandSPX.exc_get J1.kIn JJ T.ga T.gg T.exC (PySem.W.findObj_own T.hdC hno rfl (by rw [hL2, hu])) (handed_of rr) ⟨v, H1, J1.tok _, rr, q⟩
end
end LC

set_option Elab.async false
set_option linter.all false
set_option maxRecDepth 100000
set_option maxHeartbeats 5000000
/-! LD9: why(lambda: e). -/
namespace LC
open PySem PySem.Spec
open PyProof.Rows L2

/-- def why(ask): told = None; word = ''; try: told = ask() / except LimeError as e: word = e.called; return (told, word) -/
def ttWhy (K : PySem.W.Frag) (CS : Addr) : (XK → Hp → VK → Prop) → Hp → VK → Prop := fun tl H Q =>
  tl (fun cls d H2 => PySem.W.exmOne K cls (.ref CS) = some true ∧ ∃ (C dd : Addr) (fs : List (Str × V)) (v : V), cls = .ref C ∧ XfC K C ∧ PySem.W.findIn K (.ref C) "called" = some none ∧ d = some dd ∧ H2 dd = some (.xd fs) ∧ fs.lookup ("called" : Str) = some v ∧
    ∀ p, H2 p = none → Q (.ref p) (upd H2 p (.tup [.non, v]))) H (fun v H2 => ∀ p, H2 p = none → Q (.ref p) (upd H2 p (.tup [v, .str ""])))
def qWhy (K : PySem.W.Frag) (CS : Addr) (qb : WD → QE) : QE := fun s S Q => qb (fun C fs _ S1 => Need (PySem.W.exmOne K (.ref C) (.ref CS) = some true ∧ XfC K C ∧ PySem.W.findIn K (.ref C) "called" = some none) (Opt (fs.lookup ("called" : Str)) fun v => Q (.tup [.non, v]) S1)) s S
  fun d S1 => Q (.tup [d, .str ""]) S1
section
variable {X : Cx} {B : Bs}
theorem ext_N {K : PySem.W.Frag} {φ : Ph} {H H1 : Hp} (e : LamX.ExtN H H1) : Ext K φ φ H H1 := ⟨rfl, List.prefix_refl _, fun p vs h => e _ _ h (fun ps z => by cases z), fun p gs h => e _ _ h (fun ps z => by cases z), fun a u h g n => ⟨h, e _ _ g n⟩⟩
theorem rel_N {K : PySem.W.Frag} {φ : Ph} {H H1 : Hp} {S : List O} (e : LamX.ExtN H H1) (r : Rel K φ H S) : Rel K φ H1 S := r.kept (ext_N e) fun b u g n => e _ _ g n
theorem up_why {CS : Addr} {qb : WD → QE} {σ : L2.St} {H : Hp} {Q : VK} (h : UP X.K B (rD X.K) (qWhy X.K CS qb) σ H Q) :
    LamX.tLam B.T (ttWhy X.K CS) (fun E σ H Q => ∃ (B1 : Bs) (W1 : WD), WL X.K B1 W1 (fun cls d _ H => E cls d H) ∧ UP X.K B1 (rD X.K) (qb W1) σ H Q) σ H Q := by
  obtain ⟨φ, s, S, Q', hr, ev, q, k⟩ := h
  refine ⟨hr.tab, fun H1 eN tT => ?_⟩
  have e1 : Ext X.K φ φ H H1 := ext_N eN
  have back : ∀ {φ' : Ph} {H' : Hp} {S' : List O}, HR X.K ⟨φ, H1, B.T⟩ φ' H' S' → HR X.K B φ' H' S' := fun h => ⟨hr.ext.trans (e1.trans h.ext), h.rel, h.tab⟩
  refine ⟨⟨φ, H1, B.T⟩, _, ?_, φ, s, S, _, ⟨Ext.refl, rel_N eN hr.rel, tT⟩, ev.mono e1, q, ?_⟩
  · rintro φ' C fs s1 S1 cls d σ1 H' hr' ev' xr ⟨⟨h1, h2, h3⟩, qq⟩
    obtain ⟨v, h4, h5⟩ := Opt.get qq
    obtain ⟨rfl, dd, gs, rfl, h6, h7⟩ := xr
    obtain ⟨u, h8, h9⟩ := h7.lookup_some h4
    exact ⟨h1, C, dd, gs, u, rfl, h2, h3, rfl, h6, h8, fun p hp => (k.ext (e1.trans hr'.ext)).tup (ds := [.non, v]) (back hr') hp ⟨_, _, rfl, rfl, _, _, rfl, h9, rfl⟩ h5⟩
  · intro φ' d S' v H' e2 hr' rv q' p hp
    exact (k.ext (e1.trans e2)).tup (ds := [d, .str ""]) (back hr') hp ⟨_, _, rfl, rv, _, _, rfl, rfl, rfl⟩ q'
/-- ask() in why: Z is why's context, the maker's state is I; what is raised is wished for at why's own slots -/
theorem pe_ask {Ng : List Str} {qg : Str} {sg : Scope} {g fl cl : Addr} {cdg pm ctv : Value} {params : Arguments} {body : Expr} {scope : Scope} {lv : Nat} {a : Str} {pn : List (Addr × Obj)} {xe : Value → Shared → Prop} {W : WX} {t : XK → TE} {p1 p2 : Pos}
    {pins : List (Addr × Obj)} {σ0 : L2.St} {H0 : Hp} {s0 : Shared} (I0 : Inv X pins σ0 H0 s0) (L : LamX.LamS X.env.scope scope) (hobj : s0.heap.get? fl = some (PySem.W.kla_obj "<lambda>" (X.env.qual ++ "<lambda>") params body scope (cloFrom X.env.cells scope.names []) pm cl ctv))
    (hun : H0 fl = none) (hnf : fl ∉ frs X.stack) (hbind : bindArgs (PySem.W.kla_fn "<lambda>" (X.env.qual ++ "<lambda>") params body scope (cloFrom X.env.cells scope.names []) pm (.ref cl) ctv) ⟨[], []⟩ = pure [])
    (tk : Takes ((cxOf C8.CX0 X.prog X.w X.K X.mg X.base Ng qg sg g cdg X.A X.stack s0 H0 C8.E0).tr pn xe) W) (room : Room (lv + 1) (X.A.deeper (envOfC qg sg s0.heap.objs.size g cdg)))
    (hbody : ∀ (A : Around) (outer : List Env) (s : Shared) (H : Hp) (E : XK), Room lv (A.deeper (LamX.lamEnv X scope s.heap.objs.size fl cl)) → PE (LamX.lamCx X A outer s H E scope fl cl) body (t E))
    (hN : Ng[0]? = some a) (hv : Vis sg a) (hd : (a == ("__debug__" : Str)) = false) (hcd : (a == ("__classdict__" : Str)) = false) :
    PE ((cxOf C8.CX0 X.prog X.w X.K X.mg X.base Ng qg sg g cdg X.A X.stack s0 H0 C8.E0).tr pn xe) (.Call (.Name a p1) [] [] p2)
      (fun σZ HZ Q => σZ[0]? = some (some (.ref fl)) ∧ HZ cl = some (LamX.CodeO cl (X.env.qual ++ "<lambda>")) ∧ t (WE W σZ) σ0 HZ Q) := ⟨fun pz sz σz Hz Q Iz ⟨h1, h2, h3⟩ => by
  have nm := (pe_var (X := (cxOf C8.CX0 X.prog X.w X.K X.mg X.base Ng qg sg g cdg X.A X.stack s0 H0 C8.E0).tr pn xe) (pos := p1) (i := 0) hN hv hd hcd).run pz sz σz Hz (fun v K1 => v = .ref fl ∧ K1 = Hz) Iz ⟨.ref fl, h1, rfl, rfl⟩
  refine wpAny_Call_Name_kw (thn nm fun u s1 ⟨v, K1, I1, r1, ev, eK⟩ => ?_)
  subst ev; subst eK
  cases r1
  have stays : s1.heap.get? fl = _ := I1.base.keep fl _ hobj hun hnf (List.not_mem_nil)
  obtain ⟨⟨oc, cv, tc, c1, c2, c3⟩, _, _⟩ := I1.hok cl _ h2
  refine PySem.W.callWith_F0 ⟨_, _, _, _, stays⟩ (wpAny_call ?_)
  have whole : codeAny (model X.prog X.w) (X.A.deeper (envOfC qg sg s0.heap.objs.size g cdg)) (.call (.ref fl) ⟨[], []⟩) (CR (L2.CX X.prog X.w) (envOfC qg sg s0.heap.objs.size g cdg :: X.stack) X.prog X.w K1 s1 Q (WE W σz)) s1 := by
    refine PySem.W.kla_callFunE room.depth stays rfl L.co L.gen rfl ⟨cl, oc, cv, tc, rfl, c1, c2, c3⟩ ?_
    rw [hbind]
    refine wpAny_pure (wpAny_newFunctionEnv (fun y hy => (L.own y hy).2) (fun y hy => (List.not_mem_nil hy).elim) (fun h₁ ns sb => ⟨I1.nolimit.fresh _ sb, ?_⟩) L.kind)
    have grown : ∀ b o, s1.heap.get? b = some o → h₁.get? b = some o := fun b o e => sb.extBut b o (Nat.ne_of_lt (Heap.lt_size e)) (Heap.get?_push_of_some _ e)
    have J := LamX.lam_start2 (E := WE W σz) (f := fl) (c' := cl) (tk := s1.toks + ([] : List (Str × Value)).length) I0 L I1.env0 room.hd I1.base ns grown
    refine PySem.W.kla_codeExpr (wpAny_mono ((hbody _ _ s1 K1 (WE W σz) (room.deeper _)).run [] _ σ0 K1 Q J h3) (fun v s' ⟨x, K2, J2, rx, qx⟩ => ⟨x, K2, J2.os, J2.bare, J2.base, J2.hok, rx, qx⟩) fun _ _ z => z)
  refine codeAny_mono whole fun r s' hq => ?_
  match r, hq with
  | .error e, hq => exact passAt tk σz pz K1 s1 e s' I1 hq
  | .ok (.ret u), hq => exact I1.after hq
  | .ok .next, hq => exact hq.elim
  | .ok .brk, hq => exact hq.elim
  | .ok .cont, hq => exact hq.elim⟩
/-- why's body, whatever ask() gives -/
def MonoL (tl : XK → Hp → VK → Prop) : Prop := ∀ (E E' : XK) (H : Hp) (Q Q' : VK), tl E H Q → (∀ cls d H', E cls d H' → E' cls d H') → (∀ v H', Q v H' → Q' v H') → tl E' H Q'
def Asks (X : Cx) (Ng : List Str) (x : Str) (sg : Scope) (g : Addr) (cdg : Value) (bg : List Stmt) (a q : Str) (TT : (XK → Hp → VK → Prop) → Hp → VK → Prop) : Prop :=
  ∀ (fl cl : Addr) (s : Shared) (H : Hp) (Q : VK) (tl : XK → Hp → VK → Prop), MonoL tl →
    (∀ (W : WX) (pn : List (Addr × Obj)) (xe : Value → Shared → Prop) (p1 p2 : Pos), Takes ((cxOf C8.CX0 X.prog X.w X.K X.mg X.base Ng x sg g cdg X.A X.stack s H C8.E0).tr pn xe) W →
      PE ((cxOf C8.CX0 X.prog X.w X.K X.mg X.base Ng x sg g cdg X.A X.stack s H C8.E0).tr pn xe) (.Call (.Name a p1) [] [] p2) (fun σZ HZ Q => σZ[0]? = some (some (.ref fl)) ∧ HZ cl = some (LamX.CodeO cl q) ∧ tl (WE W σZ) HZ Q)) →
    H cl = some (LamX.CodeO cl q) → TT tl H Q →
    ∃ t, PSs (cxOf C8.CX0 X.prog X.w X.K X.mg X.base Ng x sg g cdg X.A X.stack s H C8.E0).nox bg t ∧ t { nx := fun _ H' => Q .non H', rt := Q } (L2.start Ng [.ref fl]) H
/-- what is known of the def why -/
structure WhyOk (X : Cx) (x a : Str) (g : Addr) (CS : Addr) (qn : Str) : Prop where
  ex : ∃ (pg : Arguments) (bg : List Stmt) (sg : Scope) (dV kV doc pm cdv ct oc : Value) (an od : Option Addr) (osl : Array (Option Value)) (Ng : List Str), X.mg x = some (.ref g) ∧ PySem.W.keepIn X.K (.ref g) = true ∧
    X.K.lookup g = some ⟨oc, od, .func (PySem.W.fnOf x x pg bg sg dV kV doc pm an cdv ct), osl⟩ ∧ PySem.W.codeIn X.K cdv x = true ∧ L2.Binds X.K (PySem.W.fnOf x x pg bg sg dV kV doc pm an cdv ct) [a] [] ∧ FnScope Ng [a] sg ∧ Ng[0]? = some a ∧ Vis sg a ∧
    Asks X Ng x sg g cdv bg a (qn ++ "<lambda>") (ttWhy X.K CS)
theorem le_why {CS : Addr} {qb : WD → QE} {x a : Str} {g c P : Addr} {lv : Nat} {params : Arguments} {body : Expr} {scope : Scope} {p lpos pos : Pos} (G : WhyOk X x a g CS X.env.qual) (hg : Gl X x)
    (TB : LamX.TabB X.base X.mg c P) (hcode : X.env.code = .ref c) (hmT : (P, X.env.qual ++ "<lambda>") ∈ B.T) (hu : ∀ p ∈ B.T, p.1 = P → p.2 = X.env.qual ++ "<lambda>") (room : Room (lv + 2) X.A) (L : LamX.LamS X.env.scope scope) (hdef : defaultsOf params X.env = ([], []))
    (hbind : ∀ (q : Str) (cl : List (Str × Addr)) (pm cv ctv : Value),
      bindArgs (PySem.W.kla_fn "<lambda>" q params body scope cl pm cv ctv) ⟨[], []⟩ = pure [])
    (hbody : ∀ (A : Around) (outer : List Env) (s : Shared) (H : Hp) (E : XK) (f c' : Addr) (B1 : Bs) (W1 : WD), Room lv (A.deeper (LamX.lamEnv X scope s.heap.objs.size f c')) → WL X.K B1 W1 (fun cls d _ H => E cls d H) → LE (LamX.lamCx X A outer s H E scope f c') B1 body (qb W1))
    (hdb : (x == ("__debug__" : Str)) = false := by decide) (hd : (a == ("__debug__" : Str)) = false := by decide)
    (hcd : (a == ("__classdict__" : Str)) = false := by decide) :
    LE X B (.Call (.Name x p) [.Lambda params body scope lpos] [] pos) (qWhy X.K CS qb) := ⟨fun pins s σ H Q I h => by
  obtain ⟨pg, bg, sg, dV, kV, doc, pm, cdv, ct, oc, an, od, osl, Ng, hm, hk, lk, hcg, hb, Sg, hNg, hva, hA⟩ := G.ex
  obtain ⟨hT, h⟩ := up_why h
  refine wpAny_Call_Name_kw (ld_glob I hg hm (PySem.W.callWith_K (h₀ := X.base) I.ok.mod.kin hk ?_ (by rfl) (by rfl)) hdb)
  refine Calls.spliced_cons (LamX.lam_make2 I TB hcode hmT hu hT hdef (L.has I.ok) fun fl cl pm' ctv H1 s' I1 eN T1 ho hun hnf hco => Calls.spliced_nil ⟨I1.kIn, wpAny_call ?_⟩)
  have whole : codeAny (model X.prog X.w) X.A (.call (.ref g) ⟨[.ref fl], []⟩) (CR C8.CX0 X.stack X.prog X.w H1 s' Q C8.E0) s' :=
    LamX.run_ofS (N := Ng) (ps := [a]) (us := [.ref fl]) (vs := [.ref fl]) lk hcg Sg room I1.env0 (hb s' [.ref fl] I1.kIn rfl) (.cons rfl .nil) rfl fun room' => by
      obtain ⟨t', ht', hq'⟩ := hA fl cl s' H1 Q (fun E K1 Q1 => ∃ (B1 : Bs) (W1 : WD), WL X.K B1 W1 (fun cls d _ H => E cls d H) ∧ UP X.K B1 (rD X.K) (qb W1) σ K1 Q1)
        (fun E E' K1 Q1 Q2 ⟨B1, W1, wl, φ, s, S, Q', m1, m2, m3, kk⟩ hE hQ => ⟨B1, W1, fun φ' C fs s S' cls d σ H' a b c e => hE _ _ _ (wl φ' C fs s S' cls d σ H' a b c e), φ, s, S, Q', m1, m2, m3, fun φ' d S' v H' a b c e => hQ _ _ (kk φ' d S' v H' a b c e)⟩)
        (fun W pn xe p1 p2 tk => pe_ask (t := fun E σ H Q => ∃ (B1 : Bs) (W1 : WD), WL X.K B1 W1 (fun cls d _ H => E cls d H) ∧ UP X.K B1 (rD X.K) (qb W1) σ H Q) I1 L ho hun hnf (hbind _ _ _ _ _) tk room' (fun A outer s2 H2 E room2 => ⟨fun pins2 s3 σ3 H3 Q3 I3 ⟨B1, W1, wl, z⟩ => (hbody A outer _ _ E fl cl B1 W1 room2 wl).run pins2 s3 σ3 H3 Q3 I3 z⟩) hNg hva hd hcd) hco (h H1 eN T1)
      exact ⟨t', ht'.nox, hq'⟩
  refine codeAny_mono whole fun r s2 hq => ?_
  match r, hq with
  | .error e, hq => exact (show False from hq).elim
  | .ok (.ret u), hq => exact I1.after hq
  | .ok .next, hq => exact hq.elim
  | .ok .brk, hq => exact hq.elim
  | .ok .cont, hq => exact hq.elim⟩
/-- what the exceptions that leave a lambda's body are taken by -/
theorem takes_lam {A : Around} {outer : List Env} {s : Shared} {H : Hp} {E : XK} {scope : Scope} {f c' : Addr} : Takes (LamX.lamCx X A outer s H E scope f c') (fun cls d _ H => E cls d H) := takes_of rfl rfl rfl rfl
/-- the body of why -/
theorem why_asks {Ng : List Str} {x a e t w' q : Str} {sg : Scope} {g CS : Addr} {cdg : Value} {j1 j2 : Nat} {p1 p2 p3 p4 p5 p6 p7 p8 p9 p10 p11 p12 p13 p14 p15 p16 p17 p18 p19 p20 p21 : Pos} {kt}
    (hNg : Ng = [a, t, w', e]) (nd : Ng.Nodup) (la : sg.names.lookup a = some .local) (lt : sg.names.lookup t = some .local) (lw : sg.names.lookup w' = some .local) (le : sg.names.lookup e = some .local)
    (dt : (t == ("__debug__" : Str)) = false) (dw : (w' == ("__debug__" : Str)) = false) (de : (e == ("__debug__" : Str)) = false) (ct : (t == ("__classdict__" : Str)) = false) (cw : (w' == ("__classdict__" : Str)) = false) (ce : (e == ("__classdict__" : Str)) = false)
    (hge : sg.names.lookup ("LimeError" : Str) = some .globalImplicit) (hme : X.mg "LimeError" = some (.ref CS)) :
    Asks X Ng x sg g cdg [.Assign [.Name t p1] (.Constant .none j1 p2) p3, .Assign [.Name w' p4] (.Constant (.str "") j2 p5) p6,
      .Try [.Assign [.Name t p7] (.Call (.Name a p8) [] [] p9) p10] [.ExceptHandler (some (.Name "LimeError" p11)) (some e) [.Assign [.Name w' p12] (.Attribute (.Name e p13) "called" p14) p15] p16] [] [] p17,
      .Return (some (.Tuple [.Name t p18, .Name w' p19] kt p20)) p21] a q (ttWhy X.K CS) := by
  subst hNg
  intro fl cl s H Q tl mono act hc h
  refine ⟨_, pss_cons (ps_set (i := 1) nd rfl (.inl lt) pe_non) (pss_cons (ps_set (i := 2) nd rfl (.inl lw) pe_str) (pss_cons
    (ps_try_as (X := (cxOf C8.CX0 X.prog X.w X.K X.mg X.base [a, t, w', e] x sg g cdg X.A X.stack s H C8.E0).nox) (c := .ref CS) (i := 3)
      (tb := fun W D σ H => σ[0]? = some (some (.ref fl)) ∧ H cl = some (LamX.CodeO cl q) ∧ tl (WE W σ) H fun v H' => D.nx (σ.set 1 (some v)) H')
      (ts := fun b cls d => tAsg (fun σ H1 Q => ∃ v, σ[3]? = some (some v) ∧ v = .ref b ∧ ∃ (C dd : Addr) (fs : List (Str × V)) (u : V), cls = .ref C ∧ XfC X.K C ∧ PySem.W.findIn X.K (.ref C) "called" = some none ∧ d = some dd ∧ H1 dd = some (.xd fs) ∧ fs.lookup ("called" : Str) = some u ∧ Q u H1) (gName 2))
      rfl rfl nd rfl le ⟨hge, by decide, .inl hme⟩ LamX.takes0 (fun W pn xe tk _ => ?_) (fun b oe cls d pn hz hf => ?_))
    (pss_one (ps_ret (pe_tup (pa_cons (pe_var (i := 1) rfl (.inl lt) dt ct) (pa_cons (pe_var (i := 2) rfl (.inl lw) dw cw) pa_nil))))))), ?_⟩
  · refine pss_one (PS.imp (ps_set (i := 1) nd rfl (.inl lt) (act W pn xe p8 p9 tk)) ?_)
    rintro D σ H' ⟨h1, h2, h3⟩
    exact ⟨h1, h2, h3⟩
  · exact pss_one (ps_set (i := 2) nd rfl (.inl lw) (pe_xfA hz hf (pe_var (i := 3) rfl (.inl le) de ce)))
  · refine ⟨rfl, hc, ?_⟩
    refine mono _ _ _ _ _ h ?_ ?_
    · rintro cls d H2 ⟨h1, C, dd, fs, v, rfl, h2, h3, rfl, h4, h5, h6⟩
      exact ⟨true, h1, (fun _ a _ => ⟨.ref a, rfl, rfl, C, dd, fs, v, rfl, h2, h3, rfl, h4, h5, ⟨.non, rfl, v, rfl, (by show (2:Nat) ≤ sizeLine; decide), h6⟩⟩), (fun h => by cases h)⟩
    · intro v H2 h1
      exact ⟨v, rfl, .str "", rfl, (by show (2:Nat) ≤ sizeLine; decide), h1⟩
end
end LC

set_option Elab.async false
set_option linter.all false
set_option maxRecDepth 100000
set_option maxHeartbeats 5000000
/-! LD10: the __init__ of exceptions. -/
namespace LC
open PySem PySem.Spec
open PyProof.Rows L2
section
variable {P : Program} {w : World} {K : PySem.W.Frag} {mg : Str → Option Value} {base : Heap} {q : Str} {st : Stmt} {f : Addr} {fd : FuncData} {p1 p2 p3 p4 p5 p6 p7 p8 p9 p10 p11 p12 p13 : Pos}
theorem passN {X : Cx} : Passes (L2.CX X.prog X.w) X (fun _ _ _ => False) := fun _ _ _ _ _ _ _ ⟨_, _, _, _, _, _, _, _, _, _, _, _, h⟩ => h.elim
/-- C.m(..) is read as such at these positions -/
def McOk (o : Expr) (m : Str) (es : List Expr) (p2 p5 : Pos) : Prop := ∃ pl : Env → Sem Bool, ∀ env : Env, eval (.Call (.Attribute o m p2) es [] p5) env = (do
      let ov ← eval o env
      standAt p2.atName
      let (f, first) ← holding [ov] (getMethod ov m (pl env))
      callWith p5 f first (backTo p5 (starEach es env)) (backToKw p5 (keywordEach [] env)))
/-- the base's own -/
theorem ok_lime (F : Fun K "__init__" q st f fd) (Sc : FnScope ["self", "called"] ["self", "called"] (defScope st))
    (hb : defBody st = [.Expr (.Call (.Attribute (.Name "ValueError" p1) "__init__" p2) [.Name "self" p3, .Name "called" p4] [] p5) p6, .Assign [.Attribute (.Name "self" p7) "called" p8] (.Name "called" p9) p10])
    (l1 : (defScope st).names.lookup ("self" : Str) = some .local) (l2 : (defScope st).names.lookup ("called" : Str) = some .local) (l3 : (defScope st).names.lookup ("ValueError" : Str) = some .globalImplicit) (hm : mg "ValueError" = none)
    (hc : McOk (.Name "ValueError" p1) "__init__" [.Name "self" p3, .Name "called" p4] p2 p5) (vV : PySem.W.findCls K (.type "ValueError") (.type "type") "__init__" = some (.val (.builtin "ValueError.__init__"))) : FnOk P w K mg base (L2.CX P w) 1 f fd ["self", "called"] (spX0 K) := by
  refine F.okX Sc (fun vs H Q E ⟨a, C, y, h, _⟩ => by subst h; rfl) fun cdv A outer s H vs Q E hr ⟨a, C, y, hv, T, hno, ha, k⟩ => ?_
  subst hv
  rw [hb]
  obtain ⟨pl, hc⟩ := hc
  refine ⟨_, pss_cons (ps_expr (pe_veinit l3 hm vV (pa_cons (pe_var (i := 0) rfl (.inl l1) (by decide) (by decide)) (pa_cons (pe_var (i := 1) rfl (.inl l2) (by decide) (by decide)) pa_nil)) (hc _)) rfl)
    (pss_one (ps_ost (pe_var (i := 0) rfl (.inl l1) (by decide) (by decide)) (pe_var (i := 1) rfl (.inl l2) (by decide) (by decide)))), ?_⟩
  refine ⟨.ref a, rfl, y, rfl, a, C, [y], rfl, (by show (1:Nat) ≤ 1000; decide), T, ha, y, rfl, .ref a, rfl, a, C, rfl, T, hno, .inl ⟨ha, fun d hd hne => ?_⟩⟩
  exact k d hd hne
end
section
variable {P : Program} {w : World} {K : PySem.W.Frag} {mg : Str → Option Value} {base : Heap} {q wd m n : Str} {st : Stmt} {f fB C B : Addr} {mc : Value} {fd fdB : FuncData} {j : Nat} {p1 p2 p3 p4 p5 p6 p7 p8 p9 p10 p11 p12 p13 p14 : Pos}
/-- what a class of the kind has -/
structure XcOk (K : PySem.W.Frag) (mg : Str → Option Value) (B fB : Addr) (fdB : FuncData) (mc : Value) : Prop where
  gB : mg "LimeError" = some (.ref B)
  rB : ClX.CRead K B mc
  iB : PySem.W.findCls K (.ref B) mc "__init__" = some (.val (.ref fB))
  kB : PySem.W.keepIn K (.ref fB) = true
  bB : Binds K fdB ["self", "called"] []
abbrev sup (wd : Str) (j : Nat) (p1 p2 p3 p4 p5 p6 : Pos) : Stmt := .Expr (.Call (.Attribute (.Name "LimeError" p1) "__init__" p2) [.Name "self" p3, .Constant (.str wd) j p4] [] p5) p6
theorem ok_exc0 (F : Fun K "__init__" q st f fd) (Sc : FnScope ["self"] ["self"] (defScope st)) (hb : defBody st = [sup wd j p1 p2 p3 p4 p5 p6]) (hc : McOk (.Name "LimeError" p1) "__init__" [.Name "self" p3, .Constant (.str wd) j p4] p2 p5)
    (l1 : (defScope st).names.lookup ("self" : Str) = some .local) (l3 : (defScope st).names.lookup ("LimeError" : Str) = some .globalImplicit) (G : XcOk K mg B fB fdB mc) (FB : FnOk P w K mg base (L2.CX P w) 1 fB fdB ["self", "called"] (spX0 K))
    (T : OexC K C) (nc : PySem.W.findIn K (.ref C) "called" = some none) : FnOk P w K mg base (L2.CX P w) 2 f fd ["self"] (spX C 0 fun _ => [("called", .str wd)]) := by
  refine F.okX Sc (fun vs H Q E ⟨a, us, h, hl, _⟩ => by subst h; simp [hl]) fun cdv A outer s H vs Q E hr ⟨a, us, hv, hl, ha, k⟩ => ?_
  subst hv
  rw [hb]
  obtain ⟨pl, hc⟩ := hc
  obtain rfl : us = [] := List.length_eq_zero_iff.mp hl
  refine ⟨_, pss_one (ps_expr (pe_clsm l3 G.gB G.rB G.iB FB G.kB hr G.bB passN (pa_cons (pe_var (i := 0) rfl (.inl l1) (by decide) (by decide)) (pa_cons pe_str pa_nil)) (ht := hc _)) rfl), ?_⟩
  refine ⟨.ref a, rfl, a, C, .str wd, rfl, T, nc, ha, fun d hd hne => ?_⟩
  exact k d _ hd hne upd_same (by rw [upd_ne hne, upd_same]) fun b h1 h2 => by rw [upd_ne h1, upd_ne h2]
end
end LC

set_option Elab.async false
set_option linter.all false
set_option maxRecDepth 100000
set_option maxHeartbeats 5000000
/-! LD11: further words; the law's own def; the end. -/
namespace LC
open PySem PySem.Spec
open PyProof.Rows L2
section
variable {prog : Program}
variable {w : World} {A : Around}
variable {E : Value → Shared → Prop} {s : Shared}
end
section
variable {X : Cx} {B : Bs}
theorem PI.or {X : Cx} {tg e : Expr} {t t' : TI} (h : PI X tg e t) (h' : PI X tg e t') : PI X tg e (fun σ H Q => t σ H Q ∨ t' σ H Q) := ⟨fun pins s σ H Q I w => w.elim (h.run pins s σ H Q I) (h'.run pins s σ H Q I)⟩
/-- a list's or a tuple's items -/
def qiAny (qe : QE) : QI := fun s S R => (qiList qe s S R) ∨ (qiTup qe s S R)
theorem li_any {tg e : Expr} {qe : QE} (he : LE X B e qe) : LI X B tg e (qiAny qe) := PI.imp (PI.or (li_list he) (li_tup he)) fun σ H R ⟨φ, s, S, R', hr, ev, q, k⟩ => by
  rcases q with q | q
  · exact .inl ⟨φ, s, S, R', hr, ev, q, k⟩
  · exact .inr ⟨φ, s, S, R', hr, ev, q, k⟩
/-! ### a def that is known -/
structure Fx (P : Program) (w : World) (K : PySem.W.Frag) (mg : Str → Option Value) (base : Heap) (k : Nat) (f : Addr) (fd : FuncData) (x : Str) (ps : List Str) (sp : SpD) : Prop where
  ok : FnOk P w K mg base (L2.CX P w) k f fd ps (upF K sp)
  gm : mg x = some (.ref f)
  kp : PySem.W.keepIn K (Value.ref f) = true
  bi : Binds K fd ps []
theorem le_fx {k : Nat} {f : Addr} {fd : FuncData} {x : Str} {ps : List Str} {sp : SpD} {W : WX} {W' : WD} {e : Expr} {es : List Expr} {p pos : Pos} {q : QA} (F : Fx X.prog X.w X.K X.mg X.base k f fd x ps sp) (hr : Room k X.A) (tk : Takes X W) (wl : WL X.K B W' W) (ha : LA X B (e :: es) q) (hg : Gl X x := by rfl)
    (hdb : (x == ("__debug__" : Str)) = false := by decide) (he : starEach (e :: es) X.env = (false, eval e X.env) :: starEach es X.env := by rfl) (hpl : (backTo pos (starEach es X.env)).any (·.1) = false := by rfl) : LE X B (.Call (.Name x p) (e :: es) [] pos) (qCall sp [] W' q) :=
  le_call F.ok hr hg F.gm F.kp F.bi .nil RVc.nil tk wl ha hdb he hpl
end
/-- a promise over the tables T0 -/
def upFT (K : PySem.W.Frag) (T0 : List (Addr × Str)) (sp : SpD) : Sp := fun vs H Q E => ∃ φ ds S Q' E', Rel K φ H S ∧ RVs K φ H ds vs ∧ LamX.Tabs T0 H ∧ sp ds S Q' E' ∧ (∀ φ' d S' v H', Ext K φ φ' H H' → Rel K φ' H' S' → LamX.Tabs T0 H' → RV K φ' H' d v → Q' d S' → Q v H') ∧
  (∀ φ' C fs S' cls d H', Ext K φ φ' H H' → Rel K φ' H' S' → LamX.Tabs T0 H' → XRel K φ' H' C fs cls d → E' C fs S' → E cls d H')
/-- a def whose code object stands at c -/
structure FunC (K : PySem.W.Frag) (x qual : Str) (st : Stmt) (f : Addr) (fd : FuncData) (c : Addr) : Prop where
  ex : ∃ (oc : Value) (od : Option Addr) (kV doc pm : Value) (an : Option Addr) (ct : Value) (osl : Array (Option Value)),
    fd = PySem.W.fnOf x qual (defArgs st) (defBody st) (defScope st) .none kV doc pm an (.ref c) ct ∧ K.lookup f = some ⟨oc, od, .func fd, osl⟩ ∧ PySem.W.codeIn K (.ref c) qual = true
section
variable {P : Program} {w : World} {K : PySem.W.Frag} {mg : Str → Option Value} {base : Heap} {T0 : List (Addr × Str)}
theorem FunC.ok {x qual : Str} {st : Stmt} {f c : Addr} {fd : FuncData} {N ps : List Str} {k : Nat} {sp : SpD} {ok : OkG} (cv : Conv sp ok) (F : FunC K x qual st f fd c) (Sc : FnScope N ps (defScope st)) (len : ∀ ds S Q E, sp ds S Q E → ds.length = ps.length)
    (hbody : ∀ (A : Around) (outer : List Env) (s : Shared) (H : Hp) (E : XK) (φ : Ph) (W' : WD), Room k (A.deeper (envOfC qual (defScope st) s.heap.objs.size f (.ref c))) → WL K ⟨φ, H, T0⟩ W' (fun cls d _ H => E cls d H) →
      ∃ q, LSs (cxOf (L2.CX P w) P w K mg base N qual (defScope st) f (.ref c) A outer s H E) ⟨φ, H, T0⟩ (defBody st) q ∧
        ∀ ds S R X n, ok ds S R X n → W' = (fun C fs _ S' => X C fs S') → q { nx := fun _ S' => R .non S', rt := R, n := n } (startD N ds) S) :
    FnOk P w K mg base (L2.CX P w) (k + 1) f fd ps (upFT K T0 sp) := by
  obtain ⟨oc, od, kV, doc, pm, an, ct, osl, rfl, lk, hcd⟩ := F.ex
  refine fn_of lk hcd Sc (fun vs H Q E ⟨φ, ds, S, Q', E', r, rs, tt, h, _⟩ => by rw [rs.len]; exact len _ _ _ _ h) fun A outer s H vs Q E hr ⟨φ, ds, S', Q', E', r, rs, tt, h, kq, ke⟩ => ?_
  have lts := rs.lt
  rw [r.len] at lts
  obtain ⟨R, Xe, hok, cR, cX⟩ := cv _ _ _ _ h lts
  obtain ⟨q, hq, hh⟩ := hbody A outer s H E φ (fun C fs _ S1 => Xe C fs S1) hr (fun φ' C fs s' S1 cls d σ H' hr' ev xr x => ends_x r ke hr' xr (cX _ _ _ x))
  refine ⟨_, hq, φ, startD N ds, S', { nx := fun _ S1 => R .non S1, rt := R, n := S'.length }, ⟨Ext.refl, r, tt⟩, start_ok rs, hh ds S' R Xe _ hok rfl, φ, H, Ext.refl, ?_⟩
  exact ⟨by show φ.own.length ≤ S'.length; rw [r.len]; exact Nat.le_refl _, by show φ.own.length ≤ S'.length; rw [r.len]; exact Nat.le_refl _, fun φ' H' S1 s' σ' e hr' ev x => ends_r r kq hr' (show RV K φ' H' .non .non from rfl) (cR _ _ x), fun φ' H' S1 d v e hr' rv x => ends_r r kq hr' rv (cR _ _ x), fun _ _ _ _ _ _ _ _ h => h.elim, fun _ _ _ _ _ _ _ _ h => h.elim⟩
/-- what the law is handed: the script -/
def spLaw : SpD := fun ds S Q _ => ∃ (ns : List Int), ds = [.scr ns] ∧ S = [] ∧ ns.length ≤ 63 ∧ (∀ z ∈ ns, Builtin.Int.intBits z ≤ 1048576) ∧ ∀ S', Q (.bl true) S'
theorem law_at {ns : List Int} {H : Hp} {a : Addr} (hl : ns.length ≤ 63) (hb : ∀ z ∈ ns, Builtin.Int.intBits z ≤ 1048576) (t : LamX.Tabs T0 H) (h : SqL K H a (ns.map V.int)) : upFT K T0 spLaw [.ref a] H (fun v _ => v = .bl true) fun _ _ _ => False :=
  ⟨⟨[], []⟩, [.scr ns], [], fun d _ => d = .bl true, fun _ _ _ => False, ⟨List.nodup_nil, fun _ h => (List.not_mem_nil h).elim, fun _ h => (List.not_mem_nil h).elim, rfl, fun i o h => (nomatch (show (none : Option O) = some o from h))⟩,
    ⟨.ref a, [], rfl, ⟨a, rfl, h.imp (fun z => ⟨⟨List.not_mem_nil, List.not_mem_nil⟩, z⟩) id⟩, rfl⟩, t, ⟨ns, rfl, rfl, hl, hb, fun _ => rfl⟩, fun φ' d S' v H' _ _ _ rv e => by subst e; exact rv, fun _ _ _ _ _ _ _ _ _ _ _ z => z⟩
end
end LC

set_option Elab.async false
set_option linter.all false
set_option maxRecDepth 100000
set_option maxHeartbeats 5000000
/-! LD12: len, str, repr, ==, isinstance of own classes. -/
namespace LC
open PySem PySem.Spec
open PyProof.Rows L2
section
variable {X : Cx} {B : Bs} {k : Nat} {f C : Addr} {fd : FuncData} {ps : List Str} {sp : Sp} {spp : SpP}
theorem run_own {A : Around} {pins : List (Addr × Obj)} {σ : L2.St} {H : Hp} {s : Shared} {us : List Value} {vs : List V} {Qv : VK} (F : FnOk X.prog X.w X.K X.mg X.base (L2.CX X.prog X.w) k f fd ps sp) (bd : Binds X.K fd ps []) (rm : Room k A) (fr : A.frames = X.A.frames) (I : Inv X pins σ H s) (r : Vals vs us)
    (h : sp vs H Qv (fun _ _ _ => False)) : wpAny (model X.prog X.w) A (call (.ref f) us) (fun u s' => ∃ v H', Inv X pins σ H' s' ∧ RelV v u ∧ Qv v H') X.xe s := by
  have e := I.env0
  have e0 : Env0 X.prog X.w X.K X.mg X.base A X.stack s H := ⟨by rw [fr]; exact e.frames, e.mod, e.bs, e.bsz, e.funs, e.frf, e.hok, e.bare⟩
  have hl : us.length = ps.length := r.length.symm.trans (F.len _ _ _ _ h)
  refine wpAny_call (codeAny_mono (F.run A X.stack s H ⟨us, []⟩ us vs Qv (fun _ _ _ => False) rm e0 (by
    have := bd s us I.kIn (by simpa using hl)
    simpa using this) r h) fun fl s' z => ?_)
  match fl, z with
  | .error ex, ⟨_, _, _, _, _, _, _, _, _, _, _, _, hn⟩ => exact hn.elim
  | .ok (.ret u), z =>
    obtain ⟨v, H', J, rv, q⟩ := I.after z
    exact ⟨v, H', J, rv, q⟩
  | .ok .next, z => exact False.elim z
  | .ok .brk, z => exact False.elim z
  | .ok .cont, z => exact False.elim z
/-- an instance as it lies -/
theorem inst_at {pins : List (Addr × Obj)} {σ : L2.St} {H : Hp} {s : Shared} {a dx : Addr} {fs : List (Str × V)} (I : Inv X pins σ H s) (e : H a = some (.ins C dx fs)) : ∃ ox od, PySem.W.InstAt s.heap a ox C od := by
  obtain ⟨mA, J, _⟩ := ins_get I.hok e
  obtain ⟨od, J, _⟩ := J.look
  exact ⟨_, od, J⟩
def tOwn (C : Addr) (sp : Sp) (back : V → Hp → VK → Prop) : List V → Hp → VK → Prop := fun vs H Q => ∃ a dx fs, vs = [.ref a] ∧ H a = some (.ins C dx fs) ∧ sp vs H (fun v H' => back v H' Q) (fun _ _ _ => False)
theorem call_lenO (F : FnOk X.prog X.w X.K X.mg X.base (L2.CX X.prog X.w) k f fd ps sp) (bd : Binds X.K fd ps []) (rm : Room (k + 1) X.A) (hs : PySem.W.findIn X.K (.ref C) "__len__" = some (some (.ref f))) (hf : PySem.W.isFn X.K (.ref f) = true) :
    CallR X (.builtin "len") (tOwn C sp fun v H Q => ∃ n, v = .int n ∧ (0 ≤ n ∧ n < 2 ^ 63) ∧ Q (.int n) H) := by
  rintro pins s σ H xs us Q I r ⟨a, dx, fs, rfl, e, h⟩
  cases r with
  | cons r0 rn =>
    cases rn
    cases r0
    obtain ⟨ox, od, J⟩ := inst_at I e
    obtain ⟨m, hF⟩ := I.fr
    refine PySem.W.len_K hF I.ok.mod.kin J hs hf (wpAny_mono (run_own F bd rm.in1 rfl I (.cons (show RelV (V.ref a) (.ref a) from rfl) .nil) h) (fun u s' z => ?_) fun _ _ z => z)
    obtain ⟨v, H', J', rv, n, rfl, hn, q⟩ := z
    obtain ⟨t, rfl⟩ := rv
    exact ⟨hn, .int n, H', J'.tok _, ⟨_, rfl⟩, q⟩
theorem call_strO (F : FnOk X.prog X.w X.K X.mg X.base (L2.CX X.prog X.w) k f fd ps sp) (bd : Binds X.K fd ps []) (rm : Room (k + 2) X.A) (hs : PySem.W.findIn X.K (.ref C) "__str__" = some (some (.ref f))) (hf : PySem.W.isFn X.K (.ref f) = true) :
    CallR X (.type "str") (tOwn C sp fun v H Q => ∃ n, v = .str n ∧ Q (.str n) H) := by
  rintro pins s σ H xs us Q I r ⟨a, dx, fs, rfl, e, h⟩
  cases r with
  | cons r0 rn =>
    cases rn
    cases r0
    obtain ⟨ox, od, J⟩ := inst_at I e
    have rm1 : Room (k + 1) X.A.in1 := Room.in1 rm
    refine PySem.W.kso_call (by have := rm1.in1.un; omega) I.kIn J hs hf (wpAny_mono (run_own F bd rm1.in1 rfl I (.cons (show RelV (V.ref a) (.ref a) from rfl) .nil) h) (fun u s' z => ?_) fun _ _ z => z)
    obtain ⟨v, H', J', rv, n, rfl, q⟩ := z
    obtain ⟨t, rfl⟩ := rv
    exact ⟨.str n, H', J', ⟨_, rfl⟩, q⟩
theorem call_reprO (F : FnOk X.prog X.w X.K X.mg X.base (L2.CX X.prog X.w) k f fd ps sp) (bd : Binds X.K fd ps []) (rm : Room (k + 1) X.A) (hs : PySem.W.findIn X.K (.ref C) "__repr__" = some (some (.ref f))) (hf : PySem.W.isFn X.K (.ref f) = true) :
    CallR X (.builtin "repr") (tOwn C sp fun v H Q => ∃ n, v = .str n ∧ Q (.str n) H) := by
  rintro pins s σ H xs us Q I r ⟨a, dx, fs, rfl, e, h⟩
  cases r with
  | cons r0 rn =>
    cases rn
    cases r0
    obtain ⟨ox, od, J⟩ := inst_at I e
    obtain ⟨m, hF⟩ := I.fr
    refine PySem.W.repr_K (by have := rm.in1.un; omega) hF I.ok.mod.kin J hs hf (wpAny_mono (run_own F bd rm.in1 rfl I (.cons (show RelV (V.ref a) (.ref a) from rfl) .nil) h) (fun u s' z => ?_) fun _ _ z => z)
    obtain ⟨v, H', J', rv, n, rfl, q⟩ := z
    obtain ⟨t, rfl⟩ := rv
    exact ⟨.str n, H', J', ⟨_, rfl⟩, q⟩
/-- what the second one of == is -/
def tyB (K : PySem.W.Frag) (H : Hp) (y : V) (tb : Value) : Prop := match y with
  | .non => tb = .type "NoneType"
  | .bl _ => tb = .type "bool"
  | .int _ => tb = .type "int"
  | .str _ => tb = .type "str"
  | .ref b => (∃ vs, H b = some (.lst vs) ∧ tb = .type "list") ∨ (∃ vs, SqT K H b vs ∧ tb = .type "tuple") ∨ ∃ C dx fs, H b = some (.ins C dx fs) ∧ tb = .ref C
  | _ => False
theorem tyB_ok {pins : List (Addr × Obj)} {σ : L2.St} {H : Hp} {s : Shared} {y : V} {tb u : Value} (I : Inv X pins σ H s) (h : tyB X.K H y tb) (r : RelV y u) : PySem.W.Looks (model X.prog X.w) s.heap (typeOf u) tb := by
  cases y with
  | non => cases h; cases r; exact PySem.W.Looks.of_pure rfl
  | bl b => cases h; cases r; exact PySem.W.Looks.of_pure rfl
  | int b => cases h; obtain ⟨t, rfl⟩ := r; exact PySem.W.Looks.of_pure rfl
  | str b => cases h; obtain ⟨t, rfl⟩ := r; exact PySem.W.Looks.of_pure rfl
  | ref b =>
    cases r
    rcases h with ⟨vs, h, rfl⟩ | ⟨vs, h, rfl⟩ | ⟨C, dx, fs, h, rfl⟩
    · obtain ⟨_, its, n, _, e⟩ := I.hok b _ h
      exact (PySem.W.Looks.ld e).andThen .now
    · obtain ⟨its, r, e, z⟩ := I.tuple h
      obtain ⟨ob, e1, e2⟩ := e.typeIs (s := s)
      exact e2 ▸ (PySem.W.Looks.ld e1).andThen .now
    · obtain ⟨ox, od, J⟩ := inst_at I h
      exact J.type
  | _ => exact h.elim
/-- x == y, x of the class at C with an own __eq__ -/
def tEqO (C : Addr) (sp : Sp) : R2 := fun x y H Q => ∃ a dx fs tb, x = .ref a ∧ H a = some (.ins C dx fs) ∧ tyB X.K H y tb ∧ PySem.W.notFirst X.K C tb = true ∧ sp [x, y] H (fun v H' => ∃ b, v = .bl b ∧ Q (.bl b) H') (fun _ _ _ => False)
theorem op_eqO (F : FnOk X.prog X.w X.K X.mg X.base (L2.CX X.prog X.w) k f fd ps sp) (bd : Binds X.K fd ps []) (rm : Room k X.A) (hs : PySem.W.findIn X.K (.ref C) "__eq__" = some (some (.ref f))) (hf : PySem.W.isFn X.K (.ref f) = true) :
    OpR X (compareOp .Eq) (tEqO (X := X) C sp) := by
  rintro pins s σ H x y v u Q I rx ry ⟨a, dx, fs, tb, rfl, e, ht, hn, h⟩
  cases rx
  obtain ⟨ox, od, J⟩ := inst_at I e
  obtain ⟨m, hF⟩ := I.fr
  show wpAny (model X.prog X.w) X.A (richCompare .Eq (.ref a) u) (EP X pins σ Q) X.xe s
  refine PySem.W.cmp_K (op := .Eq) (by have := rm.un; omega) hF I.ok.mod.kin J (tyB_ok I ht ry) hn hs hf (wpAny_mono (run_own F bd rm rfl I (.cons (show RelV (V.ref a) (.ref a) from rfl) (.cons ry .nil)) h) (fun r s' z => ?_) fun _ _ z => z)
  obtain ⟨v, H', J', rv, b, rfl, q⟩ := z
  cases rv
  exact ⟨.bl b, H', J', rfl, q⟩
end

/-! ### readings -/
section
variable {X : Cx} {B : Bs} {k : Nat} {f C : Addr} {fd : FuncData} {ps : List Str} {sp : SpP}
/-- a def that is asked by such a word: it tells g's values -/
def rcOwn (C : Addr) (sp : SpP) (g : D → List O → (D → List O → Prop) → Prop) : QC := fun ds S Q => match ds with
  | [d] => Opt (insOf S d) fun p => Need (p.1 = C) (sp [d] (fun r => g r S Q) fun _ _ => False)
  | _ => False
theorem lift_own {g : D → List O → (D → List O → Prop) → Prop} {back : V → Hp → VK → Prop} (hg : ∀ {φ : Ph} {H : Hp} {S : List O} {Q' : D → List O → Prop} {Q : VK} {d : D} {v : V}, HR X.K B φ H S → Kont X.K B (rD X.K) φ H Q' Q → RV X.K φ H d v → g d S Q' → back v H Q)
    {x : List V} {H : Hp} {Q : VK} (h : upC X.K B (rcOwn C sp g) x H Q) : tOwn C (upF X.K (lp sp)) back x H Q := by
  obtain ⟨φ, S, ds, Q', hr, r, q, kk⟩ := h
  unfold rcOwn at q
  split at q
  · obtain ⟨v, w', rfl, r1, r2⟩ := r
    cases r2
    obtain ⟨⟨C', fs⟩, h1, h2, q2⟩ := Opt.get q
    have h2' : C' = C := h2
    subst h2'
    obtain ⟨a, dx, gs, rfl, h3, h4⟩ := hr.ins h1 r1
    exact ⟨a, dx, gs, rfl, h3, φ, [_], S, fun d S' => S' = S ∧ g d S Q', fun _ _ _ => False, B.T, hr.rel, ⟨_, _, rfl, r1, rfl⟩, hr.tab, by
      have e : (fun d => S = S ∧ g d S Q') = fun d => g d S Q' := funext fun d => propext ⟨fun z => z.2, fun z => ⟨rfl, z⟩⟩
      show sp _ (fun d => S = S ∧ g d S Q') _
      rw [e]; exact q2, fun φ' d S' v H' e1 r1 t1 rv ⟨e2, q3⟩ => by subst e2; exact hg (hr.mono e1 r1 t1) (kk.ext e1) rv q3, fun _ _ _ _ _ _ _ _ _ _ _ z => z⟩
  · exact q.elim
def gLen : D → List O → (D → List O → Prop) → Prop := fun r S Q => match r with
  | .int n => Need (0 ≤ n ∧ n < 2 ^ 63) (Q (.int n) S)
  | _ => False
def gStr : D → List O → (D → List O → Prop) → Prop := fun r S Q => match r with
  | .str n => Q (.str n) S
  | _ => False
/-- what is known of a def that stands in a class -/
structure Mx (P : Program) (w : World) (K : PySem.W.Frag) (mg : Str → Option Value) (base : Heap) (k : Nat) (C : Addr) (m : Str) (f : Addr) (fd : FuncData) (ps : List Str) (sp : SpD) (dvs : List V) (dds : List D) : Prop where
  ok : FnOk P w K mg base (L2.CX P w) k f fd ps (upF K sp)
  cl : Cls K C
  mt : Meth K C m f
  bi : ∃ ds, Vals dvs ds ∧ Binds K fd ps ds
  dd : RVc K dds dvs
theorem Mx.b0 {P : Program} {w : World} {K : PySem.W.Frag} {mg : Str → Option Value} {base : Heap} {C : Addr} {m : Str} {sp : SpD} (M : Mx P w K mg base k C m f fd ps sp [] []) : Binds K fd ps [] := by
  obtain ⟨ds, v, b⟩ := M.bi
  cases v
  exact b
theorem cc_lenO (M : Mx X.prog X.w X.K X.mg X.base k C "__len__" f fd ps (lp sp) [] []) (rm : Room (k + 1) X.A) : CallR X (.builtin "len") (upC X.K B (rcOwn C sp gLen)) := CallR.imp (call_lenO M.ok M.b0 rm M.mt.at_ M.mt.fn) fun x H Q h => lift_own (g := gLen) (fun {φ H S Q' Q d v} hr kk rv q => by
  unfold gLen at q
  split at q
  · cases rv
    exact ⟨_, rfl, q.c, kk.here (d := D.int _) hr rfl q.q⟩
  · exact q.elim) h
theorem cc_strO (M : Mx X.prog X.w X.K X.mg X.base k C "__str__" f fd ps (lp sp) [] []) (rm : Room (k + 2) X.A) : CallR X (.type "str") (upC X.K B (rcOwn C sp gStr)) := CallR.imp (call_strO M.ok M.b0 rm M.mt.at_ M.mt.fn) fun x H Q h => lift_own (g := gStr) (fun {φ H S Q' Q d v} hr kk rv q => by
  unfold gStr at q
  split at q
  · cases rv
    exact ⟨_, rfl, kk.here (d := D.str _) hr rfl q⟩
  · exact q.elim) h
theorem cc_reprO (M : Mx X.prog X.w X.K X.mg X.base k C "__repr__" f fd ps (lp sp) [] []) (rm : Room (k + 1) X.A) : CallR X (.builtin "repr") (upC X.K B (rcOwn C sp gStr)) := CallR.imp (call_reprO M.ok M.b0 rm M.mt.at_ M.mt.fn) fun x H Q h => lift_own (g := gStr) (fun {φ H S Q' Q d v} hr kk rv q => by
  unfold gStr at q
  split at q
  · cases rv
    exact ⟨_, rfl, kk.here (d := D.str _) hr rfl q⟩
  · exact q.elim) h
/-- the second one of == -/
def tyB2 (S : List O) (d : D) : Option Value := match d with
  | .non => some (.type "NoneType")
  | .bl _ => some (.type "bool")
  | .int _ => some (.type "int")
  | .str _ => some (.type "str")
  | .lst _ => some (.type "list")
  | .tup _ => some (.type "tuple")
  | .tq _ => some (.type "tuple")
  | .kt _ => some (.type "tuple")
  | .ins C _ _ => some (.ref C)
  | .ref k => match S[k]? with
    | some (.lst _) => some (.type "list")
    | some (.ins C _) => some (.ref C)
    | _ => none
  | _ => none
theorem tyB2_ok {φ : Ph} {H : Hp} {S : List O} {d : D} {v : V} {tb : Value} (hr : HR X.K B φ H S) (h : tyB2 S d = some tb) (r : RV X.K φ H d v) : tyB X.K H v tb := by
  cases d with
  | non => cases h; cases r; rfl
  | bl _ => cases h; cases r; rfl
  | int _ => cases h; cases r; rfl
  | str _ => cases h; cases r; rfl
  | lst xs => cases h; obtain ⟨p, vs, rfl, _, h1, h2⟩ := r; exact .inl ⟨vs, h1, rfl⟩
  | tup xs => cases h; obtain ⟨p, vs, rfl, h1, h2⟩ := r; exact .inr (.inl ⟨vs, h1, rfl⟩)
  | tq xs => cases h; obtain ⟨p, rfl, h1⟩ := r; exact .inr (.inl ⟨_, h1.sqt, rfl⟩)
  | kt xs => cases h; obtain ⟨p, vs, rfl, h1, _⟩ := r; exact .inr (.inl ⟨vs, h1.sqt, rfl⟩)
  | ins C ns xs => cases h; obtain ⟨p, dx, vs, rfl, _, h1, _⟩ := r; exact .inr (.inr ⟨C, dx, _, h1, rfl⟩)
  | ref k =>
    obtain ⟨a, ea, rfl⟩ := r
    simp only [tyB2] at h
    cases e : S[k]? with
    | none => rw [e] at h; cases h
    | some o =>
      rw [e] at h
      obtain ⟨b, eb, ho⟩ := hr.rel.ob k _ e
      rw [ea] at eb; cases eb
      cases o with
      | lst xs => cases h; obtain ⟨vs, h1, h2⟩ := ho; exact .inl ⟨vs, h1, rfl⟩
      | ins C fs => cases h; obtain ⟨dx, gs, h1, h2⟩ := ho; exact .inr (.inr ⟨C, dx, gs, h1, rfl⟩)
      | _ => cases h
  | _ => cases h
/-- == by an own __eq__; the second one is no tuple -/
def oEqO (K : PySem.W.Frag) (C : Addr) (sp : SpP) : QO := fun d e S Q => Opt (insOf S d) fun p => Opt (tyB2 S e) fun tb => Need (p.1 = C ∧ PySem.W.notFirst K C tb = true) (sp [d, e] (fun r => match r with | .bl b => Q (.bl b) S | _ => False) fun _ _ => False)
theorem oo_eqO (M : Mx X.prog X.w X.K X.mg X.base k C "__eq__" f fd ps (lp sp) [] []) (rm : Room k X.A) : OpR X (compareOp .Eq) (upR X.K B (oEqO X.K C sp)) := OpR.imp (op_eqO M.ok M.b0 rm M.mt.at_ M.mt.fn) fun x y H Q ⟨φ, S, d, e, Q', hr, r1, r2, q, kk⟩ => by
  obtain ⟨⟨C', fs⟩, h1, q1⟩ := Opt.get q
  obtain ⟨tb, h2, ⟨h3, h4⟩, q2⟩ := q1.get
  have h3' : C' = C := h3
  subst h3'
  obtain ⟨a, dx, gs, rfl, h5, h6⟩ := hr.ins h1 r1
  refine ⟨a, dx, gs, tb, rfl, h5, tyB2_ok hr h2 r2, h4, φ, [d, e], S, fun r S' => S' = S ∧ (match r with | .bl b => Q' (.bl b) S | _ => False), fun _ _ _ => False, B.T, hr.rel, ⟨_, _, rfl, r1, _, _, rfl, r2, rfl⟩, hr.tab, ?_, ?_, fun _ _ _ _ _ _ _ _ _ _ _ z => z⟩
  · have e : (fun r : D => S = S ∧ (match r with | .bl b => Q' (.bl b) S | _ => False)) = fun r => (match r with | .bl b => Q' (.bl b) S | _ => False) := funext fun d => propext ⟨fun z => z.2, fun z => ⟨rfl, z⟩⟩
    show sp _ (fun r : D => S = S ∧ (match r with | .bl b => Q' (.bl b) S | _ => False)) _
    rw [e]; exact q2
  · rintro φ' r S' v H' e1 r1 t1 rv ⟨rfl, q3⟩
    split at q3
    · cases rv
      exact ⟨_, rfl, (kk.ext e1).here (d := D.bl _) (hr.mono e1 r1 t1) rfl q3⟩
    · exact q3.elim
end
end LC

set_option Elab.async false
set_option linter.all false
set_option maxRecDepth 100000
set_option maxHeartbeats 5000000
/-! LD13: what a printed text asks. -/
namespace LC
open PySem PySem.Spec
open PyProof.Rows L2
/-- a name of a module that holds plain data -/
def GlD (K : PySem.W.Frag) (mg : Str → Option Value) (x : Str) (d : D) : Prop := ∃ v u, mg x = some u ∧ RelV v u ∧ ∀ φ H, RV K φ H d v
theorem GlD.le {X : Cx} {B : Bs} {x : Str} {d : D} {pos : Pos} (h : GlD X.K X.mg x d) (hg : Gl X x) (hd : (x == ("__debug__" : Str)) = false := by decide) : LE X B (.Name x pos) (qC d) :=
  let ⟨_, _, h1, h2, h3⟩ := h
  le_glob hg h1 h2 h3 hd
theorem GlD.str {K : PySem.W.Frag} {mg : Str → Option Value} {x : Str} {i : Str} {t : Tok} (h : mg x = some (.str i t)) : GlD K mg x (.str i) := ⟨.str i, _, h, ⟨t, rfl⟩, fun _ _ => rfl⟩
def fl0 (w : Str) : List V → List (Str × V) := fun _ => [("called", .str w)]
def fd0 (w : Str) : List D → List (Str × D) := fun _ => [("called", .str w)]
theorem fl0_ok {K : PySem.W.Frag} {w : Str} : FlD K (fl0 w) (fd0 w) := fun _ _ _ _ _ => ⟨_, _, rfl, rfl, rfl⟩
/-- a class of exceptions -/
structure XcD (P : Program) (w : World) (K : PySem.W.Frag) (mg : Str → Option Value) (base : Heap) (x : Str) (C fI : Addr) (fd : FuncData) (ps : List Str) (n : Nat) (fl : List V → List (Str × V)) (flD : List D → List (Str × D)) (dvs : List V) (dds : List D) : Prop where
  hfl : FlD K fl flD
  T : OexC K C
  xf : XfC K C
  iC : PySem.W.findIn K (.ref C) "__init__" = some (some (.ref fI))
  tI : PySem.W.typeIn K (.ref fI) = some (.type "function")
  ok : FnOk P w K mg base (L2.CX P w) 2 fI fd ps (spX C n fl)
  bi : ∃ ds, Vals dvs ds ∧ Binds K fd ps ds
  dd : RVc K dds dvs
  gm : mg x = some (.ref C)
  nc : PySem.W.findIn K (.ref C) "called" = some none
section
variable {X : Cx} {B : Bs} {x : Str} {C fI : Addr} {fd : FuncData} {ps : List Str} {dvs : List V} {dds : List D} {n : Nat} {fl : List V → List (Str × V)} {flD : List D → List (Str × D)} {W : WX} {W' : WD} {e : Expr} {es : List Expr} {q : QA} {p pos rpos : Pos}
theorem ls_rz0 (Z : XcD X.prog X.w X.K X.mg X.base x C fI fd ps n fl flD dvs dds) (hc : X.calm = true) (hr : Room 3 X.A) (tk : Takes X W) (wl : WL X.K B W' W) (hg : Gl X x := by rfl)
    (hdb : (x == ("__debug__" : Str)) = false := by decide) :
    LS X B (.Raise (some (.Call (.Name x p) [] [] pos)) none rpos) (qRaise C flD n dds W' qNil) :=
  let ⟨_, vd, b⟩ := Z.bi
  ls_raise0 Z.hfl hc Z.T Z.iC Z.tI Z.ok hr b vd Z.dd tk wl passN hg Z.gm hdb
end
/-! ### defs that change nothing -/
def RtP (Q : D → Prop) (d : D) (S : List O) : Prop := ∃ d', Rs 0 S d' d ∧ Q d'
def XtP (E : XD) (C : Addr) (fs : List (Str × D)) (S : List O) : Prop := ∃ fs', fs'.map (·.1) = fs.map (·.1) ∧ RsL 0 S (fs'.map (·.2)) (fs.map (·.2)) ∧ E C fs'
theorem Rp {Q : D → Prop} {d : D} {S : List O} (q : Q d) (l : D.lt 0 d := by trivial) : RtP Q d S := ⟨d, Rs.same l, q⟩
theorem Xp {E : XD} {C : Addr} {fs : List (Str × D)} {S : List O} (q : E C fs) (l : D.lts 0 (fs.map (·.2)) := by exact ⟨trivial, trivial⟩) : XtP E C fs S := ⟨fs, rfl, RsL.same l, q⟩
def RtW (Q : D → Prop) (d : D) (S : List O) : Prop := match S with
  | .drw :: _ => ∃ d', Rs 1 S d' d ∧ Q d'
  | _ => False
def XtW (E : XD) (C : Addr) (fs : List (Str × D)) (S : List O) : Prop := match S with
  | .drw :: _ => ∃ fs', fs'.map (·.1) = fs.map (·.1) ∧ RsL 1 S (fs'.map (·.2)) (fs.map (·.2)) ∧ E C fs'
  | _ => False
theorem Rw {Q : D → Prop} {d : D} {S : List O} (q : Q d) (l : D.lt 1 d := by trivial) : RtW Q d (.drw :: S) := ⟨d, Rs.same l, q⟩
def RtI (C : Addr) (Q : List (Str × D) → Prop) (d : D) (S : List O) : Prop := match S with
  | .ins C' fs :: _ => d = .non ∧ C' = C ∧ ∃ fs', fs'.map (·.1) = fs.map (·.1) ∧ RsL 1 S (fs'.map (·.2)) (fs.map (·.2)) ∧ Q fs'
  | _ => False
def XtI (E : XD) (C : Addr) (fs : List (Str × D)) (S : List O) : Prop := match S with
  | _ :: _ => ∃ fs', fs'.map (·.1) = fs.map (·.1) ∧ RsL 1 S (fs'.map (·.2)) (fs.map (·.2)) ∧ E C fs'
  | _ => False
def okP (sp : SpP) : OkG := fun ds S R X n => ∃ Q E, sp ds Q E ∧ S = [] ∧ R = RtP Q ∧ X = XtP E ∧ n = 0
def okW (sp : SpP) : OkG := fun ds S R X n => ∃ r Q E, sp r Q E ∧ ds = .ref 0 :: r ∧ S = [.drw] ∧ R = RtW Q ∧ X = XtW E ∧ n = 1
def okI (C : Addr) (sp : SpI) : OkG := fun ds S R X n => ∃ r Q E, sp r Q E ∧ ds = .ref 0 :: r ∧ S = [.ins C []] ∧ R = RtI C Q ∧ X = XtI E ∧ n = 1
def okS (sp : SpD) : OkG := fun ds S R X n => ∃ Q E, sp ds S Q E ∧ D.lts S.length ds ∧ R = Rt S.length Q ∧ X = Xt S.length E ∧ n = S.length
theorem conv_P {sp : SpP} : Conv (at0 sp) (okP sp) := by
  rintro ds S Q' E' ⟨rfl, h⟩ _
  refine ⟨_, _, ⟨_, _, h, rfl, rfl, rfl, rfl⟩, ?_, ?_⟩
  · rintro d S' ⟨d', h1, h2⟩
    exact ⟨0, d', [], Nat.le_refl _, Nat.zero_le _, rfl, h1, h2⟩
  · rintro C fs S' ⟨fs', h1, h2, h3⟩
    exact ⟨0, fs', [], Nat.le_refl _, Nat.zero_le _, rfl, h1, h2, h3⟩
theorem conv_W {sp : SpP} : Conv (at1 sp) (okW sp) := by
  rintro ds S Q' E' ⟨r, rfl, rfl, h⟩ _
  refine ⟨_, _, ⟨_, _, _, h, rfl, rfl, rfl, rfl, rfl⟩, ?_, ?_⟩
  · intro d S' h
    unfold RtW at h
    split at h
    · obtain ⟨d', h1, h2⟩ := h
      exact ⟨1, d', [.drw], Nat.le_refl _, by simp, ⟨_, _, rfl, trivial, rfl⟩, h1, h2⟩
    · exact h.elim
  · intro C fs S' h
    unfold XtW at h
    split at h
    · obtain ⟨fs', h1, h2, h3⟩ := h
      exact ⟨1, fs', [.drw], Nat.le_refl _, by simp, ⟨_, _, rfl, trivial, rfl⟩, h1, h2, h3⟩
    · exact h.elim
theorem conv_I {C : Addr} {sp : SpI} : Conv (atI C sp) (okI C sp) := by
  rintro ds S Q' E' ⟨r, rfl, rfl, h⟩ _
  refine ⟨_, _, ⟨_, _, _, h, rfl, rfl, rfl, rfl, rfl⟩, ?_, ?_⟩
  · intro d S' h
    unfold RtI at h
    split at h
    · obtain ⟨rfl, rfl, fs', h1, h2, h3⟩ := h
      exact ⟨1, .non, [.ins _ fs'], Nat.le_refl _, by simp, ⟨_, _, rfl, ⟨rfl, h1, h2⟩, rfl⟩, rfl, h3⟩
    · exact h.elim
  · intro C fs S' h
    unfold XtI at h
    split at h
    · obtain ⟨fs', h1, h2, h3⟩ := h
      exact ⟨1, fs', [.non], Nat.le_refl _, by simp, ⟨_, _, rfl, trivial, rfl⟩, h1, h2, h3⟩
    · exact h.elim
theorem conv_S {sp : SpD} : Conv sp (okS sp) := fun ds S Q' E' h l => ⟨_, _, ⟨_, _, h, l, rfl, rfl, rfl⟩, fun _ _ h => h, fun _ _ _ h => h⟩
/-! the drawing's list itself -/
def atL (sp : SpP) : SpD := fun ds S Q E => ∃ r l, ds = .ref 0 :: r ∧ S = [.lst l] ∧ DrawL l ∧ sp r (fun d => ∀ l', DrawL l' → Q d [.lst l']) fun _ _ => False
theorem drawL0 : DrawL [.lst [], .int 0, .int 0, .int 0] := ⟨[], 0, 0, 0, rfl, by decide, by decide, by decide, by decide⟩
theorem upF_open {K : PySem.W.Frag} {sp : SpP} (hE : ∀ ds Q E, sp ds Q E → sp ds Q fun _ _ => False) {vs : List V} {H : Hp} {Q : VK} {E : XK} (h : upF K (at1 sp) vs H Q E) : upF K (atL sp) vs H Q E := by
  obtain ⟨φ, ds, S, Q', E', T, r, rs, tt, ⟨rr, rfl, rfl, h⟩, kq, ke⟩ := h
  obtain ⟨a, h1, l, vs', h2, h3, h4⟩ := r.ob 0 .drw rfl
  refine ⟨φ, _, [.lst l], fun d S1 => ∃ l', S1 = [.lst l'] ∧ DrawL l' ∧ Q' d [.drw], fun _ _ _ => False, T, ⟨r.nd, r.dj, r.hd, r.len, fun i o hi => ?_⟩, rs, tt, ⟨rr, l, rfl, rfl, h2, ?_⟩, ?_, fun _ _ _ _ _ _ _ _ _ _ _ z => z.elim⟩
  · cases i with
    | zero => cases hi; exact ⟨a, h1, vs', h3, h4⟩
    | succ i => cases hi
  · have e : (fun d => ∀ l', DrawL l' → ∃ l'', [O.lst l'] = [O.lst l''] ∧ DrawL l'' ∧ Q' d [.drw]) = fun d => Q' d [.drw] := funext fun d => propext ⟨fun z => (z _ drawL0).elim fun _ y => y.2.2, fun z l' hl => ⟨l', rfl, hl, z⟩⟩
    rw [e]
    exact hE _ _ _ h
  · rintro φ' d S1 v H' e r1 t1 rv ⟨l', rfl, hl, q⟩
    refine kq φ' d [.drw] v H' e ⟨r1.nd, r1.dj, r1.hd, r1.len, fun i o hi => ?_⟩ t1 rv q
    obtain ⟨b, g1, vs2, g2, g3⟩ := r1.ob 0 _ rfl
    cases i with
    | zero => cases hi; exact ⟨b, g1, l', vs2, hl, g2, g3⟩
    | succ i => cases hi
def okL (sp : SpP) : OkG := fun ds S R X n => ∃ r Q E l, sp r Q E ∧ ds = .ref 0 :: r ∧ S = [.lst l] ∧ DrawL l ∧ (R = fun d S' => match S' with | .lst l' :: _ => DrawL l' ∧ D.lt 0 d ∧ Q d | _ => False) ∧ (X = fun _ _ _ => False) ∧ n = 1
theorem conv_L {sp : SpP} : Conv (atL sp) (okL sp) := by
  rintro ds S Q' E' ⟨r, l, rfl, rfl, hl, h⟩ _
  refine ⟨_, _, ⟨_, _, _, _, h, rfl, rfl, hl, rfl, rfl, rfl⟩, ?_, fun _ _ _ z => z.elim⟩
  intro d S' h
  split at h
  · rename_i l' rest
    exact ⟨1, d, [.lst l'], Nat.le_refl _, by simp, ⟨_, _, rfl, RsL.same h.1.lts, rfl⟩, Rs.same (h.2.1.mono (Nat.zero_le _)), h.2.2 l' h.1⟩
  · exact h.elim
section
variable {P : Program} {w : World} {K : PySem.W.Frag} {mg : Str → Option Value} {base : Heap}
theorem fn_P {x qual : Str} {st : Stmt} {f : Addr} {fd : FuncData} {N ps : List Str} {k : Nat} {sp : SpP} (F : Fun K x qual st f fd) (S : FnScope N ps (defScope st)) (hp : ∀ ds Q E, sp ds Q E → ds.length = ps.length ∧ D.lts 0 ds) (hb : BodyG P w K mg base qual st f N k (okP sp)) : FnOk P w K mg base (L2.CX P w) (k + 1) f fd ps (upF K (lp sp)) :=
  (FunD.ok conv_P F S (fun ds S Q E h => (hp _ _ _ h.2).1) hb).imp fun vs H Q E h => upF_pure (fun ds Q E h => (hp _ _ _ h).2) h
theorem len_W {sp : SpP} {ps : List Str} (hp : ∀ ds Q E, sp ds Q E → ds.length + 1 = ps.length ∧ D.lts 0 ds) : ∀ ds S Q E, at1 sp ds S Q E → ds.length = ps.length := fun ds S Q E ⟨r, e, _, h⟩ => by rw [e]; exact (hp _ _ _ h).1
theorem fn_W {x qual : Str} {st : Stmt} {f : Addr} {fd : FuncData} {N ps : List Str} {k : Nat} {sp : SpP} (F : Fun K x qual st f fd) (S : FnScope N ps (defScope st)) (hp : ∀ ds Q E, sp ds Q E → ds.length + 1 = ps.length ∧ D.lts 0 ds) (hb : BodyG P w K mg base qual st f N k (okW sp)) : FnOk P w K mg base (L2.CX P w) (k + 1) f fd ps (upF K (ld sp)) :=
  (FunD.ok conv_W F S (len_W hp) hb).imp fun vs H Q E h => upF_draw (fun ds Q E h => (hp _ _ _ h).2) h
theorem fn_L {x qual : Str} {st : Stmt} {f : Addr} {fd : FuncData} {N ps : List Str} {k : Nat} {sp : SpP} (F : Fun K x qual st f fd) (S : FnScope N ps (defScope st)) (hp : ∀ ds Q E, sp ds Q E → ds.length + 1 = ps.length ∧ D.lts 0 ds) (hE : ∀ ds Q E, sp ds Q E → sp ds Q fun _ _ => False) (hb : BodyG P w K mg base qual st f N k (okL sp)) : FnOk P w K mg base (L2.CX P w) (k + 1) f fd ps (upF K (ld sp)) :=
  (FunD.ok conv_L F S (fun ds S Q E ⟨r, l, e, _, _, h⟩ => by rw [e]; exact (hp _ _ _ h).1) hb).imp fun vs H Q E h => upF_open hE (upF_draw (fun ds Q E h => (hp _ _ _ h).2) h)
theorem fn_I {x qual : Str} {st : Stmt} {f C : Addr} {fd : FuncData} {N ps : List Str} {k : Nat} {sp : SpI} (F : Fun K x qual st f fd) (S : FnScope N ps (defScope st)) (hp : ∀ ds Q E, sp ds Q E → ds.length + 1 = ps.length) (hb : BodyG P w K mg base qual st f N k (okI C sp)) : FnOk P w K mg base (L2.CX P w) (k + 1) f fd ps (upF K (atI C sp)) :=
  FunD.ok conv_I F S (fun ds S Q E ⟨r, e, _, h⟩ => by rw [e]; exact hp _ _ _ h) hb
theorem fn_S {x qual : Str} {st : Stmt} {f : Addr} {fd : FuncData} {N ps : List Str} {k : Nat} {sp : SpD} (F : Fun K x qual st f fd) (S : FnScope N ps (defScope st)) (hp : ∀ ds S Q E, sp ds S Q E → ds.length = ps.length) (hb : BodyG P w K mg base qual st f N k (okS sp)) : FnOk P w K mg base (L2.CX P w) (k + 1) f fd ps (upF K sp) :=
  FunD.ok conv_S F S hp hb
end
/-- drawing a number below many -/
def spPull : SpP := fun r Q _ => ∃ many : Int, r = [.int many] ∧ (1 ≤ many ∧ many < 1073741824) ∧ ∀ n : Int, 0 ≤ n → n < many → Q (.int n)
/-- st, then rest, by what holds between -/
inductive sqM (a b : QS) (D : Ed) (s : Sl) (S : List O) : Prop
  | mk (P : Sl → List O → Prop) (h1 : a { D with nx := P } s S) (h3 : ∀ s' S', P s' S' → b D s' S')
theorem sM {a b : QS} {D : Ed} {s : Sl} {S : List O} (P : Sl → List O → Prop) (h : a { D with nx := P } s S) (k : ∀ s' S', P s' S' → b D s' S') : sqM a b D s S := ⟨P, h, k⟩
theorem lss_consM {X : Cx} {B : Bs} {st : Stmt} {rest : List Stmt} {qs qt : QS} (h1 : LS X B st qs) (h2 : LSs X B rest qt) : LSs X B (st :: rest) (sqM qs qt) := PSs.imp (pss_cons h1 h2) fun D σ H ⟨φ, s, S, D', hr, ev, ⟨P, q, hp⟩, ek⟩ =>
  ⟨φ, s, S, { D' with nx := P }, hr, ev, q, ek.seq (fun φ' H' S' s' σ' ek' hr' ev' q' => ⟨φ', s', S', D', hr', ev', hp _ _ q', ek'⟩) rfl rfl rfl⟩
def qW (vs : List Nat) (b : QS) : QS := fun D s S => b D (wipeD s vs) S
theorem lss_w {X : Cx} {B : Bs} {ss : List Stmt} {q : QS} (vs : List Nat) (h : LSs X B ss q) : LSs X B ss (qW vs q) := PSs.imp h fun D σ H ⟨φ, s, S, D', hr, ev, q, ek⟩ => ⟨φ, _, S, D', hr, ev.forgets, q, ek⟩
/-! ### isinstance -/
def tyN (S : List O) : D → Option String
  | .non => some "NoneType"
  | .bl _ => some "bool"
  | .int _ => some "int"
  | .str _ => some "str"
  | .tup _ => some "tuple"
  | .lst _ => some "list"
  | .scr _ => some "list"
  | .tq _ => some "tuple"
  | .kt _ => some "tuple"
  | .dK _ _ => some "dict"
  | .dT _ _ => some "dict"
  | .ref k => match S[k]? with
    | some (.lst _) => some "list"
    | some .drw => some "list"
    | some (.dK _) => some "dict"
    | some (.dT _) => some "dict"
    | _ => none
  | _ => none
def tys : List String := ["NoneType", "bool", "int", "str", "tuple", "list", "dict"]
def subTy (t c : String) : Bool := t == c || (t == "bool" && c == "int")
theorem kit_b {K : PySem.W.Frag} {t c : String} (ht : t ∈ tys) (hc : c ∈ ["bool", "int", "str", "tuple", "list"]) : PySem.W.kitOne K (.type t) (.type c) = some (subTy t c) := by
  simp only [tys, List.mem_cons, List.not_mem_nil, or_false] at ht hc
  rcases ht with rfl | rfl | rfl | rfl | rfl | rfl | rfl <;> rcases hc with rfl | rfl | rfl | rfl | rfl <;> rfl
theorem tyN_ty {S : List O} {d : D} {t : String} (h : tyN S d = some t) : tyOf S d = some (.type t) ∧ t ∈ tys := by
  cases d with
  | ref k =>
    simp only [tyN] at h
    simp only [tyOf]
    cases e : S[k]? with
    | none => (rw [e] at h; cases h)
    | some o => rw [e] at h; cases o <;> first | (cases h; done) | (cases h; exact ⟨rfl, by decide⟩)
  | _ => first | (cases h; done) | (cases h; exact ⟨rfl, by decide⟩)
def okTy : String → Bool
  | "bool" => true
  | "int" => true
  | "str" => true
  | "tuple" => true
  | "list" => true
  | _ => false
/-- isinstance of a built-in class -/
def rcIsiB : QC := fun ds S Q => match ds with
  | [d, .ty c] => Opt (tyN S d) fun t => Br (okTy c) (Q (.bl (subTy t c)) S) False
  | _ => False
theorem okTy_mem {c : String} (h : okTy c = true) : c ∈ ["bool", "int", "str", "tuple", "list"] := by
  unfold okTy at h
  split at h <;> first | (cases h; done) | simp
theorem cc_isiB {X : Cx} {B : Bs} : CallR X (.builtin "isinstance") (upC X.K B rcIsiB) := CallR.imp cc_isi fun x H Q ⟨φ, S, ds, Q', hr, r, q, k⟩ => by
  refine ⟨φ, S, ds, Q', hr, r, ?_, k⟩
  unfold rcIsiB at q
  split at q
  · obtain ⟨t, h1, q1⟩ := q.get
    obtain ⟨h2, q2⟩ := q1.get
    obtain ⟨h3, h4⟩ := tyN_ty h1
    exact ⟨h3, rfl, (fun C z => nomatch z), kit_b h4 (okTy_mem h2), q2⟩
  · exact q.elim
/-- an own class for isinstance -/
structure IsO (K : PySem.W.Frag) (C : Addr) : Prop where
  is : IsC K C
  ty : PySem.W.typeIn K (.ref C) = some (.type "type")
theorem IsO.kit {K : PySem.W.Frag} {C : Addr} (h : IsO K C) {t : String} (ht : t ∈ tys) : PySem.W.kitOne K (.type t) (.ref C) = some false := by
  have h1 : (PySem.W.clsIn K C).isSome = true := by
    have := h.is.cl.hd
    unfold PySem.W.hasDictIn at this
    cases e : PySem.W.clsIn K C with
    | none => rw [e] at this; cases this
    | some c => rfl
  unfold PySem.W.kitOne
  show (if (Value.type t == Value.ref C) = true then some true else PySem.W.kitCls K (.type t) (.ref C)) = some false
  rw [if_neg (by intro z; cases z)]
  unfold PySem.W.kitCls
  show (if ((PySem.W.clsIn K C).isSome && PySem.W.typeIn K (.ref C) == some (.type "type")) = true then PySem.W.subIn K (.type t) (.ref C) else none) = some false
  rw [h1, h.ty, if_pos (by decide)]
  simp only [tys, List.mem_cons, List.not_mem_nil, or_false] at ht
  rcases ht with rfl | rfl | rfl | rfl | rfl | rfl | rfl <;> rfl
/-- isinstance of an own class -/
def rcIsiO (C : Addr) : QC := fun ds S Q => match ds with
  | [d, .adr a] => Need (a = C) (match d with
    | .ins C' _ _ => Need (C' = C) (Q (.bl true) S)
    | d => Opt (tyN S d) fun _ => Q (.bl false) S)
  | _ => False
theorem cc_isiO {X : Cx} {B : Bs} {C : Addr} (h : IsO X.K C) : CallR X (.builtin "isinstance") (upC X.K B (rcIsiO C)) := CallR.imp cc_isi fun x H Q ⟨φ, S, ds, Q', hr, r, q, k⟩ => by
  refine ⟨φ, S, ds, Q', hr, r, ?_, k⟩
  unfold rcIsiO at q
  split at q
  · obtain ⟨e, q⟩ := q
    subst e
    split at q
    · obtain ⟨rfl, q⟩ := q
      exact ⟨rfl, rfl, (fun C z => by cases z; exact h.is), by unfold PySem.W.kitOne; rw [if_pos (by simp)], q⟩
    · obtain ⟨t, h1, q1⟩ := q.get
      obtain ⟨h3, h4⟩ := tyN_ty h1
      exact ⟨h3, rfl, (fun C z => nomatch z), h.kit h4, q1⟩
  · exact q.elim
/-! ### classes -/
structure MkX (P : Program) (w : World) (K : PySem.W.Frag) (mg : Str → Option Value) (base : Heap) (k : Nat) (x : Str) (C f : Addr) (fd : FuncData) (ps : List Str) (sp : SpI) (dvs : List V) (dds : List D) : Prop where
  hp : PureI sp
  mkr : Mk K C f
  ok : FnOk P w K mg base (L2.CX P w) k f fd ps (upF K (atI C sp))
  gm : mg x = some (.ref C)
  bi : ∃ ds, Vals dvs ds ∧ Binds K fd ps ds
  dd : RVc K dds dvs
section
variable {X : Cx} {B : Bs} {k : Nat} {f C : Addr} {fd : FuncData} {ps : List Str} {spi : SpI} {spd : SpD} {dds : List D} {dvs : List V} {W : WX} {W' : WD} {x m : Str} {p pos apos : Pos} {e o : Expr} {es : List Expr} {q : QA} {qo : QE}
theorem le_mk (M : MkX X.prog X.w X.K X.mg X.base k x C f fd ps spi dvs dds) (rm : Room (k + 1) X.A) (tk : Takes X W) (wl : WL X.K B W' W) (ha : LA X B (e :: es) q) (hg : Gl X x := by rfl)
    (nx : (x == ("__debug__" : Str)) = false := by decide) (st : starEach (e :: es) X.env = (false, eval e X.env) :: starEach es X.env := by rfl) (pn : (backTo pos (starEach es X.env)).any (·.1) = false := by rfl) : LE X B (.Call (.Name x p) (e :: es) [] pos) (qMkV C spi dds W' q) :=
  let ⟨_, vd, bd⟩ := M.bi
  le_mkV M.hp M.mkr M.ok rm M.gm bd vd M.dd tk wl ha hg nx st pn
theorem le_mx (M : Mx X.prog X.w X.K X.mg X.base k C m f fd ps spd dvs dds) (rm : Room k X.A) (tk : Takes X W) (wl : WL X.K B W' W) (ho : LE X B o qo) (ha : LA X B (e :: es) q)
    (mc : McAt X o m (e :: es) apos pos := by exact ⟨_, rfl⟩) (st : starEach (e :: es) X.env = (false, eval e X.env) :: starEach es X.env := by rfl) (pn : (backTo pos (starEach es X.env)).any (·.1) = false := by rfl) : LE X B (.Call (.Attribute o m apos) (e :: es) [] pos) (qMeth C m spd dds W' qo q) :=
  let ⟨_, vd, bd⟩ := M.bi
  le_meth ho M.cl M.mt M.ok rm bd vd M.dd tk wl ha mc st pn
theorem le_mx0 (M : Mx X.prog X.w X.K X.mg X.base k C m f fd ps spd dvs dds) (rm : Room k X.A) (tk : Takes X W) (wl : WL X.K B W' W) (ho : LE X B o qo) (mc : McAt X o m [] apos pos := by exact ⟨_, rfl⟩) : LE X B (.Call (.Attribute o m apos) [] [] pos) (qMeth C m spd dds W' qo qNil) :=
  let ⟨_, vd, bd⟩ := M.bi
  le_meth0 ho M.cl M.mt M.ok rm bd vd M.dd tk wl mc
end
/-! ### what the top has written -/
section
variable {K : PySem.W.Frag}
end
end LC

set_option Elab.async false
set_option linter.all false
set_option maxRecDepth 100000
set_option maxHeartbeats 5000000
/-! LD14: int(t, 2) of four signs. -/
namespace LC
open PySem PySem.Spec
open PyProof.Rows L2
section
variable {X : Cx} {B : Bs}
end
theorem sIx_to {n k : Nat} (h : n ≤ k) : HT.sIx n n (some (k : Int)) = n := by rw [HT.sIx_nat]; omega
theorem cutD_to {xs : List D} {k : Nat} (h : xs.length ≤ k) : cutD xs none (some (k : Int)) = xs := cutD_whole xs _ _ ⟨rfl, sIx_to h⟩
theorem atI_get {α : Type} {ds : List α} {i : Int} {d : α} (h0 : 0 ≤ i) (h : ds[i.toNat]? = some d) : L2.atI ds i = some d := by
  have hl := (List.getElem?_eq_some_iff.mp h).1
  have : ixN ds.length i = some i.toNat := by
    unfold ixN
    rw [if_pos h0, if_pos (by omega)]
  unfold L2.atI
  rw [this]
  exact h
theorem atI_map {α β : Type} (f : α → β) (ns : List α) (i : Int) : L2.atI (ns.map f) i = (L2.atI ns i).map f := by
  unfold L2.atI
  rw [List.length_map]
  cases ixN ns.length i with
  | none => rfl
  | some j => simp
theorem atI_in {α : Type} {ns : List α} {i : Int} (h0 : 0 ≤ i) (h : i < ns.length) : ∃ z, z ∈ ns ∧ L2.atI ns i = some z := by
  have hl : i.toNat < ns.length := by omega
  exact ⟨ns[i.toNat], List.getElem_mem hl, atI_get h0 (by simp [List.getElem?_eq_getElem hl])⟩
theorem atI_ints {ns : List Int} {i : Int} (h0 : 0 ≤ i) (h : i < ns.length) : ∃ z, z ∈ ns ∧ L2.atI (ns.map D.int) i = some (.int z) := by
  obtain ⟨z, h1, h2⟩ := atI_in h0 h
  exact ⟨z, h1, by rw [atI_map, h2]; rfl⟩
theorem atI_nat {α : Type} {ds : List α} {i : Nat} {d : α} (h : ds[i]? = some d) : L2.atI ds (0 + (i : Int)) = some d := atI_get (by omega) (by rw [show ((0 : Int) + (i : Int)).toNat = i by omega]; exact h)
mutual
/-- plain data that the law's like goes through, n levels deep -/
def D.dp : D → Nat → Prop
  | .non, _ => True
  | .bl _, _ => True
  | .int _, _ => True
  | .str _, _ => True
  | .tup xs, n + 1 => xs.length ≤ 1000000 ∧ D.dps xs n
  | .lst xs, n + 1 => xs.length ≤ 1000000 ∧ D.dps xs n
  | _, _ => False
def D.dps : List D → Nat → Prop
  | [], _ => True
  | d :: r, n => D.dp d n ∧ D.dps r n
end
theorem D.dps_mem {n : Nat} {ds : List D} : D.dps ds n ↔ ∀ d ∈ ds, D.dp d n := by
  induction ds with
  | nil => simp [D.dps]
  | cons d r ih => simp [D.dps, ih]
mutual
theorem D.dp.lt : ∀ {d : D} {n m : Nat}, D.dp d n → D.lt m d
  | .non, _, _, _ => trivial
  | .bl _, _, _, _ => trivial
  | .int _, _, _, _ => trivial
  | .str _, _, _, _ => trivial
  | .tup xs, n + 1, _, h => D.dps.lt (ds := xs) (n := n) h.2
  | .lst xs, n + 1, _, h => D.dps.lt (ds := xs) (n := n) h.2
theorem D.dps.lt : ∀ {ds : List D} {n m : Nat}, D.dps ds n → D.lts m ds
  | [], _, _, _ => trivial
  | d :: r, _, _, h => ⟨D.dp.lt h.1, D.dps.lt h.2⟩
end
theorem fn_no {P : Program} {w : World} {K : PySem.W.Frag} {mg : Str → Option Value} {base : Heap} {k : Nat} {f : Addr} {fd : FuncData} {ps : List Str} {sp : SpD} (h : ∀ ds S Q E, ¬ sp ds S Q E) : FnOk P w K mg base (L2.CX P w) k f fd ps (upF K sp) :=
  ⟨fun vs H Q E ⟨_, _, _, _, _, _, _, _, _, z, _⟩ => (h _ _ _ _ z).elim, fun A outer s H args us vs Q E _ _ _ _ ⟨_, _, _, _, _, _, _, _, _, z, _⟩ => (h _ _ _ _ z).elim⟩
/-- a comprehension without a test, whose items are told one by one -/
theorem lc_map {t : Tgt} {qe : QE} {vs : List Nat} {s : Sl} {Q : List D → Prop} {xs : List D} {keep : List O → Prop} {S1 : List O} (g : D → D) (hl : xs.length < sizeLine) (hk : ∀ acc, keep (S1 ++ [.lst acc]))
    (st : ∀ (i : Nat) (x : D) (acc : List D), xs[i]? = some x → ∃ s2, stT t x (wipeD s vs) = some s2 ∧ D.lt S1.length (g x) ∧ ∀ R : D → List O → Prop, R (g x) (S1 ++ [.lst acc]) → qe s2 (S1 ++ [.lst acc]) R) (q : Q (xs.map g)) : lcV t qYes qe vs s Q xs keep S1 := by
  refine ⟨fun i acc => acc = (xs.take i).map g, rfl, hk, hl, ?_, fun acc h _ => by rw [h, List.take_length]; exact q⟩
  rintro i x acc hi _ rfl
  obtain ⟨s2, h1, h2, h3⟩ := st i x ((xs.take i).map g) hi
  refine ⟨s2, h1, rfl, h3 _ ⟨rfl, h2, ?_⟩⟩
  rw [List.take_add_one, hi]
  simp
/-- a comprehension by what holds of its list so far -/
theorem lc_inv {t : Tgt} {qe : QE} {vs : List Nat} {s : Sl} {Q : List D → Prop} {xs : List D} {keep : List O → Prop} {S1 : List O} (P : Nat → List D → Prop) (h0 : P 0 []) (hl : xs.length < sizeLine) (hk : ∀ acc, keep (S1 ++ [.lst acc]))
    (st : ∀ (i : Nat) (x : D) (acc : List D), xs[i]? = some x → P i acc → ∃ s2, stT t x (wipeD s vs) = some s2 ∧ qe s2 (S1 ++ [.lst acc]) fun y S4 => S4 = S1 ++ [.lst acc] ∧ D.lt S1.length y ∧ P (i + 1) (acc ++ [y])) (q : ∀ acc, P xs.length acc → Q acc) : lcV t qYes qe vs s Q xs keep S1 := by
  refine ⟨P, h0, hk, hl, ?_, fun acc h _ => q acc h⟩
  rintro i x acc hi _ hP
  obtain ⟨s2, h1, h2⟩ := st i x acc hi hP
  exact ⟨s2, h1, rfl, h2⟩
/-- a list or a tuple that stays is walked -/
theorem any_at {qe : QE} {s : Sl} {S : List O} {R : List D → (List O → Prop) → List O → Prop} {d : D} {xs : List D} (hq : ∀ R' : D → List O → Prop, R' d S → qe s S R') (h : ∀ S', itemsOf S' d = some xs)
    (r : ∀ keep : List O → Prop, (∀ S', keep S') → R xs keep S) : qiAny qe s S R := by
  cases d with
  | tup ys =>
    have e : ys = xs := Option.some.inj (h [])
    subst e
    exact .inr (hq _ (r _ fun _ => trivial))
  | lst ys =>
    have e : ys = xs := Option.some.inj (h [])
    subst e
    exact .inl (hq _ (r _ fun _ => rfl))
  | scr ns =>
    have e : ns.map D.int = xs := Option.some.inj (h [])
    subst e
    exact .inl (hq _ (r _ fun _ => rfl))
  | tq ns =>
    have e : ns.map D.int = xs := Option.some.inj (h [])
    subst e
    exact .inr (hq _ (r _ fun _ => trivial))
  | kt ys =>
    have e : ys = xs := Option.some.inj (h [])
    subst e
    exact .inr (hq _ (r _ fun _ => trivial))
  | ref k => exact nomatch (show (none : Option (List D)) = some xs from h [])
  | _ => exact nomatch (show (none : Option (List D)) = some xs from h [])
/-- the items of ints -/
theorem int_at {ns : List Int} {i : Nat} {x : D} (h : (ns.map D.int)[i]? = some x) : ∃ z, ns[i]? = some z ∧ x = .int z := by
  rw [List.getElem?_map] at h
  obtain ⟨z, hz, e⟩ := Option.map_eq_some_iff.mp h
  exact ⟨z, hz, e.symm⟩
end LC

set_option Elab.async false
set_option linter.all false
set_option maxRecDepth 100000
set_option maxHeartbeats 5000000
/-! LD15: signs of shades. -/
namespace LC
open PySem PySem.Spec
open PyProof.Rows L2
def SG : List Nat := [63, 97, 98, 99, 100, 101, 102]
theorem SG_is : ("?abcdef" : Str).cps.toList = SG := by decide +kernel
def goodN (ns : List Int) : Prop := ∀ z ∈ ns, 0 ≤ z ∧ z ≤ 6
instance goodN_dec (ns : List Int) : Decidable (goodN ns) := inferInstanceAs (Decidable (∀ z ∈ ns, 0 ≤ z ∧ z ≤ 6))
def sgn (i : Int) : Nat := SG.getD i.toNat 0
def sgS (i : Int) : Str := ⟨#[sgn i]⟩
def strOf (ns : List Int) : Str := ⟨(ns.map sgn).toArray⟩
theorem cases7 {i : Int} (h : 0 ≤ i ∧ i ≤ 6) : i = 0 ∨ i = 1 ∨ i = 2 ∨ i = 3 ∨ i = 4 ∨ i = 5 ∨ i = 6 := by omega
theorem atI_SG {i : Int} (h : 0 ≤ i ∧ i ≤ 6) : L2.atI ("?abcdef" : Str).cps.toList i = some (sgn i) := by
  rw [SG_is]
  rcases cases7 h with rfl | rfl | rfl | rfl | rfl | rfl | rfl <;> rfl
theorem joinL_single : ∀ l : List Nat, TL.joinL [] (l.map fun c => [c]) = l
  | [] => rfl
  | [c] => rfl
  | c :: d :: r => by
    show [c] ++ ([] ++ TL.joinL [] ((d :: r).map fun c => [c])) = _
    rw [joinL_single (d :: r)]; rfl
theorem join_codes (l : List Nat) : Txt.join "" (l.map fun c => (⟨#[c]⟩ : Str)) = ⟨l.toArray⟩ := by
  have e := TL.tl_join "" (l.map fun c => (⟨#[c]⟩ : Str))
  rw [List.map_map] at e
  have e1 : TL.tl ("" : Str) = [] := rfl
  rw [e1, show (TL.tl ∘ fun c => (⟨#[c]⟩ : Str)) = fun c => [c] from rfl, joinL_single] at e
  exact TL.ext_tl ((congrArg TL.tl (TL.join_eq "" _)).trans e)
theorem join_sgs (ns : List Int) : Txt.join "" (ns.map sgS) = strOf ns := by
  unfold strOf
  rw [← join_codes, List.map_map]
  rfl
theorem sum_ones {α : Type} : ∀ l : List α, (l.map fun _ => 1).sum = l.length
  | [] => rfl
  | _ :: r => by rw [List.map_cons, List.sum_cons, sum_ones r, List.length_cons]; omega
end LC

set_option Elab.async false
set_option linter.all false
set_option maxRecDepth 100000
set_option maxHeartbeats 5000000
/-! LD16: dicts by plain keys; sorted; pop by place; index. -/
namespace LC
open PySem PySem.Spec
open PyProof.Rows L2
section
variable {κ : Type} [DecidableEq κ]
variable {K : PySem.W.Frag} {φ : Ph} {H : Hp}
end
section
variable {X : Cx} {B : Bs} {φ : Ph} {H : Hp} {S : List O}
end
section
variable {X : Cx} {B : Bs} {o e f : Expr} {qo qe qf : QE} {pos apos cpos : Pos}
end
end LC

set_option Elab.async false
set_option linter.all false
set_option maxRecDepth 100000
set_option maxHeartbeats 5000000
/-! LD17: defs that hand back a new list that is changed later. -/
namespace LC
open PySem PySem.Spec
open PyProof.Rows L2
section
variable {K : PySem.W.Frag} {φ φ' : Ph} {H H' : Hp} {S : List O} {a b : Addr}
end
section
variable {P : Program} {w : World} {K : PySem.W.Frag} {mg : Str → Option Value} {base : Heap}
end
end LC

set_option Elab.async false
set_option linter.all false
set_option maxRecDepth 100000
set_option maxHeartbeats 5000000
/-! LD18: sorted; displays of dicts. -/
namespace LC
open PySem PySem.Spec PySem.Calls
open PyProof.Rows L2
section
variable {prog : Program} {w : World} {A : Around} {E : Value → Shared → Prop} {s : Shared} {T : String} {r d : Addr} {n : Nat} {P : Nat → Value → Prop} {OK : Heap → Prop}
end
section
variable {X : Cx} {B : Bs}
/-! ### displays -/
end
end LC

set_option Elab.async false
set_option linter.all false
set_option maxRecDepth 100000
set_option maxHeartbeats 5000000
/-! LD19: findings as data. -/
namespace LC
open PySem PySem.Spec
open PyProof.Rows L2
theorem cutD_take {xs : List D} {k : Nat} : cutD xs none (some (k : Int)) = xs.take k := by
  unfold cutD
  rw [HT.sIx_nat]
  show (xs.drop 0).take (min k xs.length - 0) = _
  rw [List.drop_zero, Nat.sub_zero, List.take_eq_take_iff]
  omega
end LC

set_option Elab.async false
set_option linter.all false
set_option maxRecDepth 100000
set_option maxHeartbeats 5000000
/-! LD20: lists that may change later are lent to a def that changes nothing. -/
namespace LC
open PySem PySem.Spec
open PyProof.Rows L2
mutual
/-- no list in it -/
def D.nol : D → Prop
  | .tup xs => D.nols xs
  | .kt xs => D.nols xs
  | .ins _ _ xs => D.nols xs
  | .dK _ xs => D.nols xs
  | .dT _ xs => D.nols xs
  | .lst _ => False
  | .scr _ => False
  | .ref _ => False
  | _ => True
def D.nols : List D → Prop
  | [] => True
  | d :: r => D.nol d ∧ D.nols r
end
section
variable {K : PySem.W.Frag} {φ1 φ2 : Ph} {H : Hp}
mutual
theorem RV.trN (hf : ∀ a u, Fz φ1 a → H a = some u → (∀ xs, u ≠ .lst xs) → Fz φ2 a) : ∀ {d : D} {v : V}, D.nol d → RV K φ1 H d v → RV K φ2 H d v
  | .non, _, _, h => h
  | .bl _, _, _, h => h
  | .int _, _, _, h => h
  | .str _, _, _, h => h
  | .ty _, _, _, h => h
  | .adr _, _, _, h => h
  | .ref _, _, l, _ => l.elim
  | .tup _, _, l, ⟨p, vs, h1, h2, h3⟩ => ⟨p, vs, h1, h2, RVs.trN hf l h3⟩
  | .lst _, _, l, _ => l.elim
  | .ins _ _ _, _, l, ⟨p, dx, vs, h1, h2, h3, h4, h5⟩ => ⟨p, dx, vs, h1, hf _ _ h2 h3 (fun _ z => by cases z), h3, h4, RVs.trN hf l h5⟩
  | .dK _ _, _, l, ⟨p, vs, h1, h2, h3, h4, h5⟩ => ⟨p, vs, h1, hf _ _ h2 h3 (fun _ z => by cases z), h3, h4, RVs.trN hf l h5⟩
  | .dT _ _, _, l, ⟨p, vs, h1, h2, h3, h4, h5⟩ => ⟨p, vs, h1, hf _ _ h2 h3 (fun _ z => by cases z), h3, h4, RVs.trN hf l h5⟩
  | .scr _, _, l, _ => l.elim
  | .tq _, _, l, ⟨p, h1, h2⟩ => ⟨p, h1, hf _ _ h2.1 h2.2.choose_spec.1 (fun _ z => by cases z), h2.2⟩
  | .kt _, _, l, ⟨p, vs, h1, h2, h3⟩ => ⟨p, vs, h1, h2, RVs.trN hf l h3⟩
  | .bad, _, _, h => h.elim
theorem RVs.trN (hf : ∀ a u, Fz φ1 a → H a = some u → (∀ xs, u ≠ .lst xs) → Fz φ2 a) : ∀ {ds : List D} {vs : List V}, D.nols ds → RVs K φ1 H ds vs → RVs K φ2 H ds vs
  | [], _, _, h => h
  | _ :: _, _, l, ⟨v, ws, h1, h2, h3⟩ => ⟨v, ws, h1, RV.trN hf l.1 h2, RVs.trN hf l.2 h3⟩
end
end
mutual
/-- what a number stands for, where it is a list -/
def lendD (S : List O) : D → D
  | .ref k => match S[k]? with
    | some (.lst xs) => .lst xs
    | _ => .ref k
  | .tup xs => .tup (lendDs S xs)
  | .lst xs => .lst (lendDs S xs)
  | .non => .non
  | .bl b => .bl b
  | .int i => .int i
  | .str x => .str x
  | .ty x => .ty x
  | .adr x => .adr x
  | .ins C n xs => .ins C n xs
  | .dK k xs => .dK k xs
  | .dT k xs => .dT k xs
  | .scr n => .scr n
  | .tq n => .tq n
  | .kt n => .kt n
  | .bad => .bad
def lendDs (S : List O) : List D → List D
  | [] => []
  | d :: r => lendD S d :: lendDs S r
end
def wishN (E : EDt) (S : List O) : EDt := fun C fs _ => D.nols (fs.map (·.2)) ∧ E C fs S
def ll (sp : SpP) : SpD := fun ds S Q E => sp (lendDs S ds) (fun d => D.nol d ∧ Q d S) fun C fs => wishN E S C fs S
noncomputable def lentB (φ : Ph) (H : Hp) (a : Addr) : Bool := @decide (a ∈ φ.own ∧ ∃ xs, H a = some (.lst xs)) (Classical.propDecidable _)
theorem lentB_is {φ : Ph} {H : Hp} {a : Addr} : lentB φ H a = true ↔ (a ∈ φ.own ∧ ∃ xs, H a = some (.lst xs)) := @decide_eq_true_iff _ (Classical.propDecidable _)
noncomputable def Ph.lend (φ : Ph) (H : Hp) : Ph := ⟨(φ.hid ++ φ.own).filter fun a => !lentB φ H a, []⟩
section
variable {K : PySem.W.Frag}
theorem Rel.lend {φ : Ph} {H : Hp} {S : List O} (r : Rel K φ H S) : Rel K (φ.lend H) H [] :=
  ⟨List.nodup_nil, fun _ _ z => (List.not_mem_nil z), fun a ha => (List.mem_append.mp (List.mem_filter.mp ha).1).elim (r.hd a) fun h => r.own_some h, rfl, fun i o h => by simp at h⟩
theorem Fz.lend {φ : Ph} {H : Hp} {a : Addr} (h : Fz φ a) : Fz (φ.lend H) a := ⟨fun z => (List.mem_append.mp (List.mem_filter.mp z).1).elim h.1 h.2, List.not_mem_nil⟩
theorem Fz.lent {φ : Ph} {H : Hp} {a : Addr} {xs : List V} (h : a ∈ φ.own) (g : H a = some (.lst xs)) : Fz (φ.lend H) a := by
  refine ⟨fun z => ?_, List.not_mem_nil⟩
  have := (List.mem_filter.mp z).2
  rw [lentB_is.mpr ⟨h, xs, g⟩] at this
  cases this
theorem lend_ref {φ : Ph} {H : Hp} {S : List O} {k : Nat} {v : V} (r : Rel K φ H S) (l : D.lt 0 (lendD S (.ref k))) (h : RV K φ H (.ref k) v) : RV K (φ.lend H) H (lendD S (.ref k)) v := by
  obtain ⟨a, ea, rfl⟩ := h
  simp only [lendD] at l ⊢
  split at l
  · rename_i xs es
    obtain ⟨b, eb, us, g1, g2⟩ := r.ob k _ es
    rw [ea] at eb; cases eb
    exact ⟨a, us, rfl, Fz.lent (List.mem_of_getElem? ea) g1, g1, g2.tr (m := 0) (fun k a hk => absurd hk (Nat.not_lt_zero k)) (fun b => Fz.lend) l⟩
  · exact absurd l (Nat.not_lt_zero k)
mutual
theorem lend_arg {φ : Ph} {H : Hp} {S : List O} (r : Rel K φ H S) : ∀ {d : D} {v : V}, D.lt 0 (lendD S d) → RV K φ H d v → RV K (φ.lend H) H (lendD S d) v
  | .ref k, _, l, h => lend_ref r l h
  | .tup _, _, l, ⟨p, vs, h1, h2, h3⟩ => ⟨p, vs, h1, h2, lend_args r l h3⟩
  | .lst _, _, l, ⟨p, vs, h1, h2, h3, h4⟩ => ⟨p, vs, h1, Fz.lend h2, h3, lend_args r l h4⟩
  | .non, _, _, h => h
  | .bl _, _, _, h => h
  | .int _, _, _, h => h
  | .str _, _, _, h => h
  | .ty _, _, _, h => h
  | .adr _, _, _, h => h
  | .ins C n xs, _, l, h => RV.tr (d := .ins C n xs) (m := 0) (fun k a hk => absurd hk (Nat.not_lt_zero k)) (fun b => Fz.lend) l h
  | .dK n xs, _, l, h => RV.tr (d := .dK n xs) (m := 0) (fun k a hk => absurd hk (Nat.not_lt_zero k)) (fun b => Fz.lend) l h
  | .dT n xs, _, l, h => RV.tr (d := .dT n xs) (m := 0) (fun k a hk => absurd hk (Nat.not_lt_zero k)) (fun b => Fz.lend) l h
  | .scr n, _, l, h => RV.tr (d := .scr n) (m := 0) (fun k a hk => absurd hk (Nat.not_lt_zero k)) (fun b => Fz.lend) l h
  | .tq n, _, l, h => RV.tr (d := .tq n) (m := 0) (fun k a hk => absurd hk (Nat.not_lt_zero k)) (fun b => Fz.lend) l h
  | .kt n, _, l, h => RV.tr (d := .kt n) (m := 0) (fun k a hk => absurd hk (Nat.not_lt_zero k)) (fun b => Fz.lend) l h
  | .bad, _, _, h => h.elim
theorem lend_args {φ : Ph} {H : Hp} {S : List O} (r : Rel K φ H S) : ∀ {ds : List D} {vs : List V}, D.lts 0 (lendDs S ds) → RVs K φ H ds vs → RVs K (φ.lend H) H (lendDs S ds) vs
  | [], _, _, h => h
  | _ :: _, _, l, ⟨v, ws, e, h1, h2⟩ => ⟨v, ws, e, lend_arg r l.1 h1, lend_args r l.2 h2⟩
end
theorem Ext.unlend {φ φ' : Ph} {H H' : Hp} (e : Ext K (φ.lend H) φ' H H') : Ext K φ φ H H' := ⟨rfl, List.prefix_refl _, e.tup, e.xd, fun a u h g n => ⟨h, (e.fz a u List.not_mem_nil g n).2⟩⟩
theorem upF_lend {sp : SpP} (hp : ∀ ds Q E, sp ds Q E → D.lts 0 ds) {vs : List V} {H : Hp} {Q : VK} {E : XK} (h : upF K (ll sp) vs H Q E) : upF K (lp sp) vs H Q E := by
  obtain ⟨φ, ds, S, Q', E', T, r, rs, tt, h, kq, ke⟩ := h
  have fz : ∀ {φ' : Ph} {H' : Hp}, Ext K (φ.lend H) φ' H H' → ∀ a u, Fz φ' a → H' a = some u → (∀ xs, u ≠ .lst xs) → Fz φ a := fun e a u f g n => by
    have f1 : a ∉ (φ.lend H).hid := fun z => f.1 (by rw [e.hid]; exact z)
    have nl : ¬ (a ∈ φ.own ∧ ∃ xs, H a = some (.lst xs)) := fun ⟨_, xs, hx⟩ => by
      have := (e.fz a _ List.not_mem_nil hx (fun _ z => by cases z)).2
      rw [g] at this
      exact n xs (Option.some.inj this)
    have nb : (!lentB φ H a) = true := by
      cases hb : lentB φ H a with
      | true => exact absurd (lentB_is.mp hb) nl
      | false => rfl
    exact ⟨fun z => f1 (List.mem_filter.mpr ⟨List.mem_append_left _ z, nb⟩), fun z => f1 (List.mem_filter.mpr ⟨List.mem_append_right _ z, nb⟩)⟩
  have rel : ∀ {φ' : Ph} {H' : Hp}, Ext K (φ.lend H) φ' H H' → Rel K φ H' S := fun e => r.kept e.unlend fun b u g n => (e.fz b u List.not_mem_nil g n).2
  refine ⟨φ.lend H, lendDs S ds, [], fun d S1 => D.nol d ∧ Q' d S, wishN E' S, T, r.lend, lend_args r (hp _ _ _ h) rs, tt, h, ?_, ?_⟩
  · rintro φ' d S1 v H' e r1 t1 rv ⟨hn, q⟩
    exact kq φ d S v H' e.unlend (rel e) t1 (rv.trN (fz e) hn) q
  · rintro φ' C fs S1 cls d H' e r1 t1 ⟨hc, dx, gs, hd, h1, h2⟩ ⟨hn, q⟩
    obtain ⟨us, eu, g3⟩ := h2.split
    subst eu
    exact ke φ C fs S cls d H' e.unlend (rel e) t1 ⟨hc, dx, _, hd, h1, RKV.join (g3.trN (fz e) hn)⟩ q
end
theorem Fx.lend {P : Program} {w : World} {K : PySem.W.Frag} {mg : Str → Option Value} {base : Heap} {k : Nat} {f : Addr} {fd : FuncData} {x : Str} {ps : List Str} {sp : SpP} (G : Fx P w K mg base k f fd x ps (lp sp)) (hp : ∀ ds Q E, sp ds Q E → D.lts 0 ds) : Fx P w K mg base k f fd x ps (ll sp) :=
  ⟨G.ok.imp fun vs H Q E h => upF_lend hp h, G.gm, G.kp, G.bi⟩
end LC

set_option Elab.async false
set_option linter.all false
set_option maxRecDepth 100000
set_option maxHeartbeats 5000000
/-! LD21: the objects behind the n-th in another order. -/
namespace LC
open PySem PySem.Spec
open PyProof.Rows L2
section
variable {K : PySem.W.Frag} {φ1 φ2 : Ph} {H : Hp} {π : Nat → Nat}
end
section
variable {K : PySem.W.Frag} {φ : Ph} {H : Hp} {S : List O} {n : Nat} {is : List Nat} {π : Nat → Nat}
end
end LC

set_option Elab.async false
set_option linter.all false
set_option maxRecDepth 100000
set_option maxHeartbeats 5000000
/-! LD22: the __init__ of exceptions while another one is handled. -/
namespace LC
open PySem PySem.Spec
open PyProof.Rows L2
open L2H (FnH RoomH Hot1 HotC cxH)
section
variable {P : Program} {w : World} {K : PySem.W.Frag} {mg : Str → Option Value} {base : Heap}
end
section
variable {X : Cx} {k : Nat} {f C : Addr} {fd : FuncData} {ps : List Str} {sp : Sp} {x m : Str} {p1 p2 pos : Pos} {e : Expr} {es : List Expr} {t : TA} {mc : Value}
end
section
variable {P : Program} {w : World} {K : PySem.W.Frag} {mg : Str → Option Value} {base : Heap} {q : Str} {st : Stmt} {f : Addr} {fd : FuncData} {p1 p2 p3 p4 p5 p6 p7 p8 p9 p10 p11 p12 p13 : Pos}
end
section
variable {P : Program} {w : World} {K : PySem.W.Frag} {mg : Str → Option Value} {base : Heap} {q wd m n : Str} {st : Stmt} {f fB C B : Addr} {mc : Value} {fd fdB : FuncData} {j : Nat} {p1 p2 p3 p4 p5 p6 p7 p8 p9 p10 p11 p12 p13 p14 : Pos}
end
/-! ### dicts of the top -/
end LC

set_option Elab.async false
set_option linter.all false
set_option maxRecDepth 100000
set_option maxHeartbeats 5000000
/-! LD23: x = T[e], T a dict of the top; where e is none of its keys, another exception is raised. -/
namespace LC
open PySem PySem.Spec
open PyProof.Rows L2
open L2H (FnH RoomH HotC suiteX)
section
variable {X : Cx} {B : Bs}
end
end LC

set_option Elab.async false
set_option linter.all false
set_option maxRecDepth 100000
set_option maxHeartbeats 5000000
/-! LD24: T[e] of a dict of the top; a local name that holds a def. -/
namespace LC
open PySem PySem.Spec
open PyProof.Rows L2
section
variable {X : Cx} {B : Bs}
end
section
variable {X : Cx} {B : Bs} {k i : Nat} {L : List (Addr × SpD)} {W : WX} {W' : WD} {x : Str} {p pos : Pos} {e : Expr} {es : List Expr} {q : QA}
end
end LC

set_option Elab.async false
set_option linter.all false
set_option maxRecDepth 100000
set_option maxHeartbeats 5000000
/-! LD25: calls with keywords that stand in the parameters' order and fill all of them. -/
namespace LC
open PySem PySem.Spec
open PyProof.Rows L2
section
variable {K : PySem.W.Frag} {x qual : Str} {params : Arguments} {body : List Stmt} {scope : Scope} {dvs : List V} {f : Addr} {fd : FuncData} {ps ks : List Str} {n : Nat}
end
section
variable {X : Cx} {B : Bs} {k n : Nat} {f : Addr} {fd : FuncData} {ps ks : List Str} {sp : SpD} {W : WX} {W' : WD} {x : Str} {p pos kpos : Pos} {e : Expr} {es : List Expr} {kws : List Keyword} {qe : QE} {q qk : QA} {nm : Option Str}
end
end LC

set_option Elab.async false
set_option linter.all false
set_option maxRecDepth 100000
set_option maxHeartbeats 5000000
/-! LD26: what looking at a finding comes to. -/
namespace LC
open PySem PySem.Spec
open PyProof.Rows L2
theorem good_all6 (ns : List Int) : (ns.map fun z => decide (0 ≤ z) && decide (z ≤ 6)).all id = decide (goodN ns) := by
  rw [List.all_map, Bool.eq_iff_iff, List.all_eq_true]
  constructor
  · intro h
    refine decide_eq_true fun z hz => ?_
    have := h z hz
    simp at this
    omega
  · intro h z hz
    have := of_decide_eq_true h z hz
    simp
    omega
end LC

set_option Elab.async false
set_option linter.all false
set_option maxRecDepth 100000
set_option maxHeartbeats 5000000
/-! LD27: a < b < c of whole numbers where c is a written number: no cases. Checks: a list of (good, name). -/
namespace LC
open PySem PySem.Spec
open PyProof.Rows L2
section
variable {X : Cx} {B : Bs} {a b c : Expr} {qa qb : QE} {pos : Pos}
end
end LC

set_option Elab.async false
set_option linter.all false
set_option maxRecDepth 100000
set_option maxHeartbeats 5000000
/-! LD28: the law's checks of a finding. -/
namespace LC
open PySem PySem.Spec
open PyProof.Rows L2
theorem ltN {n : Nat} (h : n ≤ 1000) : n < sizeLine := Nat.lt_of_le_of_lt h (by decide)
theorem leN {n : Nat} (h : n ≤ 1000) : n ≤ sizeLine := Nat.le_trans h (by decide)
end LC

set_option Elab.async false
set_option linter.all false
set_option maxRecDepth 100000
set_option maxHeartbeats 5000000
/-! LD29: tuple * int, one and more. -/
namespace LC
open PySem PySem.Spec
open PyProof.Rows L2
theorem tuple_mul1 (l : Addr) (items : Array Value) (n : Nat) (dd : Option Addr) (sl : Array (Option Value)) (u : Tok) :
    Meets (Builtin.«tuple.__mul__» ⟨[.ref l, .int 1 u], []⟩) (fun _ R s => s.heap.get? l = some { cls := .type "tuple", dict := dd, data := .seq items n, slots := sl } ∧ R (.ok (.ret (Value.ref l))) s) :=
  .of_wp fun prog w A R s h => by
    obtain ⟨hp, g, d, tk, os⟩ := s
    obtain ⟨hl, h⟩ := h
    have f1 := AutoSeq1.idx_int
    have c1 : (items.isEmpty || (1 : Int) == 1) = true := by simp
    wp_walk using wpAny_loadPart' hl
    repeat (first
      | (refine wpAny_ite_false (decide_eq_false (by decide)) ?_; wp_walk using wpAny_loadPart' hl)
      | (refine wpAny_ite_true (decide_eq_true c1) ?_; wp_walk using wpAny_loadPart' hl))
    exact ⟨_, rfl, h⟩
def rRep1 (K : PySem.W.Frag) : R2 := fun x y H Q => ∃ l xs, x = .ref l ∧ y = .int 1 ∧ SqT K H l xs ∧ Q (.ref l) H
section
variable {X : Cx} {B : Bs}
theorem op_rep1 : OpR X (binaryOp .Mult) (rRep1 X.K) := by
  intro pins s σ H x y v u Q I rx ry h
  obtain ⟨l, xs, rfl, rfl, hT, q⟩ := h
  cases rx
  obtain ⟨t, rfl⟩ := ry
  obtain ⟨its, r, ⟨⟨cls, dd, data, sl⟩, ho, hc, n, hd⟩, hs⟩ := I.tuple hT
  simp only at hc hd
  subst hc hd
  refine wpAny_binaryOp_repeat_ref (T := "tuple") (U := "int") (by decide) ⟨_, ho, rfl⟩ (fun s' => typeIs_int s' 1 t) noFill_tuple_mul F.fills_int_mul F.slot_int_rmul repeat_tuple F.slot_int_index.lookup
    (call_meets F.slot_int_rmul (typeIs_int s 1 t) F.entry_int_rmul (F.args_int_rmul_2 _ _) (int_rmul_tuple 1 t l its.toArray n dd sl)
      ⟨ho, rfl, ⟨_, ho, rfl⟩, call_meets F.slot_tuple_mul ⟨_, ho, rfl⟩ F.entry_tuple_mul (F.args_tuple_mul_2 _ _) (tuple_mul1 l its.toArray n dd sl t) ⟨ho, ?_⟩⟩)
  exact ⟨.ref l, _, I, rfl, q⟩
/-- * of ints, of a list and an int, of a tuple and an int -/
def oMulX : QO := fun d e S Q => match d, e with
  | .tup xs, .int j => Need (xs ≠ [] ∧ 1 ≤ j ∧ j ≤ 1000 ∧ xs.length ≤ 1000) (Q (.tup (List.replicate j.toNat xs).flatten) S)
  | d, e => oMul d e S Q
theorem oo_mulX : OpR X (binaryOp .Mult) (upR X.K B oMulX) := OpR.imp ((op_mul.or op_rep).or (op_rep1.or op_repT)) fun x y H Q ⟨φ, S, d, e, Q', hr, r1, r2, q, k⟩ => by
  unfold oMulX at q
  split at q
  · rename_i xs j
    obtain ⟨p, vs, rfl, h1, h2⟩ := id r1
    cases r2
    obtain ⟨⟨hne, h3, h4, h5⟩, q⟩ := q
    by_cases hj : j = 1
    · subst hj
      refine .inr (.inl ⟨p, vs, rfl, rfl, h1, ?_⟩)
      have e : (List.replicate (1 : Int).toNat xs).flatten = xs := by simp
      rw [e] at q
      exact k.here hr r1 q
    · refine .inr (.inr ⟨p, j, vs, rfl, rfl, h1, ?_, by omega, h4, by rw [h2.len]; exact h5, fun p' hp => k.tup hr hp (h2.rep _) q⟩)
      intro z
      have := h2.len
      rw [z] at this
      exact hne (List.length_eq_zero_iff.mp this.symm)
  · unfold oMul at q
    split at q
    · cases r1; cases r2
      exact .inl (.inl ⟨_, _, rfl, rfl, q.c, k.here (d := D.int _) hr rfl q.q⟩)
    · cases r2
      split at q
      · rename_i xs e1
        obtain ⟨a, vs, rfl, h5, h6⟩ := hr.ls e1 r1
        exact .inl (.inr ⟨a, _, vs, rfl, rfl, h5, by have := q.c.1; omega, q.c.2.1, by rw [h6.len]; exact q.c.2.2, fun p hp => k.lst hr hp (h6.rep _) q.q⟩)
      · exact q.elim
    · exact q.elim
end
end LC

set_option Elab.async false
set_option linter.all false
set_option maxRecDepth 100000
set_option maxHeartbeats 5000000
/-! LD30: zip(a, b, strict=True), a and b lists or tuples. -/
namespace LC
open PySem PySem.Spec
open PyProof.Rows L2
section
variable {prog : Program} {w : World} {A : Around} {E : Value → Shared → Prop} {s : Shared}
end
/-! ### the iterators, of a list or a tuple -/
section
variable {prog : Program} {w : World} {A : Around} {E : Value → Shared → Prop} {s : Shared}
end
end LC

set_option Elab.async false
set_option linter.all false
set_option maxRecDepth 100000
set_option maxHeartbeats 5000000
/-! LD31: zip(a, b, strict=True): the end, the walk. -/
namespace LC
open PySem PySem.Spec
open PyProof.Rows L2
section
variable {prog : Program} {w : World} {A : Around} {E : Value → Shared → Prop} {s : Shared}
end
section
variable {prog : Program} {w : World} {A : Around} {E : Value → Shared → Prop} {s : Shared}
end
end LC

set_option Elab.async false
set_option linter.all false
set_option maxRecDepth 100000
set_option maxHeartbeats 5000000
/-! LD32: for a, b in zip(xs, ys, strict=True): the rule. -/
namespace LC
open PySem PySem.Spec
open PyProof.Rows L2
end LC

set_option Elab.async false
set_option linter.all false
set_option maxRecDepth 100000
set_option maxHeartbeats 5000000
/-! LD33: for a, b in zip(xs, ys, strict=True), over data. -/
namespace LC
open PySem PySem.Spec
open PyProof.Rows L2
section
variable {X : Cx} {B : Bs}
end
end LC

set_option Elab.async false
set_option linter.all false
set_option maxRecDepth 100000
set_option maxHeartbeats 5000000
/-! LD34: raise X(..) from e, e the exception that is handled. -/
namespace LC
open PySem PySem.Spec
open PyProof.Rows L2 L2H HotX
end LC

set_option Elab.async false
set_option linter.all false
set_option maxRecDepth 100000
set_option maxHeartbeats 5000000
/-! LD35: isinstance(x, (A, B)); a try whose body raises nothing; tuples in dicts of the top. -/
namespace LC
open PySem PySem.Spec
open PyProof.Rows L2
section
variable {X : Cx} {B : Bs}
end
end LC

set_option Elab.async false
set_option linter.all false
set_option maxRecDepth 100000
set_option maxHeartbeats 5000000
/-! LD36: numbers and findings as words. -/
namespace LC
open PySem PySem.Spec
open PyProof.Rows L2
open TL (tl numL)
end LC

set_option Elab.async false
set_option linter.all false
set_option maxRecDepth 100000
set_option maxHeartbeats 5000000
/-! LD37: f-strings of texts and whole numbers. -/
namespace LC
open PySem PySem.Spec
open PyProof.Rows L2
section
variable {X : Cx} {B : Bs}
inductive LJ (X : Cx) (B : Bs) : List Expr → List QE → Prop where
  | nil : LJ X B [] []
  | cons {e : Expr} {t : QE} {es : List Expr} {ts : List QE} (h : LE X B e t) (r : LJ X B es ts) : LJ X B (e :: es) (t :: ts)
theorem LJ.pj {es : List Expr} {qs : List QE} (h : LJ X B es qs) : PJ X es (qs.map fun q => UP X.K B (rD X.K) q) := by
  induction h with
  | nil => exact .nil
  | cons h r ih => exact .cons h ih
def qJs : List QE → Str → Sl → List O → (Str → List O → Prop) → Prop
  | [], acc, _, S, Q => Q acc S
  | q :: qs, acc, s, S, Q => q s S fun d S1 => match d with
    | .str y => Need ((acc ++ y).length ≤ sizeLine) (qJs qs (acc ++ y) s S1 Q)
    | _ => False
def qJoined (qs : List QE) : QE := fun s S Q => qJs qs Str.empty s S fun out S1 => Q (.str out) S1
theorem tJs_of {σ : L2.St} {Q : Str → Hp → Prop} {s : Sl} {Q' : Str → List O → Prop} : ∀ {qs : List QE} {acc : Str} {φ : Ph} {S : List O} {H : Hp}, HR X.K B φ H S → EV X.K φ H s σ → qJs qs acc s S Q' →
    (∀ φ' S' H' out, Ext X.K φ φ' H H' → HR X.K B φ' H' S' → Q' out S' → Q out H') → tJs (qs.map fun q => UP X.K B (rD X.K) q) acc σ H Q
  | [], _, _, _, _, hr, _, q, k => k _ _ _ _ Ext.refl hr q
  | q :: qs, acc, φ, S, H, hr, ev, qq, k => by
    refine ⟨φ, s, S, _, hr, ev, qq, fun φ1 d S1 v H1 e1 hr1 r1 q1 => ?_⟩
    split at q1
    · rename_i y
      exact ⟨y, r1, q1.c, tJs_of hr1 (ev.mono e1) q1.q fun φ' S' H' out e hr' q' => k φ' S' H' out (e1.trans e) hr' q'⟩
    · exact q1.elim
theorem le_joined {v1 v2 : Expr} {rest : List Expr} {qs : List QE} {pos : Pos} (h : LJ X B (v1 :: v2 :: rest) qs) : LE X B (.JoinedStr (v1 :: v2 :: rest) pos) (qJoined qs) := PE.imp (pe_joined h.pj) fun σ H Q ⟨φ, s, S, Q', hr, ev, q, k⟩ =>
  tJs_of hr ev q fun φ' S' H' out e hr' q' => k φ' (.str out) S' (.str out) H' e hr' rfl q'
end
end LC

set_option Elab.async false
set_option linter.all false
set_option maxRecDepth 100000
set_option maxHeartbeats 5000000
/-! LD38: deeds as words. -/
namespace LC
open PySem PySem.Spec
open PyProof.Rows L2
open TL (tl numL)
end LC

set_option Elab.async false
set_option linter.all false
set_option maxRecDepth 100000
set_option maxHeartbeats 5000000
/-! LD39: try .. except X as n: the suite raises. -/
namespace LC
open PySem PySem.Spec
open PyProof.Rows L2 L2H HotX
section
variable {X : Cx} {pins : List (Addr × Obj)} {σ : L2.St} {H : Hp} {s : Shared}
end
section
variable {X : Cx} {x n : Str} {c : Value} {i : Nat} {body suite : List Stmt} {b₀ : Stmt} {np pos pos' : Pos} {tb : WX → TS} {ts : Addr → Value → Option Addr → TS} {Wout : WX}
end
end LC

set_option Elab.async false
set_option linter.all false
set_option maxRecDepth 100000
set_option maxHeartbeats 5000000
/-! LD40: x = T[e] / except KeyError as n: raise C() from n. -/
namespace L2H
open PySem PySem.Spec PyProof.Rows L2 HotX
end L2H
namespace LC
open PySem PySem.Spec
open PyProof.Rows L2
open L2H (FnH RoomH HotC suiteX Hot1)
section
variable {X : Cx} {B : Bs}
end
end LC

set_option Elab.async false
set_option linter.all false
set_option maxRecDepth 100000
set_option maxHeartbeats 5000000
/-! LD41: a def that is handed some of the caller's objects, and may change them, and make new ones. -/
namespace LC
open PySem PySem.Spec
open PyProof.Rows L2
section
variable {K : PySem.W.Frag} {φ1 φ2 : Ph} {H : Hp} {π : Nat → Nat} {n : Nat}
end
section
variable {K : PySem.W.Frag} {ks : List Nat} {S S0 S1 : List O} {ds ds0 : List D} {φ φ' : Ph} {H H' : Hp}
end
end LC

set_option Elab.async false
set_option linter.all false
set_option maxRecDepth 100000
set_option maxHeartbeats 5000000
/-! LD42: defs over the whole state, nothing dropped; a book and its lists. -/
namespace LC
open PySem PySem.Spec
open PyProof.Rows L2
section
variable {P : Program} {w : World} {K : PySem.W.Frag} {mg : Str → Option Value} {base : Heap}
end
section
variable {P : Program} {w : World} {K : PySem.W.Frag} {mg : Str → Option Value} {base : Heap}
end
/-! ### a new one: its __init__ over the whole state -/
section
variable {X : Cx} {B : Bs} {k : Nat} {f C : Addr} {fd : FuncData} {ps : List Str} {sp : SpD} {dds : List D} {dvs : List V} {ds : List Value} {W : WX} {W' : WD} {x m : Str} {p pos apos : Pos} {e o : Expr} {es : List Expr} {q : QA}
end
end LC

set_option Elab.async false
set_option linter.all false
set_option maxRecDepth 100000
set_option maxHeartbeats 5000000
/-! LD43: enumerate(xs, start=k), xs a list or a tuple. -/
namespace LC
open PySem PySem.Spec
open PyProof.Rows L2
section
variable {prog : Program} {w : World} {A : Around} {E : Value → Shared → Prop} {s : Shared}
end
/-! over data -/
end LC

set_option Elab.async false
set_option linter.all false
set_option maxRecDepth 100000
set_option maxHeartbeats 5000000
/-! LD44: methods with keywords; len, str, repr, ==, bool, isinstance of numbered instances. -/
namespace LC
open PySem PySem.Spec
open PyProof.Rows L2
section
variable {prog : Program} {w : World} {A : Around} {E : Value → Shared → Prop} {s : Shared} {K : PySem.W.Frag} {x C L f : Addr} {h₀ : Heap} {m : Str → Option Value} {ox : Obj} {od : Option Obj}
end
/-! ### readings -/
section
variable {X : Cx} {B : Bs} {k : Nat} {f C : Addr} {fd : FuncData} {ps : List Str} {sp : Sp} {spd : SpD}
/-! ### methods with keywords -/
variable {dds : List D} {dvs : List V} {W : WX} {W' : WD} {x m : Str} {p pos apos : Pos} {e o : Expr} {es : List Expr} {kws : List Keyword} {q qk : QA} {qo : QE} {ks : List Str} {n : Nat}
end
end LC

set_option Elab.async false
set_option linter.all false
set_option maxRecDepth 100000
set_option maxHeartbeats 5000000
/-! LD45: d[k]; books by their rows and deeds. -/
namespace LC
open PySem PySem.Spec
open PyProof.Rows L2
section
variable {X : Cx} {B : Bs} {o e : Expr} {qo qe : QE} {pos : Pos}
end
end LC

set_option Elab.async false
set_option linter.all false
set_option maxRecDepth 100000
set_option maxHeartbeats 5000000
/-! LD46: the law's own keeping of a book. -/
namespace LC
open PySem PySem.Spec
open PyProof.Rows L2
theorem ixN_is {n : Int} {l : Nat} (h1 : 0 ≤ n) (h2 : n < l) : ixN l n = some n.toNat := by
  unfold ixN
  rw [if_pos h1, if_pos h2]
end LC

set_option Elab.async false
set_option linter.all false
set_option maxRecDepth 100000
set_option maxHeartbeats 5000000
/-! LD47: two books beside the drawing. -/
namespace LC
open PySem PySem.Spec
open PyProof.Rows L2
end LC

set_option Elab.async false
set_option linter.all false
set_option maxRecDepth 100000
set_option maxHeartbeats 5000000
/-! LD48: defs with lambdas; methods that hand back new lists; methods whose own new objects are by value in the end. -/
namespace LC
open PySem PySem.Spec
open PyProof.Rows L2
/-! ### a promise over the tables T0 -/
section
variable {P : Program} {w : World} {K : PySem.W.Frag} {mg : Str → Option Value} {base : Heap} {T0 : List (Addr × Str)}
end
section
variable {X : Cx} {B : Bs} {k : Nat} {f : Addr} {fd : FuncData} {x : Str} {ps : List Str} {sp : SpD} {W : WX} {W' : WD} {e : Expr} {es : List Expr} {p pos : Pos} {q : QA} {T0 : List (Addr × Str)}
end
/-! ### methods that hand back a new list -/
section
variable {P : Program} {w : World} {K : PySem.W.Frag} {mg : Str → Option Value} {base : Heap}
end
section
variable {X : Cx} {B : Bs}
end
end LC

set_option Elab.async false
set_option linter.all false
set_option maxRecDepth 100000
set_option maxHeartbeats 5000000
/-! LD49: one book beside the drawing. -/
namespace LC
open PySem PySem.Spec
open PyProof.Rows L2
end LC

set_option Elab.async false
set_option linter.all false
set_option maxRecDepth 100000
set_option maxHeartbeats 5000000
/-! LD50: the head by one kernel run: its facts as this layer wants them. -/
namespace LC
open PySem PySem.Spec
open PyProof.Rows L2
section
variable {K : PySem.W.Frag} {w : World} {x qual : Str} {st : Stmt} {f : Addr} {fd : FuncData}
theorem funD_fun (F : L2.FunD K x qual (defArgs st) (defBody st) (defScope st) [] [] f fd) : Fun K x qual st f fd := by
  obtain ⟨oc, od, dV, kV, doc, pm, an, cdv, ct, osl, e, lk, hc, hD, _⟩ := F.ex
  rcases hD with ⟨_, rfl⟩ | ⟨h, _⟩
  · exact ⟨⟨oc, od, kV, doc, pm, an, cdv, ct, osl, e, lk, hc⟩, F.kp⟩
  · exact absurd rfl h
theorem funD_code {p : He.Defn} (F : L2.FunD K x qual (defArgs st) (defBody st) (defScope st) [] [] (He.fAd K p) fd) : FunC K x qual st (He.fAd K p) fd (He.codeOf K p) := by
  obtain ⟨oc, od, dV, kV, doc, pm, an, cdv, ct, osl, e, lk, hc, hD, _⟩ := F.ex
  obtain ⟨c, rfl⟩ := He.codeIn_ref hc
  have ec : He.codeOf K p = c := He.codeOf_eq lk (by rw [e])
  rcases hD with ⟨_, rfl⟩ | ⟨h, _⟩
  · rw [ec]
    exact ⟨oc, od, kV, doc, pm, an, ct, osl, e, lk, hc⟩
  · exact absurd rfl h
/-- the object of an own exception class -/
def excOB (K : PySem.W.Frag) (C : Addr) : Bool := match K.lookup C with
  | some ⟨.type "type", _, .cls cd, sl⟩ => (match cd.mro, sl.toList with
    | .ref C' :: bm, [_, _, _, _, some (.builtin n), _] => C' == C && n == "ValueError.__new__" && !cd.hasDel && PySem.HandSPX.refsVE bm && cd.hasDict
    | _, _ => false)
  | _ => false
theorem excOB_ok {C : Addr} (q : excOB K C = true) : ∃ nm q N bs bm sn sub ab col dd k0 k1 k2 k3 k5, K.lookup C = some (excClassObj nm q C N bs bm true sn sub ab col dd k0 k1 k2 k3 k5 "ValueError.__new__") ∧ PySem.HandSPX.refsVE bm = true := by
  unfold excOB at q
  split at q
  · rename_i dd cd sl ho
    split at q
    · rename_i C' bm k0 k1 k2 k3 n k5 hm hs
      simp only [Bool.and_eq_true, beq_iff_eq, Bool.not_eq_true'] at q
      obtain ⟨⟨⟨⟨rfl, rfl⟩, hdel⟩, hr⟩, hd'⟩ := q
      obtain ⟨nm, bs, mro, ns, qn, hd, sn, sub, ab, col, del⟩ := cd
      dsimp only at hm hdel hd'
      subst hm hdel hd'
      have hsl : sl = #[k0, k1, k2, k3, some (.builtin "ValueError.__new__"), k5] := by
        obtain ⟨l⟩ := sl
        simp only at hs
        rw [hs]
      subst hsl
      exact ⟨nm, qn, ns, bs, bm, sn, sub, ab, col, dd, k0, k1, k2, k3, k5, ho, hr⟩
    · cases q
  · cases q
/-- all that an own exception class's OexC asks -/
def oexB (K : PySem.W.Frag) (C : Addr) : Bool := excOB K C && (decide (PySem.W.findIn K (.ref C) "__setattr__" = some (some (.builtin "object.__setattr__"))) && (decide (PySem.W.subIn K (.ref C) (.type "BaseException") = some true) && (decide (PySem.W.typeIn K (.ref C) = some (.type "type")) && PySem.W.keepIn K (.ref C))))
theorem oexB_ok {C : Addr} (h : oexB K C = true) : OexC K C := by
  obtain ⟨h1, h⟩ := He.ba h
  obtain ⟨h2, h⟩ := He.ba h
  obtain ⟨h3, h⟩ := He.ba h
  obtain ⟨h4, h5⟩ := He.ba h
  exact ⟨excOB_ok h1, of_decide_eq_true h2, of_decide_eq_true h3, of_decide_eq_true h4, h5⟩
def isoB (K : PySem.W.Frag) (C : Addr) : Bool := (PySem.W.plainGet K C Str.empty && (PySem.W.hasDictIn K C && (PySem.W.plainOver K C && decide (PySem.W.findIn K (.ref C) "__setattr__" = some (some (.builtin "object.__setattr__")))))) &&
  (decide (PySem.W.findIn K (.ref C) "__class__" = some (some (.builtin "object.__class__"))) && (decide (PySem.W.specialIn K (.builtin "object.__class__") "__get__" = some (some (.builtin "getset_descriptor.__get__"))) && (decide (PySem.W.takesIn K (.builtin "object.__class__") = some true) && (decide (PySem.W.mroIn K C (.type "object") = some true) && decide (PySem.W.typeIn K (.ref C) = some (.type "type"))))))
theorem isoB_ok {C : Addr} (h : isoB K C = true) : IsO K C := by
  obtain ⟨h0, h⟩ := He.ba h
  obtain ⟨a1, h0⟩ := He.ba h0
  obtain ⟨a2, h0⟩ := He.ba h0
  obtain ⟨a3, a4⟩ := He.ba h0
  obtain ⟨h1, h⟩ := He.ba h
  obtain ⟨h2, h⟩ := He.ba h
  obtain ⟨h3, h⟩ := He.ba h
  obtain ⟨h4, h5⟩ := He.ba h
  exact ⟨⟨⟨a1, a2, a3, of_decide_eq_true a4⟩, of_decide_eq_true h1, of_decide_eq_true h2, of_decide_eq_true h3, of_decide_eq_true h4⟩, of_decide_eq_true h5⟩
/-! ### what the top's names hold -/
/-- a fact of the list -/
theorem fact_at {l : List (PySem.W.Frag → Bool)} (h : (l.all fun f => f K) = true) (i : Nat) {f : PySem.W.Frag → Bool} (e : l[i]? = some f) : f K = true := List.all_eq_true.mp h f (List.mem_of_getElem? e)
/-- a class's own attribute by findCls -/
def valC (K : PySem.W.Frag) (c mc : Value) (m : Str) (v : Value) : Bool := match PySem.W.findCls K c mc m with
  | some (.val u) => decide (u = v)
  | _ => false
theorem valC_ok {c mc v : Value} {m : Str} (h : valC K c mc m v = true) : PySem.W.findCls K c mc m = some (.val v) := by
  unfold valC at h
  split at h
  · rename_i u e
    rw [e, of_decide_eq_true h]
  · cases h
end
/-! ### the Hook: what is looked at are the objects as -/
section
variable (as : List Addr) (fn : List He.DefD) (ts : List He.Tab) (tf : List He.Defn) (ex : PySem.W.Frag → Bool)
def obsAt (K : PySem.W.Frag) (g : Addr → Option Obj) : He.AlX := (He.obsT [] fn ts K, ex K && He.tabsB g tf K)
def obsZ (g : Addr → Option Obj) : He.AlX := obsAt fn ts tf ex (He.frT g as) g
theorem saysZ_of {w : World} {h : Heap} (e : obsAt fn ts tf ex (He.frT h.get? as) h.get? = He.valX fn ts w) : He.SaysX [] fn ts tf ex w h (He.frT h.get? as) := by
  obtain ⟨e1, e2⟩ := Prod.mk.inj (show (He.obsT [] fn ts (He.frT h.get? as), ex (He.frT h.get? as) && He.tabsB h.get? tf (He.frT h.get? as)) = (He.valT fn ts w, true) from e)
  obtain ⟨h1, h2⟩ := He.ba e2
  have key : ∀ p ∈ tf, PySem.W.codeHdIn (He.frT h.get? as) (He.cT (He.frT h.get? as) p).1 (He.cT (He.frT h.get? as) p).2 = true ∧ ∃ o, h.get? (He.cT (He.frT h.get? as) p).2 = some o ∧ He.emptyTab o = true := fun p hp => by
    obtain ⟨h3, h4⟩ := He.ba (List.all_eq_true.mp h2 p hp)
    refine ⟨h3, ?_⟩
    split at h4
    · rename_i o q; exact ⟨o, q, h4⟩
    · cases h4
  refine ⟨e1, h1, fun p hp => (key p hp).1, fun p hp => ?_, fun p hp => ?_⟩
  · obtain ⟨_, o, q, z⟩ := key p hp
    exact He.frT_none q z
  · obtain ⟨_, o, q, z⟩ := key p hp
    rw [q, He.emptyTab_eq z]
def hookZ : PySem.W.Hook where
  α := He.AlX
  obs := fun s => obsZ as fn ts tf ex s.heap.get?
  val := fun w => He.valX fn ts w
  says := fun w h => ∃ K : PySem.W.Frag, K.In h ∧ He.SaysX [] fn ts tf ex w h K
  of := fun _ _ e => ⟨_, He.frT_in, saysZ_of as fn ts tf ex e⟩
  keeps := fun _ _ _ ⟨K, hK, c⟩ k => ⟨K, PySem.W.Frag.In.keeps hK k, ⟨c.t, c.more, c.hd, c.out, fun p hp => k _ _ (c.empty p hp)⟩⟩
theorem obsZ_eq {g : Addr → Option Obj} {s : Shared} (h : ∀ a, g a = s.heap.get? a) : obsZ as fn ts tf ex g = (hookZ as fn ts tf ex).obs s := by
  have e : g = s.heap.get? := funext h
  rw [e] <;> rfl
end
/-- the run's equation in two parts -/
def RunA (r : PySem.W.OpenRow) (q : Program) (M : Nat) (loose : List PySem.Str) (w : World) : Prop :=
  ∀ os : OsState, (HandSHeadRun.endF (HandSHeadRun.stepQ (HandSHeadRun.denQ HandSHeadRun.tabQ) r.prog w) M r.prog w os).map (fun s => (HandSHeadRun.looksF r.prog (PySem.W.boot_heap w.params) s.abs, HandSHeadRun.seenQ q loose (importedModules r.prog.main.body) (fun s => PySem.W.xlAt q [] s && PySem.W.recOk r.toRowW.records s) s.abs)) = some (true, PySem.W.openGood q loose)
def RunB (r : PySem.W.OpenRow) (H : PySem.W.Hook) (ob : PySem.W.SharedT → H.α) (M : Nat) (w : World) : Prop :=
  ∀ os : OsState, (HandSHeadRun.endF (HandSHeadRun.stepQ (HandSHeadRun.denQ HandSHeadRun.tabQ) r.prog w) M r.prog w os).map ob = some (H.val w)
theorem run_both {r : PySem.W.OpenRow} {q : Program} {H : PySem.W.Hook} {ob : PySem.W.SharedT → H.α} {M : Nat} {loose : List PySem.Str} {w : World} (a : RunA r q M loose w) (b : RunB r H ob M w) : HandSHeadRun.RunEq r q H ob M loose w := fun os => by
  obtain ⟨s, h1, h2⟩ := Option.map_eq_some_iff.mp (a os)
  obtain ⟨s', h3, h4⟩ := Option.map_eq_some_iff.mp (b os)
  rw [h1] at h3
  cases Option.some.inj h3
  rw [h1]
  obtain ⟨e1, e2⟩ := Prod.mk.inj h2
  show some (_, _, ob s) = _
  rw [h4, e1, e2]
/-- what is looked at, in two parts -/
theorem runB_of {r : PySem.W.OpenRow} {as : List Addr} {fn : List He.DefD} {ts : List He.Tab} {tf : List He.Defn} {ex : PySem.W.Frag → Bool} {M : Nat} {w : World}
    {g : PySem.W.SharedT → Addr → Option Obj}
    (a : ∀ os : OsState, (HandSHeadRun.endF (HandSHeadRun.stepQ (HandSHeadRun.denQ HandSHeadRun.tabQ) r.prog w) M r.prog w os).map (fun s => He.obsT [] fn ts (He.frT (g s) as)) = some (He.valT fn ts w))
    (b : ∀ os : OsState, (HandSHeadRun.endF (HandSHeadRun.stepQ (HandSHeadRun.denQ HandSHeadRun.tabQ) r.prog w) M r.prog w os).map (fun s => ex (He.frT (g s) as) && He.tabsB (g s) tf (He.frT (g s) as)) = some true) : RunB r (hookZ as fn ts tf ex) (fun s => obsZ as fn ts tf ex (g s)) M w := fun os => by
  obtain ⟨s, h1, h2⟩ := Option.map_eq_some_iff.mp (a os)
  obtain ⟨s', h3, h4⟩ := Option.map_eq_some_iff.mp (b os)
  rw [h1] at h3
  cases Option.some.inj h3
  rw [h1]
  show some (He.obsT [] fn ts (He.frT (g s) as), ex (He.frT (g s) as) && He.tabsB (g s) tf (He.frT (g s) as)) = some (He.valT fn ts w, true)
  rw [h2, h4]
/-- the end, over the tables cs: code, table, name; K told by the head -/
theorem walk_endE {l : PySem.W.OpenLaw} {k : Nat} {q : Program} {loose : List Str} {XP : (Str → Option Value) → Heap → Prop} {YP : World → Heap → Prop} {d : DefRec} {x : Str} (hn : l.most = some 63) (hdf : d.params.defaults = []) (hr : Room k callerA)
    (F : ∀ (w : World) (mg : Str → Option Value) (fa : Addr) (h : Heap), YP w h → h.Ns mainGlobals mg → mg d.name = some (.ref fa) → ∃ (K : PySem.W.Frag), K.In h ∧ ∃ (fd : FuncData) (cs : List (Addr × Addr × Str)), (∀ p ∈ cs, h.get? p.2.1 = some { cls := .none, data := .fields #[] }) ∧ (∀ p ∈ cs, K.lookup p.2.1 = none) ∧ (∀ p ∈ cs, PySem.W.CodeHd h p.1 p.2.1) ∧
      (∀ (s : Shared) (u : Value), BindsTo s fd ⟨[u], []⟩ [(x, u)]) ∧ ∀ base : Heap, K.In base → base.Ns mainGlobals mg → (∀ p ∈ cs, LamX.TabB base mg p.1 p.2.1) → FnOk l.prog w K mg base (L2.CX l.prog w) k fa fd [x] (upFT K (cs.map fun p => p.2) spLaw)) :
    PySem.W.WalkO q loose XP YP l.row.toRowW d []
      (fun f vs => PySem.call f vs) := by
  refine LamX.walk_ofTsE (n := 63) (k := k) (x := x) (CX := fun w => L2.CX l.prog w) hn (by decide) hdf hr (fun w mg fa h Y G hmg => ?_) fun w H s e s' ⟨_, _, _, _, _, _, _, _, _, _, _, _, h⟩ => h
  obtain ⟨K, X, fd, cs, h1, h2, h3, h4, h5⟩ := F w mg fa h Y G hmg
  have mem : ∀ {Pd : Addr × Addr → Prop}, (∀ p ∈ cs, Pd (p.1, p.2.1)) → ∀ p ∈ cs.map (fun p => (p.1, p.2.1)), Pd p := fun h p hp => by
    obtain ⟨r, hr', rfl⟩ := List.mem_map.mp hp
    exact h r hr'
  refine ⟨K, X, fd, cs.map fun p => (p.1, p.2.1), _, mem (Pd := fun p => h.get? p.2 = some { cls := .none, data := .fields #[] }) h1, mem (Pd := fun p => K.lookup p.2 = none) h2, mem (Pd := fun p => PySem.W.CodeHd h p.1 p.2) h3, h4, fun H a ns hl hb ht hs => law_at (T0 := cs.map fun p => p.2) hl hb (fun p hp => ?_) hs, fun base hb hn ht => h5 base hb hn fun p hp => ht (p.1, p.2.1) (List.mem_map.mpr ⟨p, hp, rfl⟩)⟩
  obtain ⟨r, hr', rfl⟩ := List.mem_map.mp hp
  exact LamX.TabS.nil (ht (r.1, r.2.1) (List.mem_map.mpr ⟨r, hr', rfl⟩))
end LC

set_option Elab.async false
set_option linter.all false
set_option maxRecDepth 100000
set_option maxHeartbeats 5000000
/-! LD51: books taken back and done again. -/
namespace LC
open PySem PySem.Spec
open PyProof.Rows L2
end LC

set_option Elab.async false
set_option linter.all false
set_option maxRecDepth 100000
set_option maxHeartbeats 5000000
/-! LD52: tables of lambdas apart. -/
namespace LC
open PySem PySem.Spec
open PyProof.Rows L2
end LC

set_option Elab.async false
set_option linter.all false
set_option maxRecDepth 100000
set_option maxHeartbeats 5000000
/-! LD53: the law's own line of deeds beside a book. -/
namespace LC
open PySem PySem.Spec
open PyProof.Rows L2
/-! ### what is known of all rows of such a book -/
/-! ### a book and the law's two lists -/
end LC

set_option Elab.async false
set_option linter.all false
set_option maxRecDepth 100000
set_option maxHeartbeats 5000000
/-! LD54: != by an own __eq__. -/
namespace LC
open PySem PySem.Spec
open PyProof.Rows L2
section
open PySem.W PySem.Builtin
variable {prog : Program} {w : World} {A : Around} {E : Value → Shared → Prop} {s : Shared} {K : PySem.W.Frag} {x C L f : Addr} {h₀ : Heap} {m : Str → Option Value} {ox : Obj} {od : Option Obj} {b tb : Value}
end
/-! ### readings -/
section
variable {X : Cx} {B : Bs} {k : Nat} {f C : Addr} {fd : FuncData} {ps : List Str} {spd : SpD} {sp : SpP}
def NeC (K : PySem.W.Frag) (C : Addr) : Prop := PySem.W.findIn K (.ref C) "__ne__" = some (some (.builtin "object.__ne__")) ∧ PySem.W.mroIn K C (.type "object") = some true
end
end LC

set_option Elab.async false
set_option linter.all false
set_option maxRecDepth 100000
set_option maxHeartbeats 5000000
/-! LD55: a text cut at its last sign; pages as lines; code that is never come to. -/
namespace LC
open PySem PySem.Spec
open PyProof.Rows L2
section
variable {X : Cx} {B : Bs}
end
end LC

set_option Elab.async false
set_option linter.all false
set_option maxRecDepth 100000
set_option maxHeartbeats 5000000
/-! LD56: a page is read by its lines. -/
namespace LC
open PySem PySem.Spec
open PyProof.Rows L2
open TL
/-! ### deeds that are let, one behind another -/
end LC

set_option Elab.async false
set_option linter.all false
set_option maxRecDepth 100000
set_option maxHeartbeats 5000000
/-! LD57: enumerate(a list). -/
namespace LC
open PySem PySem.Spec
open PyProof.Rows L2
end LC

set_option Elab.async false
set_option linter.all false
set_option maxRecDepth 100000
set_option maxHeartbeats 5000000
/-! LD58: drawn findings are fine. -/
namespace LC
open PySem PySem.Spec
open PyProof.Rows L2
end LC

set_option Elab.async false
set_option linter.all false
set_option maxRecDepth 100000
set_option maxHeartbeats 5000000
/-! LD59: xs[:0:-1]. -/
namespace LC
open PySem PySem.Spec
open PyProof.Rows L2
section
variable {X : Cx} {B : Bs}
end
end LC

set_option Elab.async false
set_option linter.all false
set_option maxRecDepth 100000
set_option maxHeartbeats 5000000
/-! LD60: a book's states, one behind another. -/
namespace LC
open PySem PySem.Spec
open PyProof.Rows L2
end LC

set_option Elab.async false
set_option linter.all false
set_option maxRecDepth 100000
set_option maxHeartbeats 5000000
/-! LD61: a need that is closed by itself. -/
namespace LC
open PySem PySem.Spec
open PyProof.Rows L2
theorem nd {c : Prop} (hc : c := by first | trivial | rfl | assumption | (exact Nat.le_trans (by assumption) le10) | (exact Nat.lt_of_le_of_lt (by assumption) lt10) | (show (0 : Int) < _; first | decide | omega) | (show (0 : Int) ≤ _; first | decide | omega) | (exact .inl ⟨by omega, by omega⟩) | (exact .inr ⟨by decide, by decide⟩) | (refine ⟨?_, ?_⟩ <;> first | rfl | decide | omega) | (refine ⟨?_, ?_, ?_⟩ <;> first | rfl | decide | omega) | (exact ltN (Nat.le_of_ble_eq_true rfl)) | (exact leN (Nat.le_of_ble_eq_true rfl))) : c := hc
end LC

set_option Elab.async false
set_option linter.all false
set_option maxRecDepth 100000
set_option maxHeartbeats 5000000
/-! LD62: a comprehension whose items change what is there; its list is numbered. -/
namespace LC
open PySem PySem.Spec
open PyProof.Rows L2
section
variable {X : Cx} {B : Bs}
end
section
variable {X : Cx} {B : Bs} {elt tg iter : Expr} {ifs : List Expr} {scope : Scope} {own : List (Str × Nat)} {pos : Pos} {qi : QI} {t : Tgt} {qt : QT} {qe : QE}
end
end LC

set_option Elab.async false
set_option linter.all false
set_option maxRecDepth 100000
set_option maxHeartbeats 5000000
/-! LD63: a list != [] . -/
namespace LC
open PySem PySem.Spec
open PyProof.Rows L2
section
variable {X : Cx} {B : Bs}
end
end LC

set_option Elab.async false
set_option linter.all false
set_option maxRecDepth 100000
set_option maxHeartbeats 5000000
/-! LD64: several books, each with the law's two lists beside it. -/
namespace LC
open PySem PySem.Spec
open PyProof.Rows L2
section
variable {C : Addr} {S S' T : List O} {lo n : Nat} {X : Nat → Pl} {m : Nat → Nat} {b : Nat → Bm} {w : Nat → Nat}
end
section
variable {N1 N2 N3 N4 n0 : Nat}
end
end LC

set_option Elab.async false
set_option linter.all false
set_option maxRecDepth 100000
set_option maxHeartbeats 5000000
/-! LD65: try with several clauses `except C as n`, all of the same name. -/
namespace LC
open PySem PySem.Spec
open PyProof.Rows L2
section
variable {X : Cx} {n : Str} {i : Nat} {body : List Stmt} {h₀ : ExceptHandler} {hds : List ExceptHandler} {l : List (Value × (Addr → Value → Option Addr → TS))} {pos : Pos} {tb : WX → TS} {Wout : WX}
end
section
variable {X : Cx} {B : Bs} {x1 x2 : Str} {pos : Pos}
end
section
variable {dds : List D} {dvs : List V} {W : WX} {W' : WD} {x m : Str} {p pos apos : Pos} {e o : Expr} {es : List Expr} {kws : List Keyword} {q qk : QA} {qo : QE} {ks : List Str} {n : Nat}
end
end LC

set_option Elab.async false
set_option linter.all false
set_option maxRecDepth 100000
set_option maxHeartbeats 5000000
/-! LD66: rows of shades laid one on the other. -/
namespace LC
open PySem PySem.Spec
open PyProof.Rows L2
end LC

set_option Elab.async false
set_option linter.all false
set_option maxRecDepth 100000
set_option maxHeartbeats 5000000
/-! LD67: f"{x}" of an instance with an own __str__. -/
namespace LC
open PySem PySem.Spec
open PyProof.Rows L2
def FmC (K : PySem.W.Frag) (C : Addr) : Prop := PySem.W.findIn K (.ref C) "__format__" = some (some (.builtin "object.__format__")) ∧ PySem.W.mroIn K C (.type "object") = some true
section
variable {X : Cx} {B : Bs} {k : Nat} {f C : Addr} {fd : FuncData} {ps : List Str} {sp : Sp}
theorem pe_fmtO {e : Expr} {te : TE} {pos : Pos} (he : PE X e te) (F : FnOk X.prog X.w X.K X.mg X.base (L2.CX X.prog X.w) k f fd ps sp) (bd : Binds X.K fd ps []) (rm : Room (k + 1) X.A) (hs : PySem.W.findIn X.K (.ref C) "__str__" = some (some (.ref f))) (hf : PySem.W.isFn X.K (.ref f) = true) (fm : FmC X.K C) :
    PE X (.FormattedValue e (-1) none pos) (fun σ H Q => te σ H fun x H1 => tOwn C sp (fun v H' Q' => ∃ n, v = .str n ∧ Q' (.str n) H') [x] H1 Q) := by
  refine ⟨fun pins s σ H Q I h => ?_⟩
  refine wpAny_FormattedValue_plain (thn (he.run pins s σ H _ I h) fun u s1 hv => ?_)
  obtain ⟨x, H1, I1, r1, a, dx, fs, ex, e1, h1⟩ := hv
  cases ex
  cases r1
  obtain ⟨ox, od, J⟩ := inst_at I1 e1
  refine PySem.W.kfo_fieldS (by have := rm.in1.un; omega) I1.kIn J fm.1 fm.2 hs hf (wpAny_mono (run_own F bd rm.in1 rfl (I1.tok _) (.cons (show RelV (V.ref a) (.ref a) from rfl) .nil) h1) (fun u s' z => ?_) fun _ _ z => z)
  obtain ⟨v, H', J', rv, n, rfl, q⟩ := z
  obtain ⟨t, rfl⟩ := rv
  exact ⟨.str n, H', J', ⟨_, rfl⟩, q⟩
end
section
variable {X : Cx} {B : Bs} {k : Nat} {f C : Addr} {fd : FuncData} {ps : List Str} {sp : SpP}
def qFmtO (C : Addr) (sp : SpP) (q : QE) : QE := fun s S Q => q s S fun d S1 => rcOwn C sp gStr [d] S1 Q
theorem le_fmtO {e : Expr} {q : QE} {pos : Pos} (M : Mx X.prog X.w X.K X.mg X.base k C "__str__" f fd ps (lp sp) [] []) (rm : Room (k + 1) X.A) (fm : FmC X.K C) (he : LE X B e q) : LE X B (.FormattedValue e (-1) none pos) (qFmtO C sp q) :=
  PE.imp (pe_fmtO he M.ok M.b0 rm M.mt.at_ M.mt.fn fm) fun σ H Q ⟨φ, s, S, Q', hr, ev, q, k⟩ =>
    ⟨φ, s, S, _, hr, ev, q, fun φ1 d S1 v H1 e1 hr1 r1 q1 => lift_own (g := gStr) (fun {φ H S Q' Q d v} hr kk rv q => by
      unfold gStr at q
      split at q
      · cases rv
        exact ⟨_, rfl, kk.here (d := D.str _) hr rfl q⟩
      · exact q.elim) ⟨φ1, S1, [d], Q', hr1, ⟨_, _, rfl, r1, rfl⟩, q1, k.ext e1⟩⟩
end
end LC

set_option Elab.async false
set_option linter.all false
set_option maxRecDepth 100000
set_option maxHeartbeats 5000000
/-! LD68: tuple(list) that is known to have no dict, t.count(x) of such a tuple. -/
namespace LC
open PySem PySem.Spec
open PyProof.Rows L2
section
variable {X : Cx} {B : Bs}
theorem call_tuple_q : CallR X (.type "tuple") (fun xs H Q => ∃ p ys, xs = [.ref p] ∧ ((SqL X.K H p ys ∧ ∀ l o, H l = none → o.cls = .type "tuple" → o.dict = none → Q (.ref l) (upd H l (.frz o (.tup ys)))) ∨ (SqT X.K H p ys ∧ Q (.ref p) H))) := by
  intro pins s σ H xs us Q I r h
  obtain ⟨p, ys, rfl, h⟩ := h
  obtain ⟨u, rfl, rx⟩ := vals1 r
  cases rx
  rcases h with ⟨hq, q⟩ | ⟨hq, q⟩
  · obtain ⟨its, r', pl, hz⟩ := I.list hq
    have hlen := r'.length
    refine call_tuple_list pl.isList (fun h' kp => ?_) (by simp only [List.size_toArray] <;> omega)
    have I1 : Inv X pins σ H { s with heap := h' } := I.kept (t' := s.toks) kp
    have I2 : Inv X pins σ (upd H h'.objs.size (.frz { cls := .type "tuple", data := .seq its.toArray } (.tup ys))) { s with heap := h'.push { cls := .type "tuple", data := .seq its.toArray } } :=
      I1.laid (t' := s.toks) (fun b o e => Heap.get?_push_of_some _ e) (Nat.le_refl _) (show ObjOk X.prog X.w _ _ _ (.frz _ (.tup ys)) from ⟨Heap.get?_push_size _ rfl, hz, its, r', IsTup.new _ _⟩)
    exact ⟨.ref h'.objs.size, _, I2, rfl, q _ _ (I1.hok.fresh (Nat.le_refl _)) rfl rfl⟩
  · obtain ⟨its, r', pl, hz⟩ := I.tuple hq
    exact call_tuple_same pl ⟨.ref p, H, I, rfl, q⟩
def rcTupleQ : QC := fun ds S Q => match ds with
  | [.tq ns] => Q (.tq ns) S
  | [d] => Opt (lsOf S d) fun xs => Opt (asIs xs) fun ns => Q (.tq ns) S
  | _ => False
theorem cc_tupleQ : CallR X (.type "tuple") (upC X.K B rcTupleQ) := CallR.imp call_tuple_q fun x H Q ⟨φ, S, ds, Q', hr, r, q, k⟩ => by
  unfold rcTupleQ at q
  split at q
  · obtain ⟨v, w', rfl, r1, r2⟩ := r
    cases r2
    obtain ⟨p, rfl, h1⟩ := id r1
    exact ⟨p, _, rfl, .inr ⟨h1.sqt, k.here hr r1 q⟩⟩
  · obtain ⟨v, w', rfl, r1, r2⟩ := r
    cases r2
    obtain ⟨xs, h1, q⟩ := q.get
    obtain ⟨ns, h2, q⟩ := q.get
    obtain ⟨p, vs, rfl, h3, h4⟩ := hr.ls h1 r1
    have h5 := asIs_ok h2 h4
    subst h5
    refine ⟨p, _, rfl, .inl ⟨.inl (.inl h3), fun l o hl hc hd => ?_⟩⟩
    exact k _ (.tq ns) _ _ _ (ext_new hl) (hr.fix hl) (show RV _ _ _ _ _ from ⟨l, rfl, hr.rel.new_fz hl, o, upd_same, hc, hd⟩) q
  · exact q.elim
theorem mt_tcount : MtR X "tuple.count" (fun x xs H Q => ∃ (p : Addr) (ns : List Int) (k : Int), x = .ref p ∧ xs = [.int k] ∧ SqT X.K H p (ns.map V.int) ∧ Q (.int (ns.count k : Nat)) H) := by
  intro pins s σ H x xs v us Q I rx rxs h
  obtain ⟨p, ns, k, rfl, rfl, hs, q⟩ := h
  cases rx
  obtain ⟨u, rfl, ru⟩ := rxs.one
  obtain ⟨t, rfl⟩ := ru
  obtain ⟨its, rv, ⟨⟨cls, dd, data, sl⟩, ho, hc, n, hd⟩, hlen⟩ := I.tuple hs
  simp only at hc hd
  subst hc hd
  have hi := ints_of_vals rv
  refine call_meets PySem.F.slot_tuple_count ⟨_, ho, rfl⟩ PySem.F.entry_tuple_count (PySem.F.args_tuple_count_2 _ _)
    (SeqAt.tuple_countAt p its.toArray n dd sl (.int k t) (eqk k)) ⟨ho, fun y hy => (eqk_gives hi y (by simpa using hy)).at _ _, ?_⟩
  have ec : its.toArray.toList.countP (eqk k) = ns.count k := eqk_count hi
  refine ⟨.int (ns.count k : Nat), H, I.tok _, ⟨s.toks, ?_⟩, q⟩
  show Value.int ((its.toArray.toList.countP (eqk k) : Nat) : Int) s.toks = Value.int ((ns.count k : Nat) : Int) s.toks
  rw [ec]
variable {o e : Expr} {to : TE} {t : TA} {apos cpos : Pos}
theorem pe_tcount (ho : PE X o to) (ha : PA X [e] t)
    (hbase : attributeBase o "count" X.env (eval o X.env) = eval o X.env := by rfl)
    (hfew : ((backTo cpos (starEach [e] X.env)).all (fun x => !x.1) && (backToKw cpos (keywordEach [] X.env)).all (fun x => x.1.isSome)
      && decide ([e].length + ([] : List Keyword).length + (if ([] : List Keyword).isEmpty then 0 else 1) < 30)) = true := by rfl)
    (hline : (apos.endLine == cpos.line) = true := by rfl) (hs : starEach [e] X.env = [(false, eval e X.env)] := by rfl) :
    PE X (.Call (.Attribute o "count" apos) [e] [] cpos) (fun σ H Q => to σ H fun x H1 => ∃ p ob u, x = .ref p ∧ H1 p = some (.frz ob u) ∧ ob.cls = .type "tuple" ∧ ob.dict = none ∧ t σ H1 fun xs H2 => ∃ (ns : List Int) (k : Int), xs = [.int k] ∧ SqT X.K H2 p (ns.map V.int) ∧ Q (.int (ns.count k : Nat)) H2) := by
  refine ⟨fun pins s σ H Q I h => ?_⟩
  refine wpAny_Call_method_late hbase hfew hline rfl (thn (ho.run pins s σ H _ I h) fun v s1 ⟨x, H1, I1, r1, p, ob, uu, ex, hp, hc, hd, q1⟩ => ?_)
  subst ex
  cases r1
  have hg : s1.heap.get? p = some ob := (I1.hok p _ hp).1
  refine ⟨"tuple", "tuple.count", PySem.F.plainAttrs_tuple, PySem.F.slot_tuple_count, PySem.F.type_tuple_count, ⟨ob, hg, hc⟩, fun a ea => (by cases ea; exact ⟨ob, hg, hd⟩), ?_⟩
  have hA := ha.run cpos pins s1 σ H1 _ I1 q1
  rw [hs] at hA ⊢
  refine Calls.callWith_builtin rfl (Calls.evalArgs_plain ?_)
  exact thn hA fun us s2 ⟨vs, H2, I2, r2, ns, k, ev, hq, q2⟩ => mt_tcount pins s2 σ H2 _ vs _ us Q I2 (show RelV (.ref p) _ from rfl) r2 ⟨p, ns, k, rfl, ev, hq, q2⟩
def qTCount (qo : QE) (q : QA) : QE := fun s S Q => qo s S fun d S1 => match d with
  | .tq ns => q s S1 fun xs S2 => match xs with
    | [.int k] => Q (.int (ns.count k : Nat)) S2
    | _ => False
  | _ => False
theorem le_tcount {qo : QE} {q : QA} (ho : LE X B o qo) (ha : LA X B [e] q)
    (hbase : attributeBase o "count" X.env (eval o X.env) = eval o X.env := by rfl)
    (hfew : ((backTo cpos (starEach [e] X.env)).all (fun x => !x.1) && (backToKw cpos (keywordEach [] X.env)).all (fun x => x.1.isSome)
      && decide ([e].length + ([] : List Keyword).length + (if ([] : List Keyword).isEmpty then 0 else 1) < 30)) = true := by rfl)
    (hline : (apos.endLine == cpos.line) = true := by rfl) (hs : starEach [e] X.env = [(false, eval e X.env)] := by rfl) : LE X B (.Call (.Attribute o "count" apos) [e] [] cpos) (qTCount qo q) :=
  PE.imp (pe_tcount ho ha hbase hfew hline hs) fun σ H Q ⟨φ, s, S, Q', hr, ev, q, k⟩ =>
    ⟨φ, s, S, _, hr, ev, q, fun φ1 d S1 v H1 e1 hr1 r1 q1 => by
      split at q1
      · rename_i ns
        obtain ⟨p, rfl, hq⟩ := r1
        obtain ⟨hz, ob, hp, hc, hd⟩ := id hq
        refine ⟨p, ob, _, rfl, hp, hc, hd, φ1, s, S1, _, hr1, ev.mono e1, q1, fun φ2 ds S2 vs H2 e2 hr2 r2 q2 => ?_⟩
        split at q2
        · rename_i kk
          obtain ⟨v1, w1, rfl, r3, r4⟩ := r2
          cases r3; cases r4
          exact ⟨ns, kk, rfl, (TqA.mono e2 hq).sqt, k _ (D.int _) _ _ _ (e1.trans e2) hr2 rfl q2⟩
        · exact q2.elim
      · exact q1.elim⟩
end
theorem cutD_dropN {xs : List D} {k : Nat} : cutD xs (some (k : Int)) none = xs.drop k := by
  unfold cutD
  rw [HT.sIx_nat]
  show (xs.drop (min k xs.length)).take (xs.length - min k xs.length) = xs.drop k
  by_cases h : k ≤ xs.length
  · rw [Nat.min_eq_left h, List.take_of_length_le (by rw [List.length_drop]; exact Nat.le_refl _)]
  · rw [Nat.min_eq_right (by omega), List.drop_of_length_le (Nat.le_refl _), List.drop_of_length_le (by omega)]; simp
/-- as sM, for a statement that neither hands back nor leaves a loop -/
theorem sMn {a b : QS} {E : Ed} {s : Sl} {S : List O} (P : Sl → List O → Prop) (h : ∀ (rt : D → List O → Prop) (bk ct : Sl → List O → Prop) (n : Nat), n = E.n → a { nx := P, rt := rt, bk := bk, ct := ct, n := n } s S) (k : ∀ s' S', P s' S' → b E s' S') : sqM a b E s S := ⟨P, h _ _ _ _ rfl, k⟩
theorem seqI {x y : Int} : (D.int x).seq (.int y) = decide (x = y) := rfl
abbrev ctq (C : Addr) (ns : List Int) : D := .ins C ["seen"] [.tq ns]
end LC

set_option Elab.async false
set_option linter.all false
set_option maxRecDepth 100000
set_option maxHeartbeats 5000000
/-! LD69: sorted of tuples of ints, min / max of a list of ints, dict of a list of pairs. -/
namespace LC
open PySem PySem.Spec
open PyProof.Rows L2
section
variable {X : Cx} {B : Bs}
end
end LC

set_option Elab.async false
set_option linter.all false
set_option maxRecDepth 100000
set_option maxHeartbeats 5000000
/-! LD70: drawn houses: a row of paintings, and who is put up when. -/
namespace LC
open PySem PySem.Spec
open PyProof.Rows L2
end LC

set_option Elab.async false
set_option linter.all false
set_option maxRecDepth 100000
set_option maxHeartbeats 5000000
namespace LW
open PySem PySem.Spec
open PyProof.Rows L2 LC
/-! ### places -/
def top (i : Nat) : Stmt := PySem.Challenge.pw_limecoat_k01_coats_by_themselves.main.body.getD i (.Pass ⟨0, 0, 0, 0⟩)
abbrev s__law_open : Stmt := top 9
abbrev s__law_pull : Stmt := top 10
abbrev s__law_num : Stmt := top 11
abbrev s__law_like : Stmt := top 12
abbrev s__law_odd : Stmt := top 13
abbrev s__law_shades : Stmt := top 14
abbrev s__law_why : Stmt := top 15
abbrev s__law_made : Stmt := top 16
abbrev s_law : Stmt := top 17
abbrev s_LimeError_init : Stmt := inClass (top 2) 0
abbrev s_BadCoat_init : Stmt := inClass (top 3) 0
abbrev s_BadShade_init : Stmt := inClass (top 4) 0
abbrev s_Coats_init : Stmt := inClass (top 7) 0
abbrev s_Coats_len : Stmt := inClass (top 7) 1
abbrev s_Coats_eq : Stmt := inClass (top 7) 2
abbrev s_Coats_str : Stmt := inClass (top 7) 3
abbrev s_Coats_repr : Stmt := inClass (top 7) 4
abbrev s_Coats_shade : Stmt := inClass (top 7) 5
abbrev s_Coats_unread : Stmt := inClass (top 7) 6
theorem sc__law_open : FnScope ["_law_script"] ["_law_script"] (defScope s__law_open) := ⟨rfl, rfl, rfl, by decide +kernel, rfl, by decide +kernel, by decide +kernel⟩
theorem sc__law_pull : FnScope ["_law_draw", "_law_many", "_law_cell", "_law_got"] ["_law_draw", "_law_many"] (defScope s__law_pull) := ⟨rfl, rfl, rfl, by decide +kernel, rfl, by decide +kernel, by decide +kernel⟩
theorem sc__law_num : FnScope ["_law_found"] ["_law_found"] (defScope s__law_num) := ⟨rfl, rfl, rfl, by decide +kernel, rfl, by decide +kernel, by decide +kernel⟩
theorem sc__law_like : FnScope ["_law_found", "_law_due", "_law_k"] ["_law_found", "_law_due"] (defScope s__law_like) := ⟨rfl, rfl, rfl, by decide +kernel, rfl, by decide +kernel, by decide +kernel⟩
theorem sc__law_odd : FnScope ["_law_draw", "_law_number"] ["_law_draw"] (defScope s__law_odd) := ⟨rfl, rfl, rfl, by decide +kernel, rfl, by decide +kernel, by decide +kernel⟩
theorem sc__law_shades : FnScope ["_law_draw", "_law_many", "_law_top", "_law_k"] ["_law_draw", "_law_many"] (defScope s__law_shades) := ⟨rfl, rfl, rfl, by decide +kernel, rfl, by decide +kernel, by decide +kernel⟩
theorem sc__law_why : FnScope ["_law_ask", "_law_told", "_law_word", "e"] ["_law_ask"] (defScope s__law_why) := ⟨rfl, rfl, rfl, by decide +kernel, rfl, by decide +kernel, by decide +kernel⟩
theorem sc__law_made : FnScope ["_law_shades_here"] ["_law_shades_here"] (defScope s__law_made) := ⟨rfl, rfl, rfl, by decide +kernel, rfl, by decide +kernel, by decide +kernel⟩
theorem sc_law : FnScope ["_law_script", "_law_draw", "_law_turn", "_law_many", "_law_shades_here", "_law_place", "_law_handed", "_law_coats", "_law_word", "_law_good", "_law_signs", "_law_told", "_law_at", "_law_due", "_law_same", "_law_other", "_law_shade"] ["_law_script"] (defScope s_law) := ⟨rfl, rfl, rfl, by decide +kernel, rfl, by decide +kernel, by decide +kernel⟩
theorem sc_LimeError_init : FnScope ["self", "called"] ["self", "called"] (defScope s_LimeError_init) := ⟨rfl, rfl, rfl, by decide +kernel, rfl, by decide +kernel, by decide +kernel⟩
theorem sc_BadCoat_init : FnScope ["self"] ["self"] (defScope s_BadCoat_init) := ⟨rfl, rfl, rfl, by decide +kernel, rfl, by decide +kernel, by decide +kernel⟩
theorem sc_BadShade_init : FnScope ["self"] ["self"] (defScope s_BadShade_init) := ⟨rfl, rfl, rfl, by decide +kernel, rfl, by decide +kernel, by decide +kernel⟩
theorem sc_Coats_init : FnScope ["self", "shades", "shade"] ["self", "shades"] (defScope s_Coats_init) := ⟨rfl, rfl, rfl, by decide +kernel, rfl, by decide +kernel, by decide +kernel⟩
theorem sc_Coats_len : FnScope ["self"] ["self"] (defScope s_Coats_len) := ⟨rfl, rfl, rfl, by decide +kernel, rfl, by decide +kernel, by decide +kernel⟩
theorem sc_Coats_eq : FnScope ["self", "other"] ["self", "other"] (defScope s_Coats_eq) := ⟨rfl, rfl, rfl, by decide +kernel, rfl, by decide +kernel, by decide +kernel⟩
theorem sc_Coats_str : FnScope ["self", "shade"] ["self"] (defScope s_Coats_str) := ⟨rfl, rfl, rfl, by decide +kernel, rfl, by decide +kernel, by decide +kernel⟩
theorem sc_Coats_repr : FnScope ["self"] ["self"] (defScope s_Coats_repr) := ⟨rfl, rfl, rfl, by decide +kernel, rfl, by decide +kernel, by decide +kernel⟩
theorem sc_Coats_shade : FnScope ["self", "at"] ["self", "at"] (defScope s_Coats_shade) := ⟨rfl, rfl, rfl, by decide +kernel, rfl, by decide +kernel, by decide +kernel⟩
theorem sc_Coats_unread : FnScope ["self"] ["self"] (defScope s_Coats_unread) := ⟨rfl, rfl, rfl, by decide +kernel, rfl, by decide +kernel, by decide +kernel⟩
def dd__law_open : He.DefD := ⟨("_law_open", none), "_law_open", "_law_open", defArgs s__law_open, defBody s__law_open, defScope s__law_open, [], []⟩
def dd__law_pull : He.DefD := ⟨("_law_pull", none), "_law_pull", "_law_pull", defArgs s__law_pull, defBody s__law_pull, defScope s__law_pull, [], []⟩
def dd__law_num : He.DefD := ⟨("_law_num", none), "_law_num", "_law_num", defArgs s__law_num, defBody s__law_num, defScope s__law_num, [], []⟩
def dd__law_like : He.DefD := ⟨("_law_like", none), "_law_like", "_law_like", defArgs s__law_like, defBody s__law_like, defScope s__law_like, [], []⟩
def dd__law_odd : He.DefD := ⟨("_law_odd", none), "_law_odd", "_law_odd", defArgs s__law_odd, defBody s__law_odd, defScope s__law_odd, [], []⟩
def dd__law_shades : He.DefD := ⟨("_law_shades", none), "_law_shades", "_law_shades", defArgs s__law_shades, defBody s__law_shades, defScope s__law_shades, [], []⟩
def dd__law_why : He.DefD := ⟨("_law_why", none), "_law_why", "_law_why", defArgs s__law_why, defBody s__law_why, defScope s__law_why, [], []⟩
def dd__law_made : He.DefD := ⟨("_law_made", none), "_law_made", "_law_made", defArgs s__law_made, defBody s__law_made, defScope s__law_made, [], []⟩
def dd_law : He.DefD := ⟨("law", none), "law", "law", defArgs s_law, defBody s_law, defScope s_law, [], []⟩
def dd_LimeError_init : He.DefD := ⟨("LimeError", some "__init__"), "__init__", "LimeError.__init__", defArgs s_LimeError_init, defBody s_LimeError_init, defScope s_LimeError_init, [], []⟩
def dd_BadCoat_init : He.DefD := ⟨("BadCoat", some "__init__"), "__init__", "BadCoat.__init__", defArgs s_BadCoat_init, defBody s_BadCoat_init, defScope s_BadCoat_init, [], []⟩
def dd_BadShade_init : He.DefD := ⟨("BadShade", some "__init__"), "__init__", "BadShade.__init__", defArgs s_BadShade_init, defBody s_BadShade_init, defScope s_BadShade_init, [], []⟩
def dd_Coats_init : He.DefD := ⟨("Coats", some "__init__"), "__init__", "Coats.__init__", defArgs s_Coats_init, defBody s_Coats_init, defScope s_Coats_init, [], []⟩
def dd_Coats_len : He.DefD := ⟨("Coats", some "__len__"), "__len__", "Coats.__len__", defArgs s_Coats_len, defBody s_Coats_len, defScope s_Coats_len, [], []⟩
def dd_Coats_eq : He.DefD := ⟨("Coats", some "__eq__"), "__eq__", "Coats.__eq__", defArgs s_Coats_eq, defBody s_Coats_eq, defScope s_Coats_eq, [], []⟩
def dd_Coats_str : He.DefD := ⟨("Coats", some "__str__"), "__str__", "Coats.__str__", defArgs s_Coats_str, defBody s_Coats_str, defScope s_Coats_str, [], []⟩
def dd_Coats_repr : He.DefD := ⟨("Coats", some "__repr__"), "__repr__", "Coats.__repr__", defArgs s_Coats_repr, defBody s_Coats_repr, defScope s_Coats_repr, [], []⟩
def dd_Coats_shade : He.DefD := ⟨("Coats", some "shade"), "shade", "Coats.shade", defArgs s_Coats_shade, defBody s_Coats_shade, defScope s_Coats_shade, [], []⟩
def dd_Coats_unread : He.DefD := ⟨("Coats", some "unread"), "unread", "Coats.unread", defArgs s_Coats_unread, defBody s_Coats_unread, defScope s_Coats_unread, [], []⟩
def fns0 : List He.DefD := [dd__law_open, dd__law_pull, dd__law_num, dd__law_like, dd__law_odd, dd__law_shades, dd__law_why, dd__law_made, dd_law, dd_LimeError_init, dd_BadCoat_init, dd_BadShade_init, dd_Coats_init, dd_Coats_len, dd_Coats_eq, dd_Coats_str, dd_Coats_repr, dd_Coats_shade, dd_Coats_unread]
def fns : List He.DefD := fns0
def tabs_ : List He.Tab := []
def tfs : List He.Defn := [("law", none)]
def fxs0 : List (PySem.W.Frag → Bool) := [fun K => (He.Fa.glo "_law_open").ok K, fun K => (He.Fa.glo "_law_pull").ok K, fun K => (He.Fa.glo "_law_num").ok K, fun K => (He.Fa.glo "_law_like").ok K, fun K => (He.Fa.glo "_law_odd").ok K, fun K => (He.Fa.glo "_law_shades").ok K, fun K => (He.Fa.glo "_law_why").ok K, fun K => (He.Fa.glo "_law_made").ok K, fun K => (He.Fa.glo "law").ok K, fun K => He.eqO (PySem.W.findIn K (.ref (He.ga K "LimeError")) "__init__") (some (some (.ref (He.ma K (He.ga K "LimeError") "__init__")))), fun K => decide (PySem.W.typeIn K (.ref (He.ma K (He.ga K "LimeError") "__init__")) = some (.type "function")), fun K => He.eqO (PySem.W.findIn K (.ref (He.ga K "BadCoat")) "__init__") (some (some (.ref (He.ma K (He.ga K "BadCoat") "__init__")))), fun K => decide (PySem.W.typeIn K (.ref (He.ma K (He.ga K "BadCoat") "__init__")) = some (.type "function")), fun K => He.eqO (PySem.W.findIn K (.ref (He.ga K "BadShade")) "__init__") (some (some (.ref (He.ma K (He.ga K "BadShade") "__init__")))), fun K => decide (PySem.W.typeIn K (.ref (He.ma K (He.ga K "BadShade") "__init__")) = some (.type "function")), fun K => (He.Fa.meth "Coats" "__init__").ok K, fun K => (He.Fa.meth "Coats" "__len__").ok K, fun K => (He.Fa.meth "Coats" "__eq__").ok K, fun K => (He.Fa.meth "Coats" "__str__").ok K, fun K => (He.Fa.meth "Coats" "__repr__").ok K, fun K => (He.Fa.meth "Coats" "shade").ok K, fun K => (He.Fa.meth "Coats" "unread").ok K, fun K => (He.Fa.glo "LimeError").ok K, fun K => (He.Fa.glo "BadCoat").ok K, fun K => (He.Fa.glo "BadShade").ok K, fun K => (He.Fa.glo "Coats").ok K, fun K => isoB K (He.ga K "Coats"), fun K => (He.Fa.mkr "Coats").ok K, fun K => (He.Fa.noat "Coats" "seen").ok K, fun K => decide (PySem.W.findIn K (.ref (He.ga K "Coats")) "__ne__" = some (some (.builtin "object.__ne__")))]
def fxs1 : List (PySem.W.Frag → Bool) := [fun K => decide (PySem.W.mroIn K (He.ga K "Coats") (.type "object") = some true), fun K => decide (PySem.W.findIn K (.ref (He.ga K "Coats")) "__format__" = some (some (.builtin "object.__format__"))), fun K => L2.xfB K (He.ga K "BadCoat"), fun K => (He.Fa.noat "BadCoat" "called").ok K, fun K => (He.Fa.exm "BadCoat" "LimeError" true).ok K, fun K => (He.Fa.exm "BadCoat" "BadCoat" true).ok K, fun K => L2.xfB K (He.ga K "BadShade"), fun K => (He.Fa.noat "BadShade" "called").ok K, fun K => (He.Fa.exm "BadShade" "LimeError" true).ok K, fun K => (He.Fa.exm "BadShade" "BadShade" true).ok K, fun K => (He.Fa.free "ValueError").ok K, fun K => (He.Fa.free "all").ok K, fun K => (He.Fa.free "bool").ok K, fun K => (He.Fa.free "int").ok K, fun K => (He.Fa.free "isinstance").ok K, fun K => (He.Fa.free "len").ok K, fun K => (He.Fa.free "list").ok K, fun K => (He.Fa.free "max").ok K, fun K => (He.Fa.free "min").ok K, fun K => (He.Fa.free "range").ok K, fun K => (He.Fa.free "repr").ok K, fun K => (He.Fa.free "str").ok K, fun K => (He.Fa.free "tuple").ok K, fun K => (He.Fa.str "SIGNS" "?abcdef").ok K, fun K => oexB K (He.ga K "BadCoat"), fun K => oexB K (He.ga K "BadShade"), fun K => valC K (.type "ValueError") (.type "type") "__init__" (.builtin "ValueError.__init__"), fun K => PySem.W.readsIn K (He.ga K "LimeError") (.type "type"), fun K => He.eqO (PySem.W.specialIn K (.ref (He.ga K "LimeError")) "__getattribute__") (some (some (.builtin "type.__getattribute__"))), fun K => valC K (.ref (He.ga K "LimeError")) (.type "type") "__init__" (.ref (He.ma K (He.ga K "LimeError") "__init__"))]
def fxs : List (PySem.W.Frag → Bool) := fxs0 ++ (fxs1)
def exB (K : PySem.W.Frag) : Bool := fxs.all fun f => f K
def ass0 : List Addr := [3, 2, 6, 21, 20, 38, 37, 35, 34, 58, 57, 55, 54, 77, 76, 74, 73, 142, 141, 91, 90, 98, 97, 105, 104, 110, 109, 117, 116, 124]
def ass1 : List Addr := [123, 131, 130, 139, 138, 132, 153, 152, 160, 159, 167, 166, 172, 171, 179, 178, 184, 183, 191, 190, 198, 197, 203, 202]
def ass : List Addr := ass0 ++ (ass1)
abbrev hk : PySem.W.Hook := LC.hookZ ass fns tabs_ tfs exB
def obs_ (s : PySem.W.SharedT) : He.AlX := LC.obsZ ass fns tabs_ tfs exB (HandSHeadRun.getT s)
theorem obs_eq (s : PySem.W.SharedT) : obs_ s = hk.obs s.abs := LC.obsZ_eq ass fns tabs_ tfs exB (HandSHeadRun.getT_eq s)
def names0 : List PySem.Str := ["_wall", "__name__", "LimeError", "BadCoat", "BadShade", "SIGNS", "Coats", "_law_open", "_law_pull", "_law_num", "_law_like", "_law_odd", "_law_shades", "_law_why", "_law_made"]
def names : List PySem.Str := names0
abbrev RowL_ : PySem.W.OpenRow := PySem.W.OpenLaw.row PySem.Challenge.rw_limecoat_k01_coats_by_themselves
abbrev ViewL_ : Program := PySem.W.view RowL_.prog [17]
theorem runA_f (w : World) : LC.RunA RowL_ ViewL_ 14000 names (w.withFollow "special-get-raises" false) := by intro os; kernel_rfl
theorem runA_t (w : World) : LC.RunA RowL_ ViewL_ 14000 names (w.withFollow "special-get-raises" true) := by intro os; kernel_rfl
theorem runA (w : World) : LC.RunA RowL_ ViewL_ 14000 names w := PySem.W.byRow2 "special-get-raises" (P := (fun w => LC.RunA RowL_ ViewL_ 14000 names w)) runA_f runA_t w
def RunD (w : World) : Prop := ∀ os : OsState, (HandSHeadRun.endF (HandSHeadRun.stepQ (HandSHeadRun.denQ HandSHeadRun.tabQ) RowL_.prog w) 14000 RowL_.prog w os).map (fun s => He.obsT [] fns tabs_ (He.frT (HandSHeadRun.getT s) ass)) = some (He.valT fns tabs_ w)
theorem runD_f (w : World) : RunD (w.withFollow "special-get-raises" false) := by intro os; kernel_rfl
theorem runD_t (w : World) : RunD (w.withFollow "special-get-raises" true) := by intro os; kernel_rfl
theorem runD (w : World) : RunD w := PySem.W.byRow2 "special-get-raises" (P := RunD) runD_f runD_t w
def RunX (w : World) : Prop := ∀ os : OsState, (HandSHeadRun.endF (HandSHeadRun.stepQ (HandSHeadRun.denQ HandSHeadRun.tabQ) RowL_.prog w) 14000 RowL_.prog w os).map (fun s => exB (He.frT (HandSHeadRun.getT s) ass) && He.tabsB (HandSHeadRun.getT s) tfs (He.frT (HandSHeadRun.getT s) ass)) = some true
theorem runX_f (w : World) : RunX (w.withFollow "special-get-raises" false) := by intro os; kernel_rfl
theorem runX_t (w : World) : RunX (w.withFollow "special-get-raises" true) := by intro os; kernel_rfl
theorem runX (w : World) : RunX w := PySem.W.byRow2 "special-get-raises" (P := RunX) runX_f runX_t w
theorem runB (w : World) : LC.RunB RowL_ hk obs_ 14000 w := LC.runB_of (runD w) (runX w)
theorem run (w : World) : HandSHeadRun.RunEq RowL_ ViewL_ hk obs_ 14000 names w := LC.run_both (runA w) (runB w)
/-- where all stands -/
structure Ad where
  a__law_open : Addr
  d__law_open : FuncData
  a__law_pull : Addr
  d__law_pull : FuncData
  a__law_num : Addr
  d__law_num : FuncData
  a__law_like : Addr
  d__law_like : FuncData
  a__law_odd : Addr
  d__law_odd : FuncData
  a__law_shades : Addr
  d__law_shades : FuncData
  a__law_why : Addr
  d__law_why : FuncData
  a__law_made : Addr
  d__law_made : FuncData
  a_law : Addr
  d_law : FuncData
  a_LimeError_init : Addr
  d_LimeError_init : FuncData
  a_BadCoat_init : Addr
  d_BadCoat_init : FuncData
  a_BadShade_init : Addr
  d_BadShade_init : FuncData
  a_Coats_init : Addr
  d_Coats_init : FuncData
  a_Coats_len : Addr
  d_Coats_len : FuncData
  a_Coats_eq : Addr
  d_Coats_eq : FuncData
  a_Coats_str : Addr
  d_Coats_str : FuncData
  a_Coats_repr : Addr
  d_Coats_repr : FuncData
  a_Coats_shade : Addr
  d_Coats_shade : FuncData
  a_Coats_unread : Addr
  d_Coats_unread : FuncData
  c_LimeError : Addr
  c_BadCoat : Addr
  c_BadShade : Addr
  c_Coats : Addr
  code : Addr
  tab : Addr
abbrev T0of (a : Ad) : List (Addr × Str) := [(a.tab, "law.<locals>." ++ "<lambda>")]
structure Txt (K : PySem.W.Frag) (w : World) (mg : Str → Option Value) (a : Ad) : Prop where
  F__law_open : Fun K "_law_open" "_law_open" s__law_open a.a__law_open a.d__law_open
  b__law_open : Binds K a.d__law_open ["_law_script"] []
  m__law_open : mg "_law_open" = some (.ref a.a__law_open)
  F__law_pull : Fun K "_law_pull" "_law_pull" s__law_pull a.a__law_pull a.d__law_pull
  b__law_pull : Binds K a.d__law_pull ["_law_draw", "_law_many"] []
  m__law_pull : mg "_law_pull" = some (.ref a.a__law_pull)
  F__law_num : Fun K "_law_num" "_law_num" s__law_num a.a__law_num a.d__law_num
  b__law_num : Binds K a.d__law_num ["_law_found"] []
  m__law_num : mg "_law_num" = some (.ref a.a__law_num)
  F__law_like : Fun K "_law_like" "_law_like" s__law_like a.a__law_like a.d__law_like
  b__law_like : Binds K a.d__law_like ["_law_found", "_law_due"] []
  m__law_like : mg "_law_like" = some (.ref a.a__law_like)
  F__law_odd : Fun K "_law_odd" "_law_odd" s__law_odd a.a__law_odd a.d__law_odd
  b__law_odd : Binds K a.d__law_odd ["_law_draw"] []
  m__law_odd : mg "_law_odd" = some (.ref a.a__law_odd)
  F__law_shades : Fun K "_law_shades" "_law_shades" s__law_shades a.a__law_shades a.d__law_shades
  b__law_shades : Binds K a.d__law_shades ["_law_draw", "_law_many"] []
  m__law_shades : mg "_law_shades" = some (.ref a.a__law_shades)
  F__law_why : Fun K "_law_why" "_law_why" s__law_why a.a__law_why a.d__law_why
  b__law_why : Binds K a.d__law_why ["_law_ask"] []
  m__law_why : mg "_law_why" = some (.ref a.a__law_why)
  F__law_made : Fun K "_law_made" "_law_made" s__law_made a.a__law_made a.d__law_made
  b__law_made : Binds K a.d__law_made ["_law_shades_here"] []
  m__law_made : mg "_law_made" = some (.ref a.a__law_made)
  F_law : FunC K "law" "law" s_law a.a_law a.d_law a.code
  b_law : Binds K a.d_law ["_law_script"] []
  m_law : mg "law" = some (.ref a.a_law)
  F_LimeError_init : Fun K "__init__" "LimeError.__init__" s_LimeError_init a.a_LimeError_init a.d_LimeError_init
  b_LimeError_init : Binds K a.d_LimeError_init ["self", "called"] []
  i_LimeError_init : PySem.W.findIn K (.ref a.c_LimeError) "__init__" = some (some (.ref a.a_LimeError_init))
  t_LimeError_init : PySem.W.typeIn K (.ref a.a_LimeError_init) = some (.type "function")
  F_BadCoat_init : Fun K "__init__" "BadCoat.__init__" s_BadCoat_init a.a_BadCoat_init a.d_BadCoat_init
  b_BadCoat_init : Binds K a.d_BadCoat_init ["self"] []
  i_BadCoat_init : PySem.W.findIn K (.ref a.c_BadCoat) "__init__" = some (some (.ref a.a_BadCoat_init))
  t_BadCoat_init : PySem.W.typeIn K (.ref a.a_BadCoat_init) = some (.type "function")
  F_BadShade_init : Fun K "__init__" "BadShade.__init__" s_BadShade_init a.a_BadShade_init a.d_BadShade_init
  b_BadShade_init : Binds K a.d_BadShade_init ["self"] []
  i_BadShade_init : PySem.W.findIn K (.ref a.c_BadShade) "__init__" = some (some (.ref a.a_BadShade_init))
  t_BadShade_init : PySem.W.typeIn K (.ref a.a_BadShade_init) = some (.type "function")
  F_Coats_init : Fun K "__init__" "Coats.__init__" s_Coats_init a.a_Coats_init a.d_Coats_init
  b_Coats_init : Binds K a.d_Coats_init ["self", "shades"] []
  i_Coats_init : Meth K a.c_Coats "__init__" a.a_Coats_init
  F_Coats_len : Fun K "__len__" "Coats.__len__" s_Coats_len a.a_Coats_len a.d_Coats_len
  b_Coats_len : Binds K a.d_Coats_len ["self"] []
  i_Coats_len : Meth K a.c_Coats "__len__" a.a_Coats_len
  F_Coats_eq : Fun K "__eq__" "Coats.__eq__" s_Coats_eq a.a_Coats_eq a.d_Coats_eq
  b_Coats_eq : Binds K a.d_Coats_eq ["self", "other"] []
  i_Coats_eq : Meth K a.c_Coats "__eq__" a.a_Coats_eq
  F_Coats_str : Fun K "__str__" "Coats.__str__" s_Coats_str a.a_Coats_str a.d_Coats_str
  b_Coats_str : Binds K a.d_Coats_str ["self"] []
  i_Coats_str : Meth K a.c_Coats "__str__" a.a_Coats_str
  F_Coats_repr : Fun K "__repr__" "Coats.__repr__" s_Coats_repr a.a_Coats_repr a.d_Coats_repr
  b_Coats_repr : Binds K a.d_Coats_repr ["self"] []
  i_Coats_repr : Meth K a.c_Coats "__repr__" a.a_Coats_repr
  F_Coats_shade : Fun K "shade" "Coats.shade" s_Coats_shade a.a_Coats_shade a.d_Coats_shade
  b_Coats_shade : Binds K a.d_Coats_shade ["self", "at"] []
  i_Coats_shade : Meth K a.c_Coats "shade" a.a_Coats_shade
  F_Coats_unread : Fun K "unread" "Coats.unread" s_Coats_unread a.a_Coats_unread a.d_Coats_unread
  b_Coats_unread : Binds K a.d_Coats_unread ["self"] []
  i_Coats_unread : Meth K a.c_Coats "unread" a.a_Coats_unread
  k_LimeError : mg "LimeError" = some (.ref a.c_LimeError)
  k_BadCoat : mg "BadCoat" = some (.ref a.c_BadCoat)
  k_BadShade : mg "BadShade" = some (.ref a.c_BadShade)
  k_Coats : mg "Coats" = some (.ref a.c_Coats)
  o_Coats : IsO K a.c_Coats
  mk_Coats : Mk K a.c_Coats a.a_Coats_init
  na_Coats_seen : NoAttr K a.c_Coats "seen"
  ne_Coats : NeC K a.c_Coats
  fm_Coats : FmC K a.c_Coats
  xf_BadCoat : XfC K a.c_BadCoat
  nc_BadCoat : PySem.W.findIn K (.ref a.c_BadCoat) "called" = some none
  ex_BadCoat : PySem.W.exmOne K (.ref a.c_BadCoat) (.ref a.c_LimeError) = some true
  es_BadCoat : PySem.W.exmOne K (.ref a.c_BadCoat) (.ref a.c_BadCoat) = some true
  xf_BadShade : XfC K a.c_BadShade
  nc_BadShade : PySem.W.findIn K (.ref a.c_BadShade) "called" = some none
  ex_BadShade : PySem.W.exmOne K (.ref a.c_BadShade) (.ref a.c_LimeError) = some true
  es_BadShade : PySem.W.exmOne K (.ref a.c_BadShade) (.ref a.c_BadShade) = some true
  n_ValueError : mg "ValueError" = none
  n_all : mg "all" = none
  n_bool : mg "bool" = none
  n_int : mg "int" = none
  n_isinstance : mg "isinstance" = none
  n_len : mg "len" = none
  n_list : mg "list" = none
  n_max : mg "max" = none
  n_min : mg "min" = none
  n_range : mg "range" = none
  n_repr : mg "repr" = none
  n_str : mg "str" = none
  n_tuple : mg "tuple" = none
  g_SIGNS : GlD K mg "SIGNS" (.str "?abcdef")
section
variable {P : Program} {w : World} {K : PySem.W.Frag} {mg : Str → Option Value} {base : Heap} {a : Ad}
def sp__law_open (_ : Ad) : SpD := fun ds S Q _ => ∃ (ns : List Int), ds = [.scr ns] ∧ ns.length ≤ 63 ∧ S = [] ∧ Q (.ref 0) [.drw]
theorem ok__law_open (T : Txt K w mg a)  : Fx P w K mg base 1 a.a__law_open a.d__law_open "_law_open" ["_law_script"] (sp__law_open a) := by
  refine ⟨fn_S T.F__law_open sc__law_open (by (intro ds S Q E h; first | (obtain ⟨h, _⟩ := h; subst h; rfl) | (obtain ⟨_, h, _⟩ := h; subst h; rfl) | (obtain ⟨_, _, h, _⟩ := h; subst h; rfl) | (obtain ⟨_, _, _, h, _⟩ := h; subst h; rfl) | (obtain ⟨_, _, _, _, h, _⟩ := h; subst h; rfl) | (obtain ⟨_, _, _, _, _, h, _⟩ := h; subst h; rfl) | (obtain ⟨_, _, _, _, _, _, h, _⟩ := h; subst h; rfl) | (obtain ⟨_, _, _, _, _, _, _, h, _⟩ := h; subst h; rfl) | (obtain ⟨_, _, _, _, _, _, _, _, h, _⟩ := h; subst h; rfl) | (obtain ⟨_, _, _, _, _, _, _, _, _, h, _⟩ := h; subst h; rfl) | (obtain ⟨_, _, _, _, _, _, _, _, _, _, h, _⟩ := h; subst h; rfl))) fun cdv A outer s H E φ T0 W' room wl => ⟨_, (lss_cons (ls_ret (le_lstM (la_cons (le_callTy cc_list rfl T.n_list (by rfl) (la_cons (le_slice (lv 0) lp_none (lp_some le_int)) la_nil)) (la_cons le_int (la_cons le_int (la_cons le_int la_nil))))))
    lss_nil), fun ds S R X n h hW => ?_⟩, T.m__law_open, T.F__law_open.kp, T.b__law_open⟩
  obtain ⟨Q, E, h, hlt, rfl, rfl, rfl⟩ := h
  subst hW
  obtain ⟨ns, rfl, hn, rfl, q⟩ := h
  conv => whnf
  rw [show (63 : Int) = ((63 : Nat) : Int) from rfl, cutD_to (by simpa using hn)]
  exact ⟨1, .ref 0, [.drw], Nat.zero_le _, by simp, ⟨_, _, rfl, ⟨_, RsL.same ⟨D.lts_ints ns, trivial, trivial, trivial, trivial⟩, ns, 0, 0, 31, rfl, by decide, by decide, by decide, by decide⟩, rfl⟩, Rs.same (show 0 < 1 by decide), q⟩
abbrev sp__law_pull (_ : Ad) : SpP := spPull
theorem ok__law_pull (T : Txt K w mg a)  : Fx P w K mg base 1 a.a__law_pull a.d__law_pull "_law_pull" ["_law_draw", "_law_many"] (ld (sp__law_pull a)) := by
  refine ⟨fn_L T.F__law_pull sc__law_pull (by (intro ds Q E h; first | (obtain ⟨h, hr⟩ := h; subst h; (try (obtain ⟨_, hr⟩ := hr)); (try (obtain ⟨_, hr⟩ := hr)); (try (obtain ⟨_, hr⟩ := hr)); (try (obtain ⟨_, hr⟩ := hr)); (all_goals exact ⟨rfl, by (repeat' (first | trivial | exact lmD_lt | exact rows_lt | exact deeds_lt | exact pasts_lt | exact D.lts_ints _ | exact D.lts_strs _ | exact Fc.lt | exact Dd.lt | exact fcs_lt _ | exact nfs_lt _ | exact nf_lt | exact D.pl.lt (by assumption) | exact D.dp.lt (by assumption) | exact D.dps.lt (by assumption) | exact D.pls.lt (by assumption) | assumption | refine ⟨?_, ?_⟩))⟩)) | (obtain ⟨_, h, hr⟩ := h; subst h; (try (obtain ⟨_, hr⟩ := hr)); (try (obtain ⟨_, hr⟩ := hr)); (try (obtain ⟨_, hr⟩ := hr)); (try (obtain ⟨_, hr⟩ := hr)); (all_goals exact ⟨rfl, by (repeat' (first | trivial | exact lmD_lt | exact rows_lt | exact deeds_lt | exact pasts_lt | exact D.lts_ints _ | exact D.lts_strs _ | exact Fc.lt | exact Dd.lt | exact fcs_lt _ | exact nfs_lt _ | exact nf_lt | exact D.pl.lt (by assumption) | exact D.dp.lt (by assumption) | exact D.dps.lt (by assumption) | exact D.pls.lt (by assumption) | assumption | refine ⟨?_, ?_⟩))⟩)) | (obtain ⟨_, _, h, hr⟩ := h; subst h; (try (obtain ⟨_, hr⟩ := hr)); (try (obtain ⟨_, hr⟩ := hr)); (try (obtain ⟨_, hr⟩ := hr)); (try (obtain ⟨_, hr⟩ := hr)); (all_goals exact ⟨rfl, by (repeat' (first | trivial | exact lmD_lt | exact rows_lt | exact deeds_lt | exact pasts_lt | exact D.lts_ints _ | exact D.lts_strs _ | exact Fc.lt | exact Dd.lt | exact fcs_lt _ | exact nfs_lt _ | exact nf_lt | exact D.pl.lt (by assumption) | exact D.dp.lt (by assumption) | exact D.dps.lt (by assumption) | exact D.pls.lt (by assumption) | assumption | refine ⟨?_, ?_⟩))⟩)) | (obtain ⟨_, _, _, h, hr⟩ := h; subst h; (try (obtain ⟨_, hr⟩ := hr)); (try (obtain ⟨_, hr⟩ := hr)); (try (obtain ⟨_, hr⟩ := hr)); (try (obtain ⟨_, hr⟩ := hr)); (all_goals exact ⟨rfl, by (repeat' (first | trivial | exact lmD_lt | exact rows_lt | exact deeds_lt | exact pasts_lt | exact D.lts_ints _ | exact D.lts_strs _ | exact Fc.lt | exact Dd.lt | exact fcs_lt _ | exact nfs_lt _ | exact nf_lt | exact D.pl.lt (by assumption) | exact D.dp.lt (by assumption) | exact D.dps.lt (by assumption) | exact D.pls.lt (by assumption) | assumption | refine ⟨?_, ?_⟩))⟩)) | (obtain ⟨_, _, _, _, h, hr⟩ := h; subst h; (try (obtain ⟨_, hr⟩ := hr)); (try (obtain ⟨_, hr⟩ := hr)); (try (obtain ⟨_, hr⟩ := hr)); (try (obtain ⟨_, hr⟩ := hr)); (all_goals exact ⟨rfl, by (repeat' (first | trivial | exact lmD_lt | exact rows_lt | exact deeds_lt | exact pasts_lt | exact D.lts_ints _ | exact D.lts_strs _ | exact Fc.lt | exact Dd.lt | exact fcs_lt _ | exact nfs_lt _ | exact nf_lt | exact D.pl.lt (by assumption) | exact D.dp.lt (by assumption) | exact D.dps.lt (by assumption) | exact D.pls.lt (by assumption) | assumption | refine ⟨?_, ?_⟩))⟩)) | (obtain ⟨_, _, _, _, _, h, hr⟩ := h; subst h; (try (obtain ⟨_, hr⟩ := hr)); (try (obtain ⟨_, hr⟩ := hr)); (try (obtain ⟨_, hr⟩ := hr)); (try (obtain ⟨_, hr⟩ := hr)); (all_goals exact ⟨rfl, by (repeat' (first | trivial | exact lmD_lt | exact rows_lt | exact deeds_lt | exact pasts_lt | exact D.lts_ints _ | exact D.lts_strs _ | exact Fc.lt | exact Dd.lt | exact fcs_lt _ | exact nfs_lt _ | exact nf_lt | exact D.pl.lt (by assumption) | exact D.dp.lt (by assumption) | exact D.dps.lt (by assumption) | exact D.pls.lt (by assumption) | assumption | refine ⟨?_, ?_⟩))⟩)) | (obtain ⟨h, _⟩ := h; exact (by simp at h)))) (fun _ _ _ h => h) fun cdv A outer s H E φ T0 W' room wl => ⟨_, (lss_consM (ls_if (LW.t (lw_and (lt_cmp oo_lt (le_ix ox_seq (lv 0) le_int) (lv 1) (by rfl)) (lw_and1 (lt_cmp oo_lt (le_ix ox_seq (lv 0) le_int) (le_callB cc_len rfl T.n_len (by rfl) (la_cons (le_ix ox_seq (lv 0) le_int) la_nil)) (by rfl))))) (lss_cons (ls_set 2 (le_ix ox_seq (le_ix ox_seq (lv 0) le_int) (le_ix ox_seq (lv 0) le_int)) sc__law_pull.nd)
    (lss_cons (ls_asg (le_op oo_add (le_ix ox_seq (lv 0) le_int) le_int) (lg_sub (lv 0) le_int st_list))
    (lss_cons (ls_asg le_int (lg_sub (lv 0) le_int st_list))
    (lss_consW [2] (ls_if (lt_cmp oo_ge (lv 2) (le_op oo_pow le_int le_int) (by rfl)) (lss_consW [2] (ls_asg (lv 2) (lg_sub (lv 0) le_int st_list))
    lss_nil) (lss_consW [2] (ls_asg (le_op oo_mod (le_op oo_add (le_op oo_add (le_op oo_mulX (le_ix ox_seq (lv 0) le_int) le_int) (le_op oo_mulX (le_op oo_mod (lv 2) le_int) le_int)) le_int) le_int) (lg_sub (lv 0) le_int st_list))
    lss_nil))
    lss_nil)))) lss_nil)
    (lss_w [2] (lss_consW [3] (ls_if (lt_cmp oo_ge (le_ix ox_seq (lv 0) le_int) (lv 1) (by rfl)) (lss_cons (ls_set 3 (le_op oo_mod (le_ix ox_seq (lv 0) le_int) (lv 1)) sc__law_pull.nd)
    (lss_consW [0, 1] (ls_asg (le_op oo_fdiv (le_ix ox_seq (lv 0) le_int) (lv 1)) (lg_sub (lv 0) le_int st_list))
    (lss_cons (ls_ret (lv 3))
    lss_nil))) lss_nil)
    (lss_cons (ls_asg (le_op oo_mod (le_op oo_add (le_op oo_add (le_op oo_pow (le_ix ox_seq (lv 0) le_int) le_int) (le_op oo_mulX (le_ix ox_seq (lv 0) le_int) le_int)) le_int) le_int) (lg_sub (lv 0) le_int st_list))
    (lss_cons (ls_ret (le_op oo_mod (le_op oo_add (le_op oo_fdiv (le_ix ox_seq (lv 0) le_int) le_int) (le_op oo_mulX (le_op oo_mod (le_ix ox_seq (lv 0) le_int) le_int) le_int)) (lv 1)))
    lss_nil))))), fun ds S R X n h hW => ?_⟩, T.m__law_pull, T.F__law_pull.kp, T.b__law_pull⟩
  obtain ⟨r, Q, E, l, h, rfl, rfl, hl, rfl, rfl, rfl⟩ := h
  subst hW
  obtain ⟨many, rfl, ⟨h1, h2⟩, q⟩ := h
  obtain ⟨ns, i, z, t, rfl, hi, hz, ht, ht2⟩ := hl
  conv => whnf
  repeat (refine Need.mk ?_ ?_; exact nd; conv => whnf)
  refine sM (fun s' S' => ∃ l', DrawL l' ∧ s' = [some (.ref 0), some (.int many), none, none] ∧ S' = [.lst l']) ?_ ?_
  · conv => whnf
    repeat (refine Need.mk ?_ ?_; exact nd; conv => whnf)
    refine brd (fun hc => ?_) (fun hc => ?_)
    · conv => whnf
      repeat (refine Need.mk ?_ ?_; exact nd; conv => whnf)
      refine brd (fun hc => ?_) (fun hc => ?_)
      · have hc : i < ((ns.map D.int).length : Int) := hc
        rw [List.length_map] at hc
        obtain ⟨c, hc1, ha⟩ := atI_ints hi hc
        conv => whnf
        repeat (refine Need.mk ?_ ?_; exact nd; conv => whnf)
        refine optI ha ?_
        conv => whnf
        repeat (refine Need.mk ?_ ?_; exact nd; conv => whnf)
        refine brd (fun hc => ?_) (fun hc => ?_)
        · conv => whnf
          repeat (refine Need.mk ?_ ?_; exact nd; conv => whnf)
          exact ⟨_, ⟨ns, _, _, _, rfl, by omega, Int.le_trans (by decide) hc, ht, ht2⟩, rfl, rfl⟩
        · conv => whnf
          repeat (refine Need.mk ?_ ?_; exact nd; conv => whnf)
          exact ⟨_, ⟨ns, _, _, _, rfl, by omega, by omega, Int.emod_nonneg _ (by decide), Int.emod_lt_of_pos _ (by decide)⟩, rfl, rfl⟩
      · conv => whnf
        repeat (refine Need.mk ?_ ?_; exact nd; conv => whnf)
        exact ⟨_, ⟨ns, _, _, _, rfl, hi, hz, ht, ht2⟩, rfl, rfl⟩
    · conv => whnf
      repeat (refine Need.mk ?_ ?_; exact nd; conv => whnf)
      exact ⟨_, ⟨ns, _, _, _, rfl, hi, hz, ht, ht2⟩, rfl, rfl⟩
  · rintro s' S' ⟨l', ⟨ns, i, z, t, rfl, hi, hz, ht, ht2⟩, rfl, rfl⟩
    conv => whnf
    repeat (refine Need.mk ?_ ?_; exact nd; conv => whnf)
    refine brd (fun hc => ?_) (fun hc => ?_)
    · conv => whnf
      repeat (refine Need.mk ?_ ?_; exact nd; conv => whnf)
      exact ⟨⟨ns, _, _, _, rfl, hi, Int.ediv_nonneg hz (by omega), ht, ht2⟩, trivial, q _ (Int.emod_nonneg _ (by omega)) (Int.emod_lt_of_pos _ (by omega))⟩
    · conv => whnf
      repeat (refine Need.mk ?_ ?_; exact nd; conv => whnf)
      exact ⟨⟨ns, _, _, _, rfl, hi, hz, Int.emod_nonneg _ (by decide), Int.emod_lt_of_pos _ (by decide)⟩, trivial, q _ (Int.emod_nonneg _ (by omega)) (Int.emod_lt_of_pos _ (by omega))⟩
def sp__law_num (_ : Ad) : SpP := fun ds Q _ => ∃ i : Int, ds = [.int i] ∧ Q (.bl true)
theorem ok__law_num (T : Txt K w mg a)  : Fx P w K mg base 1 a.a__law_num a.d__law_num "_law_num" ["_law_found"] (lp (sp__law_num a)) := by
  refine ⟨fn_P T.F__law_num sc__law_num (by (intro ds Q E h; first | (obtain ⟨h, hr⟩ := h; subst h; (try (obtain ⟨_, hr⟩ := hr)); (try (obtain ⟨_, hr⟩ := hr)); (try (obtain ⟨_, hr⟩ := hr)); (try (obtain ⟨_, hr⟩ := hr)); (all_goals exact ⟨rfl, by (repeat' (first | trivial | exact lmD_lt | exact rows_lt | exact deeds_lt | exact pasts_lt | exact D.lts_ints _ | exact D.lts_strs _ | exact Fc.lt | exact Dd.lt | exact fcs_lt _ | exact nfs_lt _ | exact nf_lt | exact D.pl.lt (by assumption) | exact D.dp.lt (by assumption) | exact D.dps.lt (by assumption) | exact D.pls.lt (by assumption) | assumption | refine ⟨?_, ?_⟩))⟩)) | (obtain ⟨_, h, hr⟩ := h; subst h; (try (obtain ⟨_, hr⟩ := hr)); (try (obtain ⟨_, hr⟩ := hr)); (try (obtain ⟨_, hr⟩ := hr)); (try (obtain ⟨_, hr⟩ := hr)); (all_goals exact ⟨rfl, by (repeat' (first | trivial | exact lmD_lt | exact rows_lt | exact deeds_lt | exact pasts_lt | exact D.lts_ints _ | exact D.lts_strs _ | exact Fc.lt | exact Dd.lt | exact fcs_lt _ | exact nfs_lt _ | exact nf_lt | exact D.pl.lt (by assumption) | exact D.dp.lt (by assumption) | exact D.dps.lt (by assumption) | exact D.pls.lt (by assumption) | assumption | refine ⟨?_, ?_⟩))⟩)) | (obtain ⟨_, _, h, hr⟩ := h; subst h; (try (obtain ⟨_, hr⟩ := hr)); (try (obtain ⟨_, hr⟩ := hr)); (try (obtain ⟨_, hr⟩ := hr)); (try (obtain ⟨_, hr⟩ := hr)); (all_goals exact ⟨rfl, by (repeat' (first | trivial | exact lmD_lt | exact rows_lt | exact deeds_lt | exact pasts_lt | exact D.lts_ints _ | exact D.lts_strs _ | exact Fc.lt | exact Dd.lt | exact fcs_lt _ | exact nfs_lt _ | exact nf_lt | exact D.pl.lt (by assumption) | exact D.dp.lt (by assumption) | exact D.dps.lt (by assumption) | exact D.pls.lt (by assumption) | assumption | refine ⟨?_, ?_⟩))⟩)) | (obtain ⟨_, _, _, h, hr⟩ := h; subst h; (try (obtain ⟨_, hr⟩ := hr)); (try (obtain ⟨_, hr⟩ := hr)); (try (obtain ⟨_, hr⟩ := hr)); (try (obtain ⟨_, hr⟩ := hr)); (all_goals exact ⟨rfl, by (repeat' (first | trivial | exact lmD_lt | exact rows_lt | exact deeds_lt | exact pasts_lt | exact D.lts_ints _ | exact D.lts_strs _ | exact Fc.lt | exact Dd.lt | exact fcs_lt _ | exact nfs_lt _ | exact nf_lt | exact D.pl.lt (by assumption) | exact D.dp.lt (by assumption) | exact D.dps.lt (by assumption) | exact D.pls.lt (by assumption) | assumption | refine ⟨?_, ?_⟩))⟩)) | (obtain ⟨_, _, _, _, h, hr⟩ := h; subst h; (try (obtain ⟨_, hr⟩ := hr)); (try (obtain ⟨_, hr⟩ := hr)); (try (obtain ⟨_, hr⟩ := hr)); (try (obtain ⟨_, hr⟩ := hr)); (all_goals exact ⟨rfl, by (repeat' (first | trivial | exact lmD_lt | exact rows_lt | exact deeds_lt | exact pasts_lt | exact D.lts_ints _ | exact D.lts_strs _ | exact Fc.lt | exact Dd.lt | exact fcs_lt _ | exact nfs_lt _ | exact nf_lt | exact D.pl.lt (by assumption) | exact D.dp.lt (by assumption) | exact D.dps.lt (by assumption) | exact D.pls.lt (by assumption) | assumption | refine ⟨?_, ?_⟩))⟩)) | (obtain ⟨_, _, _, _, _, h, hr⟩ := h; subst h; (try (obtain ⟨_, hr⟩ := hr)); (try (obtain ⟨_, hr⟩ := hr)); (try (obtain ⟨_, hr⟩ := hr)); (try (obtain ⟨_, hr⟩ := hr)); (all_goals exact ⟨rfl, by (repeat' (first | trivial | exact lmD_lt | exact rows_lt | exact deeds_lt | exact pasts_lt | exact D.lts_ints _ | exact D.lts_strs _ | exact Fc.lt | exact Dd.lt | exact fcs_lt _ | exact nfs_lt _ | exact nf_lt | exact D.pl.lt (by assumption) | exact D.dp.lt (by assumption) | exact D.dps.lt (by assumption) | exact D.pls.lt (by assumption) | assumption | refine ⟨?_, ?_⟩))⟩)) | (obtain ⟨h, _⟩ := h; exact (by simp at h)))) fun cdv A outer s H E φ T0 W' room wl => ⟨_, (lss_cons (ls_ret (le_and (le_callB cc_isiB rfl T.n_isinstance (by rfl) (la_cons (lv 0) (la_cons (le_ty rfl T.n_int (by rfl)) la_nil))) (le_one (le_not (le_callB cc_isiB rfl T.n_isinstance (by rfl) (la_cons (lv 0) (la_cons (le_ty rfl T.n_bool (by rfl)) la_nil)))))))
    lss_nil), fun ds S R X n h hW => ?_⟩, T.m__law_num, T.F__law_num.kp, T.b__law_num⟩
  obtain ⟨Q, E, h, rfl, rfl, rfl, rfl⟩ := h
  subst hW
  obtain ⟨i, rfl, q⟩ := h
  conv => whnf
  repeat (refine Need.mk ?_ ?_; exact nd; conv => whnf)
  exact Rp q
def sn__law_like : Nat → Ad → SpP
  | 0, _ => fun _ _ _ => False
  | n + 1, _ => fun ds Q _ => ∃ d : D, ds = [d, d] ∧ D.dp d n ∧ Q (.bl true)
abbrev sp__law_like (a : Ad) : SpP := sn__law_like 11 a
theorem like_all {n : Nat} : ((List.replicate n (D.bl true)) : List D) = (List.replicate n true).map D.bl := by rw [List.map_replicate]
theorem st__law_like (T : Txt K w mg a) (G__law_num : Fx P w K mg base 1 a.a__law_num a.d__law_num "_law_num" ["_law_found"] (lp (sp__law_num a))) {n : Nat} (G__law_like : Fx P w K mg base (n + 1) a.a__law_like a.d__law_like "_law_like" ["_law_found", "_law_due"] (lp (sn__law_like n a))) : Fx P w K mg base (n + 2) a.a__law_like a.d__law_like "_law_like" ["_law_found", "_law_due"] (lp (sn__law_like (n + 1) a)) := by
  refine ⟨fn_P T.F__law_like sc__law_like (by (intro ds Q E h; first | (obtain ⟨h, hr⟩ := h; subst h; (try (obtain ⟨_, hr⟩ := hr)); (try (obtain ⟨_, hr⟩ := hr)); (try (obtain ⟨_, hr⟩ := hr)); (try (obtain ⟨_, hr⟩ := hr)); (all_goals exact ⟨rfl, by (repeat' (first | trivial | exact lmD_lt | exact rows_lt | exact deeds_lt | exact pasts_lt | exact D.lts_ints _ | exact D.lts_strs _ | exact Fc.lt | exact Dd.lt | exact fcs_lt _ | exact nfs_lt _ | exact nf_lt | exact D.pl.lt (by assumption) | exact D.dp.lt (by assumption) | exact D.dps.lt (by assumption) | exact D.pls.lt (by assumption) | assumption | refine ⟨?_, ?_⟩))⟩)) | (obtain ⟨_, h, hr⟩ := h; subst h; (try (obtain ⟨_, hr⟩ := hr)); (try (obtain ⟨_, hr⟩ := hr)); (try (obtain ⟨_, hr⟩ := hr)); (try (obtain ⟨_, hr⟩ := hr)); (all_goals exact ⟨rfl, by (repeat' (first | trivial | exact lmD_lt | exact rows_lt | exact deeds_lt | exact pasts_lt | exact D.lts_ints _ | exact D.lts_strs _ | exact Fc.lt | exact Dd.lt | exact fcs_lt _ | exact nfs_lt _ | exact nf_lt | exact D.pl.lt (by assumption) | exact D.dp.lt (by assumption) | exact D.dps.lt (by assumption) | exact D.pls.lt (by assumption) | assumption | refine ⟨?_, ?_⟩))⟩)) | (obtain ⟨_, _, h, hr⟩ := h; subst h; (try (obtain ⟨_, hr⟩ := hr)); (try (obtain ⟨_, hr⟩ := hr)); (try (obtain ⟨_, hr⟩ := hr)); (try (obtain ⟨_, hr⟩ := hr)); (all_goals exact ⟨rfl, by (repeat' (first | trivial | exact lmD_lt | exact rows_lt | exact deeds_lt | exact pasts_lt | exact D.lts_ints _ | exact D.lts_strs _ | exact Fc.lt | exact Dd.lt | exact fcs_lt _ | exact nfs_lt _ | exact nf_lt | exact D.pl.lt (by assumption) | exact D.dp.lt (by assumption) | exact D.dps.lt (by assumption) | exact D.pls.lt (by assumption) | assumption | refine ⟨?_, ?_⟩))⟩)) | (obtain ⟨_, _, _, h, hr⟩ := h; subst h; (try (obtain ⟨_, hr⟩ := hr)); (try (obtain ⟨_, hr⟩ := hr)); (try (obtain ⟨_, hr⟩ := hr)); (try (obtain ⟨_, hr⟩ := hr)); (all_goals exact ⟨rfl, by (repeat' (first | trivial | exact lmD_lt | exact rows_lt | exact deeds_lt | exact pasts_lt | exact D.lts_ints _ | exact D.lts_strs _ | exact Fc.lt | exact Dd.lt | exact fcs_lt _ | exact nfs_lt _ | exact nf_lt | exact D.pl.lt (by assumption) | exact D.dp.lt (by assumption) | exact D.dps.lt (by assumption) | exact D.pls.lt (by assumption) | assumption | refine ⟨?_, ?_⟩))⟩)) | (obtain ⟨_, _, _, _, h, hr⟩ := h; subst h; (try (obtain ⟨_, hr⟩ := hr)); (try (obtain ⟨_, hr⟩ := hr)); (try (obtain ⟨_, hr⟩ := hr)); (try (obtain ⟨_, hr⟩ := hr)); (all_goals exact ⟨rfl, by (repeat' (first | trivial | exact lmD_lt | exact rows_lt | exact deeds_lt | exact pasts_lt | exact D.lts_ints _ | exact D.lts_strs _ | exact Fc.lt | exact Dd.lt | exact fcs_lt _ | exact nfs_lt _ | exact nf_lt | exact D.pl.lt (by assumption) | exact D.dp.lt (by assumption) | exact D.dps.lt (by assumption) | exact D.pls.lt (by assumption) | assumption | refine ⟨?_, ?_⟩))⟩)) | (obtain ⟨_, _, _, _, _, h, hr⟩ := h; subst h; (try (obtain ⟨_, hr⟩ := hr)); (try (obtain ⟨_, hr⟩ := hr)); (try (obtain ⟨_, hr⟩ := hr)); (try (obtain ⟨_, hr⟩ := hr)); (all_goals exact ⟨rfl, by (repeat' (first | trivial | exact lmD_lt | exact rows_lt | exact deeds_lt | exact pasts_lt | exact D.lts_ints _ | exact D.lts_strs _ | exact Fc.lt | exact Dd.lt | exact fcs_lt _ | exact nfs_lt _ | exact nf_lt | exact D.pl.lt (by assumption) | exact D.dp.lt (by assumption) | exact D.dps.lt (by assumption) | exact D.pls.lt (by assumption) | assumption | refine ⟨?_, ?_⟩))⟩)) | (obtain ⟨h, _⟩ := h; exact (by simp at h)))) fun cdv A outer s H E φ T0 W' room wl => ⟨_, (lss_cons (ls_if (lt_cmp oo_is (lv 1) le_non (by rfl)) (lss_cons (ls_ret (le_cmp oo_is (lv 0) le_non (by rfl)))
    lss_nil) lss_nil)
    (lss_cons (ls_if (lt_truth (le_callB cc_isiB rfl T.n_isinstance (by rfl) (la_cons (lv 1) (la_cons (le_ty rfl T.n_bool (by rfl)) la_nil)))) (lss_cons (ls_ret (le_and (le_callB cc_isiB rfl T.n_isinstance (by rfl) (la_cons (lv 0) (la_cons (le_ty rfl T.n_bool (by rfl)) la_nil))) (le_one (le_cmp (oo_eq room.units) (lv 0) (lv 1) (by rfl)))))
    lss_nil) lss_nil)
    (lss_cons (ls_if (lt_truth (le_callB cc_isiB rfl T.n_isinstance (by rfl) (la_cons (lv 1) (la_cons (le_ty rfl T.n_int (by rfl)) la_nil)))) (lss_cons (ls_ret (le_and (le_fx G__law_num (room.mono (by omega)) (takes_of rfl rfl rfl rfl) wl (la_cons (lv 0) la_nil)) (le_one (le_cmp (oo_eq room.units) (lv 0) (lv 1) (by rfl)))))
    lss_nil) lss_nil)
    (lss_cons (ls_if (lt_truth (le_callB cc_isiB rfl T.n_isinstance (by rfl) (la_cons (lv 1) (la_cons (le_ty rfl T.n_str (by rfl)) la_nil)))) (lss_cons (ls_ret (le_and (le_callB cc_isiB rfl T.n_isinstance (by rfl) (la_cons (lv 0) (la_cons (le_ty rfl T.n_str (by rfl)) la_nil))) (le_one (le_cmp (oo_eq room.units) (lv 0) (lv 1) (by rfl)))))
    lss_nil) lss_nil)
    (lss_cons (ls_if (LW.t (lw_or (lt_cmp (oo_ne room.units) (le_callB cc_isiB rfl T.n_isinstance (by rfl) (la_cons (lv 1) (la_cons (le_ty rfl T.n_tuple (by rfl)) la_nil))) (le_callB cc_isiB rfl T.n_isinstance (by rfl) (la_cons (lv 0) (la_cons (le_ty rfl T.n_tuple (by rfl)) la_nil))) (by rfl)) (lw_or1 (lt_cmp (oo_ne room.units) (le_callB cc_isiB rfl T.n_isinstance (by rfl) (la_cons (lv 1) (la_cons (le_ty rfl T.n_list (by rfl)) la_nil))) (le_callB cc_isiB rfl T.n_isinstance (by rfl) (la_cons (lv 0) (la_cons (le_ty rfl T.n_list (by rfl)) la_nil))) (by rfl))))) (lss_cons (ls_ret le_bl)
    lss_nil) lss_nil)
    (lss_cons (ls_ret (le_and (le_cmp (oo_eq room.units) (le_callB cc_len rfl T.n_len (by rfl) (la_cons (lv 0) la_nil)) (le_callB cc_len rfl T.n_len (by rfl) (la_cons (lv 1) la_nil)) (by rfl)) (le_one (le_callB (cc_all rfl) rfl T.n_all (by rfl) (la_cons (le_lc false [("_law_k", 2)] (.nm 2) rfl sc__law_like.nd (li_rng1 rfl T.n_range (la_cons (le_callB cc_len rfl T.n_len (by rfl) (la_cons (lv 1) la_nil)) la_nil)) (by (conv => { arg 1; whnf }); (conv => { arg 2; whnf }); exact ⟨rfl, by decide +kernel, by decide +kernel, by decide +kernel, by decide +kernel⟩) (fun _ _ _ _ _ => (tg_nm 2 sc__law_like.nd)) (fun _ _ _ _ _ => lts_nil) (fun _ _ _ _ _ => (le_fx G__law_like (room.mono (by omega)) LamX.takes0 WL0 (la_cons (le_ix ox_seq (lv 0) (lv 2)) (la_cons (le_ix ox_seq (lv 1) (lv 2)) la_nil))))) la_nil)))))
    lss_nil)))))), fun ds S R X n h hW => ?_⟩, T.m__law_like, T.F__law_like.kp, T.b__law_like⟩
  obtain ⟨Q, E, h, rfl, rfl, rfl, rfl⟩ := h
  subst hW
  obtain ⟨x, rfl, hd, q⟩ := h
  have fin : ∀ b, b = true → RtP Q (.bl b) [] := fun b e => by subst e; exact Rp q
  cases x with
  | non =>
    conv => whnf
    exact fin _ rfl
  | bl b =>
    conv => whnf
    exact fin _ (by simp [D.seq])
  | int i =>
    conv => whnf
    refine ⟨_, rfl, ?_⟩
    conv => whnf
    exact fin _ (by simp [D.seq])
  | str x =>
    conv => whnf
    exact fin _ (by simp [D.seq])
  | tup xs =>
    cases n with
    | zero => exact hd.elim
    | succ n =>
    conv => whnf
    refine brT rfl ?_
    conv => whnf
    refine ⟨by (have := hd.1; omega), by (have := hd.1; omega), ?_⟩
    refine lc_map (fun _ => .bl true) (by rw [rngD_len]; exact Nat.lt_of_le_of_lt (show _ ≤ 1000000 by (have := hd.1; omega)) (by decide)) (fun _ => trivial) ?_ ?_
    · intro i x acc hi
      obtain ⟨hi2, rfl⟩ := rngD_get hi
      obtain ⟨x, hx⟩ : ∃ x, xs[i]? = some x := ⟨_, List.getElem?_eq_getElem (by omega)⟩
      refine ⟨_, rfl, trivial, fun R r => ?_⟩
      conv => whnf
      refine optI (atI_nat hx) ?_
      conv => whnf
      refine optI (atI_nat hx) ?_
      conv => whnf
      exact ⟨x, rfl, D.dps_mem.mp hd.2 x (List.mem_of_getElem? hx), r⟩
    · conv => whnf
      refine optI (asBs_map (fun _ => true) _) ?_
      exact fin _ (by simp)
  | lst xs =>
    cases n with
    | zero => exact hd.elim
    | succ n =>
    conv => whnf
    refine brT rfl ?_
    conv => whnf
    refine ⟨by (have := hd.1; omega), by (have := hd.1; omega), ?_⟩
    refine lc_map (fun _ => .bl true) (by rw [rngD_len]; exact Nat.lt_of_le_of_lt (show _ ≤ 1000000 by (have := hd.1; omega)) (by decide)) (fun _ => trivial) ?_ ?_
    · intro i x acc hi
      obtain ⟨hi2, rfl⟩ := rngD_get hi
      obtain ⟨x, hx⟩ : ∃ x, xs[i]? = some x := ⟨_, List.getElem?_eq_getElem (by omega)⟩
      refine ⟨_, rfl, trivial, fun R r => ?_⟩
      conv => whnf
      refine optI (atI_nat hx) ?_
      conv => whnf
      refine optI (atI_nat hx) ?_
      conv => whnf
      exact ⟨x, rfl, D.dps_mem.mp hd.2 x (List.mem_of_getElem? hx), r⟩
    · conv => whnf
      refine optI (asBs_map (fun _ => true) _) ?_
      exact fin _ (by simp)
  | _ => exact hd.elim
theorem al__law_like (T : Txt K w mg a) (G__law_num : Fx P w K mg base 1 a.a__law_num a.d__law_num "_law_num" ["_law_found"] (lp (sp__law_num a))) : ∀ n, Fx P w K mg base (n + 1) a.a__law_like a.d__law_like "_law_like" ["_law_found", "_law_due"] (lp (sn__law_like n a))
  | 0 => ⟨fn_no fun _ _ _ _ h => h, T.m__law_like, T.F__law_like.kp, T.b__law_like⟩
  | n + 1 => st__law_like T G__law_num (al__law_like T G__law_num n)
theorem ok__law_like (T : Txt K w mg a) (G__law_num : Fx P w K mg base 1 a.a__law_num a.d__law_num "_law_num" ["_law_found"] (lp (sp__law_num a))) : Fx P w K mg base 12 a.a__law_like a.d__law_like "_law_like" ["_law_found", "_law_due"] (lp (sp__law_like a)) := al__law_like T G__law_num 11
def sp__law_odd (a : Ad) : SpP := fun ds Q _ => ds = [] ∧ ∀ z : Int, Q (.int z)
theorem ok__law_odd (T : Txt K w mg a) (G__law_pull : Fx P w K mg base 1 a.a__law_pull a.d__law_pull "_law_pull" ["_law_draw", "_law_many"] (ld (sp__law_pull a))) : Fx P w K mg base 2 a.a__law_odd a.d__law_odd "_law_odd" ["_law_draw"] (ld (sp__law_odd a)) := by
  refine ⟨fn_W T.F__law_odd sc__law_odd (by (intro ds Q E h; first | (obtain ⟨h, hr⟩ := h; subst h; (try (obtain ⟨_, hr⟩ := hr)); (try (obtain ⟨_, hr⟩ := hr)); (try (obtain ⟨_, hr⟩ := hr)); (try (obtain ⟨_, hr⟩ := hr)); (all_goals exact ⟨rfl, by (repeat' (first | trivial | exact lmD_lt | exact rows_lt | exact deeds_lt | exact pasts_lt | exact D.lts_ints _ | exact D.lts_strs _ | exact Fc.lt | exact Dd.lt | exact fcs_lt _ | exact nfs_lt _ | exact nf_lt | exact D.pl.lt (by assumption) | exact D.dp.lt (by assumption) | exact D.dps.lt (by assumption) | exact D.pls.lt (by assumption) | assumption | refine ⟨?_, ?_⟩))⟩)) | (obtain ⟨_, h, hr⟩ := h; subst h; (try (obtain ⟨_, hr⟩ := hr)); (try (obtain ⟨_, hr⟩ := hr)); (try (obtain ⟨_, hr⟩ := hr)); (try (obtain ⟨_, hr⟩ := hr)); (all_goals exact ⟨rfl, by (repeat' (first | trivial | exact lmD_lt | exact rows_lt | exact deeds_lt | exact pasts_lt | exact D.lts_ints _ | exact D.lts_strs _ | exact Fc.lt | exact Dd.lt | exact fcs_lt _ | exact nfs_lt _ | exact nf_lt | exact D.pl.lt (by assumption) | exact D.dp.lt (by assumption) | exact D.dps.lt (by assumption) | exact D.pls.lt (by assumption) | assumption | refine ⟨?_, ?_⟩))⟩)) | (obtain ⟨_, _, h, hr⟩ := h; subst h; (try (obtain ⟨_, hr⟩ := hr)); (try (obtain ⟨_, hr⟩ := hr)); (try (obtain ⟨_, hr⟩ := hr)); (try (obtain ⟨_, hr⟩ := hr)); (all_goals exact ⟨rfl, by (repeat' (first | trivial | exact lmD_lt | exact rows_lt | exact deeds_lt | exact pasts_lt | exact D.lts_ints _ | exact D.lts_strs _ | exact Fc.lt | exact Dd.lt | exact fcs_lt _ | exact nfs_lt _ | exact nf_lt | exact D.pl.lt (by assumption) | exact D.dp.lt (by assumption) | exact D.dps.lt (by assumption) | exact D.pls.lt (by assumption) | assumption | refine ⟨?_, ?_⟩))⟩)) | (obtain ⟨_, _, _, h, hr⟩ := h; subst h; (try (obtain ⟨_, hr⟩ := hr)); (try (obtain ⟨_, hr⟩ := hr)); (try (obtain ⟨_, hr⟩ := hr)); (try (obtain ⟨_, hr⟩ := hr)); (all_goals exact ⟨rfl, by (repeat' (first | trivial | exact lmD_lt | exact rows_lt | exact deeds_lt | exact pasts_lt | exact D.lts_ints _ | exact D.lts_strs _ | exact Fc.lt | exact Dd.lt | exact fcs_lt _ | exact nfs_lt _ | exact nf_lt | exact D.pl.lt (by assumption) | exact D.dp.lt (by assumption) | exact D.dps.lt (by assumption) | exact D.pls.lt (by assumption) | assumption | refine ⟨?_, ?_⟩))⟩)) | (obtain ⟨_, _, _, _, h, hr⟩ := h; subst h; (try (obtain ⟨_, hr⟩ := hr)); (try (obtain ⟨_, hr⟩ := hr)); (try (obtain ⟨_, hr⟩ := hr)); (try (obtain ⟨_, hr⟩ := hr)); (all_goals exact ⟨rfl, by (repeat' (first | trivial | exact lmD_lt | exact rows_lt | exact deeds_lt | exact pasts_lt | exact D.lts_ints _ | exact D.lts_strs _ | exact Fc.lt | exact Dd.lt | exact fcs_lt _ | exact nfs_lt _ | exact nf_lt | exact D.pl.lt (by assumption) | exact D.dp.lt (by assumption) | exact D.dps.lt (by assumption) | exact D.pls.lt (by assumption) | assumption | refine ⟨?_, ?_⟩))⟩)) | (obtain ⟨_, _, _, _, _, h, hr⟩ := h; subst h; (try (obtain ⟨_, hr⟩ := hr)); (try (obtain ⟨_, hr⟩ := hr)); (try (obtain ⟨_, hr⟩ := hr)); (try (obtain ⟨_, hr⟩ := hr)); (all_goals exact ⟨rfl, by (repeat' (first | trivial | exact lmD_lt | exact rows_lt | exact deeds_lt | exact pasts_lt | exact D.lts_ints _ | exact D.lts_strs _ | exact Fc.lt | exact Dd.lt | exact fcs_lt _ | exact nfs_lt _ | exact nf_lt | exact D.pl.lt (by assumption) | exact D.dp.lt (by assumption) | exact D.dps.lt (by assumption) | exact D.pls.lt (by assumption) | assumption | refine ⟨?_, ?_⟩))⟩)) | (obtain ⟨h, _⟩ := h; exact (by simp at h)))) fun cdv A outer s H E φ T0 W' room wl => ⟨_, (lss_cons (ls_set 1 (le_fx G__law_pull (room.mono (by decide)) (takes_of rfl rfl rfl rfl) wl (la_cons (lv 0) (la_cons (le_op oo_pow le_int le_int) la_nil))) sc__law_odd.nd)
    (lss_cons (ls_ret (le_ix ox_seq (le_lst (la_cons (le_neg le_int) (la_cons le_int (la_cons le_int (la_cons le_int (la_cons le_int (la_cons le_int (la_cons le_int (la_cons le_int (la_cons le_int (la_cons (lv 1) (la_cons (le_op oo_sub (le_neg le_int) (lv 1)) (la_cons (le_op oo_mulX (lv 1) (le_op oo_pow le_int le_int)) la_nil))))))))))))) (le_fx G__law_pull (room.mono (by decide)) (takes_of rfl rfl rfl rfl) wl (la_cons (lv 0) (la_cons le_int la_nil)))))
    lss_nil)), fun ds S R X n h hW => ?_⟩, T.m__law_odd, T.F__law_odd.kp, T.b__law_odd⟩
  obtain ⟨r, Q, E, h, rfl, rfl, rfl, rfl, rfl⟩ := h
  subst hW
  obtain ⟨rfl, q⟩ := h
  conv => whnf
  repeat (refine Need.mk ?_ ?_; exact nd; conv => whnf)
  refine ⟨_, rfl, ⟨by first | decide | omega, by first | decide | omega⟩, fun n h0 h1 => ?_⟩
  have h1 : n < 1000000000 := h1
  conv => whnf
  repeat (refine Need.mk ?_ ?_; exact nd; conv => whnf)
  refine ⟨_, rfl, ⟨by first | decide | omega, by first | decide | omega⟩, fun m h2 h3 => ?_⟩
  conv => whnf
  repeat (refine Need.mk ?_ ?_; exact nd; conv => whnf)
  obtain ⟨z, _, hz⟩ := atI_ints (ns := [-1, 0, 5, 6, 7, 15, 16, 999, 1000, n, -1 - n, n * 10 ^ 20]) h2 (by show m < 12; omega)
  refine optI hz ?_
  exact Rw (q z) trivial
def sp__law_shades (a : Ad) : SpP := fun ds Q _ => ∃ m : Int, ds = [.int m] ∧ 0 ≤ m ∧ m ≤ 40 ∧ ∀ ns : List Int, ns.length = m.toNat → goodN ns → Q (.tup (ns.map D.int))
theorem ok__law_shades (T : Txt K w mg a) (G__law_pull : Fx P w K mg base 1 a.a__law_pull a.d__law_pull "_law_pull" ["_law_draw", "_law_many"] (ld (sp__law_pull a))) : Fx P w K mg base 2 a.a__law_shades a.d__law_shades "_law_shades" ["_law_draw", "_law_many"] (ld (sp__law_shades a)) := by
  refine ⟨fn_W T.F__law_shades sc__law_shades (by (intro ds Q E h; first | (obtain ⟨h, hr⟩ := h; subst h; (try (obtain ⟨_, hr⟩ := hr)); (try (obtain ⟨_, hr⟩ := hr)); (try (obtain ⟨_, hr⟩ := hr)); (try (obtain ⟨_, hr⟩ := hr)); (all_goals exact ⟨rfl, by (repeat' (first | trivial | exact lmD_lt | exact rows_lt | exact deeds_lt | exact pasts_lt | exact D.lts_ints _ | exact D.lts_strs _ | exact Fc.lt | exact Dd.lt | exact fcs_lt _ | exact nfs_lt _ | exact nf_lt | exact D.pl.lt (by assumption) | exact D.dp.lt (by assumption) | exact D.dps.lt (by assumption) | exact D.pls.lt (by assumption) | assumption | refine ⟨?_, ?_⟩))⟩)) | (obtain ⟨_, h, hr⟩ := h; subst h; (try (obtain ⟨_, hr⟩ := hr)); (try (obtain ⟨_, hr⟩ := hr)); (try (obtain ⟨_, hr⟩ := hr)); (try (obtain ⟨_, hr⟩ := hr)); (all_goals exact ⟨rfl, by (repeat' (first | trivial | exact lmD_lt | exact rows_lt | exact deeds_lt | exact pasts_lt | exact D.lts_ints _ | exact D.lts_strs _ | exact Fc.lt | exact Dd.lt | exact fcs_lt _ | exact nfs_lt _ | exact nf_lt | exact D.pl.lt (by assumption) | exact D.dp.lt (by assumption) | exact D.dps.lt (by assumption) | exact D.pls.lt (by assumption) | assumption | refine ⟨?_, ?_⟩))⟩)) | (obtain ⟨_, _, h, hr⟩ := h; subst h; (try (obtain ⟨_, hr⟩ := hr)); (try (obtain ⟨_, hr⟩ := hr)); (try (obtain ⟨_, hr⟩ := hr)); (try (obtain ⟨_, hr⟩ := hr)); (all_goals exact ⟨rfl, by (repeat' (first | trivial | exact lmD_lt | exact rows_lt | exact deeds_lt | exact pasts_lt | exact D.lts_ints _ | exact D.lts_strs _ | exact Fc.lt | exact Dd.lt | exact fcs_lt _ | exact nfs_lt _ | exact nf_lt | exact D.pl.lt (by assumption) | exact D.dp.lt (by assumption) | exact D.dps.lt (by assumption) | exact D.pls.lt (by assumption) | assumption | refine ⟨?_, ?_⟩))⟩)) | (obtain ⟨_, _, _, h, hr⟩ := h; subst h; (try (obtain ⟨_, hr⟩ := hr)); (try (obtain ⟨_, hr⟩ := hr)); (try (obtain ⟨_, hr⟩ := hr)); (try (obtain ⟨_, hr⟩ := hr)); (all_goals exact ⟨rfl, by (repeat' (first | trivial | exact lmD_lt | exact rows_lt | exact deeds_lt | exact pasts_lt | exact D.lts_ints _ | exact D.lts_strs _ | exact Fc.lt | exact Dd.lt | exact fcs_lt _ | exact nfs_lt _ | exact nf_lt | exact D.pl.lt (by assumption) | exact D.dp.lt (by assumption) | exact D.dps.lt (by assumption) | exact D.pls.lt (by assumption) | assumption | refine ⟨?_, ?_⟩))⟩)) | (obtain ⟨_, _, _, _, h, hr⟩ := h; subst h; (try (obtain ⟨_, hr⟩ := hr)); (try (obtain ⟨_, hr⟩ := hr)); (try (obtain ⟨_, hr⟩ := hr)); (try (obtain ⟨_, hr⟩ := hr)); (all_goals exact ⟨rfl, by (repeat' (first | trivial | exact lmD_lt | exact rows_lt | exact deeds_lt | exact pasts_lt | exact D.lts_ints _ | exact D.lts_strs _ | exact Fc.lt | exact Dd.lt | exact fcs_lt _ | exact nfs_lt _ | exact nf_lt | exact D.pl.lt (by assumption) | exact D.dp.lt (by assumption) | exact D.dps.lt (by assumption) | exact D.pls.lt (by assumption) | assumption | refine ⟨?_, ?_⟩))⟩)) | (obtain ⟨_, _, _, _, _, h, hr⟩ := h; subst h; (try (obtain ⟨_, hr⟩ := hr)); (try (obtain ⟨_, hr⟩ := hr)); (try (obtain ⟨_, hr⟩ := hr)); (try (obtain ⟨_, hr⟩ := hr)); (all_goals exact ⟨rfl, by (repeat' (first | trivial | exact lmD_lt | exact rows_lt | exact deeds_lt | exact pasts_lt | exact D.lts_ints _ | exact D.lts_strs _ | exact Fc.lt | exact Dd.lt | exact fcs_lt _ | exact nfs_lt _ | exact nf_lt | exact D.pl.lt (by assumption) | exact D.dp.lt (by assumption) | exact D.dps.lt (by assumption) | exact D.pls.lt (by assumption) | assumption | refine ⟨?_, ?_⟩))⟩)) | (obtain ⟨h, _⟩ := h; exact (by simp at h)))) fun cdv A outer s H E φ T0 W' room wl => ⟨_, (lss_cons (ls_set 2 (le_ix ox_seq (le_tup (la_cons le_int (la_cons le_int la_nil))) (le_fx G__law_pull (room.mono (by decide)) (takes_of rfl rfl rfl rfl) wl (la_cons (lv 0) (la_cons le_int la_nil)))) sc__law_shades.nd)
    (lss_cons (ls_ret (le_callTy cc_tuple rfl T.n_tuple (by rfl) (la_cons (le_lc false [("_law_k", 3)] (.nm 3) rfl sc__law_shades.nd (li_rng1 rfl T.n_range (la_cons (lv 1) la_nil)) (by (conv => { arg 1; whnf }); (conv => { arg 2; whnf }); exact ⟨rfl, by decide +kernel, by decide +kernel, by decide +kernel, by decide +kernel⟩) (fun _ _ _ _ _ => (tg_nm 3 sc__law_shades.nd)) (fun _ _ _ _ _ => lts_nil) (fun _ _ _ _ _ => (le_fx G__law_pull (room.mono (by decide)) LamX.takes0 WL0 (la_cons (lv 0) (la_cons (lv 2) la_nil))))) la_nil)))
    lss_nil)), fun ds S R X n h hW => ?_⟩, T.m__law_shades, T.F__law_shades.kp, T.b__law_shades⟩
  obtain ⟨r, Q, E, h, rfl, rfl, rfl, rfl, rfl⟩ := h
  subst hW
  obtain ⟨m, rfl, h0, h1, q⟩ := h
  conv => whnf
  refine ⟨_, rfl, ⟨by first | decide | omega, by first | decide | omega⟩, fun n h2 h3 => ?_⟩
  conv => whnf
  obtain ⟨k, hk, ha⟩ : ∃ k : Int, (1 ≤ k ∧ k ≤ 7) ∧ L2.atI [D.int 3, D.int 7] n = some (.int k) := by
    have : n = 0 ∨ n = 1 := by omega
    rcases this with rfl | rfl
    · exact ⟨3, by decide, rfl⟩
    · exact ⟨7, by decide, rfl⟩
  refine optI ha ?_
  conv => whnf
  refine ⟨by omega, by omega, ?_⟩
  refine lc_inv (fun i acc => ∃ zs : List Int, acc = zs.map D.int ∧ zs.length = i ∧ goodN zs) ⟨[], rfl, rfl, fun _ h => nomatch h⟩ (by rw [rngD_len]; exact Nat.lt_of_le_of_lt (show m.toNat ≤ 40 by omega) (by decide)) (fun _ => trivial) ?_ ?_
  · rintro i x acc hi ⟨zs, rfl, hz, hg⟩
    obtain ⟨_, rfl⟩ := rngD_get hi
    refine ⟨_, rfl, ?_⟩
    conv => whnf
    refine ⟨_, rfl, ⟨by first | decide | omega, by first | decide | omega⟩, fun z h4 h5 => ?_⟩
    refine ⟨rfl, trivial, zs ++ [z], by simp, by simp [hz], ?_⟩
    intro y hy
    rcases List.mem_append.mp hy with hy | hy
    · exact hg y hy
    · rw [List.mem_singleton.mp hy]; omega
  · rintro acc ⟨zs, rfl, hz, hg⟩
    conv => whnf
    exact Rw (q zs (by rw [hz, rngD_len]) hg) (D.lts_ints _)
def sp_Coats_init (a : Ad) : SpI := fun ds Q E => ∃ (d : D), ds = [d] ∧ ∃ ns : List Int, (d = .lst (ns.map D.int) ∨ d = .tq ns) ∧ ns.length < 1000000 ∧ (goodN ns → Q [("seen", .tq ns)]) ∧ (¬ goodN ns → E a.c_BadShade [("called", .str "badshade")])
theorem pure_Coats_init {a : Ad} : PureI (sp_Coats_init a) := by
  rintro ds Q E ⟨d, rfl, ns, h1, h2, h3, h4⟩
  refine ⟨⟨by rcases h1 with rfl | rfl; exact D.lts_ints ns; exact trivial, trivial⟩, d, rfl, ns, h1, h2, fun g => ⟨⟨trivial, trivial⟩, h3 g⟩, fun g => ⟨⟨trivial, trivial⟩, h4 g⟩⟩
theorem good_all (ns : List Int) : (ns.map fun z => decide (0 ≤ z) && decide (z < 7)).all id = decide (goodN ns) := by
  rw [List.all_map, Bool.eq_iff_iff, List.all_eq_true]
  constructor
  · intro h
    refine decide_eq_true fun z hz => ?_
    have := h z hz
    simp at this
    omega
  · intro h z hz
    have := of_decide_eq_true h z hz
    simp
    omega
theorem ok_Coats_init (T : Txt K w mg a) (Z_BadShade : XcD P w K mg base "BadShade" a.c_BadShade a.a_BadShade_init a.d_BadShade_init ["self"] 0 (fl0 "badshade") (fd0 "badshade") [] []) : MkX P w K mg base 4 "Coats" a.c_Coats a.a_Coats_init a.d_Coats_init ["self", "shades"] (sp_Coats_init a) [] [] := by
  refine ⟨pure_Coats_init, T.mk_Coats, fn_I T.F_Coats_init sc_Coats_init (by (intro ds Q E h; first | (obtain ⟨h, _⟩ := h; subst h; rfl) | (obtain ⟨_, h, _⟩ := h; subst h; rfl) | (obtain ⟨_, _, h, _⟩ := h; subst h; rfl) | (obtain ⟨_, _, _, h, _⟩ := h; subst h; rfl) | (obtain ⟨_, _, _, _, h, _⟩ := h; subst h; rfl) | (obtain ⟨_, _, _, _, _, h, _⟩ := h; subst h; rfl))) fun cdv A outer s H E φ T0 W' room wl => ⟨_, (lss_cons (ls_if (lt_not (lt_truth (le_callB (cc_all rfl) rfl T.n_all (by rfl) (la_cons (le_lc false [("shade", 2)] (.nm 2) rfl sc_Coats_init.nd (li_any (lv 1)) (by (conv => { arg 1; whnf }); (conv => { arg 2; whnf }); exact ⟨rfl, by decide +kernel, by decide +kernel, by decide +kernel, by decide +kernel⟩) (fun _ _ _ _ _ => (tg_nm 2 sc_Coats_init.nd)) (fun _ _ _ _ _ => lts_nil) (fun _ _ _ _ _ => (le_chain oo_le oo_lt le_int (lv 2) (le_callB cc_len rfl T.n_len (by rfl) (la_cons (T.g_SIGNS.le rfl) la_nil))))) la_nil)))) (lss_cons (ls_rz0 Z_BadShade rfl (room.mono (by decide)) (takes_of rfl rfl rfl rfl) wl)
    lss_nil) lss_nil)
    (lss_consW [0, 1] (ls_fldC (C := a.c_Coats) T.o_Coats.is.cl T.na_Coats_seen (lv 0) (le_callTy cc_tupleQ rfl T.n_tuple (by rfl) (la_cons (lv 1) la_nil)))
    lss_nil)), fun ds S R X n h hW => ?_⟩, T.k_Coats, ⟨[], .nil, T.b_Coats_init⟩, RVc.nil⟩
  obtain ⟨r, Q, E, h, rfl, rfl, rfl, rfl, rfl⟩ := h
  subst hW
  obtain ⟨d, rfl, ns, hd, hn, h1, h2⟩ := h
  conv => whnf
  refine any_at (fun R' h => h) (xs := ns.map D.int) (fun S' => by rcases hd with rfl | rfl <;> rfl) fun keep hk => ?_
  refine lc_map (fun d => match d with | .int z => .bl (decide (0 ≤ z) && decide (z < 7)) | _ => .non) (by rw [List.length_map]; exact Nat.lt_trans hn (by decide)) (fun _ => hk _) ?_ ?_
  · intro i x acc hi
    obtain ⟨z, hz, rfl⟩ := int_at hi
    refine ⟨_, rfl, trivial, fun R r => ?_⟩
    conv => whnf
    repeat (refine Need.mk ?_ ?_; exact nd; conv => whnf)
    refine lif (fun hc => ?_) (fun hc => ?_)
    · conv => whnf
      repeat (refine Need.mk ?_ ?_; exact nd; conv => whnf)
      have hc : decide (0 ≤ z) = true := hc
      exact Eq.mp (by simp only [hc]; rfl) r
    · conv => whnf
      repeat (refine Need.mk ?_ ?_; exact nd; conv => whnf)
      have hc : decide (0 ≤ z) = false := hc
      exact Eq.mp (by simp only [hc]; rfl) r
  · conv => whnf
    repeat (refine Need.mk ?_ ?_; exact nd; conv => whnf)
    rw [List.map_map]
    refine optI (asBs_map (fun z => decide (0 ≤ z) && decide (z < 7)) ns) ?_
    conv => whnf
    repeat (refine Need.mk ?_ ?_; exact nd; conv => whnf)
    rw [good_all]
    refine bnd (fun hg => ?_) (fun hg => ?_)
    · rcases hd with rfl | rfl
      · conv => whnf
        repeat (refine Need.mk ?_ ?_; exact nd; conv => whnf)
        refine optI (asIs_ints ns) ?_
        conv => whnf
        repeat (refine Need.mk ?_ ?_; exact nd; conv => whnf)
        exact ⟨rfl, rfl, _, rfl, RsL.same ⟨trivial, trivial⟩, h1 hg⟩
      · conv => whnf
        repeat (refine Need.mk ?_ ?_; exact nd; conv => whnf)
        exact ⟨rfl, rfl, _, rfl, RsL.same ⟨trivial, trivial⟩, h1 hg⟩
    · conv => whnf
      repeat (refine Need.mk ?_ ?_; exact nd; conv => whnf)
      exact ⟨_, rfl, RsL.same ⟨trivial, trivial⟩, h2 hg⟩
def sp__law_made (a : Ad) : SpP := fun ds Q E => ∃ (d : D), ds = [d] ∧ D.lt 0 d ∧ ∃ ns : List Int, (d = .lst (ns.map D.int) ∨ d = .tq ns) ∧ ns.length < 1000000 ∧ (goodN ns → Q (ctq a.c_Coats ns)) ∧ (¬ goodN ns → E a.c_BadShade [("called", .str "badshade")])
theorem ok__law_made (T : Txt K w mg a) (I_Coats : MkX P w K mg base 4 "Coats" a.c_Coats a.a_Coats_init a.d_Coats_init ["self", "shades"] (sp_Coats_init a) [] []) : Fx P w K mg base 6 a.a__law_made a.d__law_made "_law_made" ["_law_shades_here"] (lp (sp__law_made a)) := by
  refine ⟨fn_P T.F__law_made sc__law_made (by (intro ds Q E h; first | (obtain ⟨h, hr⟩ := h; subst h; (try (obtain ⟨_, hr⟩ := hr)); (try (obtain ⟨_, hr⟩ := hr)); (try (obtain ⟨_, hr⟩ := hr)); (try (obtain ⟨_, hr⟩ := hr)); (all_goals exact ⟨rfl, by (repeat' (first | trivial | exact lmD_lt | exact rows_lt | exact deeds_lt | exact pasts_lt | exact D.lts_ints _ | exact D.lts_strs _ | exact Fc.lt | exact Dd.lt | exact fcs_lt _ | exact nfs_lt _ | exact nf_lt | exact D.pl.lt (by assumption) | exact D.dp.lt (by assumption) | exact D.dps.lt (by assumption) | exact D.pls.lt (by assumption) | assumption | refine ⟨?_, ?_⟩))⟩)) | (obtain ⟨_, h, hr⟩ := h; subst h; (try (obtain ⟨_, hr⟩ := hr)); (try (obtain ⟨_, hr⟩ := hr)); (try (obtain ⟨_, hr⟩ := hr)); (try (obtain ⟨_, hr⟩ := hr)); (all_goals exact ⟨rfl, by (repeat' (first | trivial | exact lmD_lt | exact rows_lt | exact deeds_lt | exact pasts_lt | exact D.lts_ints _ | exact D.lts_strs _ | exact Fc.lt | exact Dd.lt | exact fcs_lt _ | exact nfs_lt _ | exact nf_lt | exact D.pl.lt (by assumption) | exact D.dp.lt (by assumption) | exact D.dps.lt (by assumption) | exact D.pls.lt (by assumption) | assumption | refine ⟨?_, ?_⟩))⟩)) | (obtain ⟨_, _, h, hr⟩ := h; subst h; (try (obtain ⟨_, hr⟩ := hr)); (try (obtain ⟨_, hr⟩ := hr)); (try (obtain ⟨_, hr⟩ := hr)); (try (obtain ⟨_, hr⟩ := hr)); (all_goals exact ⟨rfl, by (repeat' (first | trivial | exact lmD_lt | exact rows_lt | exact deeds_lt | exact pasts_lt | exact D.lts_ints _ | exact D.lts_strs _ | exact Fc.lt | exact Dd.lt | exact fcs_lt _ | exact nfs_lt _ | exact nf_lt | exact D.pl.lt (by assumption) | exact D.dp.lt (by assumption) | exact D.dps.lt (by assumption) | exact D.pls.lt (by assumption) | assumption | refine ⟨?_, ?_⟩))⟩)) | (obtain ⟨_, _, _, h, hr⟩ := h; subst h; (try (obtain ⟨_, hr⟩ := hr)); (try (obtain ⟨_, hr⟩ := hr)); (try (obtain ⟨_, hr⟩ := hr)); (try (obtain ⟨_, hr⟩ := hr)); (all_goals exact ⟨rfl, by (repeat' (first | trivial | exact lmD_lt | exact rows_lt | exact deeds_lt | exact pasts_lt | exact D.lts_ints _ | exact D.lts_strs _ | exact Fc.lt | exact Dd.lt | exact fcs_lt _ | exact nfs_lt _ | exact nf_lt | exact D.pl.lt (by assumption) | exact D.dp.lt (by assumption) | exact D.dps.lt (by assumption) | exact D.pls.lt (by assumption) | assumption | refine ⟨?_, ?_⟩))⟩)) | (obtain ⟨_, _, _, _, h, hr⟩ := h; subst h; (try (obtain ⟨_, hr⟩ := hr)); (try (obtain ⟨_, hr⟩ := hr)); (try (obtain ⟨_, hr⟩ := hr)); (try (obtain ⟨_, hr⟩ := hr)); (all_goals exact ⟨rfl, by (repeat' (first | trivial | exact lmD_lt | exact rows_lt | exact deeds_lt | exact pasts_lt | exact D.lts_ints _ | exact D.lts_strs _ | exact Fc.lt | exact Dd.lt | exact fcs_lt _ | exact nfs_lt _ | exact nf_lt | exact D.pl.lt (by assumption) | exact D.dp.lt (by assumption) | exact D.dps.lt (by assumption) | exact D.pls.lt (by assumption) | assumption | refine ⟨?_, ?_⟩))⟩)) | (obtain ⟨_, _, _, _, _, h, hr⟩ := h; subst h; (try (obtain ⟨_, hr⟩ := hr)); (try (obtain ⟨_, hr⟩ := hr)); (try (obtain ⟨_, hr⟩ := hr)); (try (obtain ⟨_, hr⟩ := hr)); (all_goals exact ⟨rfl, by (repeat' (first | trivial | exact lmD_lt | exact rows_lt | exact deeds_lt | exact pasts_lt | exact D.lts_ints _ | exact D.lts_strs _ | exact Fc.lt | exact Dd.lt | exact fcs_lt _ | exact nfs_lt _ | exact nf_lt | exact D.pl.lt (by assumption) | exact D.dp.lt (by assumption) | exact D.dps.lt (by assumption) | exact D.pls.lt (by assumption) | assumption | refine ⟨?_, ?_⟩))⟩)) | (obtain ⟨h, _⟩ := h; exact (by simp at h)))) fun cdv A outer s H E φ T0 W' room wl => ⟨_, (lss_cons (ls_ret (le_mk I_Coats (room.mono (by decide)) (takes_of rfl rfl rfl rfl) wl (la_cons (lv 0) la_nil)))
    lss_nil), fun ds S R X n h hW => ?_⟩, T.m__law_made, T.F__law_made.kp, T.b__law_made⟩
  obtain ⟨Q, E, h, rfl, rfl, rfl, rfl⟩ := h
  subst hW
  obtain ⟨d, rfl, _, ns, hd, hn, h1, h2⟩ := h
  conv => whnf
  repeat (refine Need.mk ?_ ?_; exact nd; conv => whnf)
  refine ⟨d, rfl, ns, hd, hn, fun g => ?_, fun g => ?_⟩
  · conv => whnf
    repeat (refine Need.mk ?_ ?_; exact nd; conv => whnf)
    exact Rp (l := ⟨trivial, trivial⟩) (h1 g)
  · exact Xp (h2 g)
def sp_Coats_len (a : Ad) : SpP := fun ds Q E => ∃ ns : List Int, ds = [ctq a.c_Coats ns] ∧ Q (.int ns.length)
theorem ok_Coats_len (T : Txt K w mg a)  : Mx P w K mg base 1 a.c_Coats "__len__" a.a_Coats_len a.d_Coats_len ["self"] (lp (sp_Coats_len a)) [] [] := by
  refine ⟨fn_P T.F_Coats_len sc_Coats_len (by (intro ds Q E h; first | (obtain ⟨h, hr⟩ := h; subst h; (try (obtain ⟨_, hr⟩ := hr)); (try (obtain ⟨_, hr⟩ := hr)); (try (obtain ⟨_, hr⟩ := hr)); (try (obtain ⟨_, hr⟩ := hr)); (all_goals exact ⟨rfl, by (repeat' (first | trivial | exact lmD_lt | exact rows_lt | exact deeds_lt | exact pasts_lt | exact D.lts_ints _ | exact D.lts_strs _ | exact Fc.lt | exact Dd.lt | exact fcs_lt _ | exact nfs_lt _ | exact nf_lt | exact D.pl.lt (by assumption) | exact D.dp.lt (by assumption) | exact D.dps.lt (by assumption) | exact D.pls.lt (by assumption) | assumption | refine ⟨?_, ?_⟩))⟩)) | (obtain ⟨_, h, hr⟩ := h; subst h; (try (obtain ⟨_, hr⟩ := hr)); (try (obtain ⟨_, hr⟩ := hr)); (try (obtain ⟨_, hr⟩ := hr)); (try (obtain ⟨_, hr⟩ := hr)); (all_goals exact ⟨rfl, by (repeat' (first | trivial | exact lmD_lt | exact rows_lt | exact deeds_lt | exact pasts_lt | exact D.lts_ints _ | exact D.lts_strs _ | exact Fc.lt | exact Dd.lt | exact fcs_lt _ | exact nfs_lt _ | exact nf_lt | exact D.pl.lt (by assumption) | exact D.dp.lt (by assumption) | exact D.dps.lt (by assumption) | exact D.pls.lt (by assumption) | assumption | refine ⟨?_, ?_⟩))⟩)) | (obtain ⟨_, _, h, hr⟩ := h; subst h; (try (obtain ⟨_, hr⟩ := hr)); (try (obtain ⟨_, hr⟩ := hr)); (try (obtain ⟨_, hr⟩ := hr)); (try (obtain ⟨_, hr⟩ := hr)); (all_goals exact ⟨rfl, by (repeat' (first | trivial | exact lmD_lt | exact rows_lt | exact deeds_lt | exact pasts_lt | exact D.lts_ints _ | exact D.lts_strs _ | exact Fc.lt | exact Dd.lt | exact fcs_lt _ | exact nfs_lt _ | exact nf_lt | exact D.pl.lt (by assumption) | exact D.dp.lt (by assumption) | exact D.dps.lt (by assumption) | exact D.pls.lt (by assumption) | assumption | refine ⟨?_, ?_⟩))⟩)) | (obtain ⟨_, _, _, h, hr⟩ := h; subst h; (try (obtain ⟨_, hr⟩ := hr)); (try (obtain ⟨_, hr⟩ := hr)); (try (obtain ⟨_, hr⟩ := hr)); (try (obtain ⟨_, hr⟩ := hr)); (all_goals exact ⟨rfl, by (repeat' (first | trivial | exact lmD_lt | exact rows_lt | exact deeds_lt | exact pasts_lt | exact D.lts_ints _ | exact D.lts_strs _ | exact Fc.lt | exact Dd.lt | exact fcs_lt _ | exact nfs_lt _ | exact nf_lt | exact D.pl.lt (by assumption) | exact D.dp.lt (by assumption) | exact D.dps.lt (by assumption) | exact D.pls.lt (by assumption) | assumption | refine ⟨?_, ?_⟩))⟩)) | (obtain ⟨_, _, _, _, h, hr⟩ := h; subst h; (try (obtain ⟨_, hr⟩ := hr)); (try (obtain ⟨_, hr⟩ := hr)); (try (obtain ⟨_, hr⟩ := hr)); (try (obtain ⟨_, hr⟩ := hr)); (all_goals exact ⟨rfl, by (repeat' (first | trivial | exact lmD_lt | exact rows_lt | exact deeds_lt | exact pasts_lt | exact D.lts_ints _ | exact D.lts_strs _ | exact Fc.lt | exact Dd.lt | exact fcs_lt _ | exact nfs_lt _ | exact nf_lt | exact D.pl.lt (by assumption) | exact D.dp.lt (by assumption) | exact D.dps.lt (by assumption) | exact D.pls.lt (by assumption) | assumption | refine ⟨?_, ?_⟩))⟩)) | (obtain ⟨_, _, _, _, _, h, hr⟩ := h; subst h; (try (obtain ⟨_, hr⟩ := hr)); (try (obtain ⟨_, hr⟩ := hr)); (try (obtain ⟨_, hr⟩ := hr)); (try (obtain ⟨_, hr⟩ := hr)); (all_goals exact ⟨rfl, by (repeat' (first | trivial | exact lmD_lt | exact rows_lt | exact deeds_lt | exact pasts_lt | exact D.lts_ints _ | exact D.lts_strs _ | exact Fc.lt | exact Dd.lt | exact fcs_lt _ | exact nfs_lt _ | exact nf_lt | exact D.pl.lt (by assumption) | exact D.dp.lt (by assumption) | exact D.dps.lt (by assumption) | exact D.pls.lt (by assumption) | assumption | refine ⟨?_, ?_⟩))⟩)) | (obtain ⟨h, _⟩ := h; exact (by simp at h)))) fun cdv A outer s H E φ T0 W' room wl => ⟨_, (lss_cons (ls_ret (le_callB cc_len rfl T.n_len (by rfl) (la_cons (le_fldC (C := a.c_Coats) T.o_Coats.is.cl T.na_Coats_seen (lv 0)) la_nil)))
    lss_nil), fun ds S R X n h hW => ?_⟩, T.o_Coats.is.cl, T.i_Coats_len, ⟨[], .nil, T.b_Coats_len⟩, RVc.nil⟩
  obtain ⟨Q, E, h, rfl, rfl, rfl, rfl⟩ := h
  subst hW
  obtain ⟨ns, rfl, q⟩ := h
  conv => whnf
  repeat (refine Need.mk ?_ ?_; exact nd; conv => whnf)
  rw [List.length_map]
  exact Rp q
def sp_Coats_eq (a : Ad) : SpP := fun ds Q _ => ∃ (ns : List Int) (d : D), ds = [ctq a.c_Coats ns, d] ∧ D.lt 0 d ∧ ((∃ ms : List Int, d = ctq a.c_Coats ms ∧ Q (.bl ((D.tup (ns.map D.int)).eqd (.tup (ms.map D.int))))) ∨ (((∃ xs, d = .lst xs) ∨ (∃ xs, d = .tq xs) ∨ ∃ x, d = .str x) ∧ Q (.bl false)))
theorem ok_Coats_eq (T : Txt K w mg a)  : Mx P w K mg base 1 a.c_Coats "__eq__" a.a_Coats_eq a.d_Coats_eq ["self", "other"] (lp (sp_Coats_eq a)) [] [] := by
  refine ⟨fn_P T.F_Coats_eq sc_Coats_eq (by (intro ds Q E h; first | (obtain ⟨h, hr⟩ := h; subst h; (try (obtain ⟨_, hr⟩ := hr)); (try (obtain ⟨_, hr⟩ := hr)); (try (obtain ⟨_, hr⟩ := hr)); (try (obtain ⟨_, hr⟩ := hr)); (all_goals exact ⟨rfl, by (repeat' (first | trivial | exact lmD_lt | exact rows_lt | exact deeds_lt | exact pasts_lt | exact D.lts_ints _ | exact D.lts_strs _ | exact Fc.lt | exact Dd.lt | exact fcs_lt _ | exact nfs_lt _ | exact nf_lt | exact D.pl.lt (by assumption) | exact D.dp.lt (by assumption) | exact D.dps.lt (by assumption) | exact D.pls.lt (by assumption) | assumption | refine ⟨?_, ?_⟩))⟩)) | (obtain ⟨_, h, hr⟩ := h; subst h; (try (obtain ⟨_, hr⟩ := hr)); (try (obtain ⟨_, hr⟩ := hr)); (try (obtain ⟨_, hr⟩ := hr)); (try (obtain ⟨_, hr⟩ := hr)); (all_goals exact ⟨rfl, by (repeat' (first | trivial | exact lmD_lt | exact rows_lt | exact deeds_lt | exact pasts_lt | exact D.lts_ints _ | exact D.lts_strs _ | exact Fc.lt | exact Dd.lt | exact fcs_lt _ | exact nfs_lt _ | exact nf_lt | exact D.pl.lt (by assumption) | exact D.dp.lt (by assumption) | exact D.dps.lt (by assumption) | exact D.pls.lt (by assumption) | assumption | refine ⟨?_, ?_⟩))⟩)) | (obtain ⟨_, _, h, hr⟩ := h; subst h; (try (obtain ⟨_, hr⟩ := hr)); (try (obtain ⟨_, hr⟩ := hr)); (try (obtain ⟨_, hr⟩ := hr)); (try (obtain ⟨_, hr⟩ := hr)); (all_goals exact ⟨rfl, by (repeat' (first | trivial | exact lmD_lt | exact rows_lt | exact deeds_lt | exact pasts_lt | exact D.lts_ints _ | exact D.lts_strs _ | exact Fc.lt | exact Dd.lt | exact fcs_lt _ | exact nfs_lt _ | exact nf_lt | exact D.pl.lt (by assumption) | exact D.dp.lt (by assumption) | exact D.dps.lt (by assumption) | exact D.pls.lt (by assumption) | assumption | refine ⟨?_, ?_⟩))⟩)) | (obtain ⟨_, _, _, h, hr⟩ := h; subst h; (try (obtain ⟨_, hr⟩ := hr)); (try (obtain ⟨_, hr⟩ := hr)); (try (obtain ⟨_, hr⟩ := hr)); (try (obtain ⟨_, hr⟩ := hr)); (all_goals exact ⟨rfl, by (repeat' (first | trivial | exact lmD_lt | exact rows_lt | exact deeds_lt | exact pasts_lt | exact D.lts_ints _ | exact D.lts_strs _ | exact Fc.lt | exact Dd.lt | exact fcs_lt _ | exact nfs_lt _ | exact nf_lt | exact D.pl.lt (by assumption) | exact D.dp.lt (by assumption) | exact D.dps.lt (by assumption) | exact D.pls.lt (by assumption) | assumption | refine ⟨?_, ?_⟩))⟩)) | (obtain ⟨_, _, _, _, h, hr⟩ := h; subst h; (try (obtain ⟨_, hr⟩ := hr)); (try (obtain ⟨_, hr⟩ := hr)); (try (obtain ⟨_, hr⟩ := hr)); (try (obtain ⟨_, hr⟩ := hr)); (all_goals exact ⟨rfl, by (repeat' (first | trivial | exact lmD_lt | exact rows_lt | exact deeds_lt | exact pasts_lt | exact D.lts_ints _ | exact D.lts_strs _ | exact Fc.lt | exact Dd.lt | exact fcs_lt _ | exact nfs_lt _ | exact nf_lt | exact D.pl.lt (by assumption) | exact D.dp.lt (by assumption) | exact D.dps.lt (by assumption) | exact D.pls.lt (by assumption) | assumption | refine ⟨?_, ?_⟩))⟩)) | (obtain ⟨_, _, _, _, _, h, hr⟩ := h; subst h; (try (obtain ⟨_, hr⟩ := hr)); (try (obtain ⟨_, hr⟩ := hr)); (try (obtain ⟨_, hr⟩ := hr)); (try (obtain ⟨_, hr⟩ := hr)); (all_goals exact ⟨rfl, by (repeat' (first | trivial | exact lmD_lt | exact rows_lt | exact deeds_lt | exact pasts_lt | exact D.lts_ints _ | exact D.lts_strs _ | exact Fc.lt | exact Dd.lt | exact fcs_lt _ | exact nfs_lt _ | exact nf_lt | exact D.pl.lt (by assumption) | exact D.dp.lt (by assumption) | exact D.dps.lt (by assumption) | exact D.pls.lt (by assumption) | assumption | refine ⟨?_, ?_⟩))⟩)) | (obtain ⟨h, _⟩ := h; exact (by simp at h)))) fun cdv A outer s H E φ T0 W' room wl => ⟨_, (lss_cons (ls_ret (le_and (le_callB (cc_isiO T.o_Coats) rfl T.n_isinstance (by rfl) (la_cons (lv 1) (la_cons (le_glob (v := .ref a.c_Coats) (d := .adr a.c_Coats) rfl T.k_Coats rfl (fun _ _ => rfl)) la_nil))) (le_one (le_cmp (oo_eq room.units) (le_fldC (C := a.c_Coats) T.o_Coats.is.cl T.na_Coats_seen (lv 0)) (le_fldC (C := a.c_Coats) T.o_Coats.is.cl T.na_Coats_seen (lv 1)) (by rfl)))))
    lss_nil), fun ds S R X n h hW => ?_⟩, T.o_Coats.is.cl, T.i_Coats_eq, ⟨[], .nil, T.b_Coats_eq⟩, RVc.nil⟩
  obtain ⟨Q, E, h, rfl, rfl, rfl, rfl⟩ := h
  subst hW
  obtain ⟨ns, d, rfl, _, h⟩ := h
  rcases h with ⟨ms, rfl, q⟩ | ⟨hd, q⟩
  · conv => whnf
    repeat (refine Need.mk ?_ ?_; exact nd; conv => whnf)
    refine Need.mk ⟨D.pls_ints ns, D.pls_ints ms⟩ ?_
    conv => whnf
    repeat (refine Need.mk ?_ ?_; exact nd; conv => whnf)
    rw [if_neg (show ¬ (false = true) by decide)]
    exact Rp q
  · rcases hd with ⟨xs, rfl⟩ | ⟨xs, rfl⟩ | ⟨x, rfl⟩
    · conv => whnf
      repeat (refine Need.mk ?_ ?_; exact nd; conv => whnf)
      exact Rp q
    · conv => whnf
      repeat (refine Need.mk ?_ ?_; exact nd; conv => whnf)
      exact Rp q
    · conv => whnf
      repeat (refine Need.mk ?_ ?_; exact nd; conv => whnf)
      exact Rp q
def sp_Coats_str (a : Ad) : SpP := fun ds Q E => ∃ ns : List Int, ds = [ctq a.c_Coats ns] ∧ ns.length < 1000000 ∧ goodN ns ∧ Q (.str (strOf ns))
theorem ok_Coats_str (T : Txt K w mg a)  : Mx P w K mg base 1 a.c_Coats "__str__" a.a_Coats_str a.d_Coats_str ["self"] (lp (sp_Coats_str a)) [] [] := by
  refine ⟨fn_P T.F_Coats_str sc_Coats_str (by (intro ds Q E h; first | (obtain ⟨h, hr⟩ := h; subst h; (try (obtain ⟨_, hr⟩ := hr)); (try (obtain ⟨_, hr⟩ := hr)); (try (obtain ⟨_, hr⟩ := hr)); (try (obtain ⟨_, hr⟩ := hr)); (all_goals exact ⟨rfl, by (repeat' (first | trivial | exact lmD_lt | exact rows_lt | exact deeds_lt | exact pasts_lt | exact D.lts_ints _ | exact D.lts_strs _ | exact Fc.lt | exact Dd.lt | exact fcs_lt _ | exact nfs_lt _ | exact nf_lt | exact D.pl.lt (by assumption) | exact D.dp.lt (by assumption) | exact D.dps.lt (by assumption) | exact D.pls.lt (by assumption) | assumption | refine ⟨?_, ?_⟩))⟩)) | (obtain ⟨_, h, hr⟩ := h; subst h; (try (obtain ⟨_, hr⟩ := hr)); (try (obtain ⟨_, hr⟩ := hr)); (try (obtain ⟨_, hr⟩ := hr)); (try (obtain ⟨_, hr⟩ := hr)); (all_goals exact ⟨rfl, by (repeat' (first | trivial | exact lmD_lt | exact rows_lt | exact deeds_lt | exact pasts_lt | exact D.lts_ints _ | exact D.lts_strs _ | exact Fc.lt | exact Dd.lt | exact fcs_lt _ | exact nfs_lt _ | exact nf_lt | exact D.pl.lt (by assumption) | exact D.dp.lt (by assumption) | exact D.dps.lt (by assumption) | exact D.pls.lt (by assumption) | assumption | refine ⟨?_, ?_⟩))⟩)) | (obtain ⟨_, _, h, hr⟩ := h; subst h; (try (obtain ⟨_, hr⟩ := hr)); (try (obtain ⟨_, hr⟩ := hr)); (try (obtain ⟨_, hr⟩ := hr)); (try (obtain ⟨_, hr⟩ := hr)); (all_goals exact ⟨rfl, by (repeat' (first | trivial | exact lmD_lt | exact rows_lt | exact deeds_lt | exact pasts_lt | exact D.lts_ints _ | exact D.lts_strs _ | exact Fc.lt | exact Dd.lt | exact fcs_lt _ | exact nfs_lt _ | exact nf_lt | exact D.pl.lt (by assumption) | exact D.dp.lt (by assumption) | exact D.dps.lt (by assumption) | exact D.pls.lt (by assumption) | assumption | refine ⟨?_, ?_⟩))⟩)) | (obtain ⟨_, _, _, h, hr⟩ := h; subst h; (try (obtain ⟨_, hr⟩ := hr)); (try (obtain ⟨_, hr⟩ := hr)); (try (obtain ⟨_, hr⟩ := hr)); (try (obtain ⟨_, hr⟩ := hr)); (all_goals exact ⟨rfl, by (repeat' (first | trivial | exact lmD_lt | exact rows_lt | exact deeds_lt | exact pasts_lt | exact D.lts_ints _ | exact D.lts_strs _ | exact Fc.lt | exact Dd.lt | exact fcs_lt _ | exact nfs_lt _ | exact nf_lt | exact D.pl.lt (by assumption) | exact D.dp.lt (by assumption) | exact D.dps.lt (by assumption) | exact D.pls.lt (by assumption) | assumption | refine ⟨?_, ?_⟩))⟩)) | (obtain ⟨_, _, _, _, h, hr⟩ := h; subst h; (try (obtain ⟨_, hr⟩ := hr)); (try (obtain ⟨_, hr⟩ := hr)); (try (obtain ⟨_, hr⟩ := hr)); (try (obtain ⟨_, hr⟩ := hr)); (all_goals exact ⟨rfl, by (repeat' (first | trivial | exact lmD_lt | exact rows_lt | exact deeds_lt | exact pasts_lt | exact D.lts_ints _ | exact D.lts_strs _ | exact Fc.lt | exact Dd.lt | exact fcs_lt _ | exact nfs_lt _ | exact nf_lt | exact D.pl.lt (by assumption) | exact D.dp.lt (by assumption) | exact D.dps.lt (by assumption) | exact D.pls.lt (by assumption) | assumption | refine ⟨?_, ?_⟩))⟩)) | (obtain ⟨_, _, _, _, _, h, hr⟩ := h; subst h; (try (obtain ⟨_, hr⟩ := hr)); (try (obtain ⟨_, hr⟩ := hr)); (try (obtain ⟨_, hr⟩ := hr)); (try (obtain ⟨_, hr⟩ := hr)); (all_goals exact ⟨rfl, by (repeat' (first | trivial | exact lmD_lt | exact rows_lt | exact deeds_lt | exact pasts_lt | exact D.lts_ints _ | exact D.lts_strs _ | exact Fc.lt | exact Dd.lt | exact fcs_lt _ | exact nfs_lt _ | exact nf_lt | exact D.pl.lt (by assumption) | exact D.dp.lt (by assumption) | exact D.dps.lt (by assumption) | exact D.pls.lt (by assumption) | assumption | refine ⟨?_, ?_⟩))⟩)) | (obtain ⟨h, _⟩ := h; exact (by simp at h)))) fun cdv A outer s H E φ T0 W' room wl => ⟨_, (lss_cons (ls_ret (le_join le_str (le_lc false [("shade", 1)] (.nm 1) rfl sc_Coats_str.nd (li_tup (le_fldC (C := a.c_Coats) T.o_Coats.is.cl T.na_Coats_seen (lv 0))) (by (conv => { arg 1; whnf }); (conv => { arg 2; whnf }); exact ⟨rfl, by decide +kernel, by decide +kernel, by decide +kernel, by decide +kernel⟩) (fun _ _ _ _ _ => (tg_nm 1 sc_Coats_str.nd)) (fun _ _ _ _ _ => lts_nil) (fun _ _ _ _ _ => (le_ix ox_seq (T.g_SIGNS.le rfl) (lv 1))))))
    lss_nil), fun ds S R X n h hW => ?_⟩, T.o_Coats.is.cl, T.i_Coats_str, ⟨[], .nil, T.b_Coats_str⟩, RVc.nil⟩
  obtain ⟨Q, E, h, rfl, rfl, rfl, rfl⟩ := h
  subst hW
  obtain ⟨ns, rfl, hn, hg, q⟩ := h
  conv => whnf
  repeat (refine Need.mk ?_ ?_; exact nd; conv => whnf)
  refine lc_map (fun d => match d with | .int z => .str (sgS z) | _ => .non) (by rw [List.length_map]; exact Nat.lt_trans hn (by decide)) (fun _ => trivial) ?_ ?_
  · intro i x acc hi
    obtain ⟨z, hz, rfl⟩ := int_at hi
    refine ⟨_, rfl, trivial, fun R r => ?_⟩
    conv => whnf
    repeat (refine Need.mk ?_ ?_; exact nd; conv => whnf)
    refine optI (atI_SG (hg z (List.mem_of_getElem? hz))) ?_
    exact r
  · conv => whnf
    repeat (refine Need.mk ?_ ?_; exact nd; conv => whnf)
    rw [List.map_map]
    refine optI (asSs_map sgS ns) ?_
    refine ⟨?_, ?_⟩
    · have : (List.map (fun x => x.length) (List.map sgS ns)).sum = ns.length := by
        rw [List.map_map]
        exact sum_ones ns
      rw [this]
      show ns.length + _ * 0 ≤ _
      omega
    conv => whnf
    repeat (refine Need.mk ?_ ?_; exact nd; conv => whnf)
    rw [join_sgs]
    exact Rp q
def sp_Coats_repr (a : Ad) : SpP := fun ds Q E => ∃ ns : List Int, ds = [ctq a.c_Coats ns] ∧ ns.length ≤ 900 ∧ goodN ns ∧ Q (.str (("Coats(" : Str) ++ strOf ns ++ ")"))
theorem ok_Coats_repr (T : Txt K w mg a) (M_Coats_str : Mx P w K mg base 1 a.c_Coats "__str__" a.a_Coats_str a.d_Coats_str ["self"] (lp (sp_Coats_str a)) [] []) : Mx P w K mg base 4 a.c_Coats "__repr__" a.a_Coats_repr a.d_Coats_repr ["self"] (lp (sp_Coats_repr a)) [] [] := by
  refine ⟨fn_P T.F_Coats_repr sc_Coats_repr (by (intro ds Q E h; first | (obtain ⟨h, hr⟩ := h; subst h; (try (obtain ⟨_, hr⟩ := hr)); (try (obtain ⟨_, hr⟩ := hr)); (try (obtain ⟨_, hr⟩ := hr)); (try (obtain ⟨_, hr⟩ := hr)); (all_goals exact ⟨rfl, by (repeat' (first | trivial | exact lmD_lt | exact rows_lt | exact deeds_lt | exact pasts_lt | exact D.lts_ints _ | exact D.lts_strs _ | exact Fc.lt | exact Dd.lt | exact fcs_lt _ | exact nfs_lt _ | exact nf_lt | exact D.pl.lt (by assumption) | exact D.dp.lt (by assumption) | exact D.dps.lt (by assumption) | exact D.pls.lt (by assumption) | assumption | refine ⟨?_, ?_⟩))⟩)) | (obtain ⟨_, h, hr⟩ := h; subst h; (try (obtain ⟨_, hr⟩ := hr)); (try (obtain ⟨_, hr⟩ := hr)); (try (obtain ⟨_, hr⟩ := hr)); (try (obtain ⟨_, hr⟩ := hr)); (all_goals exact ⟨rfl, by (repeat' (first | trivial | exact lmD_lt | exact rows_lt | exact deeds_lt | exact pasts_lt | exact D.lts_ints _ | exact D.lts_strs _ | exact Fc.lt | exact Dd.lt | exact fcs_lt _ | exact nfs_lt _ | exact nf_lt | exact D.pl.lt (by assumption) | exact D.dp.lt (by assumption) | exact D.dps.lt (by assumption) | exact D.pls.lt (by assumption) | assumption | refine ⟨?_, ?_⟩))⟩)) | (obtain ⟨_, _, h, hr⟩ := h; subst h; (try (obtain ⟨_, hr⟩ := hr)); (try (obtain ⟨_, hr⟩ := hr)); (try (obtain ⟨_, hr⟩ := hr)); (try (obtain ⟨_, hr⟩ := hr)); (all_goals exact ⟨rfl, by (repeat' (first | trivial | exact lmD_lt | exact rows_lt | exact deeds_lt | exact pasts_lt | exact D.lts_ints _ | exact D.lts_strs _ | exact Fc.lt | exact Dd.lt | exact fcs_lt _ | exact nfs_lt _ | exact nf_lt | exact D.pl.lt (by assumption) | exact D.dp.lt (by assumption) | exact D.dps.lt (by assumption) | exact D.pls.lt (by assumption) | assumption | refine ⟨?_, ?_⟩))⟩)) | (obtain ⟨_, _, _, h, hr⟩ := h; subst h; (try (obtain ⟨_, hr⟩ := hr)); (try (obtain ⟨_, hr⟩ := hr)); (try (obtain ⟨_, hr⟩ := hr)); (try (obtain ⟨_, hr⟩ := hr)); (all_goals exact ⟨rfl, by (repeat' (first | trivial | exact lmD_lt | exact rows_lt | exact deeds_lt | exact pasts_lt | exact D.lts_ints _ | exact D.lts_strs _ | exact Fc.lt | exact Dd.lt | exact fcs_lt _ | exact nfs_lt _ | exact nf_lt | exact D.pl.lt (by assumption) | exact D.dp.lt (by assumption) | exact D.dps.lt (by assumption) | exact D.pls.lt (by assumption) | assumption | refine ⟨?_, ?_⟩))⟩)) | (obtain ⟨_, _, _, _, h, hr⟩ := h; subst h; (try (obtain ⟨_, hr⟩ := hr)); (try (obtain ⟨_, hr⟩ := hr)); (try (obtain ⟨_, hr⟩ := hr)); (try (obtain ⟨_, hr⟩ := hr)); (all_goals exact ⟨rfl, by (repeat' (first | trivial | exact lmD_lt | exact rows_lt | exact deeds_lt | exact pasts_lt | exact D.lts_ints _ | exact D.lts_strs _ | exact Fc.lt | exact Dd.lt | exact fcs_lt _ | exact nfs_lt _ | exact nf_lt | exact D.pl.lt (by assumption) | exact D.dp.lt (by assumption) | exact D.dps.lt (by assumption) | exact D.pls.lt (by assumption) | assumption | refine ⟨?_, ?_⟩))⟩)) | (obtain ⟨_, _, _, _, _, h, hr⟩ := h; subst h; (try (obtain ⟨_, hr⟩ := hr)); (try (obtain ⟨_, hr⟩ := hr)); (try (obtain ⟨_, hr⟩ := hr)); (try (obtain ⟨_, hr⟩ := hr)); (all_goals exact ⟨rfl, by (repeat' (first | trivial | exact lmD_lt | exact rows_lt | exact deeds_lt | exact pasts_lt | exact D.lts_ints _ | exact D.lts_strs _ | exact Fc.lt | exact Dd.lt | exact fcs_lt _ | exact nfs_lt _ | exact nf_lt | exact D.pl.lt (by assumption) | exact D.dp.lt (by assumption) | exact D.dps.lt (by assumption) | exact D.pls.lt (by assumption) | assumption | refine ⟨?_, ?_⟩))⟩)) | (obtain ⟨h, _⟩ := h; exact (by simp at h)))) fun cdv A outer s H E φ T0 W' room wl => ⟨_, (lss_cons (ls_ret (le_joined (.cons le_str (.cons (le_fmtO M_Coats_str (room.mono (by decide)) T.fm_Coats (lv 0)) (.cons le_str .nil)))))
    lss_nil), fun ds S R X n h hW => ?_⟩, T.o_Coats.is.cl, T.i_Coats_repr, ⟨[], .nil, T.b_Coats_repr⟩, RVc.nil⟩
  obtain ⟨Q, E, h, rfl, rfl, rfl, rfl⟩ := h
  subst hW
  obtain ⟨ns, rfl, hn, hg, q⟩ := h
  conv => whnf
  repeat (refine Need.mk ?_ ?_; exact nd; conv => whnf)
  refine ⟨ns, rfl, by omega, hg, ?_⟩
  have hl : (strOf ns).length = ns.length := by show (ns.map sgn).toArray.size = _; simp
  have h6 : (Str.empty ++ ("Coats(" : Str)).length = 6 := rfl
  conv => whnf
  refine Need.mk (by rw [Str.length_append, h6, hl]; exact leN (by omega)) ?_
  conv => whnf
  have h1 : (")" : Str).length = 1 := rfl
  refine Need.mk (by rw [Str.length_append, Str.length_append, h6, hl, h1]; exact leN (by omega)) ?_
  conv => whnf
  have e : Str.empty ++ ("Coats(" : Str) = "Coats(" := by decide +kernel
  rw [e]
  exact Rp q
def sp_Coats_shade (a : Ad) : SpP := fun ds Q E => ∃ (ns : List Int) (i : Int), ds = [ctq a.c_Coats ns, .int i] ∧ (∀ z, 0 ≤ i → ns[i.toNat]? = some z → Q (.int z)) ∧ (¬ (0 ≤ i ∧ i < ns.length) → E a.c_BadCoat [("called", .str "badcoat")])
theorem ok_Coats_shade (T : Txt K w mg a) (Z_BadCoat : XcD P w K mg base "BadCoat" a.c_BadCoat a.a_BadCoat_init a.d_BadCoat_init ["self"] 0 (fl0 "badcoat") (fd0 "badcoat") [] []) : Mx P w K mg base 4 a.c_Coats "shade" a.a_Coats_shade a.d_Coats_shade ["self", "at"] (lp (sp_Coats_shade a)) [] [] := by
  refine ⟨fn_P T.F_Coats_shade sc_Coats_shade (by (intro ds Q E h; first | (obtain ⟨h, hr⟩ := h; subst h; (try (obtain ⟨_, hr⟩ := hr)); (try (obtain ⟨_, hr⟩ := hr)); (try (obtain ⟨_, hr⟩ := hr)); (try (obtain ⟨_, hr⟩ := hr)); (all_goals exact ⟨rfl, by (repeat' (first | trivial | exact lmD_lt | exact rows_lt | exact deeds_lt | exact pasts_lt | exact D.lts_ints _ | exact D.lts_strs _ | exact Fc.lt | exact Dd.lt | exact fcs_lt _ | exact nfs_lt _ | exact nf_lt | exact D.pl.lt (by assumption) | exact D.dp.lt (by assumption) | exact D.dps.lt (by assumption) | exact D.pls.lt (by assumption) | assumption | refine ⟨?_, ?_⟩))⟩)) | (obtain ⟨_, h, hr⟩ := h; subst h; (try (obtain ⟨_, hr⟩ := hr)); (try (obtain ⟨_, hr⟩ := hr)); (try (obtain ⟨_, hr⟩ := hr)); (try (obtain ⟨_, hr⟩ := hr)); (all_goals exact ⟨rfl, by (repeat' (first | trivial | exact lmD_lt | exact rows_lt | exact deeds_lt | exact pasts_lt | exact D.lts_ints _ | exact D.lts_strs _ | exact Fc.lt | exact Dd.lt | exact fcs_lt _ | exact nfs_lt _ | exact nf_lt | exact D.pl.lt (by assumption) | exact D.dp.lt (by assumption) | exact D.dps.lt (by assumption) | exact D.pls.lt (by assumption) | assumption | refine ⟨?_, ?_⟩))⟩)) | (obtain ⟨_, _, h, hr⟩ := h; subst h; (try (obtain ⟨_, hr⟩ := hr)); (try (obtain ⟨_, hr⟩ := hr)); (try (obtain ⟨_, hr⟩ := hr)); (try (obtain ⟨_, hr⟩ := hr)); (all_goals exact ⟨rfl, by (repeat' (first | trivial | exact lmD_lt | exact rows_lt | exact deeds_lt | exact pasts_lt | exact D.lts_ints _ | exact D.lts_strs _ | exact Fc.lt | exact Dd.lt | exact fcs_lt _ | exact nfs_lt _ | exact nf_lt | exact D.pl.lt (by assumption) | exact D.dp.lt (by assumption) | exact D.dps.lt (by assumption) | exact D.pls.lt (by assumption) | assumption | refine ⟨?_, ?_⟩))⟩)) | (obtain ⟨_, _, _, h, hr⟩ := h; subst h; (try (obtain ⟨_, hr⟩ := hr)); (try (obtain ⟨_, hr⟩ := hr)); (try (obtain ⟨_, hr⟩ := hr)); (try (obtain ⟨_, hr⟩ := hr)); (all_goals exact ⟨rfl, by (repeat' (first | trivial | exact lmD_lt | exact rows_lt | exact deeds_lt | exact pasts_lt | exact D.lts_ints _ | exact D.lts_strs _ | exact Fc.lt | exact Dd.lt | exact fcs_lt _ | exact nfs_lt _ | exact nf_lt | exact D.pl.lt (by assumption) | exact D.dp.lt (by assumption) | exact D.dps.lt (by assumption) | exact D.pls.lt (by assumption) | assumption | refine ⟨?_, ?_⟩))⟩)) | (obtain ⟨_, _, _, _, h, hr⟩ := h; subst h; (try (obtain ⟨_, hr⟩ := hr)); (try (obtain ⟨_, hr⟩ := hr)); (try (obtain ⟨_, hr⟩ := hr)); (try (obtain ⟨_, hr⟩ := hr)); (all_goals exact ⟨rfl, by (repeat' (first | trivial | exact lmD_lt | exact rows_lt | exact deeds_lt | exact pasts_lt | exact D.lts_ints _ | exact D.lts_strs _ | exact Fc.lt | exact Dd.lt | exact fcs_lt _ | exact nfs_lt _ | exact nf_lt | exact D.pl.lt (by assumption) | exact D.dp.lt (by assumption) | exact D.dps.lt (by assumption) | exact D.pls.lt (by assumption) | assumption | refine ⟨?_, ?_⟩))⟩)) | (obtain ⟨_, _, _, _, _, h, hr⟩ := h; subst h; (try (obtain ⟨_, hr⟩ := hr)); (try (obtain ⟨_, hr⟩ := hr)); (try (obtain ⟨_, hr⟩ := hr)); (try (obtain ⟨_, hr⟩ := hr)); (all_goals exact ⟨rfl, by (repeat' (first | trivial | exact lmD_lt | exact rows_lt | exact deeds_lt | exact pasts_lt | exact D.lts_ints _ | exact D.lts_strs _ | exact Fc.lt | exact Dd.lt | exact fcs_lt _ | exact nfs_lt _ | exact nf_lt | exact D.pl.lt (by assumption) | exact D.dp.lt (by assumption) | exact D.dps.lt (by assumption) | exact D.pls.lt (by assumption) | assumption | refine ⟨?_, ?_⟩))⟩)) | (obtain ⟨h, _⟩ := h; exact (by simp at h)))) fun cdv A outer s H E φ T0 W' room wl => ⟨_, (lss_cons (ls_if (LW.t (lw_or (lt_cmp oo_lt (lv 1) le_int (by rfl)) (lw_or1 (lt_cmp oo_ge (lv 1) (le_callB cc_len rfl T.n_len (by rfl) (la_cons (le_fldC (C := a.c_Coats) T.o_Coats.is.cl T.na_Coats_seen (lv 0)) la_nil)) (by rfl))))) (lss_cons (ls_rz0 Z_BadCoat rfl (room.mono (by decide)) (takes_of rfl rfl rfl rfl) wl)
    lss_nil) lss_nil)
    (lss_cons (ls_ret (le_ix ox_seq (le_fldC (C := a.c_Coats) T.o_Coats.is.cl T.na_Coats_seen (lv 0)) (lv 1)))
    lss_nil)), fun ds S R X n h hW => ?_⟩, T.o_Coats.is.cl, T.i_Coats_shade, ⟨[], .nil, T.b_Coats_shade⟩, RVc.nil⟩
  obtain ⟨Q, E, h, rfl, rfl, rfl, rfl⟩ := h
  subst hW
  obtain ⟨ns, i, rfl, h1, h2⟩ := h
  conv => whnf
  repeat (refine Need.mk ?_ ?_; exact nd; conv => whnf)
  refine brd (fun hc => ?_) (fun hc => ?_)
  · conv => whnf
    repeat (refine Need.mk ?_ ?_; exact nd; conv => whnf)
    exact Xp (h2 fun h => by (have hc : i < 0 := hc; omega))
  · conv => whnf
    repeat (refine Need.mk ?_ ?_; exact nd; conv => whnf)
    refine brd (fun hd => ?_) (fun hd => ?_)
    · conv => whnf
      repeat (refine Need.mk ?_ ?_; exact nd; conv => whnf)
      have hd : ((ns.map D.int).length : Int) ≤ i := hd
      rw [List.length_map] at hd
      exact Xp (h2 fun h => by omega)
    · conv => whnf
      repeat (refine Need.mk ?_ ?_; exact nd; conv => whnf)
      have hc : ¬ i < 0 := hc
      have hd : ¬ ((ns.map D.int).length : Int) ≤ i := hd
      rw [List.length_map] at hd
      have hl : i.toNat < ns.length := by omega
      refine optI (atI_get (by omega) (show (ns.map D.int)[i.toNat]? = some (.int ns[i.toNat]) by simp [List.getElem?_eq_getElem hl])) ?_
      conv => whnf
      repeat (refine Need.mk ?_ ?_; exact nd; conv => whnf)
      exact Rp (h1 _ (by omega) (List.getElem?_eq_getElem hl))
def sp_Coats_unread (a : Ad) : SpP := fun ds Q E => ∃ ns : List Int, ds = [ctq a.c_Coats ns] ∧ Q (.int (ns.count 0 : Nat))
theorem ok_Coats_unread (T : Txt K w mg a)  : Mx P w K mg base 1 a.c_Coats "unread" a.a_Coats_unread a.d_Coats_unread ["self"] (lp (sp_Coats_unread a)) [] [] := by
  refine ⟨fn_P T.F_Coats_unread sc_Coats_unread (by (intro ds Q E h; first | (obtain ⟨h, hr⟩ := h; subst h; (try (obtain ⟨_, hr⟩ := hr)); (try (obtain ⟨_, hr⟩ := hr)); (try (obtain ⟨_, hr⟩ := hr)); (try (obtain ⟨_, hr⟩ := hr)); (all_goals exact ⟨rfl, by (repeat' (first | trivial | exact lmD_lt | exact rows_lt | exact deeds_lt | exact pasts_lt | exact D.lts_ints _ | exact D.lts_strs _ | exact Fc.lt | exact Dd.lt | exact fcs_lt _ | exact nfs_lt _ | exact nf_lt | exact D.pl.lt (by assumption) | exact D.dp.lt (by assumption) | exact D.dps.lt (by assumption) | exact D.pls.lt (by assumption) | assumption | refine ⟨?_, ?_⟩))⟩)) | (obtain ⟨_, h, hr⟩ := h; subst h; (try (obtain ⟨_, hr⟩ := hr)); (try (obtain ⟨_, hr⟩ := hr)); (try (obtain ⟨_, hr⟩ := hr)); (try (obtain ⟨_, hr⟩ := hr)); (all_goals exact ⟨rfl, by (repeat' (first | trivial | exact lmD_lt | exact rows_lt | exact deeds_lt | exact pasts_lt | exact D.lts_ints _ | exact D.lts_strs _ | exact Fc.lt | exact Dd.lt | exact fcs_lt _ | exact nfs_lt _ | exact nf_lt | exact D.pl.lt (by assumption) | exact D.dp.lt (by assumption) | exact D.dps.lt (by assumption) | exact D.pls.lt (by assumption) | assumption | refine ⟨?_, ?_⟩))⟩)) | (obtain ⟨_, _, h, hr⟩ := h; subst h; (try (obtain ⟨_, hr⟩ := hr)); (try (obtain ⟨_, hr⟩ := hr)); (try (obtain ⟨_, hr⟩ := hr)); (try (obtain ⟨_, hr⟩ := hr)); (all_goals exact ⟨rfl, by (repeat' (first | trivial | exact lmD_lt | exact rows_lt | exact deeds_lt | exact pasts_lt | exact D.lts_ints _ | exact D.lts_strs _ | exact Fc.lt | exact Dd.lt | exact fcs_lt _ | exact nfs_lt _ | exact nf_lt | exact D.pl.lt (by assumption) | exact D.dp.lt (by assumption) | exact D.dps.lt (by assumption) | exact D.pls.lt (by assumption) | assumption | refine ⟨?_, ?_⟩))⟩)) | (obtain ⟨_, _, _, h, hr⟩ := h; subst h; (try (obtain ⟨_, hr⟩ := hr)); (try (obtain ⟨_, hr⟩ := hr)); (try (obtain ⟨_, hr⟩ := hr)); (try (obtain ⟨_, hr⟩ := hr)); (all_goals exact ⟨rfl, by (repeat' (first | trivial | exact lmD_lt | exact rows_lt | exact deeds_lt | exact pasts_lt | exact D.lts_ints _ | exact D.lts_strs _ | exact Fc.lt | exact Dd.lt | exact fcs_lt _ | exact nfs_lt _ | exact nf_lt | exact D.pl.lt (by assumption) | exact D.dp.lt (by assumption) | exact D.dps.lt (by assumption) | exact D.pls.lt (by assumption) | assumption | refine ⟨?_, ?_⟩))⟩)) | (obtain ⟨_, _, _, _, h, hr⟩ := h; subst h; (try (obtain ⟨_, hr⟩ := hr)); (try (obtain ⟨_, hr⟩ := hr)); (try (obtain ⟨_, hr⟩ := hr)); (try (obtain ⟨_, hr⟩ := hr)); (all_goals exact ⟨rfl, by (repeat' (first | trivial | exact lmD_lt | exact rows_lt | exact deeds_lt | exact pasts_lt | exact D.lts_ints _ | exact D.lts_strs _ | exact Fc.lt | exact Dd.lt | exact fcs_lt _ | exact nfs_lt _ | exact nf_lt | exact D.pl.lt (by assumption) | exact D.dp.lt (by assumption) | exact D.dps.lt (by assumption) | exact D.pls.lt (by assumption) | assumption | refine ⟨?_, ?_⟩))⟩)) | (obtain ⟨_, _, _, _, _, h, hr⟩ := h; subst h; (try (obtain ⟨_, hr⟩ := hr)); (try (obtain ⟨_, hr⟩ := hr)); (try (obtain ⟨_, hr⟩ := hr)); (try (obtain ⟨_, hr⟩ := hr)); (all_goals exact ⟨rfl, by (repeat' (first | trivial | exact lmD_lt | exact rows_lt | exact deeds_lt | exact pasts_lt | exact D.lts_ints _ | exact D.lts_strs _ | exact Fc.lt | exact Dd.lt | exact fcs_lt _ | exact nfs_lt _ | exact nf_lt | exact D.pl.lt (by assumption) | exact D.dp.lt (by assumption) | exact D.dps.lt (by assumption) | exact D.pls.lt (by assumption) | assumption | refine ⟨?_, ?_⟩))⟩)) | (obtain ⟨h, _⟩ := h; exact (by simp at h)))) fun cdv A outer s H E φ T0 W' room wl => ⟨_, (lss_cons (ls_ret (le_tcount (le_fldC (C := a.c_Coats) T.o_Coats.is.cl T.na_Coats_seen (lv 0)) (la_cons le_int la_nil)))
    lss_nil), fun ds S R X n h hW => ?_⟩, T.o_Coats.is.cl, T.i_Coats_unread, ⟨[], .nil, T.b_Coats_unread⟩, RVc.nil⟩
  obtain ⟨Q, E, h, rfl, rfl, rfl, rfl⟩ := h
  subst hW
  obtain ⟨ns, rfl, q⟩ := h
  conv => whnf
  repeat (refine Need.mk ?_ ?_; exact nd; conv => whnf)
  exact Rp q

theorem ok_law (T : Txt K w mg a) (G__law_open : Fx P w K mg base 1 a.a__law_open a.d__law_open "_law_open" ["_law_script"] (sp__law_open a)) (G__law_pull : Fx P w K mg base 1 a.a__law_pull a.d__law_pull "_law_pull" ["_law_draw", "_law_many"] (ld (sp__law_pull a))) (G__law_shades : Fx P w K mg base 2 a.a__law_shades a.d__law_shades "_law_shades" ["_law_draw", "_law_many"] (ld (sp__law_shades a))) (G__law_odd : Fx P w K mg base 2 a.a__law_odd a.d__law_odd "_law_odd" ["_law_draw"] (ld (sp__law_odd a))) (G__law_made : Fx P w K mg base 6 a.a__law_made a.d__law_made "_law_made" ["_law_shades_here"] (lp (sp__law_made a))) (M_Coats_repr : Mx P w K mg base 4 a.c_Coats "__repr__" a.a_Coats_repr a.d_Coats_repr ["self"] (lp (sp_Coats_repr a)) [] []) (M_Coats_str : Mx P w K mg base 1 a.c_Coats "__str__" a.a_Coats_str a.d_Coats_str ["self"] (lp (sp_Coats_str a)) [] []) (M_Coats_unread : Mx P w K mg base 1 a.c_Coats "unread" a.a_Coats_unread a.d_Coats_unread ["self"] (lp (sp_Coats_unread a)) [] []) (M_Coats_len : Mx P w K mg base 1 a.c_Coats "__len__" a.a_Coats_len a.d_Coats_len ["self"] (lp (sp_Coats_len a)) [] []) (G__law_like : Fx P w K mg base 12 a.a__law_like a.d__law_like "_law_like" ["_law_found", "_law_due"] (lp (sp__law_like a))) (M_Coats_shade : Mx P w K mg base 4 a.c_Coats "shade" a.a_Coats_shade a.d_Coats_shade ["self", "at"] (lp (sp_Coats_shade a)) [] []) (M_Coats_eq : Mx P w K mg base 1 a.c_Coats "__eq__" a.a_Coats_eq a.d_Coats_eq ["self", "other"] (lp (sp_Coats_eq a)) [] []) (I_Coats : MkX P w K mg base 4 "Coats" a.c_Coats a.a_Coats_init a.d_Coats_init ["self", "shades"] (sp_Coats_init a) [] []) (W : ∀ X : Cx, X.prog = P → X.w = w → X.K = K → X.mg = mg → WhyOk X "_law_why" "_law_ask" a.a__law_why a.c_LimeError X.env.qual) (TB : LamX.TabB base mg a.code a.tab) : FnOk P w K mg base (L2.CX P w) 17 a.a_law a.d_law ["_law_script"] (upFT K (T0of a) spLaw) := by
  refine FunC.ok conv_S T.F_law sc_law (fun ds S Q E ⟨_, h, _⟩ => by rw [h]; rfl) fun A outer s H E φ W' room wl => ⟨_, (lss_consW [0] (ls_set 1 (le_fx G__law_open (room.mono (by decide)) (takes_of rfl rfl rfl rfl) wl (la_cons (lv 0) la_nil)) sc_law.nd)
    (lss_consW [1, 2, 3, 4, 5, 6, 7, 8, 9, 10, 11, 12, 13, 14, 15] (ls_for (passes_of rfl) rfl (li_rng1 rfl T.n_range (la_cons le_int la_nil)) (lg_name (i := 2) sc_law.nd rfl)
    (lss_consM (ls_set 3 (le_if (lt_cmp (oo_eq room.units) (le_fx G__law_pull (room.mono (by decide)) (takes_of rfl rfl rfl rfl) wl (la_cons (lv 1) (la_cons le_int la_nil))) le_int (by rfl)) le_int (le_fx G__law_pull (room.mono (by decide)) (takes_of rfl rfl rfl rfl) wl (la_cons (lv 1) (la_cons le_int la_nil)))) sc_law.nd)
    (lss_w [2] (lss_consW [3] (ls_set 4 (le_callTy cc_listM rfl T.n_list (by rfl) (la_cons (le_fx G__law_shades (room.mono (by decide)) (takes_of rfl rfl rfl rfl) wl (la_cons (lv 1) (la_cons (lv 3) la_nil))) la_nil)) sc_law.nd)
    (lss_consM (ls_if (lt_cmp (oo_eq room.units) (le_fx G__law_pull (room.mono (by decide)) (takes_of rfl rfl rfl rfl) wl (la_cons (lv 1) (la_cons le_int la_nil))) le_int (by rfl)) (lss_cons (ls_set 5 (le_fx G__law_pull (room.mono (by decide)) (takes_of rfl rfl rfl rfl) wl (la_cons (lv 1) (la_cons (le_op oo_add (le_callB cc_len rfl T.n_len (by rfl) (la_cons (lv 4) la_nil)) le_int) la_nil))) sc_law.nd)
    (lss_consW [5] (ls_expr (le_bm PySem.F.plainAttrs_list PySem.F.slot_list_insert PySem.F.type_list_insert mm_insert (lv 4) (la_cons (lv 5) (la_cons (le_ix ox_seq (le_lst (la_cons le_int (la_cons (le_neg le_int) (la_cons (le_fx G__law_odd (room.mono (by decide)) (takes_of rfl rfl rfl rfl) wl (la_cons (lv 1) la_nil)) la_nil)))) (le_fx G__law_pull (room.mono (by decide)) (takes_of rfl rfl rfl rfl) wl (la_cons (lv 1) (la_cons le_int la_nil)))) la_nil))))
    lss_nil)) lss_nil)
    (lss_w [5] (lss_fz (lss_consM (ls_set 6 (le_ix ox_seq (le_lst (la_cons (le_callTy cc_listM rfl T.n_list (by rfl) (la_cons (lv 4) la_nil)) (la_cons (le_callTy cc_tupleQ rfl T.n_tuple (by rfl) (la_cons (lv 4) la_nil)) la_nil))) (le_fx G__law_pull (room.mono (by decide)) (takes_of rfl rfl rfl rfl) wl (la_cons (lv 1) (la_cons le_int la_nil)))) sc_law.nd)
    (lss_cons (ls_asg (le_why (lv := 14) (W _ rfl rfl rfl rfl) rfl TB rfl (List.mem_singleton.mpr rfl) (fun p hp _ => by rw [List.mem_singleton.mp hp]; rfl) (room.mono (by decide)) (by (conv => { arg 1; whnf }); exact ⟨rfl, rfl, rfl, by decide +kernel, by decide +kernel⟩) rfl (by intros; rfl) (fun A1 o1 s1 H1 E1 f1 c1 B1 W1 room1 wl1 => (le_fx (G__law_made.lend (by (intro ds Q E h; first | (obtain ⟨h, hr⟩ := h; subst h; (try (obtain ⟨_, hr⟩ := hr)); (try (obtain ⟨_, hr⟩ := hr)); (try (obtain ⟨_, hr⟩ := hr)); (try (obtain ⟨_, hr⟩ := hr)); exact by (repeat' (first | trivial | exact lmD_lt | exact rows_lt | exact deeds_lt | exact pasts_lt | exact D.lts_ints _ | exact D.lts_strs _ | exact Fc.lt | exact Dd.lt | exact fcs_lt _ | exact nfs_lt _ | exact nf_lt | exact D.pl.lt (by assumption) | exact D.dp.lt (by assumption) | exact D.dps.lt (by assumption) | exact D.pls.lt (by assumption) | assumption | refine ⟨?_, ?_⟩))) | (obtain ⟨_, h, hr⟩ := h; subst h; (try (obtain ⟨_, hr⟩ := hr)); (try (obtain ⟨_, hr⟩ := hr)); (try (obtain ⟨_, hr⟩ := hr)); (try (obtain ⟨_, hr⟩ := hr)); exact by (repeat' (first | trivial | exact lmD_lt | exact rows_lt | exact deeds_lt | exact pasts_lt | exact D.lts_ints _ | exact D.lts_strs _ | exact Fc.lt | exact Dd.lt | exact fcs_lt _ | exact nfs_lt _ | exact nf_lt | exact D.pl.lt (by assumption) | exact D.dp.lt (by assumption) | exact D.dps.lt (by assumption) | exact D.pls.lt (by assumption) | assumption | refine ⟨?_, ?_⟩))) | (obtain ⟨_, _, h, hr⟩ := h; subst h; (try (obtain ⟨_, hr⟩ := hr)); (try (obtain ⟨_, hr⟩ := hr)); (try (obtain ⟨_, hr⟩ := hr)); (try (obtain ⟨_, hr⟩ := hr)); exact by (repeat' (first | trivial | exact lmD_lt | exact rows_lt | exact deeds_lt | exact pasts_lt | exact D.lts_ints _ | exact D.lts_strs _ | exact Fc.lt | exact Dd.lt | exact fcs_lt _ | exact nfs_lt _ | exact nf_lt | exact D.pl.lt (by assumption) | exact D.dp.lt (by assumption) | exact D.dps.lt (by assumption) | exact D.pls.lt (by assumption) | assumption | refine ⟨?_, ?_⟩))) | (obtain ⟨_, _, _, h, hr⟩ := h; subst h; (try (obtain ⟨_, hr⟩ := hr)); (try (obtain ⟨_, hr⟩ := hr)); (try (obtain ⟨_, hr⟩ := hr)); (try (obtain ⟨_, hr⟩ := hr)); exact by (repeat' (first | trivial | exact lmD_lt | exact rows_lt | exact deeds_lt | exact pasts_lt | exact D.lts_ints _ | exact D.lts_strs _ | exact Fc.lt | exact Dd.lt | exact fcs_lt _ | exact nfs_lt _ | exact nf_lt | exact D.pl.lt (by assumption) | exact D.dp.lt (by assumption) | exact D.dps.lt (by assumption) | exact D.pls.lt (by assumption) | assumption | refine ⟨?_, ?_⟩))) | (obtain ⟨_, _, _, _, h, hr⟩ := h; subst h; (try (obtain ⟨_, hr⟩ := hr)); (try (obtain ⟨_, hr⟩ := hr)); (try (obtain ⟨_, hr⟩ := hr)); (try (obtain ⟨_, hr⟩ := hr)); exact by (repeat' (first | trivial | exact lmD_lt | exact rows_lt | exact deeds_lt | exact pasts_lt | exact D.lts_ints _ | exact D.lts_strs _ | exact Fc.lt | exact Dd.lt | exact fcs_lt _ | exact nfs_lt _ | exact nf_lt | exact D.pl.lt (by assumption) | exact D.dp.lt (by assumption) | exact D.dps.lt (by assumption) | exact D.pls.lt (by assumption) | assumption | refine ⟨?_, ?_⟩))) | (obtain ⟨_, _, _, _, _, h, hr⟩ := h; subst h; (try (obtain ⟨_, hr⟩ := hr)); (try (obtain ⟨_, hr⟩ := hr)); (try (obtain ⟨_, hr⟩ := hr)); (try (obtain ⟨_, hr⟩ := hr)); exact by (repeat' (first | trivial | exact lmD_lt | exact rows_lt | exact deeds_lt | exact pasts_lt | exact D.lts_ints _ | exact D.lts_strs _ | exact Fc.lt | exact Dd.lt | exact fcs_lt _ | exact nfs_lt _ | exact nf_lt | exact D.pl.lt (by assumption) | exact D.dp.lt (by assumption) | exact D.dps.lt (by assumption) | exact D.pls.lt (by assumption) | assumption | refine ⟨?_, ?_⟩)))))) (room1.mono (by decide)) takes_lam wl1 (la_cons (lv 6) la_nil)))) (lg_T (t := (.tp [(.nm 7), (.nm 8)])) (tg_tp rfl (tg_cons (tg_nm 7 sc_law.nd) (tg_cons (tg_nm 8 sc_law.nd) tg_nil)))))
    (lss_cons (ls_set 9 (le_callB (cc_all rfl) rfl T.n_all (by rfl) (la_cons (le_lc false [("_law_shade", 16)] (.nm 16) rfl sc_law.nd (li_list (lv 4)) (by (conv => { arg 1; whnf }); (conv => { arg 2; whnf }); exact ⟨rfl, by decide +kernel, by decide +kernel, by decide +kernel, by decide +kernel⟩) (fun _ _ _ _ _ => (tg_nm 16 sc_law.nd)) (fun _ _ _ _ _ => lts_nil) (fun _ _ _ _ _ => (le_chain oo_le oo_le le_int (lv 16) le_int))) la_nil)) sc_law.nd)
    (lss_consW [8] (ls_if (LW.t (lw_or (lt_cmp (oo_ne room.units) (lv 8) (le_if (lt_truth (lv 9)) le_str le_str) (by rfl)) (lw_or1 (lt_cmp (oo_ne room.units) (le_callTy cc_list rfl T.n_list (by rfl) (la_cons (lv 6) la_nil)) (lv 4) (by rfl))))) (lss_cons (ls_ret le_bl)
    lss_nil) lss_nil)
    (lss_consM (ls_if (lt_truth (le_callB cc_isiB rfl T.n_isinstance (by rfl) (la_cons (lv 6) (la_cons (le_ty rfl T.n_list (by rfl)) la_nil)))) (lss_cons (ls_expr (le_bm PySem.F.plainAttrs_list PySem.F.slot_list_append PySem.F.type_list_append mm_append (lv 6) (la_cons le_int la_nil)))
    (lss_consW [6] (ls_asg (le_op oo_sub le_int (le_callB (cc_min2 rfl) rfl T.n_min (by rfl) (la_cons le_int (la_cons (le_callB (cc_max2 rfl) rfl T.n_max (by rfl) (la_cons le_int (la_cons (le_ix ox_seq (lv 6) le_int) la_nil))) la_nil)))) (lg_sub (lv 6) le_int st_list))
    lss_nil)) lss_nil)
    (lss_w [6] (lss_consW [4, 7, 9, 10, 11, 12, 13, 14, 15] (ls_if (lt_truth (lv 9)) (lss_consW [9] (ls_set 10 (le_join le_str (le_lc false [("_law_shade", 16)] (.nm 16) rfl sc_law.nd (li_list (lv 4)) (by (conv => { arg 1; whnf }); (conv => { arg 2; whnf }); exact ⟨rfl, by decide +kernel, by decide +kernel, by decide +kernel, by decide +kernel⟩) (fun _ _ _ _ _ => (tg_nm 16 sc_law.nd)) (fun _ _ _ _ _ => lts_nil) (fun _ _ _ _ _ => (le_ix ox_seq le_str (lv 16))))) sc_law.nd)
    (lss_cons (ls_set 11 (le_lst (la_cons (le_callB (cc_lenO M_Coats_len (room.mono (by decide))) rfl T.n_len (by rfl) (la_cons (lv 7) la_nil)) (la_cons (le_mx0 M_Coats_unread (room.mono (by decide)) (takes_of rfl rfl rfl rfl) wl (lv 7)) (la_cons (le_callTy (cc_strO M_Coats_str (room.mono (by decide))) rfl T.n_str (by rfl) (la_cons (lv 7) la_nil)) (la_cons (le_callB (cc_reprO M_Coats_repr (room.mono (by decide))) rfl T.n_repr (by rfl) (la_cons (lv 7) la_nil)) la_nil))))) sc_law.nd)
    (lss_consW [11] (ls_if (lt_not (lt_truth (le_fx G__law_like (room.mono (by decide)) (takes_of rfl rfl rfl rfl) wl (la_cons (lv 11) (la_cons (le_lst (la_cons (le_callB cc_len rfl T.n_len (by rfl) (la_cons (lv 4) la_nil)) (la_cons (le_bm PySem.F.plainAttrs_list PySem.F.slot_list_count PySem.F.type_list_count mm_count (lv 4) (la_cons le_int la_nil)) (la_cons (lv 10) (la_cons (le_op oo_add (le_op oo_add le_str (lv 10)) le_str) la_nil))))) la_nil))))) (lss_cons (ls_ret le_bl)
    lss_nil) lss_nil)
    (lss_consW [12, 13] (ls_for (passes_of rfl) rfl (li_list (le_lst (la_cons le_int (la_cons (le_op oo_sub (le_callB cc_len rfl T.n_len (by rfl) (la_cons (lv 4) la_nil)) le_int) (la_cons (le_callB cc_len rfl T.n_len (by rfl) (la_cons (lv 4) la_nil)) (la_cons (le_neg le_int) (la_cons (le_fx G__law_odd (room.mono (by decide)) (takes_of rfl rfl rfl rfl) wl (la_cons (lv 1) la_nil)) la_nil))))))) (lg_name (i := 12) sc_law.nd rfl)
    (lss_consM (ls_set 13 (le_if (lt_chain oo_le oo_lt le_int (lv 12) (le_callB cc_len rfl T.n_len (by rfl) (la_cons (lv 4) la_nil))) (le_tup (la_cons (le_ix ox_seq (lv 4) (lv 12)) (la_cons le_str la_nil))) (le_tup (la_cons le_non (la_cons le_str la_nil)))) sc_law.nd)
    (lss_consW [12, 13] (ls_if (lt_not (lt_truth (le_fx G__law_like (room.mono (by decide)) (takes_of rfl rfl rfl rfl) wl (la_cons (le_why (lv := 14) (W _ rfl rfl rfl rfl) rfl TB rfl (List.mem_singleton.mpr rfl) (fun p hp _ => by rw [List.mem_singleton.mp hp]; rfl) (room.mono (by decide)) (by (conv => { arg 1; whnf }); exact ⟨rfl, rfl, rfl, by decide +kernel, by decide +kernel⟩) rfl (by intros; rfl) (fun A1 o1 s1 H1 E1 f1 c1 B1 W1 room1 wl1 => (le_mx M_Coats_shade (room1.mono (by decide)) takes_lam wl1 (lv 7) (la_cons (lv 12) la_nil)))) (la_cons (lv 13) la_nil))))) (lss_cons (ls_ret le_bl)
    lss_nil) lss_nil)
    lss_nil)))
    (lss_cons (ls_set 14 (le_lst (la_cons (le_cmp (oo_eqO M_Coats_eq (room.mono (by decide))) (lv 7) (le_mk I_Coats (room.mono (by decide)) (takes_of rfl rfl rfl rfl) wl (la_cons (lv 4) la_nil)) (by rfl)) (la_cons (le_cmp (oo_eqO M_Coats_eq (room.mono (by decide))) (lv 7) (le_mk I_Coats (room.mono (by decide)) (takes_of rfl rfl rfl rfl) wl (la_cons (le_op oo_add (lv 4) (le_lst (la_cons le_int la_nil))) la_nil)) (by rfl)) (la_cons (le_cmp (oo_eqO M_Coats_eq (room.mono (by decide))) (lv 7) (lv 4) (by rfl)) la_nil)))) sc_law.nd)
    (lss_consW [10] (ls_set 14 (le_op oo_add (lv 14) (le_lst (la_cons (le_cmp (oo_eqO M_Coats_eq (room.mono (by decide))) (lv 7) (le_callTy cc_tupleQ rfl T.n_tuple (by rfl) (la_cons (lv 4) la_nil)) (by rfl)) (la_cons (le_cmp (oo_eqO M_Coats_eq (room.mono (by decide))) (lv 7) (lv 10) (by rfl)) la_nil)))) sc_law.nd)
    (lss_consW [14] (ls_if (lt_not (lt_truth (le_fx G__law_like (room.mono (by decide)) (takes_of rfl rfl rfl rfl) wl (la_cons (lv 14) (la_cons (le_lst (la_cons le_bl (la_cons le_bl (la_cons le_bl (la_cons le_bl (la_cons le_bl la_nil)))))) la_nil))))) (lss_cons (ls_ret le_bl)
    lss_nil) lss_nil)
    (lss_consM (ls_set 15 (le_op oo_add (le_lc false [("_law_shade", 16)] (.nm 16) rfl sc_law.nd (li_list (le_slice (lv 4) lp_none (lp_some le_int))) (by (conv => { arg 1; whnf }); (conv => { arg 2; whnf }); exact ⟨rfl, by decide +kernel, by decide +kernel, by decide +kernel, by decide +kernel⟩) (fun _ _ _ _ _ => (tg_nm 16 sc_law.nd)) (fun _ _ _ _ _ => lts_nil) (fun _ _ _ _ _ => (le_op oo_mod (le_op oo_add (lv 16) le_int) le_int))) (le_slice (lv 4) (lp_some le_int) lp_none)) sc_law.nd)
    (lss_consW [4, 7, 15] (ls_if (LW.t (lw_and (lt_cmp (oo_ne room.units) (lv 4) (le_lst la_nil) (by rfl)) (lw_and1 (lt_not (lt_truth (le_fx G__law_like (room.mono (by decide)) (takes_of rfl rfl rfl rfl) wl (la_cons (le_cmp (oo_eqO M_Coats_eq (room.mono (by decide))) (lv 7) (le_mk I_Coats (room.mono (by decide)) (takes_of rfl rfl rfl rfl) wl (la_cons (lv 15) la_nil)) (by rfl)) (la_cons le_bl la_nil)))))))) (lss_cons (ls_ret le_bl)
    lss_nil) lss_nil)
    lss_nil))))))))) lss_nil)
    lss_nil))))))))))))))
    (lss_cons (ls_ret le_bl)
    lss_nil))), fun ds S R X n h hW => ?_⟩
  obtain ⟨Q, E, ⟨ns, rfl, rfl, hlen, hbits, q⟩, hlt, rfl, rfl, rfl⟩ := h
  subst hW
  conv => whnf
  repeat (refine Need.mk ?_ ?_; exact nd; conv => whnf)
  refine ⟨ns, rfl, hlen, rfl, ?_⟩
  conv => whnf
  repeat (refine Need.mk ?_ ?_; exact nd; conv => whnf)
  refine ⟨by decide, by decide, ?_⟩
  refine ⟨fun i s' S' => S' = [.drw] ∧ ∃ z16 : Option D, s' = [none, some (.ref 0), none, none, none, none, none, none, none, none, none, none, none, none, none, none, z16], ⟨rfl, _, rfl⟩, fun _ _ _ _ _ => trivial, ?_, ?_⟩
  · rintro i x s' S' hi ⟨rfl, z16, rfl⟩
    obtain ⟨_, rfl⟩ := rngD_get hi
    clear hi
    conv => whnf
    repeat (refine Need.mk ?_ ?_; exact nd; conv => whnf)
    refine sM (fun s' S' => S' = [.drw] ∧ ∃ (m : Int) (t : Option D), 0 ≤ m ∧ m ≤ 40 ∧ s' = [none, some (.ref 0), t, some (.int m), none, none, none, none, none, none, none, none, none, none, none, none, z16]) ?_ ?_
    · conv => whnf
      repeat (refine Need.mk ?_ ?_; exact nd; conv => whnf)
      refine ⟨_, rfl, ⟨by first | decide | omega, by first | decide | omega⟩, fun m m0 m1 => ?_⟩
      conv => whnf
      repeat (refine Need.mk ?_ ?_; exact nd; conv => whnf)
      rw [if_neg (show ¬ (false = true) by decide), seqI]
      refine brd (fun hm => ?_) (fun hm => ?_)
      · conv => whnf
        repeat (refine Need.mk ?_ ?_; exact nd; conv => whnf)
        exact ⟨rfl, 40, _, by decide, by decide, rfl⟩
      · conv => whnf
        repeat (refine Need.mk ?_ ?_; exact nd; conv => whnf)
        refine ⟨_, rfl, ⟨by first | decide | omega, by first | decide | omega⟩, fun m2 m3 m4 => ?_⟩
        conv => whnf
        repeat (refine Need.mk ?_ ?_; exact nd; conv => whnf)
        exact ⟨rfl, m2, _, by omega, by omega, rfl⟩
    · rintro s' S' ⟨rfl, m, t, m0, m1, rfl⟩
      conv => whnf
      repeat (refine Need.mk ?_ ?_; exact nd; conv => whnf)
      refine ⟨m, rfl, m0, m1, fun us ul ug => ?_⟩
      conv => whnf
      repeat (refine Need.mk ?_ ?_; exact nd; conv => whnf)
      refine sM (fun s' S' => ∃ (ws : List Int), ws.length ≤ 41 ∧ S' = [.drw, .lst (ws.map D.int)] ∧ s' = [none, some (.ref 0), none, none, some (.ref 1), none, none, none, none, none, none, none, none, none, none, none, z16]) ?_ ?_
      · conv => whnf
        repeat (refine Need.mk ?_ ?_; exact nd; conv => whnf)
        refine ⟨_, rfl, ⟨by first | decide | omega, by first | decide | omega⟩, fun n n0 n1 => ?_⟩
        conv => whnf
        repeat (refine Need.mk ?_ ?_; exact nd; conv => whnf)
        rw [if_neg (show ¬ (false = true) by decide), seqI]
        refine brd (fun hm => ?_) (fun hm => ?_)
        · conv => whnf
          repeat (refine Need.mk ?_ ?_; exact nd; conv => whnf)
          rw [List.length_map]
          refine ⟨_, rfl, ⟨by first | decide | omega, by first | decide | omega⟩, fun p p0 p1 => ?_⟩
          conv => whnf
          repeat (refine Need.mk ?_ ?_; exact nd; conv => whnf)
          refine ⟨rfl, fun z => ?_⟩
          conv => whnf
          repeat (refine Need.mk ?_ ?_; exact nd; conv => whnf)
          refine ⟨_, rfl, ⟨by first | decide | omega, by first | decide | omega⟩, fun j j0 j1 => ?_⟩
          conv => whnf
          repeat (refine Need.mk ?_ ?_; exact nd; conv => whnf)
          obtain ⟨y, _, hy⟩ := atI_ints (ns := [7, -1, z]) j0 (by show j < 3; omega)
          refine optI hy ?_
          conv => whnf
          repeat (refine Need.mk ?_ ?_; exact nd; conv => whnf)
          refine Need.mk ⟨by rw [List.length_map]; exact ltN (by omega), p0, by omega⟩ ?_
          conv => whnf
          repeat (refine Need.mk ?_ ?_; exact nd; conv => whnf)
          refine ⟨us.take p.toNat ++ [y] ++ us.drop p.toNat, ?_, ?_, rfl⟩
          · rw [List.length_append, List.length_append, List.length_take, List.length_drop]
            show _ + 1 + _ ≤ _
            omega
          · rw [List.map_append, List.map_append, List.map_take, List.map_drop]
            rfl
        · conv => whnf
          repeat (refine Need.mk ?_ ?_; exact nd; conv => whnf)
          exact ⟨us, by omega, rfl, rfl⟩
      · rintro s' S' ⟨ws, wl', rfl, rfl⟩
        conv => whnf
        repeat (refine Need.mk ?_ ?_; exact nd; conv => whnf)
        refine ⟨1, [none, some (.ref 0), none, none, some (.lst (ws.map D.int)), none, none, none, none, none, none, none, none, none, none, none, none], [.drw], Nat.le_refl _, by show 1 ≤ 2; decide, ⟨_, _, rfl, _, _, rfl, ⟨rfl, by decide⟩, _, _, rfl, _, _, rfl, _, _, rfl, Rs.ofL' (k := 1) (Nat.le_refl _) rfl (D.lts_ints ws), _, _, rfl, _, _, rfl, _, _, rfl, _, _, rfl, _, _, rfl, _, _, rfl, _, _, rfl, _, _, rfl, _, _, rfl, _, _, rfl, _, _, rfl, _, _, rfl, rfl⟩, ⟨_, _, rfl, trivial, rfl⟩, ?_⟩
        conv => whnf
        repeat (refine Need.mk ?_ ?_; exact nd; conv => whnf)
        refine sM (fun s' S' => S' = [.drw, .lst (ws.map D.int)] ∧ ∃ (d : D), (d = .ref 1 ∨ d = .tq ws) ∧ s' = [none, some (.ref 0), none, none, some (.lst (ws.map D.int)), none, some d, none, none, none, none, none, none, none, none, none, none]) ?_ ?_
        · conv => whnf
          repeat (refine Need.mk ?_ ?_; exact nd; conv => whnf)
          refine optI (asIs_ints ws) ?_
          conv => whnf
          repeat (refine Need.mk ?_ ?_; exact nd; conv => whnf)
          refine ⟨_, rfl, ⟨by first | decide | omega, by first | decide | omega⟩, fun j j0 j1 => ?_⟩
          conv => whnf
          repeat (refine Need.mk ?_ ?_; exact nd; conv => whnf)
          obtain ⟨d, hd, he⟩ : ∃ d, (d = .ref 1 ∨ d = .tq ws) ∧ L2.atI [D.ref 1, D.tq ws] j = some d := by
            have hj : j = 0 ∨ j = 1 := by omega
            rcases hj with rfl | rfl
            · exact ⟨_, .inl rfl, rfl⟩
            · exact ⟨_, .inr rfl, rfl⟩
          refine optI he ?_
          exact ⟨rfl, _, hd, rfl⟩
        · rintro s' S' ⟨rfl, d, hd, rfl⟩
          have hlend : lendD [.drw, .lst (ws.map D.int)] d = .lst (ws.map D.int) ∨ lendD [.drw, .lst (ws.map D.int)] d = .tq ws := by
            rcases hd with rfl | rfl
            · exact .inl rfl
            · exact .inr rfl
          have hlend : ∃ d1, lendDs [.drw, .lst (ws.map D.int)] ([d] ++ []) = [d1] ∧ D.lt 0 d1 ∧ (d1 = .lst (ws.map D.int) ∨ d1 = .tq ws) := by
            rcases hd with rfl | rfl
            · exact ⟨_, rfl, D.lts_ints ws, .inl rfl⟩
            · exact ⟨_, rfl, trivial, .inr rfl⟩
          obtain ⟨d1, hl1, hl2, hl3⟩ := hlend
          have hit : itemsOf [O.drw, O.lst (ws.map D.int)] d = some (ws.map D.int) := by
            rcases hd with rfl | rfl <;> rfl
          have heq : (D.see [O.drw, O.lst (ws.map D.int)] (D.lst (ws.map D.int))).eqd (D.see [O.drw, O.lst (ws.map D.int)] (D.lst (ws.map D.int))) = true := D.eqd_self (d := D.lst (ws.map D.int)) (n := 40) (D.pls_ints ws)
          by_cases g : goodN ws
          · conv => whnf
            repeat (refine Need.mk ?_ ?_; exact nd; conv => whnf)
            refine ⟨d1, hl1, hl2, ws, hl3, by omega, fun _ => ?_, fun h => absurd g h⟩
            conv => whnf
            repeat (refine Need.mk ?_ ?_; exact nd; conv => whnf)
            refine ⟨⟨trivial, trivial⟩, ?_⟩
            conv => whnf
            repeat (refine Need.mk ?_ ?_; exact nd; conv => whnf)
            refine ⟨_, rfl, ?_⟩
            conv => whnf
            repeat (refine Need.mk ?_ ?_; exact nd; conv => whnf)
            refine lc_map (fun d => match d with | .int z => .bl (decide (0 ≤ z) && decide (z ≤ 6)) | _ => .non) (by rw [List.length_map]; exact ltN (by omega)) (fun _ => rfl) ?_ ?_
            · intro i x acc hi
              obtain ⟨z, hz, rfl⟩ := int_at hi
              refine ⟨_, rfl, trivial, fun R r => ?_⟩
              conv => whnf
              repeat (refine Need.mk ?_ ?_; exact nd; conv => whnf)
              refine lif (fun hc => ?_) (fun hc => ?_)
              · conv => whnf
                repeat (refine Need.mk ?_ ?_; exact nd; conv => whnf)
                have hc : decide (0 ≤ z) = true := hc
                exact Eq.mp (by simp only [hc]; rfl) r
              · conv => whnf
                repeat (refine Need.mk ?_ ?_; exact nd; conv => whnf)
                have hc : decide (0 ≤ z) = false := hc
                exact Eq.mp (by simp only [hc]; rfl) r
            conv => whnf
            repeat (refine Need.mk ?_ ?_; exact nd; conv => whnf)
            rw [List.map_map]
            refine optI (asBs_map (fun z => decide (0 ≤ z) && decide (z ≤ 6)) ws) ?_
            conv => whnf
            repeat (refine Need.mk ?_ ?_; exact nd; conv => whnf)
            rw [good_all6]
            rw [decide_eq_true g]
            conv => whnf
            repeat (refine Need.mk ?_ ?_; exact nd; conv => whnf)
            refine optI hit ?_
            conv => whnf
            repeat (refine Need.mk ?_ ?_; exact nd; conv => whnf)
            refine Need.mk ⟨D.pls_ints ws, D.pls_ints ws⟩ ?_
            conv => whnf
            repeat (refine Need.mk ?_ ?_; exact nd; conv => whnf)
            rw [if_pos (show true = true by rfl), heq]
            conv => whnf
            repeat (refine Need.mk ?_ ?_; exact nd; conv => whnf)
            refine sM (fun s' S' => ∃ (xs : List D) (t6 : Option D), S' = [.drw, .lst xs] ∧ s' = [none, some (.ref 0), none, none, some (.lst (ws.map D.int)), none, t6, some (ctq a.c_Coats ws), none, some (.bl true), none, none, none, none, none, none, none]) ?_ ?_
            · conv => whnf
              repeat (refine Need.mk ?_ ?_; exact nd; conv => whnf)
              rcases hd with rfl | rfl
              · conv => whnf
                repeat (refine Need.mk ?_ ?_; exact nd; conv => whnf)
                refine Need.mk (by rw [List.length_map]; exact ltN (by omega)) ?_
                conv => whnf
                repeat (refine Need.mk ?_ ?_; exact nd; conv => whnf)
                obtain ⟨y, _, hy⟩ := atI_ints (ns := ws ++ [3]) (show (0 : Int) ≤ 0 by decide) (by rw [List.length_append]; show (0 : Int) < ((ws.length + 1 : Nat) : Int); omega)
                refine optI (x := D.int y) (by rw [List.map_append] at hy; exact hy) ?_
                conv => whnf
                repeat (refine Need.mk ?_ ?_; exact nd; conv => whnf)
                refine optI (ixN_is (show (0 : Int) ≤ 0 by decide) (by show (0 : Int) < ((ws.map D.int ++ [D.int 3]).length : Int); rw [List.length_append]; show (0 : Int) < (((ws.map D.int).length + 1 : Nat) : Int); omega)) ?_
                conv => whnf
                repeat (refine Need.mk ?_ ?_; exact nd; conv => whnf)
                exact ⟨_, _, rfl, rfl⟩
              · conv => whnf
                repeat (refine Need.mk ?_ ?_; exact nd; conv => whnf)
                exact ⟨_, _, rfl, rfl⟩
            · rintro s' S' ⟨xs, t6, rfl, rfl⟩
              conv => whnf
              repeat (refine Need.mk ?_ ?_; exact nd; conv => whnf)
              refine lc_map (fun d => match d with | .int z => .str (sgS z) | _ => .non) (by rw [List.length_map]; exact ltN (by omega)) (fun _ => rfl) ?_ ?_
              · intro i x acc hi
                obtain ⟨z, hz, rfl⟩ := int_at hi
                refine ⟨_, rfl, trivial, fun R r => ?_⟩
                conv => whnf
                repeat (refine Need.mk ?_ ?_; exact nd; conv => whnf)
                refine optI (atI_SG (g z (List.mem_of_getElem? hz))) ?_
                exact r
              conv => whnf
              repeat (refine Need.mk ?_ ?_; exact nd; conv => whnf)
              rw [List.map_map]
              refine optI (asSs_map sgS ws) ?_
              conv => whnf
              repeat (refine Need.mk ?_ ?_; exact nd; conv => whnf)
              refine Need.mk ?_ ?_
              · have : (List.map (fun x => x.length) (List.map sgS ws)).sum = ws.length := by
                  rw [List.map_map]
                  exact sum_ones ws
                rw [this]
                show ws.length + _ * 0 ≤ _
                omega
              conv => whnf
              repeat (refine Need.mk ?_ ?_; exact nd; conv => whnf)
              rw [join_sgs]
              have sl : (strOf ws).length = ws.length := by show (ws.map sgn).toArray.size = _; simp
              conv => whnf
              refine ⟨ws, rfl, ?_⟩
              conv => whnf
              refine Need.mk ⟨by omega, by omega⟩ ?_
              conv => whnf
              refine Need.mk ⟨rfl, rfl⟩ ?_
              conv => whnf
              refine ⟨ws, rfl, ?_⟩
              conv => whnf
              refine Need.mk rfl ?_
              conv => whnf
              refine ⟨ws, rfl, by omega, g, ?_⟩
              conv => whnf
              refine Need.mk rfl ?_
              conv => whnf
              refine ⟨ws, rfl, by omega, g, ?_⟩
              conv => whnf
              refine Need.mk rfl ?_
              conv => whnf
              refine optI (asIs_ints ws) ?_
              have h6 : ("Coats(" : Str).length = 6 := rfl
              have h1' : (")" : Str).length = 1 := rfl
              conv => whnf
              refine Need.mk (by rw [h6, sl]; exact leN (by omega)) ?_
              conv => whnf
              refine Need.mk (by rw [Str.length_append, h6, sl, h1']; exact leN (by omega)) ?_
              conv => whnf
              refine ⟨.lst [.int ws.length, .int (ws.count 0 : Nat), .str (strOf ws), .str (("Coats(" : Str) ++ strOf ws ++ ")")], by rw [List.length_map]; rfl, ⟨by show 4 ≤ 1000000; decide, trivial, trivial, trivial, trivial, trivial⟩, ?_⟩
              conv => whnf
              refine ⟨rfl, fun z => ?_⟩
              conv => whnf
              have five : ([.int 0, .int (((ws.map D.int).length : Int) - 1), .int (ws.map D.int).length, .int (-1), .int z] : List D) = ([0, ((ws.map D.int).length : Int) - 1, ((ws.map D.int).length : Int), -1, z] : List Int).map D.int := rfl
              refine ⟨fun i s' S' => S' = [.drw, .lst xs] ∧ ∃ z16 : Option D, s' = [none, some (.ref 0), none, none, some (.lst (ws.map D.int)), none, none, some (ctq a.c_Coats ws), none, none, some (.str (strOf ws)), none, none, none, none, none, z16], ⟨rfl, _, rfl⟩, fun _ _ _ _ _ => rfl, ?_, ?_⟩
              · rintro i x s' S' hi ⟨rfl, z16, rfl⟩
                obtain ⟨y, _, rfl⟩ := int_at (show (([0, ((ws.map D.int).length : Int) - 1, ((ws.map D.int).length : Int), -1, z] : List Int).map D.int)[i]? = some x from hi)
                conv => whnf
                refine sM (fun s' S' => S' = [.drw, .lst xs] ∧ ∃ (du : D) (z16 : Option D), ((∃ v, 0 ≤ y ∧ ws[y.toNat]? = some v ∧ du = .tup [.int v, .str ""]) ∨ (¬ (0 ≤ y ∧ y < ws.length) ∧ du = .tup [.non, .str "badcoat"])) ∧ s' = [none, some (.ref 0), none, none, some (.lst (ws.map D.int)), none, none, some (ctq a.c_Coats ws), none, none, some (.str (strOf ws)), none, some (.int y), some du, none, none, z16]) ?_ ?_
                · conv => whnf
                  refine brd (fun hy0 => ?_) (fun hy0 => ?_)
                  · have hy0 : 0 ≤ y := hy0
                    conv => whnf
                    rw [List.length_map]
                    refine brd (fun hy1 => ?_) (fun hy1 => ?_)
                    · have hy1 : y < (ws.length : Int) := hy1
                      have hl : y.toNat < ws.length := by omega
                      conv => whnf
                      refine optI (atI_get hy0 (show (ws.map D.int)[y.toNat]? = some (.int ws[y.toNat]) by simp [List.getElem?_eq_getElem hl])) ?_
                      conv => whnf
                      exact ⟨rfl, _, _, .inl ⟨_, hy0, List.getElem?_eq_getElem hl, rfl⟩, rfl⟩
                    · have hy1 : ¬ y < (ws.length : Int) := hy1
                      conv => whnf
                      exact ⟨rfl, _, _, .inr ⟨fun h => hy1 h.2, rfl⟩, rfl⟩
                  · have hy0 : ¬ 0 ≤ y := hy0
                    conv => whnf
                    exact ⟨rfl, _, _, .inr ⟨fun h => hy0 h.1, rfl⟩, rfl⟩
                · rintro s' S' ⟨rfl, du, z16, hdu, rfl⟩
                  conv => whnf
                  refine Need.mk ⟨rfl, rfl⟩ ?_
                  conv => whnf
                  refine ⟨ws, y, rfl, fun v h0 hv => ?_, fun hn => ?_⟩
                  · rcases hdu with ⟨v2, h2, hv2, rfl⟩ | ⟨hn, rfl⟩
                    · rw [hv] at hv2
                      cases hv2
                      conv => whnf
                      refine ⟨_, rfl, ⟨by show 2 ≤ 1000000; decide, trivial, trivial, trivial⟩, ?_⟩
                      conv => whnf
                      exact .inl ⟨rfl, _, rfl⟩
                    · have := (List.getElem?_eq_some_iff.mp hv).1
                      exact absurd ⟨h0, by omega⟩ hn
                  · rcases hdu with ⟨v2, h2, hv2, rfl⟩ | ⟨_, rfl⟩
                    · have := (List.getElem?_eq_some_iff.mp hv2).1
                      exact absurd ⟨h2, by omega⟩ hn
                    · conv => whnf
                      refine Need.mk ⟨T.ex_BadCoat, T.xf_BadCoat, T.nc_BadCoat⟩ ?_
                      conv => whnf
                      refine ⟨_, rfl, ⟨by show 2 ≤ 1000000; decide, trivial, trivial, trivial⟩, ?_⟩
                      conv => whnf
                      exact .inl ⟨rfl, _, rfl⟩
              · rintro s' S' ⟨rfl, z16, rfl⟩
                have e0 : (ws.map D.int) ++ [D.int 0] = (ws ++ [0]).map D.int := by rw [List.map_append]; rfl
                have eqs : (D.tup (ws.map D.int)).eqd (.tup (ws.map D.int)) = true := D.eqd_self (d := D.tup (ws.map D.int)) (n := 40) (D.pls_ints ws)
                have eqn : ∀ ms : List Int, ws ≠ ms → (D.tup (ws.map D.int)).eqd (.tup (ms.map D.int)) = false := fun ms hm => by
                  show D.eqds _ _ = false
                  rw [D.eqds_ints]
                  exact decide_eq_false hm
                conv => whnf
                refine ⟨_, rfl, ws, .inl rfl, by omega, fun _ => ?_, fun h => absurd g h⟩
                conv => whnf
                refine Need.mk ⟨rfl, by simp [PySem.W.notFirst]⟩ ?_
                refine ⟨ws, _, rfl, ⟨trivial, trivial⟩, .inl ⟨ws, rfl, ?_⟩⟩
                rw [eqs]
                conv => whnf
                refine Need.mk (by rw [List.length_map]; exact leN (by show ws.length + 1 ≤ _; omega)) ?_
                conv => whnf
                refine ⟨_, rfl, ws ++ [0], .inl (congrArg D.lst e0), by rw [List.length_append]; show ws.length + 1 < _; omega, fun _ => ?_, fun h => absurd (fun z hz => (List.mem_append.mp hz).elim (g z) fun hz => by rw [List.mem_singleton.mp hz]; decide) h⟩
                conv => whnf
                refine Need.mk ⟨rfl, by simp [PySem.W.notFirst]⟩ ?_
                refine ⟨ws, _, rfl, ⟨trivial, trivial⟩, .inl ⟨ws ++ [0], rfl, ?_⟩⟩
                rw [eqn (ws ++ [0]) (fun h => by have := congrArg List.length h; rw [List.length_append] at this; exact absurd this (by show ¬ ws.length = ws.length + 1; omega))]
                conv => whnf
                refine Need.mk ⟨rfl, rfl⟩ ?_
                refine ⟨ws, _, rfl, D.lts_ints ws, .inr ⟨.inl ⟨_, rfl⟩, ?_⟩⟩
                conv => whnf
                refine optI (asIs_ints ws) ?_
                conv => whnf
                refine Need.mk ⟨rfl, rfl⟩ ?_
                refine ⟨ws, _, rfl, trivial, .inr ⟨.inr (.inl ⟨_, rfl⟩), ?_⟩⟩
                conv => whnf
                refine Need.mk ⟨rfl, rfl⟩ ?_
                refine ⟨ws, _, rfl, trivial, .inr ⟨.inr (.inr ⟨_, rfl⟩), ?_⟩⟩
                conv => whnf
                refine Need.mk (leN (Nat.le_of_ble_eq_true rfl)) ?_
                conv => whnf
                refine ⟨_, rfl, ⟨by show 5 ≤ 1000000; decide, trivial, trivial, trivial, trivial, trivial, trivial⟩, ?_⟩
                conv => whnf
                refine sMn (fun s' S' => S' = [.drw, .lst xs] ∧ ∃ (os : List Int) (y14 y16 : Option D), os.length = ws.length ∧ goodN os ∧ (ws ≠ [] → ws ≠ os) ∧ s' = [none, some (.ref 0), none, none, some (.lst (ws.map D.int)), none, none, some (ctq a.c_Coats ws), none, none, none, none, none, none, y14, some (.lst (os.map D.int)), y16]) ?_ ?_
                · intro rt bk ct n hn
                  conv => whnf
                  rw [show cutD (ws.map D.int) none (some 1) = (ws.take 1).map D.int by rw [show (1 : Int) = ((1 : Nat) : Int) from rfl, cutD_take, List.map_take]]
                  refine lc_map (fun d => match d with | .int z => .int ((z + 1) % 7) | _ => .non) (by rw [List.length_map, List.length_take]; exact ltN (by omega)) (fun _ => rfl) ?_ ?_
                  · intro i x acc hi
                    obtain ⟨z, hz, rfl⟩ := int_at hi
                    refine ⟨_, rfl, trivial, fun R r => ?_⟩
                    conv => whnf
                    repeat (refine Need.mk ?_ ?_; exact nd; conv => whnf)
                    exact r
                  conv => whnf
                  rw [show cutD (ws.map D.int) (some 1) none = (ws.drop 1).map D.int by rw [show (1 : Int) = ((1 : Nat) : Int) from rfl, cutD_dropN, List.map_drop], List.map_map]
                  have ho : ∃ os : List Int, os.length = ws.length ∧ goodN os ∧ (ws ≠ [] → ws ≠ os) ∧ (ws.take 1).map ((fun d => match d with | D.int z => D.int ((z + 1) % 7) | x => D.non) ∘ D.int) ++ (ws.drop 1).map D.int = os.map D.int := by
                    cases ws with
                    | nil => exact ⟨[], rfl, g, fun h => absurd rfl h, rfl⟩
                    | cons x r =>
                      refine ⟨((x + 1) % 7) :: r, rfl, fun z hz => ?_, fun _ h => ?_, rfl⟩
                      · rcases List.mem_cons.mp hz with rfl | hz
                        · exact ⟨Int.emod_nonneg _ (by decide), by omega⟩
                        · exact g z (List.mem_cons_of_mem _ hz)
                      · have h1 : x = (x + 1) % 7 := (List.cons.inj h).1
                        have h2 := g x List.mem_cons_self
                        omega
                  obtain ⟨os, ol, og, one, oe⟩ := ho
                  rw [oe]
                  refine Need.mk (by rw [List.length_map, List.length_map, List.length_take, List.length_drop]; exact leN (by omega)) ?_
                  conv => whnf
                  exact ⟨rfl, os, _, _, ol, og, one, rfl⟩
                rintro s' S' ⟨rfl, os, y14, y16, ol, og, one, rfl⟩
                conv => whnf
                refine Need.mk ⟨D.pls_ints ws, trivial⟩ ?_
                conv => whnf
                rw [if_pos (show true = true by rfl)]
                rw [show (D.see [O.drw, O.lst xs] (D.lst (ws.map D.int))).eqd (D.see [O.drw, O.lst xs] (D.lst [])) = decide (ws = []) from D.eqds_ints ws []]
                refine bnd (fun he => ?_) (fun hne => ?_)
                · conv => whnf
                  exact .inr ⟨1, [none, some (.ref 0), none, none, none, none, none, none, none, none, none, none, none, none, none, none, none], [.drw], Nat.le_refl _, by show 1 ≤ 2; decide, ⟨_, _, rfl, _, _, rfl, ⟨rfl, by decide⟩, _, _, rfl, _, _, rfl, _, _, rfl, _, _, rfl, _, _, rfl, _, _, rfl, _, _, rfl, _, _, rfl, _, _, rfl, _, _, rfl, _, _, rfl, _, _, rfl, _, _, rfl, _, _, rfl, _, _, rfl, rfl⟩, ⟨_, _, rfl, trivial, rfl⟩, rfl, none, rfl⟩
                · conv => whnf
                  refine ⟨_, rfl, os, .inl rfl, by omega, fun _ => ?_, fun h => absurd og h⟩
                  conv => whnf
                  refine Need.mk ⟨rfl, by simp [PySem.W.notFirst]⟩ ?_
                  refine ⟨ws, _, rfl, ⟨trivial, trivial⟩, .inl ⟨os, rfl, ?_⟩⟩
                  rw [eqn os (one hne)]
                  conv => whnf
                  refine ⟨_, rfl, trivial, ?_⟩
                  conv => whnf
                  exact .inr ⟨1, [none, some (.ref 0), none, none, none, none, none, none, none, none, none, none, none, none, none, none, none], [.drw], Nat.le_refl _, by show 1 ≤ 2; decide, ⟨_, _, rfl, _, _, rfl, ⟨rfl, by decide⟩, _, _, rfl, _, _, rfl, _, _, rfl, _, _, rfl, _, _, rfl, _, _, rfl, _, _, rfl, _, _, rfl, _, _, rfl, _, _, rfl, _, _, rfl, _, _, rfl, _, _, rfl, _, _, rfl, _, _, rfl, rfl⟩, ⟨_, _, rfl, trivial, rfl⟩, rfl, none, rfl⟩
          · conv => whnf
            repeat (refine Need.mk ?_ ?_; exact nd; conv => whnf)
            refine ⟨d1, hl1, hl2, ws, hl3, by omega, fun h => absurd h g, fun _ => ?_⟩
            conv => whnf
            repeat (refine Need.mk ?_ ?_; exact nd; conv => whnf)
            refine ⟨⟨trivial, trivial⟩, ?_⟩
            conv => whnf
            repeat (refine Need.mk ?_ ?_; exact nd; conv => whnf)
            refine Need.mk ⟨T.ex_BadShade, T.xf_BadShade, T.nc_BadShade⟩ ?_
            conv => whnf
            repeat (refine Need.mk ?_ ?_; exact nd; conv => whnf)
            refine ⟨_, rfl, ?_⟩
            conv => whnf
            repeat (refine Need.mk ?_ ?_; exact nd; conv => whnf)
            refine lc_map (fun d => match d with | .int z => .bl (decide (0 ≤ z) && decide (z ≤ 6)) | _ => .non) (by rw [List.length_map]; exact ltN (by omega)) (fun _ => rfl) ?_ ?_
            · intro i x acc hi
              obtain ⟨z, hz, rfl⟩ := int_at hi
              refine ⟨_, rfl, trivial, fun R r => ?_⟩
              conv => whnf
              repeat (refine Need.mk ?_ ?_; exact nd; conv => whnf)
              refine lif (fun hc => ?_) (fun hc => ?_)
              · conv => whnf
                repeat (refine Need.mk ?_ ?_; exact nd; conv => whnf)
                have hc : decide (0 ≤ z) = true := hc
                exact Eq.mp (by simp only [hc]; rfl) r
              · conv => whnf
                repeat (refine Need.mk ?_ ?_; exact nd; conv => whnf)
                have hc : decide (0 ≤ z) = false := hc
                exact Eq.mp (by simp only [hc]; rfl) r
            conv => whnf
            repeat (refine Need.mk ?_ ?_; exact nd; conv => whnf)
            rw [List.map_map]
            refine optI (asBs_map (fun z => decide (0 ≤ z) && decide (z ≤ 6)) ws) ?_
            conv => whnf
            repeat (refine Need.mk ?_ ?_; exact nd; conv => whnf)
            rw [good_all6]
            rw [decide_eq_false g]
            conv => whnf
            repeat (refine Need.mk ?_ ?_; exact nd; conv => whnf)
            refine optI hit ?_
            conv => whnf
            repeat (refine Need.mk ?_ ?_; exact nd; conv => whnf)
            refine Need.mk ⟨D.pls_ints ws, D.pls_ints ws⟩ ?_
            conv => whnf
            repeat (refine Need.mk ?_ ?_; exact nd; conv => whnf)
            rw [if_pos (show true = true by rfl), heq]
            conv => whnf
            repeat (refine Need.mk ?_ ?_; exact nd; conv => whnf)
            refine sM (fun s' S' => ∃ (xs : List D) (t6 : Option D), S' = [.drw, .lst xs] ∧ s' = [none, some (.ref 0), none, none, some (.lst (ws.map D.int)), none, t6, some (.non), none, some (.bl false), none, none, none, none, none, none, none]) ?_ ?_
            · conv => whnf
              repeat (refine Need.mk ?_ ?_; exact nd; conv => whnf)
              rcases hd with rfl | rfl
              · conv => whnf
                repeat (refine Need.mk ?_ ?_; exact nd; conv => whnf)
                refine Need.mk (by rw [List.length_map]; exact ltN (by omega)) ?_
                conv => whnf
                repeat (refine Need.mk ?_ ?_; exact nd; conv => whnf)
                obtain ⟨y, _, hy⟩ := atI_ints (ns := ws ++ [3]) (show (0 : Int) ≤ 0 by decide) (by rw [List.length_append]; show (0 : Int) < ((ws.length + 1 : Nat) : Int); omega)
                refine optI (x := D.int y) (by rw [List.map_append] at hy; exact hy) ?_
                conv => whnf
                repeat (refine Need.mk ?_ ?_; exact nd; conv => whnf)
                refine optI (ixN_is (show (0 : Int) ≤ 0 by decide) (by show (0 : Int) < ((ws.map D.int ++ [D.int 3]).length : Int); rw [List.length_append]; show (0 : Int) < (((ws.map D.int).length + 1 : Nat) : Int); omega)) ?_
                conv => whnf
                repeat (refine Need.mk ?_ ?_; exact nd; conv => whnf)
                exact ⟨_, _, rfl, rfl⟩
              · conv => whnf
                repeat (refine Need.mk ?_ ?_; exact nd; conv => whnf)
                exact ⟨_, _, rfl, rfl⟩
            · rintro s' S' ⟨xs, t6, rfl, rfl⟩
              conv => whnf
              repeat (refine Need.mk ?_ ?_; exact nd; conv => whnf)
              exact .inr ⟨1, [none, some (.ref 0), none, none, none, none, none, none, none, none, none, none, none, none, none, none, none], [.drw], Nat.le_refl _, by show 1 ≤ 2; decide, ⟨_, _, rfl, _, _, rfl, ⟨rfl, by decide⟩, _, _, rfl, _, _, rfl, _, _, rfl, _, _, rfl, _, _, rfl, _, _, rfl, _, _, rfl, _, _, rfl, _, _, rfl, _, _, rfl, _, _, rfl, _, _, rfl, _, _, rfl, _, _, rfl, _, _, rfl, rfl⟩, ⟨_, _, rfl, trivial, rfl⟩, rfl, none, rfl⟩
  · rintro s' S' ⟨rfl, z16, rfl⟩
    conv => whnf
    repeat (refine Need.mk ?_ ?_; exact nd; conv => whnf)
    exact ⟨0, _, [], Nat.le_refl _, Nat.zero_le _, rfl, Rs.same trivial, q _⟩
theorem why_ok (T : Txt K w mg a) (X : Cx) (hK : X.K = K) (hm : X.mg = mg) : WhyOk X "_law_why" "_law_ask" a.a__law_why a.c_LimeError X.env.qual := by
  subst hK hm
  obtain ⟨oc, od, kV, doc, pm, an, cdv, ct, osl, e, lk, hcd⟩ := T.F__law_why.ex
  have b := T.b__law_why
  rw [e] at b lk
  exact ⟨_, _, _, _, _, _, _, _, _, _, _, _, _, _, T.m__law_why, T.F__law_why.kp, lk, hcd, b, sc__law_why, rfl, .inl rfl,
    why_asks rfl sc__law_why.nd rfl rfl rfl rfl (by decide) (by decide) (by decide) (by decide) (by decide) (by decide) rfl T.k_LimeError⟩
end
theorem all_mk {l : PySem.W.OpenLaw} {w : World} {K : PySem.W.Frag} {h : Heap} {mg : Str → Option Value} {fa : Addr} (X : K.In h) (G : h.Ns mainGlobals mg) (hfa : mg "law" = some (.ref fa)) (c : He.SaysX [] fns tabs_ tfs exB w h K) :
    ∃ (fd : FuncData) (cs : List (Addr × Addr × Str)), (∀ p ∈ cs, h.get? p.2.1 = some { cls := .none, data := .fields #[] }) ∧ (∀ p ∈ cs, K.lookup p.2.1 = none) ∧ (∀ p ∈ cs, PySem.W.CodeHd h p.1 p.2.1) ∧
      (∀ (s : Shared) (u : Value), BindsTo s fd ⟨[u], []⟩ [("_law_script", u)]) ∧ ∀ base : Heap, K.In base → base.Ns mainGlobals mg → (∀ p ∈ cs, LamX.TabB base mg p.1 p.2.1) → FnOk l.prog w K mg base (L2.CX l.prog w) 17 fa fd ["_law_script"] (upFT K (cs.map fun p => p.2) spLaw) := by
  have xs : (fxs.all fun f => f K) = true := c.more
  obtain ⟨fd__law_open, F__law_open⟩ : ∃ fd, L2.FunD K "_law_open" "_law_open" (defArgs s__law_open) (defBody s__law_open) (defScope s__law_open) [] [] (He.ga K "_law_open") fd := c.t.d.def_ 0 (d := dd__law_open) rfl
  obtain ⟨fd__law_pull, F__law_pull⟩ : ∃ fd, L2.FunD K "_law_pull" "_law_pull" (defArgs s__law_pull) (defBody s__law_pull) (defScope s__law_pull) [] [] (He.ga K "_law_pull") fd := c.t.d.def_ 1 (d := dd__law_pull) rfl
  obtain ⟨fd__law_num, F__law_num⟩ : ∃ fd, L2.FunD K "_law_num" "_law_num" (defArgs s__law_num) (defBody s__law_num) (defScope s__law_num) [] [] (He.ga K "_law_num") fd := c.t.d.def_ 2 (d := dd__law_num) rfl
  obtain ⟨fd__law_like, F__law_like⟩ : ∃ fd, L2.FunD K "_law_like" "_law_like" (defArgs s__law_like) (defBody s__law_like) (defScope s__law_like) [] [] (He.ga K "_law_like") fd := c.t.d.def_ 3 (d := dd__law_like) rfl
  obtain ⟨fd__law_odd, F__law_odd⟩ : ∃ fd, L2.FunD K "_law_odd" "_law_odd" (defArgs s__law_odd) (defBody s__law_odd) (defScope s__law_odd) [] [] (He.ga K "_law_odd") fd := c.t.d.def_ 4 (d := dd__law_odd) rfl
  obtain ⟨fd__law_shades, F__law_shades⟩ : ∃ fd, L2.FunD K "_law_shades" "_law_shades" (defArgs s__law_shades) (defBody s__law_shades) (defScope s__law_shades) [] [] (He.ga K "_law_shades") fd := c.t.d.def_ 5 (d := dd__law_shades) rfl
  obtain ⟨fd__law_why, F__law_why⟩ : ∃ fd, L2.FunD K "_law_why" "_law_why" (defArgs s__law_why) (defBody s__law_why) (defScope s__law_why) [] [] (He.ga K "_law_why") fd := c.t.d.def_ 6 (d := dd__law_why) rfl
  obtain ⟨fd__law_made, F__law_made⟩ : ∃ fd, L2.FunD K "_law_made" "_law_made" (defArgs s__law_made) (defBody s__law_made) (defScope s__law_made) [] [] (He.ga K "_law_made") fd := c.t.d.def_ 7 (d := dd__law_made) rfl
  obtain ⟨fd_law, F_law⟩ : ∃ fd, L2.FunD K "law" "law" (defArgs s_law) (defBody s_law) (defScope s_law) [] [] (He.ga K "law") fd := c.t.d.def_ 8 (d := dd_law) rfl
  obtain ⟨fd_LimeError_init, F_LimeError_init⟩ : ∃ fd, L2.FunD K "__init__" "LimeError.__init__" (defArgs s_LimeError_init) (defBody s_LimeError_init) (defScope s_LimeError_init) [] [] (He.ma K (He.ga K "LimeError") "__init__") fd := c.t.d.def_ 9 (d := dd_LimeError_init) rfl
  obtain ⟨fd_BadCoat_init, F_BadCoat_init⟩ : ∃ fd, L2.FunD K "__init__" "BadCoat.__init__" (defArgs s_BadCoat_init) (defBody s_BadCoat_init) (defScope s_BadCoat_init) [] [] (He.ma K (He.ga K "BadCoat") "__init__") fd := c.t.d.def_ 10 (d := dd_BadCoat_init) rfl
  obtain ⟨fd_BadShade_init, F_BadShade_init⟩ : ∃ fd, L2.FunD K "__init__" "BadShade.__init__" (defArgs s_BadShade_init) (defBody s_BadShade_init) (defScope s_BadShade_init) [] [] (He.ma K (He.ga K "BadShade") "__init__") fd := c.t.d.def_ 11 (d := dd_BadShade_init) rfl
  obtain ⟨fd_Coats_init, F_Coats_init⟩ : ∃ fd, L2.FunD K "__init__" "Coats.__init__" (defArgs s_Coats_init) (defBody s_Coats_init) (defScope s_Coats_init) [] [] (He.ma K (He.ga K "Coats") "__init__") fd := c.t.d.def_ 12 (d := dd_Coats_init) rfl
  obtain ⟨fd_Coats_len, F_Coats_len⟩ : ∃ fd, L2.FunD K "__len__" "Coats.__len__" (defArgs s_Coats_len) (defBody s_Coats_len) (defScope s_Coats_len) [] [] (He.ma K (He.ga K "Coats") "__len__") fd := c.t.d.def_ 13 (d := dd_Coats_len) rfl
  obtain ⟨fd_Coats_eq, F_Coats_eq⟩ : ∃ fd, L2.FunD K "__eq__" "Coats.__eq__" (defArgs s_Coats_eq) (defBody s_Coats_eq) (defScope s_Coats_eq) [] [] (He.ma K (He.ga K "Coats") "__eq__") fd := c.t.d.def_ 14 (d := dd_Coats_eq) rfl
  obtain ⟨fd_Coats_str, F_Coats_str⟩ : ∃ fd, L2.FunD K "__str__" "Coats.__str__" (defArgs s_Coats_str) (defBody s_Coats_str) (defScope s_Coats_str) [] [] (He.ma K (He.ga K "Coats") "__str__") fd := c.t.d.def_ 15 (d := dd_Coats_str) rfl
  obtain ⟨fd_Coats_repr, F_Coats_repr⟩ : ∃ fd, L2.FunD K "__repr__" "Coats.__repr__" (defArgs s_Coats_repr) (defBody s_Coats_repr) (defScope s_Coats_repr) [] [] (He.ma K (He.ga K "Coats") "__repr__") fd := c.t.d.def_ 16 (d := dd_Coats_repr) rfl
  obtain ⟨fd_Coats_shade, F_Coats_shade⟩ : ∃ fd, L2.FunD K "shade" "Coats.shade" (defArgs s_Coats_shade) (defBody s_Coats_shade) (defScope s_Coats_shade) [] [] (He.ma K (He.ga K "Coats") "shade") fd := c.t.d.def_ 17 (d := dd_Coats_shade) rfl
  obtain ⟨fd_Coats_unread, F_Coats_unread⟩ : ∃ fd, L2.FunD K "unread" "Coats.unread" (defArgs s_Coats_unread) (defBody s_Coats_unread) (defScope s_Coats_unread) [] [] (He.ma K (He.ga K "Coats") "unread") fd := c.t.d.def_ 18 (d := dd_Coats_unread) rfl
  have e := hfa.symm.trans (He.glo_ok X G (x := "law") (fact_at (f := fun K => (He.Fa.glo "law").ok K) xs 8 rfl))
  cases e
  have T : Txt K w mg { a__law_open := (He.ga K "_law_open"), d__law_open := fd__law_open, a__law_pull := (He.ga K "_law_pull"), d__law_pull := fd__law_pull, a__law_num := (He.ga K "_law_num"), d__law_num := fd__law_num, a__law_like := (He.ga K "_law_like"), d__law_like := fd__law_like, a__law_odd := (He.ga K "_law_odd"), d__law_odd := fd__law_odd, a__law_shades := (He.ga K "_law_shades"), d__law_shades := fd__law_shades, a__law_why := (He.ga K "_law_why"), d__law_why := fd__law_why, a__law_made := (He.ga K "_law_made"), d__law_made := fd__law_made, a_law := (He.ga K "law"), d_law := fd_law, a_LimeError_init := (He.ma K (He.ga K "LimeError") "__init__"), d_LimeError_init := fd_LimeError_init, a_BadCoat_init := (He.ma K (He.ga K "BadCoat") "__init__"), d_BadCoat_init := fd_BadCoat_init, a_BadShade_init := (He.ma K (He.ga K "BadShade") "__init__"), d_BadShade_init := fd_BadShade_init, a_Coats_init := (He.ma K (He.ga K "Coats") "__init__"), d_Coats_init := fd_Coats_init, a_Coats_len := (He.ma K (He.ga K "Coats") "__len__"), d_Coats_len := fd_Coats_len, a_Coats_eq := (He.ma K (He.ga K "Coats") "__eq__"), d_Coats_eq := fd_Coats_eq, a_Coats_str := (He.ma K (He.ga K "Coats") "__str__"), d_Coats_str := fd_Coats_str, a_Coats_repr := (He.ma K (He.ga K "Coats") "__repr__"), d_Coats_repr := fd_Coats_repr, a_Coats_shade := (He.ma K (He.ga K "Coats") "shade"), d_Coats_shade := fd_Coats_shade, a_Coats_unread := (He.ma K (He.ga K "Coats") "unread"), d_Coats_unread := fd_Coats_unread, c_LimeError := (He.ga K "LimeError"), c_BadCoat := (He.ga K "BadCoat"), c_BadShade := (He.ga K "BadShade"), c_Coats := (He.ga K "Coats"), code := (He.codeOf K ("law", none)), tab := (He.tabOf K (He.codeOf K ("law", none))) } := { F__law_open := funD_fun F__law_open, b__law_open := F__law_open.bindsN fun _ _ _ _ _ _ us hl => match us, hl with | [_], _ => rfl, m__law_open := (He.glo_ok X G (x := "_law_open") (fact_at (f := fun K => (He.Fa.glo "_law_open").ok K) xs 0 rfl)), F__law_pull := funD_fun F__law_pull, b__law_pull := F__law_pull.bindsN fun _ _ _ _ _ _ us hl => match us, hl with | [_, _], _ => rfl, m__law_pull := (He.glo_ok X G (x := "_law_pull") (fact_at (f := fun K => (He.Fa.glo "_law_pull").ok K) xs 1 rfl)), F__law_num := funD_fun F__law_num, b__law_num := F__law_num.bindsN fun _ _ _ _ _ _ us hl => match us, hl with | [_], _ => rfl, m__law_num := (He.glo_ok X G (x := "_law_num") (fact_at (f := fun K => (He.Fa.glo "_law_num").ok K) xs 2 rfl)), F__law_like := funD_fun F__law_like, b__law_like := F__law_like.bindsN fun _ _ _ _ _ _ us hl => match us, hl with | [_, _], _ => rfl, m__law_like := (He.glo_ok X G (x := "_law_like") (fact_at (f := fun K => (He.Fa.glo "_law_like").ok K) xs 3 rfl)), F__law_odd := funD_fun F__law_odd, b__law_odd := F__law_odd.bindsN fun _ _ _ _ _ _ us hl => match us, hl with | [_], _ => rfl, m__law_odd := (He.glo_ok X G (x := "_law_odd") (fact_at (f := fun K => (He.Fa.glo "_law_odd").ok K) xs 4 rfl)), F__law_shades := funD_fun F__law_shades, b__law_shades := F__law_shades.bindsN fun _ _ _ _ _ _ us hl => match us, hl with | [_, _], _ => rfl, m__law_shades := (He.glo_ok X G (x := "_law_shades") (fact_at (f := fun K => (He.Fa.glo "_law_shades").ok K) xs 5 rfl)), F__law_why := funD_fun F__law_why, b__law_why := F__law_why.bindsN fun _ _ _ _ _ _ us hl => match us, hl with | [_], _ => rfl, m__law_why := (He.glo_ok X G (x := "_law_why") (fact_at (f := fun K => (He.Fa.glo "_law_why").ok K) xs 6 rfl)), F__law_made := funD_fun F__law_made, b__law_made := F__law_made.bindsN fun _ _ _ _ _ _ us hl => match us, hl with | [_], _ => rfl, m__law_made := (He.glo_ok X G (x := "_law_made") (fact_at (f := fun K => (He.Fa.glo "_law_made").ok K) xs 7 rfl)), F_law := funD_code (p := ("law", none)) F_law, b_law := F_law.bindsN fun _ _ _ _ _ _ us hl => match us, hl with | [_], _ => rfl, m_law := (He.glo_ok X G (x := "law") (fact_at (f := fun K => (He.Fa.glo "law").ok K) xs 8 rfl)), F_LimeError_init := funD_fun F_LimeError_init, b_LimeError_init := F_LimeError_init.bindsN fun _ _ _ _ _ _ us hl => match us, hl with | [_, _], _ => rfl, i_LimeError_init := He.eqO_ok (fact_at (f := fun K => He.eqO (PySem.W.findIn K (.ref (He.ga K "LimeError")) "__init__") (some (some (.ref (He.ma K (He.ga K "LimeError") "__init__"))))) xs 9 rfl), t_LimeError_init := of_decide_eq_true (fact_at (f := fun K => decide (PySem.W.typeIn K (.ref (He.ma K (He.ga K "LimeError") "__init__")) = some (.type "function"))) xs 10 rfl), F_BadCoat_init := funD_fun F_BadCoat_init, b_BadCoat_init := F_BadCoat_init.bindsN fun _ _ _ _ _ _ us hl => match us, hl with | [_], _ => rfl, i_BadCoat_init := He.eqO_ok (fact_at (f := fun K => He.eqO (PySem.W.findIn K (.ref (He.ga K "BadCoat")) "__init__") (some (some (.ref (He.ma K (He.ga K "BadCoat") "__init__"))))) xs 11 rfl), t_BadCoat_init := of_decide_eq_true (fact_at (f := fun K => decide (PySem.W.typeIn K (.ref (He.ma K (He.ga K "BadCoat") "__init__")) = some (.type "function"))) xs 12 rfl), F_BadShade_init := funD_fun F_BadShade_init, b_BadShade_init := F_BadShade_init.bindsN fun _ _ _ _ _ _ us hl => match us, hl with | [_], _ => rfl, i_BadShade_init := He.eqO_ok (fact_at (f := fun K => He.eqO (PySem.W.findIn K (.ref (He.ga K "BadShade")) "__init__") (some (some (.ref (He.ma K (He.ga K "BadShade") "__init__"))))) xs 13 rfl), t_BadShade_init := of_decide_eq_true (fact_at (f := fun K => decide (PySem.W.typeIn K (.ref (He.ma K (He.ga K "BadShade") "__init__")) = some (.type "function"))) xs 14 rfl), F_Coats_init := funD_fun F_Coats_init, b_Coats_init := F_Coats_init.bindsN fun _ _ _ _ _ _ us hl => match us, hl with | [_, _], _ => rfl, i_Coats_init := He.meth_ok (fact_at (f := fun K => (He.Fa.meth "Coats" "__init__").ok K) xs 15 rfl), F_Coats_len := funD_fun F_Coats_len, b_Coats_len := F_Coats_len.bindsN fun _ _ _ _ _ _ us hl => match us, hl with | [_], _ => rfl, i_Coats_len := He.meth_ok (fact_at (f := fun K => (He.Fa.meth "Coats" "__len__").ok K) xs 16 rfl), F_Coats_eq := funD_fun F_Coats_eq, b_Coats_eq := F_Coats_eq.bindsN fun _ _ _ _ _ _ us hl => match us, hl with | [_, _], _ => rfl, i_Coats_eq := He.meth_ok (fact_at (f := fun K => (He.Fa.meth "Coats" "__eq__").ok K) xs 17 rfl), F_Coats_str := funD_fun F_Coats_str, b_Coats_str := F_Coats_str.bindsN fun _ _ _ _ _ _ us hl => match us, hl with | [_], _ => rfl, i_Coats_str := He.meth_ok (fact_at (f := fun K => (He.Fa.meth "Coats" "__str__").ok K) xs 18 rfl), F_Coats_repr := funD_fun F_Coats_repr, b_Coats_repr := F_Coats_repr.bindsN fun _ _ _ _ _ _ us hl => match us, hl with | [_], _ => rfl, i_Coats_repr := He.meth_ok (fact_at (f := fun K => (He.Fa.meth "Coats" "__repr__").ok K) xs 19 rfl), F_Coats_shade := funD_fun F_Coats_shade, b_Coats_shade := F_Coats_shade.bindsN fun _ _ _ _ _ _ us hl => match us, hl with | [_, _], _ => rfl, i_Coats_shade := He.meth_ok (fact_at (f := fun K => (He.Fa.meth "Coats" "shade").ok K) xs 20 rfl), F_Coats_unread := funD_fun F_Coats_unread, b_Coats_unread := F_Coats_unread.bindsN fun _ _ _ _ _ _ us hl => match us, hl with | [_], _ => rfl, i_Coats_unread := He.meth_ok (fact_at (f := fun K => (He.Fa.meth "Coats" "unread").ok K) xs 21 rfl), k_LimeError := (He.glo_ok X G (x := "LimeError") (fact_at (f := fun K => (He.Fa.glo "LimeError").ok K) xs 22 rfl)), k_BadCoat := (He.glo_ok X G (x := "BadCoat") (fact_at (f := fun K => (He.Fa.glo "BadCoat").ok K) xs 23 rfl)), k_BadShade := (He.glo_ok X G (x := "BadShade") (fact_at (f := fun K => (He.Fa.glo "BadShade").ok K) xs 24 rfl)), k_Coats := (He.glo_ok X G (x := "Coats") (fact_at (f := fun K => (He.Fa.glo "Coats").ok K) xs 25 rfl)), o_Coats := isoB_ok (fact_at (f := fun K => isoB K (He.ga K "Coats")) xs 26 rfl), mk_Coats := He.mkr_ok (fact_at (f := fun K => (He.Fa.mkr "Coats").ok K) xs 27 rfl), na_Coats_seen := (He.noat_ok (x := "Coats") (f := "seen") (fact_at (f := fun K => (He.Fa.noat "Coats" "seen").ok K) xs 28 rfl)), ne_Coats := ⟨of_decide_eq_true (fact_at (f := fun K => decide (PySem.W.findIn K (.ref (He.ga K "Coats")) "__ne__" = some (some (.builtin "object.__ne__")))) xs 29 rfl), of_decide_eq_true (fact_at (f := fun K => decide (PySem.W.mroIn K (He.ga K "Coats") (.type "object") = some true)) xs 30 rfl)⟩, fm_Coats := ⟨of_decide_eq_true (fact_at (f := fun K => decide (PySem.W.findIn K (.ref (He.ga K "Coats")) "__format__" = some (some (.builtin "object.__format__")))) xs 31 rfl), of_decide_eq_true (fact_at (f := fun K => decide (PySem.W.mroIn K (He.ga K "Coats") (.type "object") = some true)) xs 30 rfl)⟩, xf_BadCoat := L2.xfB_ok (fact_at (f := fun K => L2.xfB K (He.ga K "BadCoat")) xs 32 rfl), nc_BadCoat := (He.noat_ok (x := "BadCoat") (f := "called") (fact_at (f := fun K => (He.Fa.noat "BadCoat" "called").ok K) xs 33 rfl)), ex_BadCoat := He.exm_ok (fact_at (f := fun K => (He.Fa.exm "BadCoat" "LimeError" true).ok K) xs 34 rfl), es_BadCoat := He.exm_ok (fact_at (f := fun K => (He.Fa.exm "BadCoat" "BadCoat" true).ok K) xs 35 rfl), xf_BadShade := L2.xfB_ok (fact_at (f := fun K => L2.xfB K (He.ga K "BadShade")) xs 36 rfl), nc_BadShade := (He.noat_ok (x := "BadShade") (f := "called") (fact_at (f := fun K => (He.Fa.noat "BadShade" "called").ok K) xs 37 rfl)), ex_BadShade := He.exm_ok (fact_at (f := fun K => (He.Fa.exm "BadShade" "LimeError" true).ok K) xs 38 rfl), es_BadShade := He.exm_ok (fact_at (f := fun K => (He.Fa.exm "BadShade" "BadShade" true).ok K) xs 39 rfl), n_ValueError := He.free_ok X G (fact_at (f := fun K => (He.Fa.free "ValueError").ok K) xs 40 rfl), n_all := He.free_ok X G (fact_at (f := fun K => (He.Fa.free "all").ok K) xs 41 rfl), n_bool := He.free_ok X G (fact_at (f := fun K => (He.Fa.free "bool").ok K) xs 42 rfl), n_int := He.free_ok X G (fact_at (f := fun K => (He.Fa.free "int").ok K) xs 43 rfl), n_isinstance := He.free_ok X G (fact_at (f := fun K => (He.Fa.free "isinstance").ok K) xs 44 rfl), n_len := He.free_ok X G (fact_at (f := fun K => (He.Fa.free "len").ok K) xs 45 rfl), n_list := He.free_ok X G (fact_at (f := fun K => (He.Fa.free "list").ok K) xs 46 rfl), n_max := He.free_ok X G (fact_at (f := fun K => (He.Fa.free "max").ok K) xs 47 rfl), n_min := He.free_ok X G (fact_at (f := fun K => (He.Fa.free "min").ok K) xs 48 rfl), n_range := He.free_ok X G (fact_at (f := fun K => (He.Fa.free "range").ok K) xs 49 rfl), n_repr := He.free_ok X G (fact_at (f := fun K => (He.Fa.free "repr").ok K) xs 50 rfl), n_str := He.free_ok X G (fact_at (f := fun K => (He.Fa.free "str").ok K) xs 51 rfl), n_tuple := He.free_ok X G (fact_at (f := fun K => (He.Fa.free "tuple").ok K) xs 52 rfl), g_SIGNS := (let ⟨_, h⟩ := He.str_ok X G (fact_at (f := fun K => (He.Fa.str "SIGNS" "?abcdef").ok K) xs 53 rfl); GlD.str h) }
  have bl := F_law.bindsA (ps := ["_law_script"]) fun _ _ _ _ _ _ us hl => match us, hl with | [_], _ => rfl
  refine ⟨fd_law, [((He.codeOf K ("law", none)), (He.tabOf K (He.codeOf K ("law", none))), "law.<locals>." ++ "<lambda>")], by intro p hp; simp only [List.mem_cons, List.not_mem_nil, or_false] at hp; rcases hp with rfl; exact c.empty ("law", none) (by simp [tfs]), by intro p hp; simp only [List.mem_cons, List.not_mem_nil, or_false] at hp; rcases hp with rfl; exact c.out ("law", none) (by simp [tfs]), by intro p hp; simp only [List.mem_cons, List.not_mem_nil, or_false] at hp; rcases hp with rfl; exact PySem.W.codeHd_of_K X (c.hd ("law", none) (by simp [tfs])), fun s v => bl s [v] rfl, fun base hb hn hT => ?_⟩
  · have FL := ok_lime (P := l.prog) (w := w) (base := base) T.F_LimeError_init sc_LimeError_init rfl rfl rfl rfl T.n_ValueError ⟨_, fun _ => rfl⟩ (valC_ok (fact_at (f := fun K => valC K (.type "ValueError") (.type "type") "__init__" (.builtin "ValueError.__init__")) xs 56 rfl))
    have GL : XcOk K mg (He.ga K "LimeError") (He.ma K (He.ga K "LimeError") "__init__") fd_LimeError_init (.type "type") := ⟨T.k_LimeError, ⟨(fact_at (f := fun K => PySem.W.readsIn K (He.ga K "LimeError") (.type "type")) xs 57 rfl), He.eqO_ok (fact_at (f := fun K => He.eqO (PySem.W.specialIn K (.ref (He.ga K "LimeError")) "__getattribute__") (some (some (.builtin "type.__getattribute__")))) xs 58 rfl)⟩, valC_ok (fact_at (f := fun K => valC K (.ref (He.ga K "LimeError")) (.type "type") "__init__" (.ref (He.ma K (He.ga K "LimeError") "__init__"))) xs 59 rfl), F_LimeError_init.kp, T.b_LimeError_init⟩
    have OX_BadCoat : OexC K (He.ga K "BadCoat") := oexB_ok (fact_at (f := fun K => oexB K (He.ga K "BadCoat")) xs 54 rfl)
    have Z_BadCoat : XcD l.prog w K mg base "BadCoat" (He.ga K "BadCoat") (He.ma K (He.ga K "BadCoat") "__init__") fd_BadCoat_init ["self"] 0 (fl0 "badcoat") (fd0 "badcoat") [] [] :=
      ⟨fl0_ok, OX_BadCoat, T.xf_BadCoat, T.i_BadCoat_init, T.t_BadCoat_init, ok_exc0 T.F_BadCoat_init sc_BadCoat_init rfl ⟨_, fun _ => rfl⟩ rfl rfl GL FL OX_BadCoat T.nc_BadCoat , ⟨[], .nil, T.b_BadCoat_init⟩, (fun _ _ => rfl), T.k_BadCoat, T.nc_BadCoat⟩
    have OX_BadShade : OexC K (He.ga K "BadShade") := oexB_ok (fact_at (f := fun K => oexB K (He.ga K "BadShade")) xs 55 rfl)
    have Z_BadShade : XcD l.prog w K mg base "BadShade" (He.ga K "BadShade") (He.ma K (He.ga K "BadShade") "__init__") fd_BadShade_init ["self"] 0 (fl0 "badshade") (fd0 "badshade") [] [] :=
      ⟨fl0_ok, OX_BadShade, T.xf_BadShade, T.i_BadShade_init, T.t_BadShade_init, ok_exc0 T.F_BadShade_init sc_BadShade_init rfl ⟨_, fun _ => rfl⟩ rfl rfl GL FL OX_BadShade T.nc_BadShade , ⟨[], .nil, T.b_BadShade_init⟩, (fun _ _ => rfl), T.k_BadShade, T.nc_BadShade⟩
    have G__law_open := ok__law_open (P := l.prog) (w := w) (base := base) T 
    have G__law_pull := ok__law_pull (P := l.prog) (w := w) (base := base) T 
    have G__law_num := ok__law_num (P := l.prog) (w := w) (base := base) T 
    have G__law_like := ok__law_like (P := l.prog) (w := w) (base := base) T G__law_num
    have G__law_odd := ok__law_odd (P := l.prog) (w := w) (base := base) T G__law_pull
    have G__law_shades := ok__law_shades (P := l.prog) (w := w) (base := base) T G__law_pull
    have I_Coats := ok_Coats_init (P := l.prog) (w := w) (base := base) T Z_BadShade
    have G__law_made := ok__law_made (P := l.prog) (w := w) (base := base) T I_Coats
    have M_Coats_len := ok_Coats_len (P := l.prog) (w := w) (base := base) T 
    have M_Coats_eq := ok_Coats_eq (P := l.prog) (w := w) (base := base) T 
    have M_Coats_str := ok_Coats_str (P := l.prog) (w := w) (base := base) T 
    have M_Coats_repr := ok_Coats_repr (P := l.prog) (w := w) (base := base) T M_Coats_str
    have M_Coats_shade := ok_Coats_shade (P := l.prog) (w := w) (base := base) T Z_BadCoat
    have M_Coats_unread := ok_Coats_unread (P := l.prog) (w := w) (base := base) T 
    exact ok_law (P := l.prog) (w := w) (base := base) T G__law_open G__law_pull G__law_shades G__law_odd G__law_made M_Coats_repr M_Coats_str M_Coats_unread M_Coats_len G__law_like M_Coats_shade M_Coats_eq I_Coats (fun X _ _ hK hm => why_ok T X hK hm) (hT ((He.codeOf K ("law", none)), (He.tabOf K (He.codeOf K ("law", none))), _) List.mem_cons_self)
theorem roomLaw : Room 17 callerA := ⟨rfl, by decide, by decide⟩
end LW
open PySem PySem.W PySem.Calls
open PyProof.Rows
set_option maxRecDepth 100001 in
set_option maxHeartbeats 0 in
theorem PySem.Challenge.cw_limecoat_k01_coats_by_themselves_holds : PySem.Challenge.rw_limecoat_k01_coats_by_themselves.Holds := by
  w_on
  o_law
  refine HandSHeadRun.head_any (r := OpenLaw.row PySem.Challenge.rw_limecoat_k01_coats_by_themselves) (q := LW.ViewL_) (H := LW.hk) (ob := LW.obs_) (M := 14000) (loose := LW.names) (d := HandSHeadRun.topDef (OpenLaw.row PySem.Challenge.rw_limecoat_k01_coats_by_themselves).prog 17) (kwd := []) LW.obs_eq
    (by kernel_rfl) (fun s => by kernel_rfl) LW.run (by kernel_rfl) (by kernel_rfl) (by kernel_rfl) (by rfl) (by first | assumption | decide +kernel) (by decide +kernel) ⟨rfl, rfl, rfl, rfl, rfl, by decide +kernel⟩ ?hw ?hc
  case hw => w_witness2
  case hc =>
    refine LC.walk_endE (l := PySem.Challenge.rw_limecoat_k01_coats_by_themselves) (k := 17) (x := "_law_script") rfl (by kernel_rfl) LW.roomLaw ?F
    intro w mg fa h Y G hmg0
    obtain ⟨K, KX, c⟩ := Y
    have hmg : mg ("law" : PySem.Str) = some (.ref fa) := by
      have e : (HandSHeadRun.topDef (OpenLaw.row PySem.Challenge.rw_limecoat_k01_coats_by_themselves).prog 17).name = ("law" : PySem.Str) := by kernel_rfl
      rw [← e]
      exact hmg0
    exact ⟨K, KX, LW.all_mk KX G hmg c⟩
#print axioms PySem.Challenge.cw_limecoat_k01_coats_by_themselves_holds
