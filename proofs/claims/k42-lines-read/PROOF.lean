import PyProof.Rows.All
import Wide.All
import OpenK.AllK
import Wide.FinOn
import HandS.ForMost
import HandS.ForExc
import HandS.CallSlots
import HandS.Lambda
import HandS.IsInst
import HandS.Deep
import HandS.TupAny
import HandS.Style
import HandS.Iter
import HandS.Text
import HandS.More
import HandS.SetFor
import HandS.Replace
import HandS.Comp
import HandS.Defaults
import HandS.ExcInit
import HandS.ExcField
import HandS.ClsMeth
import HandS.TryMany
import HandS.EndTab
import KE.KNestM
import KE.KCallOwn
import KE.KFmtOwn
import OpenK.KOps
import HandS.IntHex
import HandS.BoundDict
import HandS.SortInts
import HandS.Small
import KE.KDictSum
import HandS.ExcInitHot
import HandS.CallLocal
import HandS.TupMul
import HandS.Zip
import PyProof.Rows.CallKw2
import HandS.RaiseFrom
import HandS.SuiteRaise
import HandS.FStr
import KE.GoesRaise
import KE.GoesEnum
import HandS.Flow
import KE.KStateDown
import HandS.Head0
import HandS.Head1
import HandS.Head2
import HandS.HeadHook1
import HandS.HeadHook2
import HandS.HeadHook3
import HandS.HeadHook4
import HandS.HeadWalk
import PyProof.InstNe
import PyProof.StrLawsLast
import PyProof.Rows.StrNews2
import KE.KRevSl
import HandS.TupSets
import KE.DatumOrd
import PyProof.Rows.TupAdd
import HandS.Strs
import HandS.SortKw
import HandS.SetKeys
import HandS.Conv
import PyProof.DictMoreH
import PyProof.SumAny
import PyProof.Rows.CallKwBuiltin
import PyProof.Rows.SetFrom
import HandS.NoneIn
import KE.GoesMore
import PyProof.DictUpdate
import PySem.Challenge.RW_limecoat_k42_lines_read_or_refused
set_option Elab.async false
set_option linter.all false
set_option maxRecDepth 100000
/-! LD0: data by value, the objects that change by number, readings over them. -/
namespace LC
open PySem PySem.Spec
open PyProof.Rows L2

/-- data: what no longer changes stands by value, the rest by number -/
inductive D where
  | non | bl (b : Bool) | int (i : Int) | str (x : Str) | ty (n : String) | adr (a : Addr) | ref (k : Nat)
  | tup (xs : List D) | lst (xs : List D) | ins (C : Addr) (ns : List Str) (xs : List D)
  | dK (ks : List Key) (xs : List D) | dT (ks : List (List Key)) (xs : List D) | scr (ns : List Int) | tq (ns : List Int) | kt (xs : List D) | bad

/-- an object that may change -/
inductive O where
  | lst (xs : List D)
  | drw
  | ins (C : Addr) (fs : List (Str × D))
  | dK (kvs : List (Key × D))
  | dT (kvs : List (List Key × D))
  | non

/-- where the objects are: those of the outer defs, one's own by number -/
structure Ph where
  hid : List Addr
  own : List Addr
/-- no object that may change -/
def Fz (φ : Ph) (a : Addr) : Prop := a ∉ φ.hid ∧ a ∉ φ.own
def KLst (K : PySem.W.Frag) (a : Addr) (xs : List V) : Prop := ∃ (o : Obj) (its : Array Value) (n : Nat),
      K.lookup a = some o ∧ o.cls = .type "list" ∧ o.dict = none ∧ o.data = .seq its n ∧ its.size ≤ sizeLine ∧ Vals xs its.toList
/-- a list that stays as it is -/
def LsA (K : PySem.W.Frag) (φ : Ph) (H : Hp) (a : Addr) (xs : List V) : Prop := (Fz φ a ∧ (H a = some (.lst xs) ∨ ∃ o, H a = some (.frz o (.lst xs)))) ∨ KLst K a xs
theorem LsA.sql {K : PySem.W.Frag} {φ : Ph} {H : Hp} {a : Addr} {xs : List V} (h : LsA K φ H a xs) : SqL K H a xs := by
  rcases h with ⟨_, h | ⟨o, h⟩⟩ | h
  · exact .inl (.inl h)
  · exact .inl (.inr ⟨o, h⟩)
  · exact .inr h

/-- a tuple that is known to have no dict -/
def TqA (φ : Ph) (H : Hp) (a : Addr) (xs : List V) : Prop := Fz φ a ∧ ∃ o, H a = some (.frz o (.tup xs)) ∧ o.cls = .type "tuple" ∧ o.dict = none

/-- a tuple of the program's top -/
def KTup (K : PySem.W.Frag) (a : Addr) (xs : List V) : Prop := ∃ (o : Obj) (its : Array Value) (n : Nat), K.lookup a = some o ∧ o.cls = .type "tuple" ∧ o.data = .seq its n ∧ its.size ≤ sizeLine ∧ Vals xs its.toList
theorem KTup.sqt {K : PySem.W.Frag} {H : Hp} {a : Addr} {xs : List V} (h : KTup K a xs) : SqT K H a xs := .inr h
instance {K : PySem.W.Frag} {H : Hp} {a : Addr} {xs : List V} : CoeTail (H a = some (.tup xs)) (SqT K H a xs) := ⟨SqT.of⟩

section
variable (K : PySem.W.Frag) (φ : Ph) (H : Hp)
mutual
def RV : D → V → Prop
  | .non, v => v = .non
  | .bl b, v => v = .bl b
  | .int i, v => v = .int i
  | .str x, v => v = .str x
  | .ty n, v => v = .ty n
  | .adr a, v => v = .ref a
  | .ref k, v => ∃ a, φ.own[k]? = some a ∧ v = .ref a
  | .tup ds, v => ∃ p vs, v = .ref p ∧ H p = some (.tup vs) ∧ RVs ds vs
  | .kt ds, v => ∃ p vs, v = .ref p ∧ KTup K p vs ∧ RVs ds vs
  | .lst ds, v => ∃ p vs, v = .ref p ∧ Fz φ p ∧ H p = some (.lst vs) ∧ RVs ds vs
  | .scr ns, v => ∃ p, v = .ref p ∧ LsA K φ H p (ns.map V.int)
  | .tq ns, v => ∃ p, v = .ref p ∧ TqA φ H p (ns.map V.int)
  | .ins C ns ds, v => ∃ p dx vs, v = .ref p ∧ Fz φ p ∧ H p = some (.ins C dx (ns.zip vs)) ∧ ns.length = ds.length ∧ RVs ds vs
  | .dK ks ds, v => ∃ p vs, v = .ref p ∧ Fz φ p ∧ Rd H p (.dK (ks.zip vs)) ∧ ks.length = ds.length ∧ RVs ds vs
  | .dT ks ds, v => ∃ p vs, v = .ref p ∧ Fz φ p ∧ Rd H p (.dT (ks.zip vs)) ∧ ks.length = ds.length ∧ RVs ds vs
  | .bad, _ => False
def RVs : List D → List V → Prop
  | [], vs => vs = []
  | d :: ds, vs => ∃ v ws, vs = v :: ws ∧ RV d v ∧ RVs ds ws
end
/-- pairs with plain keys -/
def RKV {κ : Type} : List (κ × D) → List (κ × V) → Prop
  | [], l => l = []
  | p :: ps, l => ∃ v r, l = (p.1, v) :: r ∧ RV K φ H p.2 v ∧ RKV ps r
/-- the law's drawing: its list -/
def DrawL (l : List D) : Prop := ∃ (ns : List Int) (i r s : Int), l = [.lst (ns.map D.int), .int i, .int r, .int s] ∧ 0 ≤ i ∧ 0 ≤ r ∧ 0 ≤ s ∧ s < 2147483629
def Trk (a : Addr) : Prop := ∃ u, H a = some u ∧ ∀ ps, u ≠ HO.tbl ps
def RO : O → Addr → Prop
  | .lst xs, a => ∃ vs, H a = some (.lst vs) ∧ RVs K φ H xs vs
  | .drw, a => ∃ l vs, DrawL l ∧ H a = some (.lst vs) ∧ RVs K φ H l vs
  | .ins C fs, a => ∃ dx gs, H a = some (.ins C dx gs) ∧ RKV K φ H fs gs
  | .dK kvs, a => ∃ l, H a = some (.dK l) ∧ RKV K φ H kvs l
  | .dT kvs, a => ∃ l, H a = some (.dT l) ∧ RKV K φ H kvs l
  | .non, a => Trk H a
structure Rel (S : List O) : Prop where
  nd : φ.own.Nodup
  dj : ∀ a ∈ φ.hid, a ∉ φ.own
  hd : ∀ a ∈ φ.hid, Trk H a
  len : φ.own.length = S.length
  ob : ∀ (i : Nat) (o : O), S[i]? = some o → ∃ a, φ.own[i]? = some a ∧ RO K φ H o a
end
/-- numbers stay, what is by value stays -/
structure Ext (K : PySem.W.Frag) (φ φ' : Ph) (H H' : Hp) : Prop where
  hid : φ'.hid = φ.hid
  pre : φ.own <+: φ'.own
  tup : ∀ p vs, H p = some (.tup vs) → H' p = some (.tup vs)
  xd : ∀ p gs, H p = some (.xd gs) → H' p = some (.xd gs)
  fz : ∀ a u, a ∉ φ.own → H a = some u → (∀ ps, u ≠ .tbl ps) → a ∉ φ'.own ∧ H' a = some u
theorem Ext.refl {K : PySem.W.Frag} {φ : Ph} {H : Hp} : Ext K φ φ H H := ⟨rfl, List.prefix_refl _, fun _ _ h => h, fun _ _ h => h, fun _ _ h g _ => ⟨h, g⟩⟩
theorem Ext.trans {K : PySem.W.Frag} {φ φ1 φ2 : Ph} {H H1 H2 : Hp} (a : Ext K φ φ1 H H1) (b : Ext K φ1 φ2 H1 H2) : Ext K φ φ2 H H2 :=
  ⟨b.hid.trans a.hid, a.pre.trans b.pre, fun p vs h => b.tup p vs (a.tup p vs h), fun p gs h => b.xd p gs (a.xd p gs h), fun p u h g n => let ⟨h1, g1⟩ := a.fz p u h g n; b.fz p u h1 g1 n⟩
theorem Ext.get {K : PySem.W.Frag} {φ φ' : Ph} {H H' : Hp} (e : Ext K φ φ' H H') {k : Nat} {a : Addr} (h : φ.own[k]? = some a) : φ'.own[k]? = some a := by
  obtain ⟨t, ht⟩ := e.pre
  rw [← ht, List.getElem?_append_left (List.getElem?_eq_some_iff.mp h).1]; exact h
theorem Ext.frz {K : PySem.W.Frag} {φ φ' : Ph} {H H' : Hp} (e : Ext K φ φ' H H') {a : Addr} {u : HO} (h : Fz φ a) (g : H a = some u) (n : ∀ ps, u ≠ .tbl ps := by intro _ z; cases z) : Fz φ' a ∧ H' a = some u :=
  let ⟨h1, h2⟩ := e.fz a u h.2 g n
  ⟨⟨by rw [e.hid]; exact h.1, h1⟩, h2⟩
theorem Ext.frzR {K : PySem.W.Frag} {φ φ' : Ph} {H H' : Hp} (e : Ext K φ φ' H H') {a : Addr} {u : HO} (h : Fz φ a) (g : Rd H a u) (n : ∀ ps, u ≠ .tbl ps := by intro _ z; cases z) : Fz φ' a ∧ Rd H' a u := by
  rcases g with g | ⟨o, g⟩
  · exact let ⟨x, y⟩ := e.frz h g n; ⟨x, .inl y⟩
  · exact let ⟨x, y⟩ := e.frz h g; ⟨x, .inr ⟨o, y⟩⟩
theorem LsA.mono {K : PySem.W.Frag} {φ φ' : Ph} {H H' : Hp} (e : Ext K φ φ' H H') {a : Addr} {xs : List V} (h : LsA K φ H a xs) : LsA K φ' H' a xs := by
  rcases h with ⟨f, h | ⟨o, h⟩⟩ | h
  · obtain ⟨f', h'⟩ := e.frz f h
    exact .inl ⟨f', .inl h'⟩
  · obtain ⟨f', h'⟩ := e.frz f h
    exact .inl ⟨f', .inr ⟨o, h'⟩⟩
  · exact .inr h

theorem TqA.mono {K : PySem.W.Frag} {φ φ' : Ph} {H H' : Hp} (e : Ext K φ φ' H H') {a : Addr} {xs : List V} (h : TqA φ H a xs) : TqA φ' H' a xs := by
  obtain ⟨f, o, h1, h2⟩ := h
  obtain ⟨f', h'⟩ := e.frz f h1
  exact ⟨f', o, h', h2⟩
theorem TqA.sqt {K : PySem.W.Frag} {φ : Ph} {H : Hp} {a : Addr} {xs : List V} (h : TqA φ H a xs) : SqT K H a xs := let ⟨_, o, h1, _⟩ := h; .inl (.inr ⟨o, h1⟩)

section
variable {K : PySem.W.Frag} {φ φ' : Ph} {H H' : Hp}
mutual
theorem RV.mono (e : Ext K φ φ' H H') : ∀ {d : D} {v : V}, RV K φ H d v → RV K φ' H' d v
  | .non, _, h => h
  | .bl _, _, h => h
  | .int _, _, h => h
  | .str _, _, h => h
  | .ty _, _, h => h
  | .adr _, _, h => h
  | .ref _, _, ⟨a, h1, h2⟩ => ⟨a, e.get h1, h2⟩
  | .tup _, _, ⟨p, vs, h1, h2, h3⟩ => ⟨p, vs, h1, e.tup _ _ h2, RVs.mono e h3⟩
  | .kt _, _, ⟨p, vs, h1, h2, h3⟩ => ⟨p, vs, h1, h2, RVs.mono e h3⟩
  | .lst _, _, ⟨p, vs, h1, h2, h3, h4⟩ => let ⟨f, g⟩ := e.frz h2 h3; ⟨p, vs, h1, f, g, RVs.mono e h4⟩
  | .scr _, _, ⟨p, h1, h2⟩ => ⟨p, h1, h2.mono e⟩
  | .tq _, _, ⟨p, h1, h2⟩ => ⟨p, h1, h2.mono e⟩
  | .ins _ _ _, _, ⟨p, dx, vs, h1, h2, h3, h4, h5⟩ => let ⟨f, g⟩ := e.frz h2 h3; ⟨p, dx, vs, h1, f, g, h4, RVs.mono e h5⟩
  | .dK _ _, _, ⟨p, vs, h1, h2, h3, h4, h5⟩ => let ⟨f, g⟩ := e.frzR h2 h3; ⟨p, vs, h1, f, g, h4, RVs.mono e h5⟩
  | .dT _ _, _, ⟨p, vs, h1, h2, h3, h4, h5⟩ => let ⟨f, g⟩ := e.frzR h2 h3; ⟨p, vs, h1, f, g, h4, RVs.mono e h5⟩
  | .bad, _, h => h.elim
theorem RVs.mono (e : Ext K φ φ' H H') : ∀ {ds : List D} {vs : List V}, RVs K φ H ds vs → RVs K φ' H' ds vs
  | [], _, h => h
  | _ :: _, _, ⟨v, ws, h1, h2, h3⟩ => ⟨v, ws, h1, RV.mono e h2, RVs.mono e h3⟩
end
theorem RKV.mono {κ : Type} (e : Ext K φ φ' H H') : ∀ {ds : List (κ × D)} {vs : List (κ × V)}, RKV K φ H ds vs → RKV K φ' H' ds vs
  | [], _, h => h
  | _ :: _, _, ⟨v, ws, h1, h2, h3⟩ => ⟨v, ws, h1, RV.mono e h2, RKV.mono e h3⟩
theorem RVs.len : ∀ {ds : List D} {vs : List V}, RVs K φ H ds vs → vs.length = ds.length
  | [], _, h => by cases h; rfl
  | _ :: _, _, ⟨v, ws, h1, h2, h3⟩ => by subst h1; simp [RVs.len h3]
theorem RVs.app : ∀ {ds es : List D} {vs ws : List V}, RVs K φ H ds vs → RVs K φ H es ws → RVs K φ H (ds ++ es) (vs ++ ws)
  | [], _, _, _, h, g => by cases h; exact g
  | _ :: _, _, _, _, ⟨v, ws, h1, h2, h3⟩, g => by subst h1; exact ⟨v, _, rfl, h2, RVs.app h3 g⟩
theorem RVs.get : ∀ {ds : List D} {vs : List V} {i : Nat} {d : D}, RVs K φ H ds vs → ds[i]? = some d → ∃ v, vs[i]? = some v ∧ RV K φ H d v
  | [], _, _, _, _, e => by simp at e
  | _ :: _, _, 0, _, ⟨v, ws, h1, h2, h3⟩, e => by subst h1; simp at e; subst e; exact ⟨v, rfl, h2⟩
  | _ :: _, _, i + 1, _, ⟨v, ws, h1, h2, h3⟩, e => by subst h1; exact RVs.get (i := i) h3 (by simpa using e)
theorem RVs.set {d : D} {v : V} (r : RV K φ H d v) : ∀ {ds : List D} {vs : List V} (i : Nat), RVs K φ H ds vs → RVs K φ H (ds.set i d) (vs.set i v)
  | [], _, _, h => (by cases h; rfl)
  | _ :: _, _, 0, ⟨v', ws, h1, h2, h3⟩ => by subst h1; exact ⟨v, ws, rfl, r, h3⟩
  | _ :: _, _, i + 1, ⟨v', ws, h1, h2, h3⟩ => by subst h1; exact ⟨v', _, rfl, h2, RVs.set r i h3⟩
theorem RVs.take : ∀ {ds : List D} {vs : List V} (n : Nat), RVs K φ H ds vs → RVs K φ H (ds.take n) (vs.take n)
  | [], _, _, h => by cases h; simp [RVs]
  | _ :: _, _, 0, _ => by simp [RVs]
  | _ :: _, _, n + 1, ⟨v, ws, h1, h2, h3⟩ => by subst h1; exact ⟨v, _, rfl, h2, RVs.take n h3⟩
theorem RVs.drop : ∀ {ds : List D} {vs : List V} (n : Nat), RVs K φ H ds vs → RVs K φ H (ds.drop n) (vs.drop n)
  | [], _, _, h => by cases h; simp [RVs]
  | _ :: _, _, 0, h => h
  | _ :: _, _, n + 1, ⟨v, ws, h1, h2, h3⟩ => by subst h1; exact RVs.drop n h3
theorem RVs.ofInts : ∀ {ns : List Int}, RVs K φ H (ns.map D.int) (ns.map V.int)
  | [] => rfl
  | n :: _ => ⟨.int n, _, rfl, rfl, RVs.ofInts⟩
/-- pairs, split -/
theorem RKV.split {κ : Type} : ∀ {fs : List (κ × D)} {gs : List (κ × V)}, RKV K φ H fs gs → ∃ vs, gs = (fs.map (·.1)).zip vs ∧ RVs K φ H (fs.map (·.2)) vs
  | [], _, h => by cases h; exact ⟨[], rfl, rfl⟩
  | p :: ps, _, ⟨v, r, e, h1, h2⟩ => by
    obtain ⟨vs, e2, h3⟩ := RKV.split h2
    subst e e2
    exact ⟨v :: vs, rfl, v, vs, rfl, h1, h3⟩
theorem RVs.zip {κ : Type} : ∀ {ns : List κ} {ds : List D} {vs : List V}, RVs K φ H ds vs → ns.length = ds.length → RKV K φ H (ns.zip ds) (ns.zip vs)
  | [], [], _, h, _ => by cases h; rfl
  | n :: ns, d :: ds, _, ⟨v, ws, e, h1, h2⟩, hl => by subst e; exact ⟨v, _, rfl, h1, RVs.zip h2 (by simpa using hl)⟩
  | [], _ :: _, _, _, hl => by simp at hl
  | _ :: _, [], _, _, hl => by simp at hl
end

/-- the ground of a body: the numbers and the heap at its entry -/
structure Bs where
  φ0 : Ph
  H0 : Hp
  T : List (Addr × Str)
/-- a state over the ground -/
structure HR (K : PySem.W.Frag) (B : Bs) (φ : Ph) (H : Hp) (S : List O) : Prop where
  ext : Ext K B.φ0 φ B.H0 H
  rel : Rel K φ H S
  tab : LamX.Tabs B.T H
abbrev Sl := List (Option D)
structure EV (K : PySem.W.Frag) (φ : Ph) (H : Hp) (s : Sl) (σ : L2.St) : Prop where
  len : σ.length = s.length
  at' : ∀ (i : Nat) (d : D), s[i]? = some (some d) → ∃ v, σ[i]? = some (some v) ∧ RV K φ H d v
theorem EV.mono {X : Cx} {φ φ' : Ph} {H H' : Hp} {s : Sl} {σ : L2.St} (h : EV X.K φ H s σ) (e : Ext X.K φ φ' H H') : EV X.K φ' H' s σ :=
  ⟨h.len, fun i d q => let ⟨v, a, b⟩ := h.at' i d q; ⟨v, a, b.mono e⟩⟩
theorem HR.mono {X : Cx} {B : Bs} {φ φ' : Ph} {H H' : Hp} {S S' : List O} (h : HR X.K B φ H S) (e : Ext X.K φ φ' H H') (r : Rel X.K φ' H' S') (t : LamX.Tabs B.T H') : HR X.K B φ' H' S' := ⟨h.ext.trans e, r, t⟩

section
variable (K : PySem.W.Frag) (B : Bs)
/-- what is wanted of an outcome -/
def Kont {δ ν : Type} (rel : Ph → Hp → δ → ν → Prop) (φ : Ph) (H : Hp) (Q' : δ → List O → Prop) (Q : ν → Hp → Prop) : Prop :=
  ∀ φ' d S' v H', Ext K φ φ' H H' → HR K B φ' H' S' → rel φ' H' d v → Q' d S' → Q v H'
/-- a reading over data, as a reading of HandS's -/
def UP {δ ν : Type} (rel : Ph → Hp → δ → ν → Prop) (q : Sl → List O → (δ → List O → Prop) → Prop)   : L2.St → Hp → (ν → Hp → Prop) → Prop :=
  fun σ H Q => ∃ φ s S Q', HR K B φ H S ∧ EV K φ H s σ ∧ q s S Q' ∧ Kont K B rel φ H Q' Q
abbrev QE := Sl → List O → (D → List O → Prop) → Prop
abbrev QA := Sl → List O → (List D → List O → Prop) → Prop
abbrev QT := Sl → List O → (Bool → List O → Prop) → Prop
abbrev rD : Ph → Hp → D → V → Prop := fun φ H d v => RV K φ H d v
abbrev rDs : Ph → Hp → List D → List V → Prop := fun φ H d v => RVs K φ H d v
abbrev rB : Ph → Hp → Bool → Bool → Prop := fun _ _ a b => a = b
/-- wished behind a statement; the first n objects stay numbered -/
structure Ed where
  nx : Sl → List O → Prop
  rt : D → List O → Prop
  bk : Sl → List O → Prop := fun _ _ => False
  ct : Sl → List O → Prop := fun _ _ => False
  n : Nat
structure EK0 (φ : Ph) (H : Hp) (D' : Ed) (D : Ends) : Prop where
  hB : B.φ0.own.length ≤ D'.n
  hE : φ.own.length ≤ D'.n
  nx : ∀ φ' H' S' s' σ', Ext K φ φ' H H' → HR K B φ' H' S' → EV K φ' H' s' σ' → D'.nx s' S' → D.nx σ' H'
  rt : ∀ φ' H' S' d v, Ext K φ φ' H H' → HR K B φ' H' S' → RV K φ' H' d v → D'.rt d S' → D.rt v H'
  bk : ∀ φ' H' S' s' σ', Ext K φ φ' H H' → HR K B φ' H' S' → EV K φ' H' s' σ' → D'.bk s' S' → D.bk σ' H'
  ct : ∀ φ' H' S' s' σ', Ext K φ φ' H H' → HR K B φ' H' S' → EV K φ' H' s' σ' → D'.ct s' S' → D.ct σ' H'
/-- since some earlier time -/
def EK (φ : Ph) (H : Hp) (D' : Ed) (D : Ends) : Prop := ∃ φe He, Ext K φe φ He H ∧ EK0 K B φe He D' D
abbrev QS := Ed → Sl → List O → Prop
def US (q : QS) : TS := fun D σ H => ∃ φ s S D', HR K B φ H S ∧ EV K φ H s σ ∧ q D' s S ∧ EK K B φ H D' D
end
abbrev LE (X : Cx) (B : Bs) (e : Expr) (q : QE) : Prop := PE X e (UP X.K B (rD X.K) q)
abbrev LA (X : Cx) (B : Bs) (e : List Expr) (q : QA) : Prop := PA X e (UP X.K B (rDs X.K) q)
abbrev LT (X : Cx) (B : Bs) (e : Expr) (q : QT) : Prop := PT X e (UP X.K B rB q)
abbrev LW (X : Cx) (B : Bs) (e : Expr) (q : QT) : Prop := PW X e (UP X.K B rB q)
abbrev LS (X : Cx) (B : Bs) (e : Stmt) (q : QS) : Prop := PS X e (US X.K B q)
abbrev LSs (X : Cx) (B : Bs) (e : List Stmt) (q : QS) : Prop := PSs X e (US X.K B q)
section
variable {X : Cx} {B : Bs} {φ φ1 : Ph} {H H1 : Hp} {D' : Ed} {D : Ends}
theorem EK.ext (k : EK X.K B φ H D' D) (e : Ext X.K φ φ1 H H1) : EK X.K B φ1 H1 D' D := let ⟨φe, He, x, k0⟩ := k; ⟨φe, He, x.trans e, k0⟩
theorem EK.nx (k : EK X.K B φ H D' D) : ∀ φ' H' S' s' σ', Ext X.K φ φ' H H' → HR X.K B φ' H' S' → EV X.K φ' H' s' σ' → D'.nx s' S' → D.nx σ' H' := let ⟨_, _, x, k0⟩ := k; fun φ' H' S' s' σ' e => k0.nx φ' H' S' s' σ' (x.trans e)
theorem EK.rt (k : EK X.K B φ H D' D) : ∀ φ' H' S' d v, Ext X.K φ φ' H H' → HR X.K B φ' H' S' → RV X.K φ' H' d v → D'.rt d S' → D.rt v H' := let ⟨_, _, x, k0⟩ := k; fun φ' H' S' s' σ' e => k0.rt φ' H' S' s' σ' (x.trans e)
theorem EK.bk (k : EK X.K B φ H D' D) : ∀ φ' H' S' s' σ', Ext X.K φ φ' H H' → HR X.K B φ' H' S' → EV X.K φ' H' s' σ' → D'.bk s' S' → D.bk σ' H' := let ⟨_, _, x, k0⟩ := k; fun φ' H' S' s' σ' e => k0.bk φ' H' S' s' σ' (x.trans e)
theorem EK.ct (k : EK X.K B φ H D' D) : ∀ φ' H' S' s' σ', Ext X.K φ φ' H H' → HR X.K B φ' H' S' → EV X.K φ' H' s' σ' → D'.ct s' S' → D.ct σ' H' := let ⟨_, _, x, k0⟩ := k; fun φ' H' S' s' σ' e => k0.ct φ' H' S' s' σ' (x.trans e)
/-- another wish behind, the same time -/
theorem EK.seq {f : Sl → List O → Prop} {D2 : Ends} (k : EK X.K B φ H D' D) (h : ∀ φ' H' S' s' σ', EK X.K B φ' H' D' D → HR X.K B φ' H' S' → EV X.K φ' H' s' σ' → f s' S' → D2.nx σ' H') (e1 : D2.rt = D.rt) (e2 : D2.bk = D.bk) (e3 : D2.ct = D.ct) : EK X.K B φ H { D' with nx := f } D2 :=
  let ⟨φe, He, x, k0⟩ := k
  ⟨φe, He, x, k0.hB, k0.hE, fun φ' H' S' s' σ' e hr ev q => h φ' H' S' s' σ' ⟨φe, He, e, k0⟩ hr ev q, by rw [e1]; exact k0.rt, by rw [e2]; exact k0.bk, by rw [e3]; exact k0.ct⟩
end
theorem Kont.ext {X : Cx} {B : Bs} {δ ν : Type} {rel : Ph → Hp → δ → ν → Prop} {φ φ1 : Ph} {H H1 : Hp} {Q' : δ → List O → Prop} {Q : ν → Hp → Prop} (k : Kont X.K B rel φ H Q' Q) (e : Ext X.K φ φ1 H H1) : Kont X.K B rel φ1 H1 Q' Q :=
  fun φ' d S' v H' e' hr r q => k φ' d S' v H' (e.trans e') hr r q
theorem PE.imp {X : Cx} {e : Expr} {t t' : TE} (h : PE X e t) (i : ∀ σ H Q, t' σ H Q → t σ H Q) : PE X e t' := ⟨fun pins s σ H Q I w => h.run pins s σ H Q I (i _ _ _ w)⟩
theorem PT.imp {X : Cx} {e : Expr} {t t' : TT} (h : PT X e t) (i : ∀ σ H Q, t' σ H Q → t σ H Q) : PT X e t' := ⟨fun pins s σ H Q I w => h.run pins s σ H Q I (i _ _ _ w)⟩
theorem PW.imp {X : Cx} {e : Expr} {t t' : TT} (h : PW X e t) (i : ∀ σ H Q, t' σ H Q → t σ H Q) : PW X e t' := ⟨fun wh pins s σ H Q I w => h.run wh pins s σ H Q I (i _ _ _ w)⟩
theorem PA.imp {X : Cx} {e : List Expr} {t t' : TA} (h : PA X e t) (i : ∀ σ H Q, t' σ H Q → t σ H Q) : PA X e t' := ⟨fun pos pins s σ H Q I w => h.run pos pins s σ H Q I (i _ _ _ w)⟩
theorem PS.imp {X : Cx} {e : Stmt} {t t' : TS} (h : PS X e t) (i : ∀ D σ H, t' D σ H → t D σ H) : PS X e t' := ⟨fun pins s σ H D I w => h.run pins s σ H D I (i _ _ _ w)⟩
theorem PSs.imp {X : Cx} {e : List Stmt} {t t' : TS} (h : PSs X e t) (i : ∀ D σ H, t' D σ H → t D σ H) : PSs X e t' := ⟨fun pins s σ H D I w => h.run pins s σ H D I (i _ _ _ w)⟩

/-! ### heaps change -/
section
variable {K : PySem.W.Frag} {φ : Ph} {H : Hp} {S : List O} {p : Addr} {o : HO}
/-- one more number -/
def Ph.add (φ : Ph) (p : Addr) : Ph := ⟨φ.hid, φ.own ++ [p]⟩
theorem ext_at {H' : Hp} (at_ : ∀ b u, H b = some u → H' b = some u) : Ext K φ φ H H' := ⟨rfl, List.prefix_refl _, fun q vs h => at_ _ _ h, fun q gs h => at_ _ _ h, fun a u h g _ => ⟨h, at_ _ _ g⟩⟩
/-- a new object: all stays -/
theorem ext_new (hp : H p = none) : Ext K φ φ H (upd H p o) := ext_at fun b u z => by rw [upd_ne (ne_of_none z hp)]; exact z
theorem ext_add (hp : H p = none) : Ext K φ (φ.add p) H (upd H p o) := by
  have e := ext_new (K := K) (φ := φ) (o := o) hp
  refine ⟨rfl, List.prefix_append _ _, e.tup, e.xd, fun a u h g n => ⟨fun z => ?_, (e.fz a u h g n).2⟩⟩
  rcases List.mem_append.mp z with z | z
  · exact h z
  · rw [List.mem_singleton.mp z, hp] at g; cases g
/-- what an object's place says is kept where H keeps the object -/
theorem RO.mono {φ' : Ph} {H' : Hp} (e : Ext K φ φ' H H') {x : O} {a : Addr} (hk : ∀ u, H a = some u → (∀ ps, u ≠ HO.tbl ps) → H' a = some u) (h : RO K φ H x a) : RO K φ' H' x a := by
  cases x with
  | lst xs => obtain ⟨vs, h1, h2⟩ := h; exact ⟨vs, hk _ h1 (fun _ z => by cases z), h2.mono e⟩
  | drw => obtain ⟨l, vs, h0, h1, h2⟩ := h; exact ⟨l, vs, h0, hk _ h1 (fun _ z => by cases z), h2.mono e⟩
  | ins C fs => obtain ⟨dx, gs, h1, h2⟩ := h; exact ⟨dx, gs, hk _ h1 (fun _ z => by cases z), h2.mono e⟩
  | dK l => obtain ⟨m, h1, h2⟩ := h; exact ⟨m, hk _ h1 (fun _ z => by cases z), h2.mono e⟩
  | dT l => obtain ⟨m, h1, h2⟩ := h; exact ⟨m, hk _ h1 (fun _ z => by cases z), h2.mono e⟩
  | non => obtain ⟨u, h, g⟩ := h; exact ⟨u, hk _ h g, g⟩
theorem RO.is_some {x : O} {a : Addr} (h : RO K φ H x a) : Trk H a := by
  cases x with
  | lst xs => obtain ⟨vs, h1, h2⟩ := h; exact ⟨_, h1, fun _ z => by cases z⟩
  | drw => obtain ⟨l, vs, h0, h1, h2⟩ := h; exact ⟨_, h1, fun _ z => by cases z⟩
  | ins C fs => obtain ⟨dx, gs, h1, h2⟩ := h; exact ⟨_, h1, fun _ z => by cases z⟩
  | dK l => obtain ⟨m, h1, h2⟩ := h; exact ⟨_, h1, fun _ z => by cases z⟩
  | dT l => obtain ⟨m, h1, h2⟩ := h; exact ⟨_, h1, fun _ z => by cases z⟩
  | non => exact h
/-- what we change: lists, instances, dicts -/
def Mu : HO → Prop
  | .lst _ => True
  | .ins _ _ _ => True
  | .dK _ => True
  | .dT _ => True
  | _ => False
theorem tab_write {a : Addr} {u : HO} (hu : H a = some u) (m : Mu u) {q : Addr} {n : Str} (h : LamX.TabS H q n) : LamX.TabS (upd H a o) q n := by
  obtain ⟨ps, h1, h2, h3⟩ := h
  have nq : q ≠ a := fun z => by subst z; rw [hu] at h1; cases h1; exact m
  refine ⟨ps, by rw [upd_ne nq]; exact h1, h2, fun pos cv hc => ?_⟩
  have ⟨c, e1, e2⟩ := h3 pos cv hc
  have nc : c ≠ a := fun z => by
    subst z
    rw [hu] at e2
    have e3 : u = LamX.CodeO c n := Option.some.inj e2
    subst e3
    exact m
  exact ⟨c, e1, by rw [upd_ne nc]; exact e2⟩
/-- an object that may be changed -/
def O.mut : O → Bool
  | .non => false
  | _ => true
theorem RO.here {x : O} {a : Addr} (h : RO K φ H x a) (m : x.mut = true) : ∃ u, H a = some u ∧ Mu u := by
  cases x with
  | lst xs => obtain ⟨vs, h1, h2⟩ := h; exact ⟨_, h1, trivial⟩
  | drw => obtain ⟨l, vs, h0, h1, h2⟩ := h; exact ⟨_, h1, trivial⟩
  | ins C fs => obtain ⟨dx, gs, h1, h2⟩ := h; exact ⟨_, h1, trivial⟩
  | dK l => obtain ⟨m, h1, h2⟩ := h; exact ⟨_, h1, trivial⟩
  | dT l => obtain ⟨m, h1, h2⟩ := h; exact ⟨_, h1, trivial⟩
  | non => cases m
/-- all is kept -/
theorem Rel.kept {H' : Hp} (r : Rel K φ H S) (e : Ext K φ φ H H') (hk : ∀ b u, H b = some u → (∀ ps, u ≠ HO.tbl ps) → H' b = some u) : Rel K φ H' S :=
  ⟨r.nd, r.dj, fun a h => let ⟨u, g, z⟩ := r.hd a h; ⟨u, hk _ _ g z, z⟩, r.len, fun i x q => let ⟨a, h1, h2⟩ := r.ob i x q; ⟨a, h1, h2.mono e (hk a)⟩⟩
theorem Rel.own_some (r : Rel K φ H S) {a : Addr} (h : a ∈ φ.own) : Trk H a := by
  obtain ⟨i, hi⟩ := List.getElem?_of_mem h
  have hl : i < S.length := by rw [← r.len]; exact (List.getElem?_eq_some_iff.mp hi).1
  obtain ⟨a', h1, h2⟩ := r.ob i _ (List.getElem?_eq_getElem hl)
  rw [hi] at h1; cases h1
  exact h2.is_some
/-- a new object -/
theorem Rel.push {x : O} (r : Rel K φ H S) (hp : H p = none) (h : RO K (φ.add p) (upd H p o) x p) : Rel K (φ.add p) (upd H p o) (S ++ [x]) := by
  have e : Ext K φ (φ.add p) H (upd H p o) := ext_add hp
  have hk : ∀ b u, H b = some u → upd H p o b = some u := fun b u z => by rw [upd_ne (ne_of_none z hp)]; exact z
  have np : p ∉ φ.own := fun z => by obtain ⟨u, hu, _⟩ := r.own_some z; rw [hp] at hu; cases hu
  refine ⟨?_, fun a ha z => ?_, fun a ha => let ⟨u, g, z⟩ := r.hd a ha; ⟨u, hk _ _ g, z⟩, by simp [Ph.add, r.len], fun i y q => ?_⟩
  · show (φ.own ++ [p]).Nodup
    rw [List.nodup_append]
    refine ⟨r.nd, by simp, fun a ha b hb z => ?_⟩
    rw [List.mem_singleton.mp hb] at z
    exact np (z ▸ ha)
  · rcases List.mem_append.mp z with z | z
    · exact r.dj a ha z
    · obtain ⟨u, g, _⟩ := r.hd a ha
      rw [List.mem_singleton.mp z, hp] at g; cases g
  · by_cases hl : i < S.length
    · rw [List.getElem?_append_left hl] at q
      obtain ⟨a, h1, h2⟩ := r.ob i y q
      exact ⟨a, e.get h1, h2.mono e fun u hu _ => hk _ _ hu⟩
    · rw [List.getElem?_append_right (by omega)] at q
      have h0 : i - S.length = 0 := by
        have := (List.getElem?_eq_some_iff.mp q).1
        simp at this; omega
      rw [h0] at q
      simp at q
      subst q
      have hi : i = φ.own.length := by rw [r.len]; omega
      exact ⟨p, by show (φ.own ++ [p])[i]? = _; rw [hi]; simp, h⟩
/-- an object is written -/
theorem ext_write {a : Addr} {u : HO} (hu : H a = some u) (m : Mu u) (ho : a ∈ φ.own) : Ext K φ φ H (upd H a o) := ⟨rfl, List.prefix_refl _, fun q vs h => by
    have nq : q ≠ a := fun z => by subst z; rw [hu] at h; cases h; exact m
    rw [upd_ne nq]; exact h, fun q gs h => by
    have nq : q ≠ a := fun z => by subst z; rw [hu] at h; cases h; exact m
    rw [upd_ne nq]; exact h, fun b v h g _ => ⟨h, by rw [upd_ne (fun z => h (z ▸ ho) : b ≠ a)]; exact g⟩⟩
theorem Rel.write {x y : O} {k : Nat} {a : Addr} (r : Rel K φ H S) (hx : S[k]? = some x) (m : x.mut = true) (ha : φ.own[k]? = some a) (h : RO K φ (upd H a o) y a) : Rel K φ (upd H a o) (S.set k y) := by
  obtain ⟨a', h1, h2⟩ := r.ob k x hx
  rw [ha] at h1; cases h1
  obtain ⟨u, hu, mu⟩ := h2.here m
  have mo : a ∈ φ.own := List.mem_of_getElem? ha
  have e : Ext K φ φ H (upd H a o) := ext_write hu mu mo
  have hl : k < S.length := (List.getElem?_eq_some_iff.mp hx).1
  refine ⟨r.nd, r.dj, fun b hb => ?_, by simpa using r.len, fun i z q => ?_⟩
  · obtain ⟨v, g, gz⟩ := r.hd b hb
    exact ⟨v, by rw [upd_ne (fun z => r.dj b hb (z ▸ mo) : b ≠ a)]; exact g, gz⟩
  · by_cases hi : i = k
    · subst hi
      rw [List.getElem?_set_self hl] at q
      cases q
      exact ⟨a, ha, h⟩
    · rw [List.getElem?_set_ne (Ne.symm hi)] at q
      obtain ⟨b, h3, h4⟩ := r.ob i z q
      have hb : b ≠ a := fun hz => by
        subst hz
        obtain ⟨l1, g1⟩ := List.getElem?_eq_some_iff.mp h3
        obtain ⟨l2, g2⟩ := List.getElem?_eq_some_iff.mp ha
        exact hi ((List.getElem_inj r.nd).mp (g1.trans g2.symm))
      exact ⟨b, h3, h4.mono e fun v hv _ => by rw [upd_ne hb]; exact hv⟩
end
end LC

set_option Elab.async false
set_option linter.all false
set_option maxRecDepth 100000
set_option maxHeartbeats 5000000
/-! LD1: expressions over data. -/
namespace LC
open PySem PySem.Spec
open PyProof.Rows L2

/-- a where c is true, b where it is not -/
def Br (c : Bool) (a b : Prop) : Prop := match c with
  | true => a
  | false => b
theorem Br.mk {c : Bool} {a b : Prop} (h : c = true → a) (g : c = false → b) : Br c a b := by cases c; exact g rfl; exact h rfl
theorem Br.t {c : Bool} {a b : Prop} (h : Br c a b) (e : c = true) : a := by subst e; exact h
theorem Br.f {c : Bool} {a b : Prop} (h : Br c a b) (e : c = false) : b := by subst e; exact h
theorem lif {c : Bool} {P Q : Prop} (h1 : c = true → P) (h2 : c = false → Q) : Br c P Q := Br.mk h1 h2
theorem lifT {c : Bool} {P Q : Prop} (h : c = true) (p : P) : Br c P Q := by subst h; exact p
theorem lifF {c : Bool} {P Q : Prop} (h : c = false) (q : Q) : Br c P Q := by subst h; exact q
/-- a test of a decided thing -/
theorem brd {p : Prop} [i : Decidable p] {P Q : Prop} (h1 : p → P) (h2 : ¬ p → Q) : Br (decide p) P Q := Br.mk (fun e => h1 (of_decide_eq_true e)) (fun e => h2 (of_decide_eq_false e))
theorem brT {p : Prop} [i : Decidable p] {P Q : Prop} (h : p) (q : P) : Br (decide p) P Q := lifT (decide_eq_true h) q
theorem brF {p : Prop} [i : Decidable p] {P Q : Prop} (h : ¬ p) (q : Q) : Br (decide p) P Q := lifF (decide_eq_false h) q
theorem bnd {p : Prop} [i : Decidable p] {P Q : Prop} (h1 : p → Q) (h2 : ¬ p → P) : Br (!decide p) P Q := Br.mk (fun e => h2 (by simpa using e)) (fun e => h1 (by simpa using e))
/-- a side condition, then the rest -/
structure Need (c q : Prop) : Prop where
  c : c
  q : q

section
variable {X : Cx} {B : Bs} {δ ν : Type} {rel : Ph → Hp → δ → ν → Prop} {φ : Ph} {H : Hp} {S : List O}
theorem Kont.here {Q' : δ → List O → Prop} {Q : ν → Hp → Prop} {d : δ} {v : ν} (k : Kont X.K B rel φ H Q' Q) (hr : HR X.K B φ H S) (r : rel φ H d v) (q : Q' d S) : Q v H := k φ d S v H Ext.refl hr r q
theorem tabs_new {H : Hp} {p : Addr} {o : HO} {T : List (Addr × Str)} (hp : H p = none) (t : LamX.Tabs T H) : LamX.Tabs T (upd H p o) := t.ext fun b u z => by rw [upd_ne (ne_of_none z hp)]; exact z
theorem tabs_write {H : Hp} {a : Addr} {u o : HO} {T : List (Addr × Str)} (hu : H a = some u) (m : Mu u) (t : LamX.Tabs T H) : LamX.Tabs T (upd H a o) := fun p hp => tab_write hu m (t p hp)
theorem HR.new {p : Addr} {o : HO} {x : O} (hr : HR X.K B φ H S) (hp : H p = none) (h : RO X.K (φ.add p) (upd H p o) x p) : HR X.K B (φ.add p) (upd H p o) (S ++ [x]) :=
  hr.mono (ext_add hp) (hr.rel.push hp h) (tabs_new hp hr.tab)
theorem Rel.last {K : PySem.W.Frag} (r : Rel K φ H S) (p : Addr) : (φ.add p).own[S.length]? = some p := by show (φ.own ++ [p])[_]? = _; rw [← r.len]; simp
/-- a new object that may change -/
theorem Kont.new {Q' : D → List O → Prop} {Q : VK} {p : Addr} {o : HO} {x : O} (k : Kont X.K B (rD X.K) φ H Q' Q) (hr : HR X.K B φ H S) (hp : H p = none) (h : RO X.K (φ.add p) (upd H p o) x p) (q : Q' (.ref S.length) (S ++ [x])) : Q (.ref p) (upd H p o) :=
  k _ _ _ _ _ (ext_add hp) (hr.new hp h) (show RV X.K _ _ (.ref S.length) _ from ⟨p, hr.rel.last p, rfl⟩) q
theorem HR.fix {p : Addr} {o : HO} (hr : HR X.K B φ H S) (hp : H p = none) : HR X.K B φ (upd H p o) S :=
  hr.mono (ext_new hp) (hr.rel.kept (ext_new hp) fun b u z _ => by rw [upd_ne (ne_of_none z hp)]; exact z) (tabs_new hp hr.tab)
theorem Rel.new_fz {K : PySem.W.Frag} {p : Addr} (r : Rel K φ H S) (hp : H p = none) : Fz φ p :=
  ⟨fun z => let ⟨u, g, _⟩ := r.hd p z; (nomatch hp.symm.trans g), fun z => let ⟨u, g, _⟩ := r.own_some z; (nomatch hp.symm.trans g)⟩
theorem RV.tup_new {K : PySem.W.Frag} {p : Addr} {ds : List D} {vs : List V} (hp : H p = none) (r : RVs K φ H ds vs) : RV K φ (upd H p (.tup vs)) (.tup ds) (.ref p) :=
  ⟨p, vs, rfl, upd_same, r.mono (ext_new hp)⟩
theorem Kont.tup {Q' : D → List O → Prop} {Q : VK} {p : Addr} {ds : List D} {vs : List V} (k : Kont X.K B (rD X.K) φ H Q' Q) (hr : HR X.K B φ H S) (hp : H p = none) (r : RVs X.K φ H ds vs) (q : Q' (.tup ds) S) : Q (.ref p) (upd H p (.tup vs)) :=
  k _ _ _ _ _ (ext_new hp) (hr.fix hp) (RV.tup_new hp r) q
theorem RV.lst_new {K : PySem.W.Frag} {p : Addr} {ds : List D} {vs : List V} (rl : Rel K φ H S) (hp : H p = none) (r : RVs K φ H ds vs) : RV K φ (upd H p (.lst vs)) (.lst ds) (.ref p) :=
  ⟨p, vs, rfl, rl.new_fz hp, upd_same, r.mono (ext_new hp)⟩
/-- a new list that stays as it is -/
theorem Kont.lst {Q' : D → List O → Prop} {Q : VK} {p : Addr} {ds : List D} {vs : List V} (k : Kont X.K B (rD X.K) φ H Q' Q) (hr : HR X.K B φ H S) (hp : H p = none) (r : RVs X.K φ H ds vs) (q : Q' (.lst ds) S) : Q (.ref p) (upd H p (.lst vs)) :=
  k _ _ _ _ _ (ext_new hp) (hr.fix hp) (RV.lst_new hr.rel hp r) q
theorem Kont.lstM {Q' : D → List O → Prop} {Q : VK} {p : Addr} {ds : List D} {vs : List V} (k : Kont X.K B (rD X.K) φ H Q' Q) (hr : HR X.K B φ H S) (hp : H p = none) (r : RVs X.K φ H ds vs) (q : Q' (.ref S.length) (S ++ [.lst ds])) : Q (.ref p) (upd H p (.lst vs)) :=
  k.new (x := .lst ds) hr hp ⟨vs, upd_same, r.mono (ext_add hp)⟩ q
theorem HR.write {a : Addr} {o : HO} {x y : O} {k : Nat} (hr : HR X.K B φ H S) (hx : S[k]? = some x) (m : x.mut = true) (ha : φ.own[k]? = some a) (h : Ext X.K φ φ H (upd H a o) → RO X.K φ (upd H a o) y a) : Ext X.K φ φ H (upd H a o) ∧ HR X.K B φ (upd H a o) (S.set k y) := by
  obtain ⟨a', h1, h2⟩ := hr.rel.ob k x hx
  rw [ha] at h1; cases h1
  obtain ⟨u, hu, mu⟩ := h2.here m
  have e : Ext X.K φ φ H (upd H a o) := ext_write hu mu (List.mem_of_getElem? ha)
  exact ⟨e, hr.mono e (hr.rel.write hx m ha (h e)) (tabs_write hu mu hr.tab)⟩
/-- an object is written -/
theorem Kont.write {Q' : D → List O → Prop} {Q : VK} {a : Addr} {o : HO} {x y : O} {k' : Nat} {d : D} {v : V} (k : Kont X.K B (rD X.K) φ H Q' Q) (hr : HR X.K B φ H S) (hx : S[k']? = some x) (m : x.mut = true) (ha : φ.own[k']? = some a) (h : Ext X.K φ φ H (upd H a o) → RO X.K φ (upd H a o) y a)
    (rv : ∀ H', Ext X.K φ φ H H' → RV X.K φ H' d v) (q : Q' d (S.set k' y)) : Q v (upd H a o) := by
  obtain ⟨e, hr'⟩ := hr.write hx m ha h
  exact k _ _ _ _ _ e hr' (rv _ e) q
theorem HR.lstO {k : Nat} {xs : List D} (hr : HR X.K B φ H S) (h : S[k]? = some (.lst xs)) : ∃ a vs, φ.own[k]? = some a ∧ H a = some (.lst vs) ∧ RVs X.K φ H xs vs :=
  let ⟨a, h1, vs, h2, h3⟩ := hr.rel.ob k _ h; ⟨a, vs, h1, h2, h3⟩
/-- the list that a value is -/
def lsOf (S : List O) (d : D) : Option (List D) := match d with
  | .lst xs => some xs
  | .ref k => match S[k]? with
    | some (.lst xs) => some xs
    | _ => none
  | _ => none
theorem HR.ls {d : D} {v : V} {xs : List D} (hr : HR X.K B φ H S) (h : lsOf S d = some xs) (r : RV X.K φ H d v) : ∃ a vs, v = .ref a ∧ H a = some (.lst vs) ∧ RVs X.K φ H xs vs := by
  unfold lsOf at h
  split at h
  · cases h
    obtain ⟨p, vs, h1, _, h2, h3⟩ := r
    exact ⟨p, vs, h1, h2, h3⟩
  · rename_i k
    split at h
    · rename_i ys e
      cases h
      obtain ⟨a, vs, h1, h2, h3⟩ := hr.lstO e
      obtain ⟨b, ea, rfl⟩ := r
      rw [h1] at ea; cases ea
      exact ⟨_, vs, rfl, h2, h3⟩
    · cases h
  · cases h
/-- the items of a list or a tuple -/
def itemsOf (S : List O) (d : D) : Option (List D) := match d with
  | .tup xs => some xs
  | .scr ns => some (ns.map D.int)
  | .tq ns => some (ns.map D.int)
  | .kt xs => some xs
  | d => lsOf S d
theorem HR.items {d : D} {v : V} {xs : List D} (hr : HR X.K B φ H S) (h : itemsOf S d = some xs) (r : RV X.K φ H d v) : ∃ p vs, v = .ref p ∧ (SqL X.K H p vs ∨ SqT X.K H p vs) ∧ RVs X.K φ H xs vs := by
  unfold itemsOf at h
  split at h
  · cases h
    obtain ⟨p, vs, rfl, h1, h2⟩ := r
    exact ⟨p, vs, rfl, .inr h1, h2⟩
  · cases h
    obtain ⟨p, rfl, h1⟩ := r
    exact ⟨p, _, rfl, .inl h1.sql, .ofInts⟩
  · cases h
    obtain ⟨p, rfl, h1⟩ := r
    exact ⟨p, _, rfl, .inr h1.sqt, .ofInts⟩
  · cases h
    obtain ⟨p, vs, rfl, h1, h2⟩ := r
    exact ⟨p, vs, rfl, .inr h1.sqt, h2⟩
  · obtain ⟨a, vs, rfl, h1, h2⟩ := hr.ls h r
    exact ⟨a, vs, rfl, .inl (.inl (.inl h1)), h2⟩
end

/-! ### names, constants -/
section
variable {X : Cx} {B : Bs}
def qVar (i : Nat) : QE := fun s S Q => match s[i]? with
  | some (some d) => Q d S
  | _ => False
theorem le_var {e : Expr} {i : Nat} (h : PE X e (tVar i)) : LE X B e (qVar i) := PE.imp h fun σ H Q ⟨φ, s, S, Q', hr, ev, q, k⟩ => by
  unfold qVar at q
  split at q
  · rename_i d e
    obtain ⟨v, h1, h2⟩ := ev.at' i d e
    exact ⟨v, h1, k.here hr h2 q⟩
  · exact q.elim
theorem lv (i : Nat) {x : Str} {pos : Pos} (hN : X.N[i]? = some x := by rfl) (hv : Vis X.env.scope x := by first | exact Or.inl rfl | exact Or.inr (Or.inl rfl) | exact Or.inr (Or.inr rfl)) (hd : (x == ("__debug__" : Str)) = false := by decide)
    (hcd : (x == ("__classdict__" : Str)) = false := by decide) : LE X B (.Name x pos) (qVar i) := le_var (pe_var hN hv hd hcd)
def qC (d : D) : QE := fun _ S Q => Q d S
theorem le_c {e : Expr} {v : V} {d : D} (h : PE X e (tC v)) (r : ∀ φ H, RV X.K φ H d v) : LE X B e (qC d) := PE.imp h fun σ H Q ⟨φ, s, S, Q', hr, ev, q, k⟩ => k.here hr (r _ _) q
theorem le_int {i j pos} : LE X B (.Constant (.int i) j pos) (qC (.int i)) := le_c pe_int fun _ _ => rfl
theorem le_str {i j pos} : LE X B (.Constant (.str i) j pos) (qC (.str i)) := le_c pe_str fun _ _ => rfl
theorem le_bl {i j pos} : LE X B (.Constant (.bool i) j pos) (qC (.bl i)) := le_c pe_bl fun _ _ => rfl
theorem le_non {j pos} : LE X B (.Constant .none j pos) (qC .non) := le_c pe_non fun _ _ => rfl
/-- a module's name that holds an int, a text, an object -/
theorem le_glob {x : Str} {v : V} {d : D} {u : Value} {pos : Pos} (hg : Gl X x) (hm : X.mg x = some u) (r : RelV v u) (rd : ∀ φ H, RV X.K φ H d v) (hd : (x == ("__debug__" : Str)) = false := by decide) : LE X B (.Name x pos) (qC d) := le_c (pe_glob hg hm r hd) rd

/-! ### two places -/
abbrev QO := D → D → List O → (D → List O → Prop) → Prop
def upR (K : PySem.W.Frag) (B : Bs) (ro : QO) : R2 := fun x y H Q => ∃ φ S d e Q', HR K B φ H S ∧ RV K φ H d x ∧ RV K φ H e y ∧ ro d e S Q' ∧ Kont K B (rD K) φ H Q' Q
theorem OpR.imp {f : Value → Value → Sem Value} {r r' : R2} (h : OpR X f r) (i : ∀ x y H Q, r' x y H Q → r x y H Q) : OpR X f r' :=
  fun pins s σ H x y v u Q I rx ry q => h pins s σ H x y v u Q I rx ry (i _ _ _ _ q)
def qOp (ro : QO) (qa qb : QE) : QE := fun s S Q => qa s S fun x S1 => qb s S1 fun y S2 => ro x y S2 Q
theorem up_op {ro : QO} {qa qb : QE} {σ : L2.St} {H : Hp} {Q : VK} (h : UP X.K B (rD X.K) (qOp ro qa qb) σ H Q) : tOp (upR X.K B ro) (UP X.K B (rD X.K) qa) (UP X.K B (rD X.K) qb) σ H Q := by
  obtain ⟨φ, s, S, Q', hr, ev, q, k⟩ := h
  refine ⟨φ, s, S, _, hr, ev, q, fun φ1 d S1 v H1 e1 hr1 r1 q1 => ?_⟩
  refine ⟨φ1, s, S1, _, hr1, ev.mono e1, q1, fun φ2 d2 S2 v2 H2 e2 hr2 r2 q2 => ?_⟩
  exact ⟨φ2, S2, d, d2, Q', hr2, r1.mono e2, r2, q2, k.ext (e1.trans e2)⟩
variable {a b c : Expr} {qa qb qc : QE} {pos : Pos} {ro ro' : QO}
theorem le_op {op : Operator} (ho : OpR X (binaryOp op) (upR X.K B ro)) (ha : LE X B a qa) (hb : LE X B b qb) : LE X B (.BinOp a op b pos) (qOp ro qa qb) := PE.imp (pe_op ho ha hb) fun _ _ _ => up_op
theorem le_cmp {op : CmpOp} (ho : OpR X (compareOp op) (upR X.K B ro)) (ha : LE X B a qa) (hb : LE X B b qb) (hm : behindInMarks op b = false) : LE X B (.Compare a [op] [b] pos) (qOp ro qa qb) := PE.imp (pe_cmpR ho ha hb hm) fun _ _ _ => up_op
def qTest (q : QE) : QT := fun s S Q => q s S fun d S1 => match d with
  | .bl b => Q b S1
  | _ => False
theorem up_test {q : QE} {t : TE} (hi : ∀ σ H Q, UP X.K B (rD X.K) q σ H Q → t σ H Q) {σ : L2.St} {H : Hp} {Q : Bool → Hp → Prop} (h : UP X.K B rB (qTest q) σ H Q) : tTest t σ H Q := by
  obtain ⟨φ, s, S, Q', hr, ev, q, k⟩ := h
  refine hi _ _ _ ⟨φ, s, S, _, hr, ev, q, fun φ1 d S1 v H1 e1 hr1 r1 q1 => ?_⟩
  split at q1
  · rename_i b
    exact ⟨b, r1, k _ _ _ _ _ e1 hr1 rfl q1⟩
  · exact q1.elim
theorem lt_cmp {op : CmpOp} (ho : OpR X (compareOp op) (upR X.K B ro)) (ha : LE X B a qa) (hb : LE X B b qb) (hm : behindInMarks op b = false) : LT X B (.Compare a [op] [b] pos) (qTest (qOp ro qa qb)) := PT.imp (pt_cmpR ho ha hb hm) fun _ _ _ => up_test fun _ _ _ => up_op
def qChain (r r' : QO) (qa qb qc : QE) : QE := fun s S Q => qa s S fun x S1 => qb s S1 fun y S2 => r x y S2 fun z S3 => match z with
  | .bl k => Br k (qc s S3 fun w S4 => r' y w S4 Q) (Q (.bl false) S3)
  | _ => False
theorem up_chain {σ : L2.St} {H : Hp} {Q : VK} (h : UP X.K B (rD X.K) (qChain ro ro' qa qb qc) σ H Q) : tChain (upR X.K B ro) (upR X.K B ro') (UP X.K B (rD X.K) qa) (UP X.K B (rD X.K) qb) (UP X.K B (rD X.K) qc) σ H Q := by
  obtain ⟨φ, s, S, Q', hr, ev, q, k⟩ := h
  refine ⟨φ, s, S, _, hr, ev, q, fun φ1 d S1 v H1 e1 hr1 r1 q1 => ?_⟩
  refine ⟨φ1, s, S1, _, hr1, ev.mono e1, q1, fun φ2 d2 S2 v2 H2 e2 hr2 r2 q2 => ?_⟩
  refine ⟨φ2, S2, d, d2, _, hr2, r1.mono e2, r2, q2, fun φ3 d3 S3 v3 H3 e3 hr3 r3 q3 => ?_⟩
  split at q3
  · rename_i kb
    refine ⟨kb, r3, ?_⟩
    cases kb with
    | false => exact k _ (.bl false) _ _ _ (e1.trans (e2.trans e3)) hr3 rfl (q3.f rfl)
    | true =>
      rw [if_pos rfl]
      refine ⟨φ3, s, S3, _, hr3, ev.mono (e1.trans (e2.trans e3)), q3.t rfl, fun φ4 d4 S4 v4 H4 e4 hr4 r4 q4 => ?_⟩
      exact ⟨φ4, S4, d2, d4, Q', hr4, r2.mono (e3.trans e4), r4, q4, k.ext (e1.trans (e2.trans (e3.trans e4)))⟩
  · exact q3.elim
theorem le_chain {op op' : CmpOp} (ho : OpR X (compareOp op) (upR X.K B ro)) (ho' : OpR X (compareOp op') (upR X.K B ro')) (ha : LE X B a qa) (hb : LE X B b qb) (hc : LE X B c qc)
    (hm : lastMarks [op, op'] [b, c] = false := by with_unfolding_all rfl) : LE X B (.Compare a [op, op'] [b, c] pos) (qChain ro ro' qa qb qc) := PE.imp (pe_chain ho ho' ha hb hc hm) fun _ _ _ => up_chain
theorem lt_chain {op op' : CmpOp} (ho : OpR X (compareOp op) (upR X.K B ro)) (ho' : OpR X (compareOp op') (upR X.K B ro')) (ha : LE X B a qa) (hb : LE X B b qb) (hc : LE X B c qc)
    (hm : lastMarks [op, op'] [b, c] = false := by with_unfolding_all rfl) : LT X B (.Compare a [op, op'] [b, c] pos) (qTest (qChain ro ro' qa qb qc)) := PT.imp (pt_chain ho ho' ha hb hc hm) fun _ _ _ => up_test fun _ _ _ => up_chain

/-! ### whole numbers -/
def oI (C : Int → Int → Prop) (f : Int → Int → Int) : QO := fun d e S Q => match d, e with
  | .int i, .int j => Need (C i j) (Q (.int (f i j)) S)
  | _, _ => False
theorem lift_I {C : Int → Int → Prop} {f : Int → Int → Int} {x y : V} {H : Hp} {Q : VK} (h : upR X.K B (oI C f) x y H Q) : rI C (fun i j => .int (f i j)) x y H Q := by
  obtain ⟨φ, S, d, e, Q', hr, r1, r2, q, k⟩ := h
  unfold oI at q
  split at q
  · exact ⟨_, _, r1, r2, q.c, k.here (d := D.int _) hr rfl q.q⟩
  · exact q.elim
def oI0 (f : Int → Int → Int) : QO := fun d e S Q => match d, e with
  | .int i, .int j => Q (.int (f i j)) S
  | _, _ => False
theorem lift_I0 {f : Int → Int → Int} {x y : V} {H : Hp} {Q : VK} (h : upR X.K B (oI0 f) x y H Q) : rI0 (fun i j => .int (f i j)) x y H Q := by
  obtain ⟨φ, S, d, e, Q', hr, r1, r2, q, k⟩ := h
  unfold oI0 at q
  split at q
  · exact ⟨_, _, r1, r2, k.here (d := D.int _) hr rfl q⟩
  · exact q.elim
theorem oo_sub : OpR X (binaryOp .Sub) (upR X.K B (oI0 fun i j => i - j)) := OpR.imp op_sub fun _ _ _ _ => lift_I0
theorem oo_fdiv : OpR X (binaryOp .FloorDiv) (upR X.K B (oI CDiv fun i j => i / j)) := OpR.imp op_fdiv fun _ _ _ _ => lift_I
theorem oo_mod : OpR X (binaryOp .Mod) (upR X.K B (oI (fun _ j => 0 < j) fun i j => i % j)) := OpR.imp op_mod fun _ _ _ _ => lift_I
theorem oo_pow : OpR X (binaryOp .Pow) (upR X.K B (oI CPow fun i j => i ^ j.toNat)) := OpR.imp op_pow fun _ _ _ _ => lift_I
/-- + of ints, texts, tuples, lists -/
def oAdd : QO := fun d e S Q => match d, e with
  | .int i, .int j => Q (.int (i + j)) S
  | .str i, .str j => Need (i.length + j.length ≤ sizeLine) (Q (.str (i ++ j)) S)
  | .tup xs, .tup ys => Need (xs ≠ [] ∧ xs.length + ys.length ≤ sizeLine) (Q (.tup (xs ++ ys)) S)
  | d, e => match lsOf S d, lsOf S e with
    | some xs, some ys => Need (xs.length + ys.length ≤ sizeLine) (Q (.lst (xs ++ ys)) S)
    | _, _ => False
theorem oo_add : OpR X (binaryOp .Add) (upR X.K B oAdd) := OpR.imp (op_add.or (op_add_str.or (op_catT.or op_cat))) fun x y H Q h => by
  obtain ⟨φ, S, d, e, Q', hr, r1, r2, q, k⟩ := h
  unfold oAdd at q
  split at q
  · exact .inl ⟨_, _, r1, r2, k.here (d := D.int _) hr rfl q⟩
  · exact .inr (.inl ⟨_, _, r1, r2, q.c, k.here (d := D.str _) hr rfl q.q⟩)
  · obtain ⟨p, vs, rfl, h1, h2⟩ := id r1
    obtain ⟨p2, ws, rfl, h3, h4⟩ := id r2
    refine .inr (.inr (.inl ⟨p, p2, vs, ws, rfl, rfl, h1, h3, ?_, by rw [h2.len, h4.len]; exact q.c.2, ?_, ?_⟩))
    · intro z
      have := h2.len
      rw [z] at this
      exact q.c.1 (List.length_eq_zero_iff.mp this.symm)
    · intro z
      have := h4.len
      rw [z] at this
      have q2 := q.q
      rw [List.length_eq_zero_iff.mp this.symm, List.append_nil] at q2
      exact k.here (d := D.tup _) hr r1 q2
    · intro _ p' hp
      exact k.tup hr hp (h2.app h4) q.q
  · split at q
    · rename_i xs ys e1 e2
      obtain ⟨a, vs, rfl, a2, a3⟩ := hr.ls e1 r1
      obtain ⟨b, ws, rfl, b2, b3⟩ := hr.ls e2 r2
      exact .inr (.inr (.inr ⟨a, b, vs, ws, rfl, rfl, a2, b2, by rw [a3.len, b3.len]; exact q.c, fun p hp => k.lst hr hp (a3.app b3) q.q⟩))
    · exact q.elim
/-- * of ints; of a list and an int -/
def oMul : QO := fun d e S Q => match d, e with
  | .int i, .int j => Need (CMul i j) (Q (.int (i * j)) S)
  | d, .int j => match lsOf S d with
    | some xs => Need (0 ≤ j ∧ j < 2 ^ 63 ∧ xs.length * j.toNat ≤ sizeLine) (Q (.lst (List.replicate j.toNat xs).flatten) S)
    | none => False
  | _, _ => False
theorem RVs.rep {K : PySem.W.Frag} {φ : Ph} {H : Hp} {ds : List D} {vs : List V} (r : RVs K φ H ds vs) : ∀ n : Nat, RVs K φ H (List.replicate n ds).flatten (List.replicate n vs).flatten
  | 0 => rfl
  | n + 1 => by rw [List.replicate_succ, List.replicate_succ, List.flatten_cons, List.flatten_cons]; exact r.app (RVs.rep r n)
def oIB (f : Int → Int → Bool) : QO := fun d e S Q => match d, e with
  | .int i, .int j => Q (.bl (f i j)) S
  | _, _ => False
theorem lift_IB {f : Int → Int → Bool} {x y : V} {H : Hp} {Q : VK} (h : upR X.K B (oIB f) x y H Q) : rI0 (fun i j => .bl (f i j)) x y H Q := by
  obtain ⟨φ, S, d, e, Q', hr, r1, r2, q, k⟩ := h
  unfold oIB at q
  split at q
  · exact ⟨_, _, r1, r2, k.here (d := D.bl _) hr rfl q⟩
  · exact q.elim
theorem oo_lt : OpR X (compareOp .Lt) (upR X.K B (oIB fun i j => decide (i < j))) := OpR.imp op_lt fun _ _ _ _ => lift_IB
theorem oo_le : OpR X (compareOp .LtE) (upR X.K B (oIB fun i j => decide (i ≤ j))) := OpR.imp op_le fun _ _ _ _ => lift_IB
theorem oo_gt : OpR X (compareOp .Gt) (upR X.K B (oIB fun i j => decide (j < i))) := OpR.imp op_gt fun _ _ _ _ => lift_IB
theorem oo_ge : OpR X (compareOp .GtE) (upR X.K B (oIB fun i j => decide (j ≤ i))) := OpR.imp op_ge fun _ _ _ _ => lift_IB
/-- is None -/
def D.isNon : D → Bool
  | .non => true
  | _ => false
theorem RV.isNon {K : PySem.W.Frag} {φ : Ph} {H : Hp} {d : D} {v : V} (r : RV K φ H d v) : decide (v = .non) = d.isNon := by
  cases d with
  | non => cases r; rfl
  | bl _ => cases r; rfl
  | int _ => cases r; rfl
  | str _ => cases r; rfl
  | ty _ => cases r; rfl
  | adr _ => cases r; rfl
  | ref _ => obtain ⟨a, _, rfl⟩ := r; rfl
  | tup _ => obtain ⟨a, _, rfl, _⟩ := r; rfl
  | lst _ => obtain ⟨a, _, rfl, _⟩ := r; rfl
  | ins _ _ _ => obtain ⟨a, _, _, rfl, _⟩ := r; rfl
  | dK _ _ => obtain ⟨a, _, rfl, _⟩ := r; rfl
  | dT _ _ => obtain ⟨a, _, rfl, _⟩ := r; rfl
  | scr _ => obtain ⟨a, rfl, _⟩ := r; rfl
  | tq _ => obtain ⟨a, rfl, _⟩ := r; rfl
  | kt _ => obtain ⟨a, _, rfl, _⟩ := r; rfl
  | bad => exact r.elim
def oIs (neg : Bool) : QO := fun d e S Q => match e with
  | .non => Q (.bl (if neg then !d.isNon else d.isNon)) S
  | _ => False
theorem oo_is : OpR X (compareOp .Is) (upR X.K B (oIs false)) := OpR.imp op_isN fun x y H Q ⟨φ, S, d, e, Q', hr, r1, r2, q, k⟩ => by
  unfold oIs at q
  split at q
  · exact ⟨r2, by rw [r1.isNon]; exact k.here (d := D.bl _) hr rfl q⟩
  · exact q.elim
end
end LC

set_option Elab.async false
set_option linter.all false
set_option maxRecDepth 100000
set_option maxHeartbeats 5000000
/-! LD2: equality, membership, truth, displays, subscripts over data. -/
namespace LC
open PySem PySem.Spec
open PyProof.Rows L2
/-- a thing that is there -/
def Opt {α : Type} (o : Option α) (k : α → Prop) : Prop := match o with
  | some x => k x
  | none => False
theorem optI {α : Type} {o : Option α} {k : α → Prop} {x : α} (h : o = some x) (q : k x) : Opt o k := by subst h; exact q
theorem Opt.get {α : Type} {o : Option α} {k : α → Prop} (h : Opt o k) : ∃ x, o = some x ∧ k x := by
  cases o with
  | none => exact h.elim
  | some x => exact ⟨x, rfl, h⟩

/-! ### == -/
mutual
/-- plain data, n levels deep -/
def D.pl : D → Nat → Prop
  | .non, _ => True
  | .bl _, _ => True
  | .int _, _ => True
  | .str x, _ => PyData.strOk x = true
  | .tup xs, n + 1 => D.pls xs n
  | .lst xs, n + 1 => D.pls xs n
  | _, _ => False
def D.pls : List D → Nat → Prop
  | [], _ => True
  | d :: r, n => D.pl d n ∧ D.pls r n
end
mutual
/-- as == tells of plain data -/
def D.eqd : D → D → Bool
  | .non, .non => true
  | .bl a, .bl b => a == b
  | .bl a, .int j => (if a then 1 else 0) == j
  | .int i, .bl b => i == (if b then 1 else 0)
  | .int i, .int j => i == j
  | .str x, .str y => x == y
  | .tup xs, .tup ys => D.eqds xs ys
  | .lst xs, .lst ys => D.eqds xs ys
  | _, _ => false
def D.eqds : List D → List D → Bool
  | [], [] => true
  | x :: xs, y :: ys => D.eqd x y && D.eqds xs ys
  | _, _ => false
end
mutual
def D.py : D → PyData
  | .bl b => .bool b
  | .int i => .int i
  | .str x => .str x
  | .tup xs => .tuple (D.pys xs)
  | .lst xs => .list (D.pys xs)
  | _ => .none
def D.pys : List D → List PyData
  | [] => []
  | d :: r => D.py d :: D.pys r
end
mutual
theorem D.pl.lay : ∀ {d : D} {n : Nat}, D.pl d n → (D.py d).canLay0 = true ∧ (D.py d).depth ≤ n
  | .non, n, _ => ⟨by simp [D.py, PyData.canLay0], by simp [D.py, PyData.depth]⟩
  | .bl _, n, _ => ⟨by simp [D.py, PyData.canLay0], by simp [D.py, PyData.depth]⟩
  | .int _, n, _ => ⟨by simp [D.py, PyData.canLay0], by simp [D.py, PyData.depth]⟩
  | .str x, n, h => ⟨by have h' : PyData.strOk x = true := h; simp [D.py, PyData.canLay0, h'], by simp [D.py, PyData.depth]⟩
  | .tup xs, n + 1, h => by
    obtain ⟨h1, h2⟩ := D.pls.lay (ds := xs) (n := n) h
    exact ⟨by simpa [D.py, PyData.canLay0] using h1, by simp only [D.py, PyData.depth]; omega⟩
  | .lst xs, n + 1, h => by
    obtain ⟨h1, h2⟩ := D.pls.lay (ds := xs) (n := n) h
    exact ⟨by simpa [D.py, PyData.canLay0] using h1, by simp only [D.py, PyData.depth]; omega⟩
theorem D.pls.lay : ∀ {ds : List D} {n : Nat}, D.pls ds n → PyData.canLayAll0 (D.pys ds) = true ∧ PyData.depthAll (D.pys ds) ≤ n
  | [], n, _ => ⟨by simp [D.pys, PyData.canLayAll0], by simp [D.pys, PyData.depthAll]⟩
  | d :: r, n, h => by
    obtain ⟨h1, h2⟩ := D.pl.lay (d := d) (n := n) h.1
    obtain ⟨h3, h4⟩ := D.pls.lay (ds := r) (n := n) h.2
    exact ⟨by simp [D.pys, PyData.canLayAll0, h1, h3], by simp only [D.pys, PyData.depthAll]; omega⟩
end
theorem D.pl.shaped {d : D} {n : Nat} (h : D.pl d n) (hn : n ≤ 64 := by decide) : SeqAt.shaped (D.py d) = true := by
  obtain ⟨h1, h2⟩ := h.lay
  unfold SeqAt.shaped
  rw [h1, Bool.true_and]
  exact decide_eq_true (Nat.le_trans h2 hn)
mutual
theorem D.pl.eqv : ∀ {d e : D} {n m : Nat}, D.pl d n → D.pl e m → PyData.eqv (D.py d) (D.py e) = D.eqd d e
  | d, e, n, m, h, g => by
    cases d with
    | tup xs =>
      cases n with
      | zero => exact h.elim
      | succ n =>
      cases e with
      | tup ys =>
        cases m with
        | zero => exact g.elim
        | succ m => simp only [D.py, PyData.eqv, D.eqd]; exact D.pls.eqv (ds := xs) (es := ys) (n := n) (m := m) h g
      | lst ys => simp [D.py, PyData.eqv, D.eqd]
      | non => simp [D.py, PyData.eqv, D.eqd]
      | bl _ => simp [D.py, PyData.eqv, D.eqd]
      | int _ => simp [D.py, PyData.eqv, D.eqd]
      | str _ => simp [D.py, PyData.eqv, D.eqd]
      | _ => exact g.elim
    | lst xs =>
      cases n with
      | zero => exact h.elim
      | succ n =>
      cases e with
      | lst ys =>
        cases m with
        | zero => exact g.elim
        | succ m => simp only [D.py, PyData.eqv, D.eqd]; exact D.pls.eqv (ds := xs) (es := ys) (n := n) (m := m) h g
      | tup ys => simp [D.py, PyData.eqv, D.eqd]
      | non => simp [D.py, PyData.eqv, D.eqd]
      | bl _ => simp [D.py, PyData.eqv, D.eqd]
      | int _ => simp [D.py, PyData.eqv, D.eqd]
      | str _ => simp [D.py, PyData.eqv, D.eqd]
      | _ => exact g.elim
    | non => cases e <;> first | exact g.elim | simp [D.py, PyData.eqv, D.eqd]
    | bl _ => cases e <;> first | exact g.elim | simp [D.py, PyData.eqv, D.eqd]
    | int _ => cases e <;> first | exact g.elim | simp [D.py, PyData.eqv, D.eqd]
    | str _ => cases e <;> first | exact g.elim | simp [D.py, PyData.eqv, D.eqd]
    | _ => exact h.elim
theorem D.pls.eqv : ∀ {ds es : List D} {n m : Nat}, D.pls ds n → D.pls es m → PyData.eqvAll (D.pys ds) (D.pys es) = D.eqds ds es
  | [], [], _, _, _, _ => by simp [D.pys, PyData.eqvAll, D.eqds]
  | d :: r, e :: t, n, m, h, g => by simp only [D.pys, PyData.eqvAll, D.eqds]; rw [D.pl.eqv (d := d) (e := e) h.1 g.1, D.pls.eqv (ds := r) (es := t) h.2 g.2]
  | [], _ :: _, _, _, _, _ => by simp [D.pys, PyData.eqvAll, D.eqds]
  | _ :: _, [], _, _, _, _ => by simp [D.pys, PyData.eqvAll, D.eqds]
end
theorem D.pls_map {α : Type} {f : α → D} {n : Nat} {l : List α} (h : ∀ a ∈ l, D.pl (f a) n) : D.pls (l.map f) n := by
  induction l with
  | nil => trivial
  | cons a r ih => exact ⟨h a List.mem_cons_self, ih fun b hb => h b (List.mem_cons_of_mem _ hb)⟩
theorem D.pls_ints {n : Nat} (ns : List Int) : D.pls (ns.map D.int) n := D.pls_map fun _ _ => trivial
/-- a list that may change, as it is now -/
def D.see (S : List O) (d : D) : D := match d with
  | .ref k => match S[k]? with
    | some (.lst xs) => .lst xs
    | _ => .bad
  | .scr ns => .lst (ns.map D.int)
  | .tq ns => .tup (ns.map D.int)
  | .kt xs => .tup xs
  | d => d
section
variable {X : Cx} {B : Bs} {φ : Ph} {H : Hp} {S : List O}
mutual
theorem D.pl.dp {K : PySem.W.Frag} : ∀ {d : D} {n : Nat} {v : V}, D.pl d n → RV K φ H d v → Dp K H v (D.py d)
  | .non, _, _, _, r => by cases r; exact .non
  | .bl b, _, _, _, r => by cases r; exact .bl _
  | .int i, _, _, _, r => by cases r; exact .int _
  | .str x, _, _, _, r => by cases r; exact .str _
  | .tup xs, n + 1, _, h, ⟨p, vs, e, h1, h2⟩ => by subst e; exact .tup h1 (D.pls.dp (ds := xs) (n := n) h h2)
  | .lst xs, n + 1, _, h, ⟨p, vs, e, _, h1, h2⟩ => by subst e; exact .lst (.inl (.inl h1)) (D.pls.dp (ds := xs) (n := n) h h2)
theorem D.pls.dp {K : PySem.W.Frag} : ∀ {ds : List D} {n : Nat} {vs : List V}, D.pls ds n → RVs K φ H ds vs → DpAll K H vs (D.pys ds)
  | [], _, _, _, r => by cases r; exact .nil
  | d :: ds, n, _, h, ⟨v, ws, e, h3, h4⟩ => by subst e; exact .cons (D.pl.dp h.1 h3) (D.pls.dp h.2 h4)
end
theorem see_dp (hr : HR X.K B φ H S) {d : D} {n : Nat} {v : V} (h : D.pl (D.see S d) n) (r : RV X.K φ H d v) : Dp X.K H v (D.py (D.see S d)) := by
  cases d with
  | ref k =>
    simp only [D.see] at h ⊢
    split at h
    · rename_i xs e
      obtain ⟨a, vs, h1, h2, h3⟩ := hr.lstO e
      obtain ⟨b, ea, rfl⟩ := r
      rw [h1] at ea; cases ea
      cases n with
      | zero => exact h.elim
      | succ n => exact .lst (.inl (.inl h2)) (D.pls.dp (ds := xs) (n := n) h h3)
    · exact h.elim
  | scr ns =>
    obtain ⟨p, rfl, h1⟩ := r
    exact .lst h1.sql (D.pls.dp (ds := ns.map D.int) (n := 0) (D.pls_ints ns) (.ofInts (φ := φ)))
  | tq ns =>
    obtain ⟨p, rfl, h1⟩ := r
    exact .tup h1.sqt (D.pls.dp (ds := ns.map D.int) (n := 0) (D.pls_ints ns) (.ofInts (φ := φ)))
  | kt xs =>
    obtain ⟨p, vs, rfl, h1, h2⟩ := r
    cases n with
    | zero => exact h.elim
    | succ n => exact .tup h1.sqt (D.pls.dp (ds := xs) (n := n) h h2)
  | _ => exact D.pl.dp (d := _) h r
/-- scalars -/
def D.scal : D → D → Bool
  | .non, .non => true
  | .non, .int _ => true
  | .int _, .non => true
  | .non, .bl _ => true
  | .bl _, .non => true
  | .non, .str _ => true
  | .str _, .non => true
  | .int _, .int _ => true
  | .bl _, .bl _ => true
  | .str _, .str _ => true
  | .int _, .str _ => true
  | .str _, .int _ => true
  | .bl _, .str _ => true
  | .str _, .bl _ => true
  | _, _ => false
def D.seq : D → D → Bool
  | .non, .non => true
  | .int i, .int j => decide (i = j)
  | .bl i, .bl j => decide (i = j)
  | .str i, .str j => decide (i = j)
  | _, _ => false
theorem D.scal_ok {K : PySem.W.Frag} {φ : Ph} {H : Hp} {d e : D} {x y : V} (h : D.scal d e = true) (r1 : RV K φ H d x) (r2 : RV K φ H e y) : L2.scal x y = true ∧ decide (x = y) = D.seq d e := by
  unfold D.scal at h
  split at h <;> first | (cases h; done) | (cases r1; cases r2; exact ⟨rfl, by simp [D.seq]⟩)
/-- ==, != -/
def oEq (neg : Bool) : QO := fun d e S Q => Br (D.scal d e) (Q (.bl (if neg then !D.seq d e else D.seq d e)) S)
  (Need (D.pl (D.see S d) 40 ∧ D.pl (D.see S e) 40) (Q (.bl (if neg then !D.eqd (D.see S d) (D.see S e) else D.eqd (D.see S d) (D.see S e))) S))
theorem oo_eq (hu : X.A.units + 64 < cLine) : OpR X (compareOp .Eq) (upR X.K B (oEq false)) := OpR.imp (op_eq.or (op_eqD hu)) fun x y H Q ⟨φ, S, d, e, Q', hr, r1, r2, q, k⟩ => by
  cases h : D.scal d e with
  | true =>
    have q := q.t h
    obtain ⟨h1, h2⟩ := D.scal_ok h r1 r2
    exact .inl ⟨h1, by rw [h2]; exact k.here (d := D.bl _) hr rfl q⟩
  | false =>
    obtain ⟨⟨h1, h2⟩, q⟩ := q.f h
    exact .inr ⟨_, _, see_dp hr h1 r1, see_dp hr h2 r2, h1.shaped, h2.shaped, by rw [h1.eqv h2]; exact k.here (d := D.bl _) hr rfl q⟩
theorem oo_ne (hu : X.A.units + 64 < cLine) : OpR X (compareOp .NotEq) (upR X.K B (oEq true)) := OpR.imp (op_ne.or (op_neD hu)) fun x y H Q ⟨φ, S, d, e, Q', hr, r1, r2, q, k⟩ => by
  cases h : D.scal d e with
  | true =>
    have q := q.t h
    obtain ⟨h1, h2⟩ := D.scal_ok h r1 r2
    exact .inl ⟨h1, by rw [h2]; exact k.here (d := D.bl _) hr rfl q⟩
  | false =>
    obtain ⟨⟨h1, h2⟩, q⟩ := q.f h
    exact .inr ⟨_, _, see_dp hr h1 r1, see_dp hr h2 r2, h1.shaped, h2.shaped, by rw [h1.eqv h2]; exact k.here (d := D.bl _) hr rfl q⟩

/-! ### in -/
/-- flat data -/
def D.flat : D → Bool
  | .non => true
  | .bl _ => true
  | .int _ => true
  | .str _ => true
  | _ => false
def D.feq : D → D → Bool
  | .non, .non => true
  | .bl a, .bl b => a == b
  | .bl p, .int z => (if p then 1 else 0) == z
  | .int z, .bl p => z == (if p then 1 else 0)
  | .int a, .int b => a == b
  | .str a, .str b => a == b
  | _, _ => false
theorem D.flat_ok {K : PySem.W.Frag} {φ : Ph} {H : Hp} {d : D} {x : V} (h : D.flat d = true) (r : RV K φ H d x) : flatV x = true := by
  cases d <;> first | (cases h; done) | (cases r; rfl)
theorem D.feq_ok {K : PySem.W.Frag} {φ : Ph} {H : Hp} {d e : D} {x y : V} (h : D.flat d = true) (h' : D.flat e = true) (r : RV K φ H d x) (r' : RV K φ H e y) : eqV x y = D.feq d e := by
  cases d <;> first | (cases h; done) | (cases e <;> first | (cases h'; done) | (cases r; cases r'; rfl))
theorem flats_ok {K : PySem.W.Frag} {φ : Ph} {H : Hp} : ∀ {ds : List D} {vs : List V}, ds.all D.flat = true → RVs K φ H ds vs → vs.all flatV = true
  | [], _, _, r => (by cases r; rfl)
  | d :: ds, _, h, ⟨v, ws, e, r1, r2⟩ => by
    subst e
    rw [List.all_cons] at h
    rw [Bool.and_eq_true] at h
    rw [List.all_cons, D.flat_ok h.1 r1, flats_ok h.2 r2]; rfl
theorem inV_ok {K : PySem.W.Frag} {φ : Ph} {H : Hp} {d : D} {x : V} (hf : D.flat d = true) (r : RV K φ H d x) : ∀ {ds : List D} {vs : List V}, ds.all D.flat = true → RVs K φ H ds vs → inV x vs = ds.any fun e => D.feq e d
  | [], _, _, r2 => by cases r2; rfl
  | e :: ds, _, h, ⟨v, ws, ee, r1, r2⟩ => by
    subst ee
    rw [List.all_cons] at h
    rw [Bool.and_eq_true] at h
    have ih := inV_ok hf r h.2 r2
    unfold inV at ih ⊢
    rw [List.any_cons, List.any_cons, ih, D.feq_ok h.1 hf r1 r]
/-- in a list, a tuple of flat data; a sign in a text -/
def oIn (neg : Bool) : QO := fun d e S Q => match e with
  | .str z => match d with
    | .str ⟨⟨[c]⟩⟩ => Q (.bl (if neg then !decide (c ∈ z.cps.toList) else decide (c ∈ z.cps.toList))) S
    | _ => False
  | e => Opt (itemsOf S e) fun xs => Need (D.flat d = true ∧ xs.all D.flat = true) (Q (.bl (if neg then !(xs.any fun y => D.feq y d) else xs.any fun y => D.feq y d)) S)
theorem lift_in {neg : Bool} {x y : V} {H : Hp} {Q : VK} (h : upR X.K B (oIn neg) x y H Q) : rIn X.K neg x y H Q ∨ ∃ (c : Nat) (z : Str), x = .str ⟨#[c]⟩ ∧ y = .str z ∧ Q (.bl (if neg then !decide (c ∈ z.cps.toList) else decide (c ∈ z.cps.toList))) H := by
  obtain ⟨φ, S, d, e, Q', hr, r1, r2, q, k⟩ := h
  unfold oIn at q
  split at q
  · split at q
    · exact .inr ⟨_, _, r1, r2, k.here (d := D.bl _) hr rfl q⟩
    · exact q.elim
  · obtain ⟨xs, h1, ⟨h2, h3⟩, q⟩ := q.get
    obtain ⟨p, vs, rfl, h4, h5⟩ := hr.items h1 r2
    exact .inl ⟨p, vs, rfl, h4, D.flat_ok h2 r1, flats_ok h3 h5, by rw [inV_ok h2 r1 h3 h5]; exact k.here (d := D.bl _) hr rfl q⟩
theorem oo_in : OpR X (compareOp .In) (upR X.K B (oIn false)) := OpR.imp (op_in_seq.or op_in_sign) fun _ _ _ _ => lift_in
/-- in a list of plain data of any depth -/
def oInD (neg : Bool) : QO := fun d e S Q => Opt (lsOf S e) fun xs => Need (D.pl d 39 ∧ D.pls xs 39) (Q (.bl (if neg then !(xs.any fun y => D.eqd y d) else xs.any fun y => D.eqd y d)) S)
theorem any_py {d : D} {n : Nat} (h : D.pl d n) : ∀ {xs : List D}, D.pls xs n → ((D.pys xs).any fun z => PyData.eqv z (D.py d)) = xs.any fun y => D.eqd y d
  | [], _ => rfl
  | x :: xs, g => by
    show (PyData.eqv (D.py x) (D.py d) || (D.pys xs).any _) = _
    rw [D.pl.eqv g.1 h, any_py h g.2]; rfl
theorem lift_inD {neg : Bool} {x y : V} {H : Hp} {Q : VK} (h : upR X.K B (oInD neg) x y H Q) : ∃ d ds, Dp X.K H x d ∧ Dp X.K H y (.list ds) ∧ SeqAt.shaped d = true ∧ SeqAt.shaped (.list ds) = true ∧ Q (.bl (if neg then !(ds.any fun z => PyData.eqv z d) else ds.any fun z => PyData.eqv z d)) H := by
  obtain ⟨φ, S, d, e, Q', hr, r1, r2, q, k⟩ := h
  obtain ⟨xs, h1, ⟨h2, h3⟩, q⟩ := Opt.get q
  obtain ⟨p, vs, rfl, h4, h5⟩ := hr.ls h1 r2
  refine ⟨D.py d, D.pys xs, h2.dp r1, .lst (.inl (.inl h4)) (h3.dp h5), h2.shaped, D.pl.shaped (d := .lst xs) (n := 40) h3, ?_⟩
  rw [any_py h2 h3]
  exact k.here (d := D.bl _) hr rfl q
theorem oo_inD (hu : X.A.units + 65 < cLine) : OpR X (compareOp .In) (upR X.K B (oInD false)) := OpR.imp (op_inD hu) fun _ _ _ _ => lift_inD
end

/-! ### tests -/
section
variable {X : Cx} {B : Bs} {a b c : Expr} {qa qb qc : QE} {ta tb : QT} {pos : Pos} {rest : List Expr}
/-- truth -/
def qTruth (q : QE) : QT := fun s S Q => q s S fun d S1 => match d with
  | .bl b => Q b S1
  | .non => Q false S1
  | .int i => Q (i != 0) S1
  | .str x => Need (x.length ≤ sizeLine) (Q ((x.length : Int) != 0) S1)
  | d => Opt (itemsOf S1 d) fun xs => Q (!xs.isEmpty) S1
theorem RVs.isEmpty {K : PySem.W.Frag} {φ : Ph} {H : Hp} {ds : List D} {vs : List V} (r : RVs K φ H ds vs) : vs.isEmpty = ds.isEmpty := by
  cases ds with
  | nil => cases r; rfl
  | cons d ds => obtain ⟨v, ws, rfl, _⟩ := r; rfl
theorem lt_truth (ha : LE X B a qa) (he : ∀ whole, isTrue a X.env whole = (do let v ← whole; standAt a.pos; holding [v] (truthy v)) := by intro _; rfl) : LT X B a (qTruth qa) := PT.imp (pt_truth ha he) fun σ H Q ⟨φ, s, S, Q', hr, ev, q, k⟩ => by
  refine ⟨φ, s, S, _, hr, ev, q, fun φ1 d S1 v H1 e1 hr1 r1 q1 => ?_⟩
  split at q1
  · cases r1; exact ⟨_, rfl, k _ _ _ _ _ e1 hr1 rfl q1⟩
  · cases r1; exact ⟨_, rfl, k _ _ _ _ _ e1 hr1 rfl q1⟩
  · cases r1; exact ⟨_, rfl, k _ _ _ _ _ e1 hr1 rfl q1⟩
  · cases r1; exact ⟨_, ⟨q1.c, rfl⟩, k _ _ _ _ _ e1 hr1 rfl q1.q⟩
  · obtain ⟨xs, h0, q1⟩ := q1.get
    obtain ⟨p, vs, rfl, h1, h2⟩ := hr1.items h0 r1
    rcases h1 with h1 | h1
    · exact ⟨_, .inl ⟨vs, h1, rfl⟩, k _ _ _ _ _ e1 hr1 (by rw [h2.isEmpty]) q1⟩
    · exact ⟨_, .inr (.inl ⟨vs, h1, rfl⟩), k _ _ _ _ _ e1 hr1 (by rw [h2.isEmpty]) q1⟩
def qNot (t : QT) : QT := fun s S Q => t s S fun c S1 => Q (!c) S1
theorem lt_not (ha : LT X B a ta) : LT X B (.UnaryOp .Not a pos) (qNot ta) := PT.imp (pt_not ha) fun σ H Q ⟨φ, s, S, Q', hr, ev, q, k⟩ =>
  ⟨φ, s, S, _, hr, ev, q, fun φ1 d S1 v H1 e1 hr1 r1 q1 => k _ _ _ _ _ e1 hr1 (by rw [r1]) q1⟩
def qAnd (t u : QT) : QT := fun s S Q => t s S fun c S1 => Br c (u s S1 Q) (Q false S1)
def qOr (t u : QT) : QT := fun s S Q => t s S fun c S1 => Br c (Q true S1) (u s S1 Q)
theorem lw_and (ha : LT X B a ta) (hb : LW X B (.BoolOp .And (b :: rest) pos) tb) : LW X B (.BoolOp .And (a :: b :: rest) pos) (qAnd ta tb) := PW.imp (pw_and ha hb) fun σ H Q ⟨φ, s, S, Q', hr, ev, q, k⟩ =>
  ⟨φ, s, S, _, hr, ev, q, fun φ1 d S1 v H1 e1 hr1 r1 q1 => by
    cases r1
    cases d with
    | true => exact ⟨φ1, s, S1, Q', hr1, ev.mono e1, q1.t rfl, k.ext e1⟩
    | false => exact k _ _ _ _ _ e1 hr1 rfl (q1.f rfl)⟩
theorem lw_or (ha : LT X B a ta) (hb : LW X B (.BoolOp .Or (b :: rest) pos) tb) : LW X B (.BoolOp .Or (a :: b :: rest) pos) (qOr ta tb) := PW.imp (pw_or ha hb) fun σ H Q ⟨φ, s, S, Q', hr, ev, q, k⟩ =>
  ⟨φ, s, S, _, hr, ev, q, fun φ1 d S1 v H1 e1 hr1 r1 q1 => by
    cases r1
    cases d with
    | false => exact ⟨φ1, s, S1, Q', hr1, ev.mono e1, q1.f rfl, k.ext e1⟩
    | true => exact k _ _ _ _ _ e1 hr1 rfl (q1.t rfl)⟩
theorem lw_and1 (ha : LT X B a ta) : LW X B (.BoolOp .And [a] pos) ta := pw_and1 ha
theorem lw_or1 (ha : LT X B a ta) : LW X B (.BoolOp .Or [a] pos) ta := pw_or1 ha
theorem LW.t {q : QT} (h : LW X B a q) : LT X B a q := PW.pt h
/-- values of bools -/
def qAndV (qa qb : QE) : QE := fun s S Q => qa s S fun d S1 => match d with
  | .bl c => Br c (qb s S1 Q) (Q (.bl false) S1)
  | _ => False
def qNotV (qa : QE) : QE := fun s S Q => qa s S fun d S1 => match d with
  | .bl c => Q (.bl (!c)) S1
  | _ => False
theorem le_one {op} (h : LE X B a qa) : LE X B (.BoolOp op [a] pos) qa := pe_one h
theorem le_and (ha : LE X B a qa) (hb : LE X B (.BoolOp .And (b :: rest) pos) qb) : LE X B (.BoolOp .And (a :: b :: rest) pos) (qAndV qa qb) := PE.imp (pe_and ha hb) fun σ H Q ⟨φ, s, S, Q', hr, ev, q, k⟩ =>
  ⟨φ, s, S, _, hr, ev, q, fun φ1 d S1 v H1 e1 hr1 r1 q1 => by
    split at q1
    · rename_i c
      cases r1
      refine ⟨c, rfl, ?_⟩
      cases c with
      | true => exact ⟨φ1, s, S1, Q', hr1, ev.mono e1, q1.t rfl, k.ext e1⟩
      | false => exact k _ (.bl false) _ _ _ e1 hr1 rfl (q1.f rfl)
    · exact q1.elim⟩
theorem le_not (ha : LE X B a qa) : LE X B (.UnaryOp .Not a pos) (qNotV qa) := PE.imp (pe_not ha) fun σ H Q ⟨φ, s, S, Q', hr, ev, q, k⟩ =>
  ⟨φ, s, S, _, hr, ev, q, fun φ1 d S1 v H1 e1 hr1 r1 q1 => by
    split at q1
    · cases r1; exact ⟨_, rfl, k _ (.bl _) _ _ _ e1 hr1 rfl q1⟩
    · exact q1.elim⟩
def qIf (t : QT) (qa qb : QE) : QE := fun s S Q => t s S fun c S1 => Br c (qa s S1 Q) (qb s S1 Q)
theorem le_if (hc : LT X B c ta) (ha : LE X B a qa) (hb : LE X B b qb) : LE X B (.IfExp c a b pos) (qIf ta qa qb) := PE.imp (pe_ifExp hc ha hb) fun σ H Q ⟨φ, s, S, Q', hr, ev, q, k⟩ =>
  ⟨φ, s, S, _, hr, ev, q, fun φ1 d S1 v H1 e1 hr1 r1 q1 => by
    cases r1
    cases d with
    | false => exact ⟨φ1, s, S1, Q', hr1, ev.mono e1, q1.f rfl, k.ext e1⟩
    | true => exact ⟨φ1, s, S1, Q', hr1, ev.mono e1, q1.t rfl, k.ext e1⟩⟩
end

/-! ### argument lists, displays -/
def lenLe {α : Type} : Nat → List α → Bool
  | _, [] => true
  | 0, _ :: _ => false
  | n + 1, _ :: r => lenLe n r
theorem lenLe_ok {α : Type} : ∀ {n : Nat} {l : List α}, lenLe n l = true → l.length ≤ n
  | _, [], _ => Nat.zero_le _
  | 0, _ :: _, h => by cases h
  | n + 1, _ :: r, h => Nat.succ_le_succ (lenLe_ok (n := n) (l := r) h)
theorem lenLe_line {α : Type} {l : List α} (h : lenLe 1000 l = true) : l.length ≤ sizeLine := Nat.le_trans (lenLe_ok h) (by decide)
section
variable {X : Cx} {B : Bs} {e : Expr} {es : List Expr} {qe : QE} {q : QA} {pos : Pos}
def qNil : QA := fun _ S Q => Q [] S
def qCons (qe : QE) (qr : QA) : QA := fun s S Q => qe s S fun d S1 => qr s S1 fun ds S2 => Q (d :: ds) S2
theorem la_nil : LA X B [] qNil := PA.imp pa_nil fun σ H Q ⟨φ, s, S, Q', hr, ev, q, k⟩ => k _ [] _ _ _ Ext.refl hr rfl q
theorem la_cons (ha : LE X B e qe) (hr : LA X B es q) (hs : starEach (e :: es) X.env = (false, eval e X.env) :: starEach es X.env := by rfl) : LA X B (e :: es) (qCons qe q) := PA.imp (pa_cons ha hr hs) fun σ H Q ⟨φ, s, S, Q', hr, ev, q, k⟩ =>
  ⟨φ, s, S, _, hr, ev, q, fun φ1 d S1 v H1 e1 hr1 r1 q1 => ⟨φ1, s, S1, _, hr1, ev.mono e1, q1, fun φ2 ds S2 vs H2 e2 hr2 r2 q2 =>
    k _ (d :: ds) _ _ _ (e1.trans e2) hr2 ⟨v, vs, rfl, r1.mono e2, r2⟩ q2⟩⟩
def qTup (q : QA) : QE := fun s S Q => q s S fun ds S1 => Br (lenLe 1000 ds) (Q (.tup ds) S1) False
def qLst (q : QA) : QE := fun s S Q => q s S fun ds S1 => Br (lenLe 1000 ds) (Q (.lst ds) S1) False
def qLstM (q : QA) : QE := fun s S Q => q s S fun ds S1 => Br (lenLe 1000 ds) (Q (.ref S1.length) (S1 ++ [.lst ds])) False
theorem Br.get {c : Bool} {p : Prop} (h : Br c p False) : c = true ∧ p := by cases c with
  | true => exact ⟨rfl, h⟩
  | false => exact h.elim
theorem le_tup {x1} (h : LA X B es q) : LE X B (.Tuple es x1 pos) (qTup q) := PE.imp (pe_tup h) fun σ H Q ⟨φ, s, S, Q', hr, ev, q, k⟩ =>
  ⟨φ, s, S, _, hr, ev, q, fun φ1 ds S1 vs H1 e1 hr1 r1 q1 => ⟨by rw [r1.len]; exact lenLe_line q1.get.1, fun p hp => (k.ext e1).tup hr1 hp r1 q1.get.2⟩⟩
theorem le_lst (h : LA X B es q) : LE X B (.List es pos) (qLst q) := PE.imp (pe_lst h) fun σ H Q ⟨φ, s, S, Q', hr, ev, q, k⟩ =>
  ⟨φ, s, S, _, hr, ev, q, fun φ1 ds S1 vs H1 e1 hr1 r1 q1 => ⟨by rw [r1.len]; exact lenLe_line q1.get.1, fun p hp => (k.ext e1).lst hr1 hp r1 q1.get.2⟩⟩
theorem le_lstM (h : LA X B es q) : LE X B (.List es pos) (qLstM q) := PE.imp (pe_lst h) fun σ H Q ⟨φ, s, S, Q', hr, ev, q, k⟩ =>
  ⟨φ, s, S, _, hr, ev, q, fun φ1 ds S1 vs H1 e1 hr1 r1 q1 => ⟨by rw [r1.len]; exact lenLe_line q1.get.1, fun p hp => (k.ext e1).lstM hr1 hp r1 q1.get.2⟩⟩
end

/-! ### subscripts -/
section
variable {X : Cx} {B : Bs} {a b : Expr} {qa qb : QE} {pos : Pos}
theorem IxR.imp {r r' : R2} (h : IxR X r) (i : ∀ x y H Q, r' x y H Q → r x y H Q) : IxR X r' :=
  fun value slice pins s σ H x y v u Q I rx ry q hs => h value slice pins s σ H x y v u Q I rx ry (i _ _ _ _ q) hs
theorem RVs.atI {K : PySem.W.Frag} {φ : Ph} {H : Hp} {ds : List D} {vs : List V} {i : Int} {d : D} (r : RVs K φ H ds vs) (h : L2.atI ds i = some d) : ∃ v, L2.atI vs i = some v ∧ RV K φ H d v := by
  unfold L2.atI at h ⊢
  rw [r.len]
  cases e : ixN ds.length i with
  | none => (rw [e] at h; cases h)
  | some j =>
    rw [e] at h
    obtain ⟨v, h1, h2⟩ := r.get (show ds[j]? = some d from h)
    exact ⟨v, h1, h2⟩
/-- a[i] of a list, a tuple, a text -/
def oIx : QO := fun d e S Q => match e with
  | .int i => match d with
    | .str z => Need (z.length ≤ sizeLine) (Opt (L2.atI z.cps.toList i) fun c => Q (.str ⟨#[c]⟩) S)
    | d => Opt (itemsOf S d) fun xs => Opt (L2.atI xs i) fun v => Q v S
  | _ => False
theorem ox_seq : IxR X (upR X.K B oIx) := IxR.imp ix_seq fun x y H Q ⟨φ, S, d, e, Q', hr, r1, r2, q, k⟩ => by
  unfold oIx at q
  split at q
  · cases r2
    split at q
    · cases r1
      obtain ⟨h1, q⟩ := q
      obtain ⟨c, h2, q⟩ := q.get
      exact .inr (.inr ⟨_, _, c, rfl, rfl, h1, h2, k.here (d := D.str _) hr rfl q⟩)
    · obtain ⟨xs, h1, q⟩ := q.get
      obtain ⟨v, h2, q⟩ := q.get
      obtain ⟨p, vs, rfl, h3, h4⟩ := hr.items h1 r1
      obtain ⟨w', h5, h6⟩ := h4.atI h2
      rcases h3 with h3 | h3
      · exact .inl ⟨p, vs, _, w', rfl, rfl, h3, h5, k.here hr h6 q⟩
      · exact .inr (.inl ⟨p, vs, _, w', rfl, rfl, h3, h5, k.here hr h6 q⟩)
  · exact q.elim
theorem le_ix {ro : QO} (hr : IxR X (upR X.K B ro)) (ha : LE X B a qa) (hb : LE X B b qb) (hs : PlainIx b := by intro _ _; rfl) : LE X B (.Subscript a b pos) (qOp ro qa qb) := PE.imp (pe_ix hr ha hb hs) fun _ _ _ => up_op
/-- slices -/
def cutD (xs : List D) (lo hi : Option Int) : List D := (xs.drop (HT.sIx xs.length 0 lo)).take (HT.sIx xs.length xs.length hi - HT.sIx xs.length 0 lo)
theorem RVs.cut {K : PySem.W.Frag} {φ : Ph} {H : Hp} {ds : List D} {vs : List V} (lo hi : Option Int) (r : RVs K φ H ds vs) : RVs K φ H (cutD ds lo hi) (cutV vs lo hi) := by
  unfold cutD cutV
  rw [r.len]
  exact (r.drop _).take _
abbrev QP := Sl → List O → (Option Int → List O → Prop) → Prop
abbrev rP : Ph → Hp → Option Int → Option Int → Prop := fun _ _ a b => a = b
abbrev LP (X : Cx) (B : Bs) (e : Option Expr) (q : QP) : Prop := PO X e (UP X.K B rP q)
theorem PO.imp {e : Option Expr} {t t' : TO} (h : PO X e t) (i : ∀ σ H Q, t' σ H Q → t σ H Q) : PO X e t' := ⟨fun pins s σ H Q I w => h.run pins s σ H Q I (i _ _ _ w)⟩
def qNoP : QP := fun _ S Q => Q none S
def qSomeP (q : QE) : QP := fun s S Q => q s S fun d S1 => match d with
  | .int i => Q (some i) S1
  | _ => False
theorem lp_none : LP X B none qNoP := PO.imp po_none fun σ H Q ⟨φ, s, S, Q', hr, ev, q, k⟩ => k.here hr rfl q
theorem lp_some (h : LE X B a qa) : LP X B (some a) (qSomeP qa) := PO.imp (po_some h) fun σ H Q ⟨φ, s, S, Q', hr, ev, q, k⟩ =>
  ⟨φ, s, S, _, hr, ev, q, fun φ1 d S1 v H1 e1 hr1 r1 q1 => by
    split at q1
    · cases r1; exact ⟨_, rfl, k _ _ _ _ _ e1 hr1 rfl q1⟩
    · exact q1.elim⟩
def oSl (d : D) (lo hi : Option Int) (S : List O) (Q : D → List O → Prop) : Prop := match d with
  | .str z => Need (z.length ≤ sizeLine) (Q (.str (cutS z lo hi)) S)
  | .tup xs => Q (.tup (cutD xs lo hi)) S
  | .scr ns => Q (.lst (cutD (ns.map D.int) lo hi)) S
  | d => Opt (lsOf S d) fun xs => Q (.lst (cutD xs lo hi)) S
def qSl (qa : QE) (ql qh : QP) : QE := fun s S Q => qa s S fun d S1 => ql s S1 fun lo S2 => qh s S2 fun hi S3 => oSl d lo hi S3 Q
def upSl (K : PySem.W.Frag) (B : Bs) : V → Option Int → Option Int → Hp → VK → Prop := fun x lo hi H Q => ∃ φ S d Q', HR K B φ H S ∧ RV K φ H d x ∧ oSl d lo hi S Q' ∧ Kont K B (rD K) φ H Q' Q
theorem SlR.imp {r r' : V → Option Int → Option Int → Hp → VK → Prop} (h : SlR X r) (i : ∀ x lo hi H Q, r' x lo hi H Q → r x lo hi H Q) : SlR X r' :=
  fun pins s σ H x v vl vu lo hi sl Q I rx hs pl pu q => h pins s σ H x v vl vu lo hi sl Q I rx hs pl pu (i _ _ _ _ _ q)
theorem cutD_whole (xs : List D) (lo hi : Option Int) (h : HT.sIx xs.length 0 lo = 0 ∧ HT.sIx xs.length xs.length hi = xs.length) : cutD xs lo hi = xs := by
  unfold cutD
  rw [h.1, h.2]
  simp
end
section
variable {X : Cx} {B : Bs} {a b e : Expr} {es : List Expr} {qa qb qe : QE} {pos p2 : Pos} {lo hi : Option Expr} {ql qh : QP} {q : QA}
theorem sl_any : SlR X (upSl X.K B) := SlR.imp (sl_list.or (sl_tupA.or sl_str)) fun x lo hi H Q ⟨φ, S, d, Q', hr, r, q, k⟩ => by
  unfold oSl at q
  split at q
  · cases r
    exact .inr (.inr ⟨_, rfl, q.c, k.here (d := D.str _) hr rfl q.q⟩)
  · rename_i xs
    obtain ⟨p, vs, rfl, h1, h2⟩ := r
    refine .inr (.inl ⟨p, vs, rfl, h1, fun hw => ?_, fun hw p' hp => k.tup hr hp (h2.cut lo hi) q⟩)
    rw [h2.len] at hw
    rw [cutD_whole xs lo hi hw] at q
    exact k.here (d := D.tup xs) hr (show RV _ _ _ _ _ from ⟨p, vs, rfl, h1, h2⟩) q
  · obtain ⟨p, rfl, h1⟩ := r
    exact .inl ⟨p, _, rfl, h1.sql, fun p hp => k.lst hr hp (RVs.ofInts.cut lo hi) q⟩
  · obtain ⟨xs, h0, q⟩ := q.get
    obtain ⟨a', vs, rfl, h1, h2⟩ := hr.ls h0 r
    exact .inl ⟨a', vs, rfl, .inl (.inl h1), fun p hp => k.lst hr hp (h2.cut lo hi) q⟩
theorem le_slice (ha : LE X B e qa) (hl : LP X B lo ql) (hu : LP X B hi qh) : LE X B (.Subscript e (.Slice lo hi none p2) pos) (qSl qa ql qh) := PE.imp (pe_slice sl_any ha hl hu) fun σ H Q ⟨φ, s, S, Q', hr, ev, q, k⟩ =>
  ⟨φ, s, S, _, hr, ev, q, fun φ1 d S1 v H1 e1 hr1 r1 q1 => ⟨φ1, s, S1, _, hr1, ev.mono e1, q1, fun φ2 lo' S2 lo2 H2 e2 hr2 r2 q2 => ⟨φ2, s, S2, _, hr2, ev.mono (e1.trans e2), q2, fun φ3 hi' S3 hi2 H3 e3 hr3 r3 q3 => by
    cases r2
    cases r3
    exact ⟨φ3, S3, d, Q', hr3, r1.mono (e2.trans e3), q3, k.ext (e1.trans (e2.trans e3))⟩⟩⟩⟩
end
end LC

set_option Elab.async false
set_option linter.all false
set_option maxRecDepth 100000
set_option maxHeartbeats 5000000
/-! LD3: calls of built-ins, methods of built-in types. -/
namespace LC
open PySem PySem.Spec
open PyProof.Rows L2

section
variable {X : Cx} {B : Bs} {a b e : Expr} {es : List Expr} {qa qb qe : QE} {pos p2 : Pos} {q : QA}
/-! ### calls of built-ins -/
abbrev QC := List D → List O → (D → List O → Prop) → Prop
def upC (K : PySem.W.Frag) (B : Bs) (rc : QC) : List V → Hp → VK → Prop := fun vs H Q => ∃ φ S ds Q', HR K B φ H S ∧ RVs K φ H ds vs ∧ rc ds S Q' ∧ Kont K B (rD K) φ H Q' Q
theorem CallR.imp {f : Value} {r r' : List V → Hp → VK → Prop} (h : CallR X f r) (i : ∀ x H Q, r' x H Q → r x H Q) : CallR X f r' :=
  fun pins s σ H x v Q I rx q => h pins s σ H x v Q I rx (i _ _ _ q)
def qCB (rc : QC) (q : QA) : QE := fun s S Q => q s S fun ds S1 => rc ds S1 Q
theorem up_cb {rc : QC} {q : QA} {σ : L2.St} {H : Hp} {Q : VK} (h : UP X.K B (rD X.K) (qCB rc q) σ H Q) : tCB (upC X.K B rc) (UP X.K B (rDs X.K) q) σ H Q := by
  obtain ⟨φ, s, S, Q', hr, ev, q, k⟩ := h
  exact ⟨φ, s, S, _, hr, ev, q, fun φ1 d S1 v H1 e1 hr1 r1 q1 => ⟨φ1, S1, d, Q', hr1, r1, q1, k.ext e1⟩⟩
theorem le_callB {x : Str} {p : Pos} {id : String} {rc : QC} (hc : CallR X (.builtin id) (upC X.K B rc)) (hg : Gl X x) (hm : X.mg x = none) (hv : bootBuiltins x = some (.builtin id)) (ha : LA X B (e :: es) q) (hn : x ≠ "__name__" := by decide) (hdb : (x == ("__debug__" : Str)) = false := by decide)
    (he : starEach (e :: es) X.env = (false, eval e X.env) :: starEach es X.env := by rfl) (hpl : (backTo pos (starEach es X.env)).any (·.1) = false := by rfl) : LE X B (.Call (.Name x p) (e :: es) [] pos) (qCB rc q) :=
  PE.imp (pe_callB hc hg hm hv ha hn hdb he hpl) fun _ _ _ => up_cb
theorem le_callTy {x : Str} {p : Pos} {T : String} {rc : QC} (hc : CallR X (.type T) (upC X.K B rc)) (hg : Gl X x) (hm : X.mg x = none) (hv : bootBuiltins x = some (.type T)) (ha : LA X B (e :: es) q) (hn : x ≠ "__name__" := by decide) (hdb : (x == ("__debug__" : Str)) = false := by decide)
    (he : starEach (e :: es) X.env = (false, eval e X.env) :: starEach es X.env := by rfl) (hpl : (backTo pos (starEach es X.env)).any (·.1) = false := by rfl) : LE X B (.Call (.Name x p) (e :: es) [] pos) (qCB rc q) :=
  PE.imp (pe_callTy hc hg hm hv ha hn hdb he hpl) fun _ _ _ => up_cb
/-- a built-in's name as a value -/
theorem le_ty {x : Str} {p : Pos} {T : String} (hg : Gl X x) (hm : X.mg x = none) (hv : bootBuiltins x = some (.type T)) (hn : x ≠ "__name__" := by decide) (hd : (x == ("__debug__" : Str)) = false := by decide) : LE X B (.Name x p) (qC (.ty T)) :=
  le_c (pe_bltn (v := .ty T) hg hm hv rfl hn hd) fun _ _ => rfl
/-- len -/
def rcLen : QC := fun ds S Q => match ds with
  | [.str z] => Need (z.length ≤ sizeLine) (Q (.int z.length) S)
  | [d] => Opt (itemsOf S d) fun xs => Q (.int xs.length) S
  | _ => False
theorem cc_len : CallR X (.builtin "len") (upC X.K B rcLen) := CallR.imp (call_len_str.or call_len_seq) fun x H Q ⟨φ, S, ds, Q', hr, r, q, k⟩ => by
  unfold rcLen at q
  split at q
  · obtain ⟨v, w', rfl, r1, r2⟩ := r
    cases r1; cases r2
    exact .inl ⟨_, rfl, q.c, k.here (d := D.int _) hr rfl q.q⟩
  · obtain ⟨v, w', rfl, r1, r2⟩ := r
    cases r2
    obtain ⟨xs, h1, q⟩ := q.get
    obtain ⟨p, vs, rfl, h2, h3⟩ := hr.items h1 r1
    exact .inr ⟨p, vs, rfl, h2, by rw [h3.len]; exact k.here (d := D.int _) hr rfl q⟩
  · exact q.elim
/-- the bools of a list -/
def asBs : List D → Option (List Bool)
  | [] => some []
  | .bl b :: r => (asBs r).map (b :: ·)
  | _ => none
theorem asBs_ok {K : PySem.W.Frag} {φ : Ph} {H : Hp} : ∀ {ds : List D} {vs : List V} {bs : List Bool}, asBs ds = some bs → RVs K φ H ds vs → vs = bs.map V.bl
  | [], _, _, h, r => by cases h; cases r; rfl
  | d :: ds, _, bs, h, ⟨v, ws, e, r1, r2⟩ => by
    subst e
    cases d <;> first | (cases h; done) | skip
    cases e2 : asBs ds with
    | none => simp [asBs, e2] at h
    | some cs =>
      simp [asBs, e2] at h
      subst h
      cases r1
      rw [asBs_ok e2 r2]; rfl
theorem asBs_map {α : Type} (f : α → Bool) (l : List α) : asBs (l.map fun x => D.bl (f x)) = some (l.map f) := by
  induction l with
  | nil => rfl
  | cons x r ih => simp [asBs, ih]
def rcAll (any : Bool) : QC := fun ds S Q => match ds with
  | [d] => Opt (lsOf S d) fun xs => Opt (asBs xs) fun bs => Q (.bl (if any then bs.any id else bs.all id)) S
  | _ => False
theorem lift_all {any : Bool} {x : List V} {H : Hp} {Q : VK} (h : upC X.K B (rcAll any) x H Q) : ∃ (a : Addr) (bs : List Bool), x = [V.ref a] ∧ SqL X.K H a (bs.map V.bl) ∧ Q (.bl (if any then bs.any id else bs.all id)) H := by
  obtain ⟨φ, S, ds, Q', hr, r, q, k⟩ := h
  unfold rcAll at q
  split at q
  · obtain ⟨v, w', rfl, r1, r2⟩ := r
    cases r2
    obtain ⟨xs, h1, q⟩ := q.get
    obtain ⟨bs, h2, q⟩ := q.get
    obtain ⟨a', vs, rfl, h3, h4⟩ := hr.ls h1 r1
    rw [asBs_ok h2 h4] at h3
    exact ⟨a', bs, rfl, .inl (.inl h3), k.here (d := D.bl _) hr rfl q⟩
  · exact q.elim
theorem cc_all (hc : X.calm = true) : CallR X (.builtin "all") (upC X.K B (rcAll false)) := CallR.imp (cr_all hc) fun _ _ _ => lift_all
/-- list(..), tuple(..) of a list, a tuple -/
def rcList : QC := fun ds S Q => match ds with
  | [d] => Opt (itemsOf S d) fun xs => Q (.lst xs) S
  | _ => False
theorem cc_list : CallR X (.type "list") (upC X.K B rcList) := CallR.imp call_list_of fun x H Q ⟨φ, S, ds, Q', hr, r, q, k⟩ => by
  unfold rcList at q
  split at q
  · obtain ⟨v, w', rfl, r1, r2⟩ := r
    cases r2
    obtain ⟨xs, h1, q⟩ := q.get
    obtain ⟨p, vs, rfl, h2, h3⟩ := hr.items h1 r1
    exact ⟨p, vs, rfl, h2, fun l hl => k.lst hr hl h3 q⟩
  · exact q.elim
def rcTuple : QC := fun ds S Q => match ds with
  | [.tup xs] => Q (.tup xs) S
  | [.kt xs] => Q (.kt xs) S
  | [.tq ns] => Q (.tq ns) S
  | [.scr ns] => Q (.tup (ns.map D.int)) S
  | [d] => Opt (lsOf S d) fun xs => Q (.tup xs) S
  | _ => False
theorem cc_tuple : CallR X (.type "tuple") (upC X.K B rcTuple) := CallR.imp call_tuple_of fun x H Q ⟨φ, S, ds, Q', hr, r, q, k⟩ => by
  unfold rcTuple at q
  split at q
  · obtain ⟨v, w', rfl, r1, r2⟩ := r
    cases r2
    obtain ⟨p, vs, rfl, h1, h2⟩ := id r1
    exact ⟨p, vs, rfl, .inr ⟨SqT.of h1, k.here hr r1 q⟩⟩
  · obtain ⟨v, w', rfl, r1, r2⟩ := r
    cases r2
    obtain ⟨p, vs, rfl, h1, h2⟩ := id r1
    exact ⟨p, vs, rfl, .inr ⟨h1.sqt, k.here hr r1 q⟩⟩
  · obtain ⟨v, w', rfl, r1, r2⟩ := r
    cases r2
    obtain ⟨p, rfl, h1⟩ := id r1
    exact ⟨p, _, rfl, .inr ⟨h1.sqt, k.here hr r1 q⟩⟩
  · obtain ⟨v, w', rfl, r1, r2⟩ := r
    cases r2
    obtain ⟨p, rfl, h1⟩ := id r1
    exact ⟨p, _, rfl, .inl ⟨h1.sql, fun l hl => k.tup hr hl .ofInts q⟩⟩
  · obtain ⟨v, w', rfl, r1, r2⟩ := r
    cases r2
    obtain ⟨xs, h1, q⟩ := q.get
    obtain ⟨p, vs, rfl, h2, h3⟩ := hr.ls h1 r1
    exact ⟨p, vs, rfl, .inl ⟨.inl (.inl h2), fun l hl => k.tup hr hl h3 q⟩⟩
  · exact q.elim
/-- int(n), int(flag); str(n) -/
def rcInt : QC := fun ds S Q => match ds with
  | [.int i] => Q (.int i) S
  | [.bl b] => Q (.int (if b then 1 else 0)) S
  | [.str a] => Need (a.length ≤ 640) (Opt (PySem.intText? a) fun n => Q (.int n) S)
  | _ => False
theorem cc_int : CallR X (.type "int") (upC X.K B rcInt) := CallR.imp (call_int1.or call_int_str) fun x H Q ⟨φ, S, ds, Q', hr, r, q, k⟩ => by
  unfold rcInt at q
  split at q
  · obtain ⟨v, w', rfl, r1, r2⟩ := r
    cases r1; cases r2
    exact .inl (.inl ⟨_, rfl, k.here (d := D.int _) hr rfl q⟩)
  · obtain ⟨v, w', rfl, r1, r2⟩ := r
    cases r1; cases r2
    exact .inl (.inr ⟨_, rfl, k.here (d := D.int _) hr rfl q⟩)
  · obtain ⟨v, w', rfl, r1, r2⟩ := r
    cases r1; cases r2
    obtain ⟨h2, q⟩ := q
    obtain ⟨n, h1, q⟩ := q.get
    exact .inr ⟨_, n, rfl, h1, h2, k.here (d := D.int _) hr rfl q⟩
  · exact q.elim
def rcStr : QC := fun ds S Q => match ds with
  | [.int i] => Need (i.natAbs.log2 < 1920) (Q (.str (toString i)) S)
  | _ => False
theorem cc_str : CallR X (.type "str") (upC X.K B rcStr) := CallR.imp call_str_int fun x H Q ⟨φ, S, ds, Q', hr, r, q, k⟩ => by
  unfold rcStr at q
  split at q
  · obtain ⟨v, w', rfl, r1, r2⟩ := r
    cases r1; cases r2
    exact ⟨_, rfl, q.c, k.here (d := D.str _) hr rfl q.q⟩
  · exact q.elim
/-- min, max of two numbers -/
def rcMax2 (mx : Bool) : QC := fun ds S Q => match ds with
  | [.int i, .int j] => Q (.int (if mx then (if j > i then j else i) else (if j < i then j else i))) S
  | _ => False
theorem cc_min2 (hc : X.calm = true) : CallR X (.builtin "min") (upC X.K B (rcMax2 false)) := CallR.imp (call_min2 hc) fun x H Q ⟨φ, S, ds, Q', hr, r, q, k⟩ => by
  unfold rcMax2 at q
  split at q
  · obtain ⟨v, w', rfl, r1, v2, w2, rfl, r2, r3⟩ := r
    cases r1; cases r2; cases r3
    exact ⟨_, _, rfl, k.here (d := D.int _) hr rfl q⟩
  · exact q.elim
/-- sum of whole numbers -/
def asIs : List D → Option (List Int)
  | [] => some []
  | .int b :: r => (asIs r).map (b :: ·)
  | _ => none
theorem asIs_ok {K : PySem.W.Frag} {φ : Ph} {H : Hp} : ∀ {ds : List D} {vs : List V} {bs : List Int}, asIs ds = some bs → RVs K φ H ds vs → vs = bs.map V.int
  | [], _, _, h, r => by cases h; cases r; rfl
  | d :: ds, _, bs, h, ⟨v, ws, e, r1, r2⟩ => by
    subst e
    cases d <;> first | (cases h; done) | skip
    cases e2 : asIs ds with
    | none => simp [asIs, e2] at h
    | some cs =>
      simp [asIs, e2] at h
      subst h
      cases r1
      rw [asIs_ok e2 r2]; rfl
theorem asIs_ints (l : List Int) : asIs (l.map D.int) = some l := by
  induction l with
  | nil => rfl
  | cons x r ih => simp [asIs, ih]
/-! ### isinstance -/
/-- what the written part says of an own class for isinstance -/
structure IsC (K : PySem.W.Frag) (C : Addr) : Prop where
  cl : Cls K C
  ha : PySem.W.findIn K (.ref C) "__class__" =
    some (some (.builtin "object.__class__"))
  hn : PySem.W.specialIn K (.builtin "object.__class__") "__get__" =
    some (some (.builtin "getset_descriptor.__get__"))
  htk : PySem.W.takesIn K (.builtin "object.__class__") =
    some true
  hm : PySem.W.mroIn K C (.type "object") =
    some true
def tyOf (S : List O) : D → Option Value
  | .non => some (.type "NoneType")
  | .bl _ => some (.type "bool")
  | .int _ => some (.type "int")
  | .str _ => some (.type "str")
  | .tup _ => some (.type "tuple")
  | .lst _ => some (.type "list")
  | .scr _ => some (.type "list")
  | .tq _ => some (.type "tuple")
  | .kt _ => some (.type "tuple")
  | .ins C _ _ => some (.ref C)
  | .ref k => match S[k]? with
    | some (.lst _) => some (.type "list")
    | some .drw => some (.type "list")
    | some (.dK _) => some (.type "dict")
    | some (.dT _) => some (.type "dict")
    | some (.ins C _) => some (.ref C)
    | _ => none
  | _ => none
theorem tyOf_ok {φ : Ph} {H : Hp} {S : List O} {d : D} {v : V} {t : Value} (hr : HR X.K B φ H S) (h : tyOf S d = some t) (hc : ∀ C, t = .ref C → IsC X.K C) (r : RV X.K φ H d v) : TyX X.K H v t := by
  cases d with
  | non => cases h; cases r; exact .base .non
  | bl _ => cases h; cases r; exact .base (.bl _)
  | int _ => cases h; cases r; exact .base (.int _)
  | str _ => cases h; cases r; exact .base (.str _)
  | tup xs =>
    cases h
    obtain ⟨p, vs, rfl, h1, h2⟩ := r
    exact .base (.tup h1)
  | lst xs => cases h; obtain ⟨p, vs, rfl, _, h1, h2⟩ := r; exact .base (.lst h1)
  | scr ns =>
    cases h
    obtain ⟨p, rfl, h1⟩ := r
    rcases h1 with ⟨_, h1 | ⟨o, h1⟩⟩ | ⟨o, its, n, h1, h3, _⟩
    · exact .base (.lst h1)
    · exact .base (.frz h1)
    · exact .kList h1 h3
  | tq ns => cases h; obtain ⟨p, rfl, _, o, h1, _⟩ := r; exact .fTuple h1
  | kt xs => cases h; obtain ⟨p, vs, rfl, ⟨o, its, n, h1, h3, _⟩, _⟩ := r; exact .kTuple h1 h3
  | dK ks xs => cases h
  | dT ks xs => cases h
  | ins C ns xs =>
    cases h
    obtain ⟨p, dx, vs, rfl, _, h1, _⟩ := r
    have c := hc C rfl
    exact .base (.ins h1 c.cl c.ha c.hn c.htk c.hm)
  | ref k =>
    obtain ⟨a, ea, rfl⟩ := r
    simp only [tyOf] at h
    cases e : S[k]? with
    | none => rw [e] at h; cases h
    | some o =>
      rw [e] at h
      obtain ⟨b, eb, ho⟩ := hr.rel.ob k _ e
      rw [ea] at eb; cases eb
      cases o with
      | lst xs => cases h; obtain ⟨vs, h1, h2⟩ := ho; exact .base (.lst h1)
      | drw => cases h; obtain ⟨l, vs, _, h1, h2⟩ := ho; exact .base (.lst h1)
      | dK l => cases h; obtain ⟨vs, h1, h2⟩ := ho; exact .base (.dK h1)
      | dT l => cases h; obtain ⟨vs, h1, h2⟩ := ho; exact .base (.dT h1)
      | ins C fs =>
        cases h
        obtain ⟨dx, gs, h1, h2⟩ := ho
        have c := hc C rfl
        exact .base (.ins h1 c.cl c.ha c.hn c.htk c.hm)
      | non => cases h
  | ty _ => cases h
  | adr _ => cases h
  | bad => cases h
def clsOf : D → Option Value
  | .ty n => some (.type n)
  | .adr C => some (.ref C)
  | _ => none
theorem clsOf_ok {K : PySem.W.Frag} {φ : Ph} {H : Hp} : ∀ {c : D} {v : V} {u : Value}, clsOf c = some u → RV K φ H c v → ClsV v u
  | .ty n, _, _, h, r => by cases h; cases r; exact .ty n
  | .adr C, _, _, h, r => by cases h; cases r; exact .own C
inductive rcIsi (K : PySem.W.Frag) : List D → List O → (D → List O → Prop) → Prop
  | mk {d c : D} {S : List O} {Q : D → List O → Prop} {t u : Value} {b : Bool} (h1 : tyOf S d = some t) (h2 : clsOf c = some u) (h3 : ∀ C, t = .ref C → IsC K C) (h4 : PySem.W.kitOne K t u = some b) (q : Q (.bl b) S) : rcIsi K [d, c] S Q
theorem cc_isi : CallR X (.builtin "isinstance") (upC X.K B (rcIsi X.K)) := CallR.imp call_isi fun x H Q ⟨φ, S, ds, Q', hr, r, q, k⟩ => by
  obtain ⟨h1, h2, h3, h4, q⟩ := q
  obtain ⟨v, w', rfl, r1, v2, w2, rfl, r2, r3⟩ := r
  cases r3
  exact ⟨v, v2, _, _, _, rfl, clsOf_ok h2 r2, tyOf_ok hr h1 h3 r1, h4, k.here (d := D.bl _) hr rfl q⟩

/-! ### methods -/
abbrev QM := D → List D → List O → (D → List O → Prop) → Prop
def upM (K : PySem.W.Frag) (B : Bs) (rm : QM) : V → List V → Hp → VK → Prop := fun x vs H Q => ∃ φ S d ds Q', HR K B φ H S ∧ RV K φ H d x ∧ RVs K φ H ds vs ∧ rm d ds S Q' ∧ Kont K B (rD K) φ H Q' Q
theorem MtR.imp {id : String} {r r' : V → List V → Hp → VK → Prop} (h : MtR X id r) (i : ∀ x xs H Q, r' x xs H Q → r x xs H Q) : MtR X id r' :=
  fun pins s σ H x xs v us Q I rx rs q => h pins s σ H x xs v us Q I rx rs (i _ _ _ _ q)
/-- a value of the built-in type T -/
def tyM (T : String) (d : D) (S : List O) : Prop := match d with
  | .str _ => T = "str"
  | .int _ => T = "int"
  | .lst _ => T = "list"
  | .scr _ => T = "list"
  | .ref k => match S[k]? with
    | some (.lst _) => T = "list"
    | some .drw => T = "list"
    | some (.dK _) => T = "dict"
    | some (.dT _) => T = "dict"
    | _ => False
  | _ => False
theorem tyM_ok {T : String} {φ : Ph} {H : Hp} {S : List O} {d : D} {v : V} (hr : HR X.K B φ H S) (h : tyM T d S) (r : RV X.K φ H d v) : tyV X.K T v H := by
  cases d with
  | str x => cases r; exact h
  | int x => cases r; exact h
  | lst xs => obtain ⟨p, vs, rfl, _, h1, _⟩ := r; exact .inl ⟨h, vs, .inl (.inl h1)⟩
  | scr ns => obtain ⟨p, rfl, h1⟩ := r; exact .inl ⟨h, _, h1.sql⟩
  | ref k =>
    obtain ⟨a, ea, rfl⟩ := r
    simp only [tyM] at h
    cases e : S[k]? with
    | none => rw [e] at h; exact h.elim
    | some o =>
      rw [e] at h
      obtain ⟨b, eb, ho⟩ := hr.rel.ob k _ e
      rw [ea] at eb; cases eb
      cases o with
      | lst xs => obtain ⟨vs, h1, h2⟩ := ho; exact .inl ⟨h, vs, .inl (.inl h1)⟩
      | drw => obtain ⟨l, vs, _, h1, h2⟩ := ho; exact .inl ⟨h, vs, .inl (.inl h1)⟩
      | dK l => obtain ⟨vs, h1, h2⟩ := ho; exact .inr (.inr (.inl ⟨h, .inl ⟨vs, h1⟩⟩))
      | dT l => obtain ⟨vs, h1, h2⟩ := ho; exact .inr (.inr (.inl ⟨h, .inr ⟨vs, h1⟩⟩))
      | ins C fs => exact h.elim
      | non => exact h.elim
  | _ => exact h.elim
def qBM (T : String) (rm : QM) (qo : QE) (q : QA) : QE := fun s S Q => qo s S fun d S1 => Need (tyM T d S1) (q s S1 fun ds S2 => rm d ds S2 Q)
theorem le_bm {T id : String} {rm : QM} {o : Expr} {qo : QE} {name : Str} {apos cpos : Pos} (pa : PlainAttrs T) (slot : Slot T name id) (hty : typeOf (.builtin id) = pure (.type "method_descriptor")) (hm : MtR X id (upM X.K B rm)) (ho : LE X B o qo) (ha : LA X B (e :: es) q)
    (hB0 :
      attributeBase o name X.env (eval o X.env) = eval o X.env := by rfl)
    (hF0 : ((backTo cpos (starEach (e :: es) X.env)).all (fun x => !x.1) && (backToKw cpos (keywordEach [] X.env)).all (fun x => x.1.isSome)  &&
      decide ((e :: es).length + ([] : List Keyword).length + (if ([] : List Keyword).isEmpty then 0 else 1) < 30)) = true := by rfl)
    (hL0 : (apos.endLine == cpos.line) = true := by rfl)
    (hs : starEach (e :: es) X.env = (false, eval e X.env) :: starEach es X.env := by rfl) (hP0 : (backTo cpos (starEach es X.env)).any (·.1) = false := by rfl) :
    LE X B (.Call (.Attribute o name apos) (e :: es) [] cpos) (qBM T rm qo q) := PE.imp (pe_bm pa slot hty hm ho ha hB0 hF0 hL0 hs hP0) fun σ H Q ⟨φ, s, S, Q', hr, ev, q, k⟩ =>
  ⟨φ, s, S, _, hr, ev, q, fun φ1 d S1 v H1 e1 hr1 r1 q1 => ⟨tyM_ok hr1 q1.c r1, ⟨φ1, s, S1, _, hr1, ev.mono e1, q1.q, fun φ2 ds S2 vs H2 e2 hr2 r2 q2 => ⟨φ2, S2, d, ds, Q', hr2, r1.mono e2, r2, q2, k.ext (e1.trans e2)⟩⟩⟩⟩
/-- a list of one's own -/
def lsM (S : List O) (d : D) : Option (Nat × List D) := match d with
  | .ref k => match S[k]? with
    | some (.lst xs) => some (k, xs)
    | _ => none
  | _ => none
theorem HR.lsW {φ : Ph} {H : Hp} {S : List O} {d : D} {k : Nat} {xs : List D} (hr : HR X.K B φ H S) (h : lsM S d = some (k, xs)) {v : V} (r : RV X.K φ H d v) : d = .ref k ∧ S[k]? = some (.lst xs) ∧ ∃ a vs, v = .ref a ∧ φ.own[k]? = some a ∧ H a = some (.lst vs) ∧ RVs X.K φ H xs vs := by
  unfold lsM at h
  split at h
  · split at h
    · rename_i ys e
      cases h
      obtain ⟨a, ea, rfl⟩ := r
      obtain ⟨b, vs, eb, h1, h2⟩ := hr.lstO e
      rw [ea] at eb; cases eb
      exact ⟨rfl, e, a, vs, rfl, ea, h1, h2⟩
    · cases h
  · cases h
/-- append -/
def rmAppend : QM := fun d ds S Q => match ds with
  | [x] => Opt (lsM S d) fun p => Need (p.2.length < sizeLine) (Q .non (S.set p.1 (.lst (p.2 ++ [x]))))
  | _ => False
theorem mm_append : MtR X "list.append" (upM X.K B rmAppend) := MtR.imp mt_append fun x xs H Q ⟨φ, S, d, ds, Q', hr, r, rs, q, k⟩ => by
  unfold rmAppend at q
  split at q
  · obtain ⟨v, w', rfl, r1, r2⟩ := rs
    cases r2
    obtain ⟨⟨kk, ys⟩, h1, h2, q2⟩ := q.get; clear q
    obtain ⟨rfl, hS, a, vs, rfl, ea, h3, h4⟩ := hr.lsW h1 r
    exact ⟨a, vs, v, rfl, rfl, h3, by rw [h4.len]; exact h2, k.write (x := O.lst ys) (y := O.lst _) (d := D.non) hr hS rfl ea (fun e => ⟨_, upd_same, (RVs.app (es := [_]) (ws := [v]) h4 ⟨v, [], rfl, r1, rfl⟩).mono e⟩) (fun _ _ => rfl) q2⟩
  · exact q.elim
def rmSIndex : QM := fun d ds S Q => match d, ds with
  | .str a, [.str b] => match Builtin.Str.occurrences a b 0 a.length 1 with
    | i :: _ => Q (.int (i : Nat)) S
    | [] => False
  | _, _ => False
theorem mm_sindex : MtR X "str.index" (upM X.K B rmSIndex) := MtR.imp mt_sindex fun x xs H Q ⟨φ, S, d, ds, Q', hr, r, rs, q, k⟩ => by
  unfold rmSIndex at q
  split at q
  · split at q
    · rename_i e
      obtain ⟨v, w', rfl, r1, r2⟩ := rs
      cases r2; cases r1; cases r
      exact ⟨_, _, _, _, rfl, rfl, e, k.here (d := D.int _) hr rfl q⟩
    · exact q.elim
  · exact q.elim
def rmStarts : QM := fun d ds S Q => match d, ds with
  | .str a, [.str b] => Q (.bl (Txt.startswith a b)) S
  | _, _ => False
theorem mm_starts : MtR X "str.startswith" (upM X.K B rmStarts) := MtR.imp mt_startswith fun x xs H Q ⟨φ, S, d, ds, Q', hr, r, rs, q, k⟩ => by
  unfold rmStarts at q
  split at q
  · obtain ⟨v, w', rfl, r1, r2⟩ := rs
    cases r2; cases r1; cases r
    exact ⟨_, _, rfl, rfl, k.here (d := D.bl _) hr rfl q⟩
  · exact q.elim
theorem RVs.ofStrs {K : PySem.W.Frag} {φ : Ph} {H : Hp} : ∀ {ns : List Str}, RVs K φ H (ns.map D.str) (ns.map V.str)
  | [] => rfl
  | n :: _ => ⟨.str n, _, rfl, rfl, RVs.ofStrs⟩
def rmSplit : QM := fun d ds S Q => match d, ds with
  | .str a, [.str b] => Need ((b.length == 0) = false ∧ a.length + 2 ≤ sizeLine) (Q (.lst ((Txt.split a b).map D.str)) S)
  | _, _ => False
theorem mm_split : MtR X "str.split" (upM X.K B rmSplit) := MtR.imp mt_split fun x xs H Q ⟨φ, S, d, ds, Q', hr, r, rs, q, k⟩ => by
  unfold rmSplit at q
  split at q
  · obtain ⟨v, w', rfl, r1, r2⟩ := rs
    cases r2; cases r1; cases r
    exact ⟨_, _, rfl, rfl, q.c.1, q.c.2, fun p hp => k.lst hr hp .ofStrs q.q⟩
  · exact q.elim
/-- join of texts -/
def asSs : List D → Option (List Str)
  | [] => some []
  | .str b :: r => (asSs r).map (b :: ·)
  | _ => none
theorem asSs_ok {K : PySem.W.Frag} {φ : Ph} {H : Hp} : ∀ {ds : List D} {vs : List V} {bs : List Str}, asSs ds = some bs → RVs K φ H ds vs → vs = bs.map V.str
  | [], _, _, h, r => by cases h; cases r; rfl
  | d :: ds, _, bs, h, ⟨v, ws, e, r1, r2⟩ => by
    subst e
    cases d <;> first | (cases h; done) | skip
    cases e2 : asSs ds with
    | none => simp [asSs, e2] at h
    | some cs =>
      simp [asSs, e2] at h
      subst h
      cases r1
      rw [asSs_ok e2 r2]; rfl
theorem asSs_map {α : Type} (f : α → Str) (l : List α) : asSs (l.map fun x => D.str (f x)) = some (l.map f) := by
  induction l with
  | nil => rfl
  | cons x r ih => simp [asSs, ih]
def qJoin (qo qe : QE) : QE := fun s S Q => qo s S fun d S1 => match d with
  | .str a => qe s S1 fun l S2 => Opt (itemsOf S2 l) fun xs => Opt (asSs xs) fun ys => Need ((ys.map (·.length)).sum + ys.length * a.length ≤ 16777216) (Q (.str (Txt.join a ys)) S2)
  | _ => False
theorem le_join {o e : Expr} {qo qe : QE} {apos pos : Pos} (ho : LE X B o qo) (he : LE X B e qe) (hs : starEach [e] X.env = [(false, eval e X.env)] := by rfl) (hbase : attributeBase o "join" X.env (eval o X.env) = eval o X.env := by rfl) (hline : (apos.endLine == pos.line) = true := by rfl) :
    LE X B (.Call (.Attribute o "join" apos) [e] [] pos) (qJoin qo qe) := PE.imp (pe_join ho he hs hbase hline) fun σ H Q ⟨φ, s, S, Q', hr, ev, q, k⟩ => ⟨φ, s, S, _, hr, ev, q, fun φ1 d S1 v H1 e1 hr1 r1 q1 => by
  split at q1
  · rename_i a
    cases r1
    refine ⟨⟨a, rfl⟩, φ1, s, S1, _, hr1, ev.mono e1, q1, fun φ2 d2 S2 v2 H2 e2 hr2 r2 q2 => ?_⟩
    obtain ⟨xs, h1, q2⟩ := Opt.get q2
    obtain ⟨ys, h2, h3, q2⟩ := q2.get
    obtain ⟨p, vs, rfl, h4, h5⟩ := hr2.items h1 r2
    have h6 := asSs_ok h2 h5
    subst h6
    exact ⟨a, p, ys, rfl, rfl, h4, h3, k _ (.str _) _ _ _ (e1.trans e2) hr2 rfl q2⟩
  · exact q1.elim⟩
end
end LC

set_option Elab.async false
set_option linter.all false
set_option maxRecDepth 100000
set_option maxHeartbeats 5000000
/-! LD4: statements, targets, calls of own defs, fields, instances. -/
namespace LC
open PySem PySem.Spec
open PyProof.Rows L2

/-! ### statements -/
section
variable {X : Cx} {B : Bs} {st : Stmt} {rest body : List Stmt} {qs qt : QS} {e : Expr} {qe : QE} {pos : Pos}
theorem EV.set {φ : Ph} {H : Hp} {s : Sl} {σ : L2.St} {i : Nat} {d : D} {v : V} (ev : EV X.K φ H s σ) (r : RV X.K φ H d v) : EV X.K φ H (s.set i (some d)) (σ.set i (some v)) := by
  refine ⟨by simp [ev.len], fun j x q => ?_⟩
  by_cases hj : j = i
  · subst hj
    have hl : j < s.length := by
      have := (List.getElem?_eq_some_iff.mp q).1
      simpa using this
    rw [List.getElem?_set_self hl] at q
    cases q
    exact ⟨v, by rw [List.getElem?_set_self (by rw [ev.len]; exact hl)], r⟩
  · rw [List.getElem?_set_ne (Ne.symm hj)] at q
    obtain ⟨u, h1, h2⟩ := ev.at' j x q
    exact ⟨u, by rw [List.getElem?_set_ne (Ne.symm hj)]; exact h1, h2⟩
theorem EV.wipe {φ : Ph} {H : Hp} {s : Sl} {σ : L2.St} {i : Nat} (ev : EV X.K φ H s σ) : EV X.K φ H (s.set i none) (σ.set i none) := by
  refine ⟨by simp [ev.len], fun j x q => ?_⟩
  by_cases hj : j = i
  · subst hj
    have hl : j < s.length := by
      have := (List.getElem?_eq_some_iff.mp q).1
      simpa using this
    rw [List.getElem?_set_self hl] at q
    cases q
  · rw [List.getElem?_set_ne (Ne.symm hj)] at q
    obtain ⟨u, h1, h2⟩ := ev.at' j x q
    exact ⟨u, by rw [List.getElem?_set_ne (Ne.symm hj)]; exact h1, h2⟩
def qNext : QS := fun D s S => D.nx s S
def qSeq (a b : QS) : QS := fun D s S => a { D with nx := b D } s S
theorem lss_nil : LSs X B [] qNext := PSs.imp pss_nil fun D σ H ⟨φ, s, S, D', hr, ev, q, ek⟩ => ek.nx _ _ _ _ _ Ext.refl hr ev q
theorem lss_cons (h1 : LS X B st qs) (h2 : LSs X B rest qt) : LSs X B (st :: rest) (qSeq qs qt) := PSs.imp (pss_cons h1 h2) fun D σ H ⟨φ, s, S, D', hr, ev, q, ek⟩ =>
  ⟨φ, s, S, { D' with nx := qt D' }, hr, ev, q, ek.seq (fun φ' H' S' s' σ' ek' hr' ev' q' => ⟨φ', s', S', D', hr', ev', q', ek'⟩) rfl rfl rfl⟩
/-- dead slots are forgotten -/
def wipeD (s : Sl) : List Nat → Sl
  | [] => s
  | v :: vs => (wipeD s vs).set v none
theorem EV.forget {φ : Ph} {H : Hp} {s : Sl} {σ : L2.St} {i : Nat} (ev : EV X.K φ H s σ) : EV X.K φ H (s.set i none) σ := by
  refine ⟨by simp [ev.len], fun j x q => ?_⟩
  by_cases hj : j = i
  · subst hj
    have hl : j < s.length := by
      have := (List.getElem?_eq_some_iff.mp q).1
      simpa using this
    rw [List.getElem?_set_self hl] at q
    cases q
  · rw [List.getElem?_set_ne (Ne.symm hj)] at q
    exact ev.at' j x q
theorem EV.forgets {φ : Ph} {H : Hp} {s : Sl} {σ : L2.St} (ev : EV X.K φ H s σ) : ∀ {vs : List Nat}, EV X.K φ H (wipeD s vs) σ
  | [] => ev
  | _ :: _ => (EV.forgets ev).forget
def qSeqW (vs : List Nat) (a b : QS) : QS := fun D s S => a { D with nx := fun s' S' => b D (wipeD s' vs) S' } s S
theorem lss_consW (vs : List Nat) (h1 : LS X B st qs) (h2 : LSs X B rest qt) : LSs X B (st :: rest) (qSeqW vs qs qt) := PSs.imp (pss_cons h1 h2) fun D σ H ⟨φ, s, S, D', hr, ev, q, ek⟩ =>
  ⟨φ, s, S, { D' with nx := fun s' S' => qt D' (wipeD s' vs) S' }, hr, ev, q, ek.seq (fun φ' H' S' s' σ' ek' hr' ev' q' => ⟨φ', _, S', D', hr', ev'.forgets, q', ek'⟩) rfl rfl rfl⟩
def qDrop (qe : QE) : QS := fun D s S => qe s S fun _ S1 => D.nx s S1
theorem ls_expr (he : LE X B e qe) (hs : swapsWith e none pos.line X.env = pure false := by rfl) : LS X B (.Expr e pos) (qDrop qe) := PS.imp (ps_expr he hs) fun D σ H ⟨φ, s, S, D', hr, ev, q, ek⟩ =>
  ⟨φ, s, S, _, hr, ev, q, fun φ1 d S1 v H1 e1 hr1 r1 q1 => ek.nx _ _ _ _ _ e1 hr1 (ev.mono e1) q1⟩
def qRet (qe : QE) : QS := fun D s S => qe s S D.rt
theorem ls_ret (he : LE X B e qe) : LS X B (.Return (some e) pos) (qRet qe) := PS.imp (ps_ret he) fun D σ H ⟨φ, s, S, D', hr, ev, q, ek⟩ =>
  ⟨φ, s, S, _, hr, ev, q, fun φ1 d S1 v H1 e1 hr1 r1 q1 => ek.rt _ _ _ _ _ e1 hr1 r1 q1⟩
def qIfS (t : QT) (a b : QS) : QS := fun D s S => t s S fun c S1 => Br c (a D s S1) (b D s S1)
theorem ls_if {c : Expr} {a b : List Stmt} {t : QT} {qa qb : QS} (hc : LT X B c t) (ha : LSs X B a qa) (hb : LSs X B b qb) : LS X B (.If c a b pos) (qIfS t qa qb) := PS.imp (ps_if hc ha hb) fun D σ H ⟨φ, s, S, D', hr, ev, q, ek⟩ =>
  ⟨φ, s, S, _, hr, ev, q, fun φ1 d S1 v H1 e1 hr1 r1 q1 => by
    cases r1
    cases d with
    | true => exact ⟨φ1, s, S1, D', hr1, ev.mono e1, q1.t rfl, ek.ext e1⟩
    | false => exact ⟨φ1, s, S1, D', hr1, ev.mono e1, q1.f rfl, ek.ext e1⟩⟩

/-! ### targets -/
abbrev QG := D → Sl → List O → (Sl → List O → Prop) → Prop
def KontG (K : PySem.W.Frag) (B : Bs) (φ : Ph) (H : Hp) (Q' : Sl → List O → Prop) (Q : L2.St → Hp → Prop) : Prop :=
  ∀ φ' s' S' σ' H', Ext K φ φ' H H' → HR K B φ' H' S' → EV K φ' H' s' σ' → Q' s' S' → Q σ' H'
def UG (K : PySem.W.Frag) (B : Bs) (g : QG) : TG := fun v σ H Q => ∃ φ d s S Q', HR K B φ H S ∧ EV K φ H s σ ∧ RV K φ H d v ∧ g d s S Q' ∧ KontG K B φ H Q' Q
abbrev LG (X : Cx) (B : Bs) (e : Expr) (g : QG) : Prop := PG X e (UG X.K B g)
theorem PG.imp {e : Expr} {t t' : TG} (h : PG X e t) (i : ∀ v σ H Q, t' v σ H Q → t v σ H Q) : PG X e t' := ⟨fun pins s σ H v u Q I r w => h.run pins s σ H v u Q I r (i _ _ _ _ w)⟩
def qgName (i : Nat) : QG := fun d s S Q => Q (s.set i (some d)) S
theorem lg_name {i : Nat} {x : Str} (hN : X.N.Nodup) (hi : X.N[i]? = some x) (hx : Loc X.env.scope x := by first | exact .inl rfl | exact .inr rfl) (hf : X.fn x = true ∨ X.env.scope.names.lookup x = some .local := by first | exact .inl rfl | exact .inr rfl | assumption) : LG X B (.Name x pos) (qgName i) :=
  PG.imp (pg_name hN hi hx hf) fun v σ H Q ⟨φ, d, s, S, Q', hr, ev, r, q, k⟩ => k _ _ _ _ _ Ext.refl hr (ev.set r) q
/-- target = e -/
def qAsg (qe : QE) (g : QG) : QS := fun D s S => qe s S fun d S1 => g d s S1 D.nx
theorem up_asg {g : QG} {D : Ends} {σ : L2.St} {H : Hp} (h : US X.K B (qAsg qe g) D σ H) : tAsg (UP X.K B (rD X.K) qe) (UG X.K B g) D σ H := by
  obtain ⟨φ, s, S, D', hr, ev, q, ek⟩ := h
  exact ⟨φ, s, S, _, hr, ev, q, fun φ1 d S1 v H1 e1 hr1 r1 q1 => ⟨φ1, d, s, S1, D'.nx, hr1, ev.mono e1, r1, q1, fun φ2 s2 S2 σ2 H2 e2 hr2 ev2 q2 => ek.nx _ _ _ _ _ (e1.trans e2) hr2 ev2 q2⟩⟩
theorem ls_asg {tg : Expr} {g : QG} (he : LE X B e qe) (hg : LG X B tg g) (hs : swapsWithSole [tg] e pos.line X.env = pure false := by rfl) (hw : swappedStores [tg] e X.env = pure none := by rfl)
    (h1 : (assignEach [tg] X.env).map (·.2) = [assign tg X.env] := by rfl) : LS X B (.Assign [tg] e pos) (qAsg qe g) := PS.imp (ps_asg he hg hs hw h1) fun _ _ _ => up_asg
def qSet (i : Nat) (qe : QE) : QS := fun D s S => qe s S fun d S1 => D.nx (s.set i (some d)) S1
theorem ls_set (i : Nat) {x : Str} {pos' : Pos} (he : LE X B e qe) (hN : X.N.Nodup) (hi : X.N[i]? = some x := by rfl) (hx : Loc X.env.scope x := by first | exact .inl rfl | exact .inr rfl) (hs : swapsWith e (some (.Name x pos')) pos.line X.env = pure false := by rfl) (hf : X.fn x = true ∨ X.env.scope.names.lookup x = some .local := by first | exact .inl rfl | exact .inr rfl | assumption) :
    LS X B (.Assign [.Name x pos'] e pos) (qSet i qe) := PS.imp (ps_set hN hi hx he hs hf) fun D σ H ⟨φ, s, S, D', hr, ev, q, ek⟩ =>
  ⟨φ, s, S, _, hr, ev, q, fun φ1 d S1 v H1 e1 hr1 r1 q1 => ek.nx _ _ _ _ _ e1 hr1 ((ev.mono e1).set r1) q1⟩
/-- o[i] = .. -/
abbrev QSt := D → D → D → List O → (List O → Prop) → Prop
def upSet (K : PySem.W.Frag) (B : Bs) (t : QSt) : TSet := fun o i v H Q => ∃ φ S do' di dv Q', HR K B φ H S ∧ RV K φ H do' o ∧ RV K φ H di i ∧ RV K φ H dv v ∧ t do' di dv S Q' ∧ ∀ φ' S' H', Ext K φ φ' H H' → HR K B φ' H' S' → Q' S' → Q H'
theorem PSet.imp {t t' : TSet} (h : PSet X t) (i : ∀ o j v H Q, t' o j v H Q → t o j v H Q) : PSet X t' := fun pins s σ H o j v ov iv u Q I r1 r2 r3 w => h pins s σ H o j v ov iv u Q I r1 r2 r3 (i _ _ _ _ _ w)
def qgSub (qo qi : QE) (t : QSt) : QG := fun d s S Q => qo s S fun o S1 => qi s S1 fun i S2 => t o i d S2 fun S3 => Q s S3
theorem lg_sub {o i : Expr} {qo qi : QE} {t : QSt} (ho : LE X B o qo) (hi : LE X B i qi) (hs : PSet X (upSet X.K B t))
    (ha : ∀ v,
      assign (.Subscript o i pos) X.env v = (do
      let v1 ← holding [v] (eval o X.env); let v2 ← holding [v, v1] (eval i X.env)
      standAt pos
      holding [v, v1, v2] (setItem v1 v2 v)
      release [v, v1, v2] []) := by intro _; rfl) : LG X B (.Subscript o i pos) (qgSub qo qi t) := PG.imp (pg_sub ho hi hs ha) fun v σ H Q ⟨φ, d, s, S, Q', hr, ev, r, q, k⟩ =>
  ⟨φ, s, S, _, hr, ev, q, fun φ1 d1 S1 v1 H1 e1 hr1 r1 q1 => ⟨φ1, s, S1, _, hr1, ev.mono e1, q1, fun φ2 d2 S2 v2 H2 e2 hr2 r2 q2 =>
    ⟨φ2, S2, d1, d2, d, _, hr2, r1.mono e2, r2, r.mono (e1.trans e2), q2, fun φ3 S3 H3 e3 hr3 q3 => k _ _ _ _ _ (e1.trans (e2.trans e3)) hr3 (ev.mono (e1.trans (e2.trans e3))) q3⟩⟩⟩
def otList : QSt := fun o i d S Q => match i with
  | .int z => Opt (lsM S o) fun p => Opt (ixN p.2.length z) fun j => Q (S.set p.1 (.lst (p.2.set j d)))
  | _ => False
theorem st_list : PSet X (upSet X.K B otList) := PSet.imp set_list fun o i v H Q ⟨φ, S, d1, d2, d3, Q', hr, r1, r2, r3, q, k⟩ => by
  unfold otList at q
  split at q
  · cases r2
    obtain ⟨⟨kk, xs⟩, h1, q1⟩ := q.get; clear q
    obtain ⟨j, h2, q2⟩ := q1.get; clear q1
    obtain ⟨rfl, hS, a, vs, rfl, ea, h3, h4⟩ := hr.lsW h1 r1
    obtain ⟨e, hr'⟩ := hr.write (o := .lst (vs.set j v)) (x := O.lst xs) (y := O.lst (xs.set j d3)) hS rfl ea fun e => ⟨_, upd_same, (RVs.set r3 j h4).mono e⟩
    exact ⟨a, vs, _, j, rfl, rfl, h3, by rw [h4.len]; exact h2, k _ _ _ e hr' q2⟩
  · exact q.elim
end

/-! ### own defs: promises over data -/
abbrev EDt := Addr → List (Str × D) → List O → Prop
abbrev SpD := List D → List O → (D → List O → Prop) → EDt → Prop
/-- an exception of the class at C with its fields -/
def XRel (K : PySem.W.Frag) (φ : Ph) (H : Hp) (C : Addr) (fs : List (Str × D)) (cls : Value) (d : Option Addr) : Prop := cls = .ref C ∧ ∃ dx gs, d = some dx ∧ H dx = some (.xd gs) ∧ RKV K φ H fs gs
def upF (K : PySem.W.Frag) (sp : SpD) : Sp := fun vs H Q E => ∃ φ ds S Q' E' T, Rel K φ H S ∧ RVs K φ H ds vs ∧ LamX.Tabs T H ∧ sp ds S Q' E' ∧ (∀ φ' d S' v H', Ext K φ φ' H H' → Rel K φ' H' S' → LamX.Tabs T H' → RV K φ' H' d v → Q' d S' → Q v H') ∧
  (∀ φ' C fs S' cls d H', Ext K φ φ' H H' → Rel K φ' H' S' → LamX.Tabs T H' → XRel K φ' H' C fs cls d → E' C fs S' → E cls d H')
/-- the wish about exceptions, with slots -/
abbrev WD := Addr → List (Str × D) → Sl → List O → Prop
def WL (K : PySem.W.Frag) (B : Bs) (W' : WD) (W : WX) : Prop := ∀ φ' C fs s S' cls d σ H', HR K B φ' H' S' → EV K φ' H' s σ → XRel K φ' H' C fs cls d → W' C fs s S' → W cls d σ H'
def W0 : WD := fun _ _ _ _ => False
theorem WL0 {X : Cx} {B : Bs} {W : WX} : WL X.K B W0 W := fun _ _ _ _ _ _ _ _ _ _ _ _ h => h.elim
section
variable {X : Cx} {B : Bs} {k : Nat} {f C : Addr} {fd : FuncData} {ps : List Str} {sp : SpD} {dds : List D} {dvs : List V} {ds : List Value} {W : WX} {W' : WD} {x m : Str} {p pos apos : Pos} {e o : Expr} {es : List Expr} {q : QA} {qo : QE}
def qCall (sp : SpD) (dds : List D) (W' : WD) (q : QA) : QE := fun s S Q => q s S fun ds S1 => sp (ds ++ dds) S1 Q fun C fs S' => W' C fs s S'
/-- data that stand for values anywhere -/
def RVc (K : PySem.W.Frag) (ds : List D) (vs : List V) : Prop := ∀ φ H, RVs K φ H ds vs
theorem RVc.nil {K : PySem.W.Frag} : RVc K [] [] := fun _ _ => rfl
theorem upF_at {φ : Ph} {H : Hp} {S : List O} {s : Sl} {σ : L2.St} {ds : List D} {vs : List V} {Q' : D → List O → Prop} {Q : VK} (hr : HR X.K B φ H S) (ev : EV X.K φ H s σ) (r : RVs X.K φ H ds vs) (wl : WL X.K B W' W)
    (h : sp ds S Q' fun C fs S' => W' C fs s S') (k : Kont X.K B (rD X.K) φ H Q' Q) : upF X.K sp vs H Q (WE W σ) :=
  ⟨φ, ds, S, Q', _, B.T, hr.rel, r, hr.tab, h, fun φ' d S' v H' e1 r1 t1 rv q => k _ _ _ _ _ e1 (hr.mono e1 r1 t1) rv q, fun φ' C fs S' cls d H' e1 r1 t1 xr q => wl _ _ _ _ _ _ _ _ _ (hr.mono e1 r1 t1) (ev.mono e1) xr q⟩
theorem le_call (F : FnOk X.prog X.w X.K X.mg X.base (L2.CX X.prog X.w) k f fd ps (upF X.K sp)) (hr : Room k X.A) (hg : Gl X x) (hm : X.mg x = some (.ref f)) (hk : PySem.W.keepIn X.K (.ref f) = true) (hb : Binds X.K fd ps ds) (hd : Vals dvs ds) (hdd : RVc X.K dds dvs) (tk : Takes X W) (wl : WL X.K B W' W)
    (ha : LA X B (e :: es) q) (hdb : (x == ("__debug__" : Str)) = false := by decide) (he : starEach (e :: es) X.env = (false, eval e X.env) :: starEach es X.env := by rfl) (hpl : (backTo pos (starEach es X.env)).any (·.1) = false := by rfl) :
    LE X B (.Call (.Name x p) (e :: es) [] pos) (qCall sp dds W' q) := PE.imp (pe_callSD F hr hg hm hk hb hd (E := WE W) (fun σ => passAt tk σ) ha hdb he hpl) fun σ H Q ⟨φ, s, S, Q', hr, ev, q, k⟩ =>
  ⟨φ, s, S, _, hr, ev, q, fun φ1 ds S1 vs H1 e1 hr1 r1 q1 => upF_at hr1 (ev.mono e1) (r1.app (hdd _ _)) wl q1 (k.ext e1)⟩
theorem RKV.lookup {K : PySem.W.Frag} {φ : Ph} {H : Hp} {m : Str} : ∀ {fs : List (Str × D)} {gs : List (Str × V)}, RKV K φ H fs gs → (match fs.lookup m with | some d => ∃ v, gs.lookup m = some v ∧ RV K φ H d v | none => gs.lookup m = none)
  | [], _, h => by cases h; rfl
  | (n, d) :: fs, _, ⟨v, r, e, h1, h2⟩ => by
    subst e
    have ih := RKV.lookup (m := m) h2
    by_cases hm : m = n
    · subst hm
      simp [List.lookup]
      exact h1
    · have hb : (m == n) = false := by simpa using hm
      simp only [List.lookup, hb]
      exact ih
theorem RKV.lookup_none {K : PySem.W.Frag} {φ : Ph} {H : Hp} {m : Str} {fs : List (Str × D)} {gs : List (Str × V)} (r : RKV K φ H fs gs) (h : fs.lookup m = none) : gs.lookup m = none := by
  have := RKV.lookup (m := m) r
  rw [h] at this
  exact this
theorem RKV.lookup_some {K : PySem.W.Frag} {φ : Ph} {H : Hp} {m : Str} {d : D} {fs : List (Str × D)} {gs : List (Str × V)} (r : RKV K φ H fs gs) (h : fs.lookup m = some d) : ∃ v, gs.lookup m = some v ∧ RV K φ H d v := by
  have := RKV.lookup (m := m) r
  rw [h] at this
  exact this
theorem RKV.len {κ : Type} {K : PySem.W.Frag} {φ : Ph} {H : Hp} : ∀ {fs : List (κ × D)} {gs : List (κ × V)}, RKV K φ H fs gs → gs.length = fs.length
  | [], _, h => by cases h; rfl
  | (n, d) :: fs, _, ⟨v, r, e, h1, h2⟩ => by subst e; simp [RKV.len h2]
/-- an instance: its class, its fields -/
def insOf (S : List O) (d : D) : Option (Addr × List (Str × D)) := match d with
  | .ins C ns xs => some (C, ns.zip xs)
  | .ref k => match S[k]? with
    | some (.ins C fs) => some (C, fs)
    | _ => none
  | _ => none
theorem HR.ins {φ : Ph} {H : Hp} {S : List O} {d : D} {C : Addr} {fs : List (Str × D)} (hr : HR X.K B φ H S) (h : insOf S d = some (C, fs)) {v : V} (r : RV X.K φ H d v) : ∃ a dx gs, v = .ref a ∧ H a = some (.ins C dx gs) ∧ RKV X.K φ H fs gs := by
  unfold insOf at h
  split at h
  · cases h
    obtain ⟨p, dx, vs, rfl, _, h1, h2, h3⟩ := r
    exact ⟨p, dx, _, rfl, h1, h3.zip h2⟩
  · split at h
    · rename_i e
      cases h
      obtain ⟨a, ea, rfl⟩ := r
      obtain ⟨b, eb, dx, gs, h1, h2⟩ := hr.rel.ob _ _ e
      rw [ea] at eb; cases eb
      exact ⟨a, dx, gs, rfl, h1, h2⟩
    · cases h
  · cases h
/-- an instance of one's own -/
def insM (S : List O) (d : D) : Option (Nat × Addr × List (Str × D)) := match d with
  | .ref k => match S[k]? with
    | some (.ins C fs) => some (k, C, fs)
    | _ => none
  | _ => none
theorem HR.insW {φ : Ph} {H : Hp} {S : List O} {d : D} {k : Nat} {C : Addr} {fs : List (Str × D)} (hr : HR X.K B φ H S) (h : insM S d = some (k, C, fs)) {v : V} (r : RV X.K φ H d v) : d = .ref k ∧ S[k]? = some (.ins C fs) ∧ ∃ a dx gs, v = .ref a ∧ φ.own[k]? = some a ∧ H a = some (.ins C dx gs) ∧ RKV X.K φ H fs gs := by
  unfold insM at h
  split at h
  · split at h
    · rename_i e
      cases h
      obtain ⟨a, ea, rfl⟩ := r
      obtain ⟨b, eb, dx, gs, h1, h2⟩ := hr.rel.ob _ _ e
      rw [ea] at eb; cases eb
      exact ⟨rfl, e, a, dx, gs, rfl, ea, h1, h2⟩
    · cases h
  · cases h
/-- o.m(..) of an instance -/
def qMeth (C : Addr) (m : Str) (sp : SpD) (dds : List D) (W' : WD) (qo : QE) (q : QA) : QE := fun s S Q => qo s S fun d S1 => Opt (insOf S1 d) fun p => Need (p.1 = C ∧ p.2.lookup m = none) (q s S1 fun ds S2 => sp (d :: (ds ++ dds)) S2 Q fun C fs S' => W' C fs s S')
theorem up_meth {σ : L2.St} {H : Hp} {Q : VK} (hdd : RVc X.K dds dvs) (wl : WL X.K B W' W) (h : UP X.K B (rD X.K) (qMeth C m sp dds W' qo q) σ H Q) : UP X.K B (rD X.K) qo σ H fun x H1 => ∃ a dx fs, x = .ref a ∧ H1 a = some (.ins C dx fs) ∧ fs.lookup m = none ∧
    UP X.K B (rDs X.K) q σ H1 fun vs H2 => upF X.K sp (x :: (vs ++ dvs)) H2 Q (WE W σ) := by
  obtain ⟨φ, s, S, Q', hr, ev, q, k⟩ := h
  refine ⟨φ, s, S, _, hr, ev, q, fun φ1 d S1 v H1 e1 hr1 r1 q1 => ?_⟩
  obtain ⟨⟨C', fs⟩, h1, ⟨h2, h3⟩, q2⟩ := Opt.get q1; clear q1
  have h2' : C' = C := h2
  subst h2'
  obtain ⟨a, dx, gs, rfl, h4, h5⟩ := hr1.ins h1 r1
  refine ⟨a, dx, gs, rfl, h4, h5.lookup_none h3, φ1, s, S1, _, hr1, ev.mono e1, q2, fun φ2 ds S2 vs H2 e2 hr2 r2 q2 => ?_⟩
  exact upF_at hr2 (ev.mono (e1.trans e2)) (show RVs X.K φ2 H2 (d :: (ds ++ dds)) (V.ref a :: (vs ++ dvs)) from ⟨_, _, rfl, r1.mono e2, r2.app (hdd _ _)⟩) wl q2 (k.ext (e1.trans e2))
end

/-! ### methods, instances -/
/-- a call of a method is read as such here -/
def McAt (X : Cx) (o : Expr) (m : Str) (es : List Expr) (apos pos : Pos) : Prop := ∃ pl : Sem Bool, eval (.Call (.Attribute o m apos) es [] pos) X.env = (do let ov ← eval o X.env; standAt apos.atName; let (f, first) ← holding [ov] (getMethod ov m pl); callWith pos f first (backTo pos (starEach es X.env)) (backToKw pos (keywordEach [] X.env)))
section
variable {X : Cx} {B : Bs} {k : Nat} {f C : Addr} {fd : FuncData} {ps : List Str} {sp : Sp} {spd : SpD} {dds : List D} {dvs : List V} {ds : List Value} {W : WX} {W' : WD} {x m : Str} {p pos apos : Pos} {e o : Expr} {es : List Expr} {q : QA} {qo : QE}
/-- o.m(..), with a wish at the slots -/
def tMtE (C : Addr) (m : Str) (sp : Sp) (dvs : List V) (E : L2.St → XK) (ta : TE) (t : TA) : TE := fun σ H Q => ta σ H fun y G => ∃ aa dd gs, y = .ref aa ∧ G aa = some (.ins C dd gs) ∧ gs.lookup m = none ∧ t σ G fun vs H2 => sp (y :: (vs ++ dvs)) H2 Q (E σ)
theorem pe_mtE {ta : TE} {t : TA} {E : L2.St → XK} (ho : PE X o ta) (c : Cls X.K C) (hm : Meth X.K C m f) (F : FnOk X.prog X.w X.K X.mg X.base (L2.CX X.prog X.w) k f fd ps sp) (rm : Room k X.A) (bd : Binds X.K fd ps ds) (vd : Vals dvs ds)
    (px : ∀ σ, PassesAt (L2.CX X.prog X.w) X σ (E σ)) (ha : PA X (e :: es) t) (mc : McAt X o m (e :: es) apos pos) (st : starEach (e :: es) X.env = (false, eval e X.env) :: starEach es X.env) (pn : (backTo pos (starEach es X.env)).any (·.1) = false) : PE X (.Call (.Attribute o m apos) (e :: es) [] pos) (tMtE C m sp dvs E ta t) := ⟨fun pins s σ H Q I h => by
  obtain ⟨pl, mc⟩ := mc
  refine PySem.W.methodCall_KW (pl := pl) (thn (ho.run pins s σ H _ I h) fun w0 s1 z => ?_) mc
  obtain ⟨y, G, J, ry, aa, dd, gs, ey, ea, lk, q⟩ := z
  subst ey
  have ew : w0 = Value.ref aa := ry
  subst ew
  refine getmeth_ok J ea c hm lk (PySem.W.callWith_K (first := [.ref aa]) (h₀ := X.base) J.ok.mod.kin hm.kp (thn (ha.run pos pins s1 σ G _ J q) fun us s2 z2 => ?_) st pn)
  obtain ⟨vs, H2, J2, r, q2⟩ := z2
  exact ⟨J2.kIn, run_fnSD (us := .ref aa :: us) (vs := .ref aa :: vs) F rm bd vd (px σ) J2 (.cons rfl r) q2⟩⟩
theorem le_meth (ho : LE X B o qo) (c : Cls X.K C) (hm : Meth X.K C m f) (F : FnOk X.prog X.w X.K X.mg X.base (L2.CX X.prog X.w) k f fd ps (upF X.K spd)) (rm : Room k X.A) (bd : Binds X.K fd ps ds) (vd : Vals dvs ds) (hdd : RVc X.K dds dvs) (tk : Takes X W) (wl : WL X.K B W' W) (ha : LA X B (e :: es) q)
    (mc : McAt X o m (e :: es) apos pos := by exact ⟨_, rfl⟩) (st : starEach (e :: es) X.env = (false, eval e X.env) :: starEach es X.env := by rfl) (pn : (backTo pos (starEach es X.env)).any (·.1) = false := by rfl) : LE X B (.Call (.Attribute o m apos) (e :: es) [] pos) (qMeth C m spd dds W' qo q) :=
  PE.imp (pe_mtE ho c hm F rm bd vd (E := WE W) (fun σ => passAt tk σ) ha mc st pn) fun _ _ _ => up_meth hdd wl
/-- C(..): a new instance, then its __init__ -/
theorem run_mk {fI : Addr} {E : L2.St → XK} {pins : List (Addr × Obj)} {σ : L2.St} {H : Hp} {s : Shared} {Q : VK} {us : List Value} {vs : List V} (M : Mk X.K C fI) (F : FnOk X.prog X.w X.K X.mg X.base (L2.CX X.prog X.w) k fI fd ps sp) (rm : Room (k + 1) X.A) (bd : Binds X.K fd ps ds) (vd : Vals dvs ds)
    (px : PassesAt (L2.CX X.prog X.w) X σ (E σ)) (I : Inv X pins σ H s) (r : Vals vs us) (h : ∀ y dy, H y = none → H dy = none → dy ≠ y → sp (.ref y :: (vs ++ dvs)) (upd (upd H dy (.own y)) y (.ins C dy [])) (fun v H2 => v = .non ∧ Q (.ref y) H2) (E σ)) :
    wpAny (model X.prog X.w) X.A (call (.ref C) us) (EP X pins σ Q) X.xe s := by
  have w := h (s.heap.objs.size + 1) s.heap.objs.size (I.hok.fresh (Nat.le_succ _)) (I.hok.fresh (Nat.le_refl _)) (Nat.ne_of_lt (Nat.lt_succ_self _))
  have J := Inv.made (C := C) I
  have r2 : Vals (V.ref (s.heap.objs.size + 1) :: (vs ++ dvs)) (Value.ref (s.heap.objs.size + 1) :: (us ++ ds)) := .cons rfl (r.append vd)
  have hl : (Value.ref (s.heap.objs.size + 1) :: us ++ ds).length = ps.length := (r2.length.symm.trans (F.len _ _ _ _ w))
  refine wpAny_call (make_map (f := fI) I.kIn M.makes M.init (beq_iff_eq.mp M.fn) (codeAny_mono (F.run _ X.stack _ _ ⟨Value.ref (s.heap.objs.size + 1) :: us, []⟩ (Value.ref (s.heap.objs.size + 1) :: (us ++ ds)) _ _ (E σ) (rm.make C us []) (J.env0.make C us []) (bd _ (Value.ref (s.heap.objs.size + 1) :: us) J.kIn hl) r2 w) fun fl s' z => ?_))
  match fl, z with
  | .error ex, z => exact px pins _ _ ex s' J z
  | .ok (.ret u), z =>
    obtain ⟨v, H', J3, rv, ev, q3⟩ := J.after z
    subst ev
    exact ⟨rv, ⟨V.ref (s.heap.objs.size + 1), H', J3, rfl, q3⟩⟩
  | .ok .next, z => exact False.elim z
  | .ok .brk, z => exact False.elim z
  | .ok .cont, z => exact False.elim z
/-! ### fields -/
/-- where the class is known -/
def qFldC (C : Addr) (qo : QE) (m : Str) : QE := fun s S Q => qo s S fun d S1 => Opt (insOf S1 d) fun p => Need (p.1 = C) (Opt (p.2.lookup m) fun v => Q v S1)
theorem le_fldC {C : Addr} (c : Cls X.K C) (na : NoAttr X.K C m) (he : LE X B o qo) (hb : attributeBase o m X.env (eval o X.env) = eval o X.env := by rfl) : LE X B (.Attribute o m pos) (qFldC C qo m) := PE.imp (pe_fld he hb) fun σ H Q ⟨φ, s, S, Q', hr, ev, q, k⟩ =>
  ⟨φ, s, S, _, hr, ev, q, fun φ1 d S1 v H1 e1 hr1 r1 q1 => by
    obtain ⟨⟨C', fs⟩, h1, h2, q2⟩ := Opt.get q1
    have h2' : C' = C := h2
    subst h2'
    obtain ⟨dv, h4, q3⟩ := q2.get
    obtain ⟨a, dx, gs, rfl, h5, h6⟩ := hr1.ins h1 r1
    obtain ⟨u, h7, h8⟩ := h6.lookup_some h4
    exact ⟨a, _, dx, gs, u, rfl, h5, c, na, h7, k _ _ _ _ _ e1 hr1 h8 q3⟩⟩
def putD (f : Str) (v : D) : List (Str × D) → List (Str × D)
  | [] => [(f, v)]
  | (g, x) :: r => if g = f then (g, v) :: r else (g, x) :: putD f v r
theorem RKV.put {K : PySem.W.Frag} {φ : Ph} {H : Hp} {f : Str} {d : D} {v : V} (r : RV K φ H d v) : ∀ {fs : List (Str × D)} {gs : List (Str × V)}, RKV K φ H fs gs → RKV K φ H (putD f d fs) (putF f v gs)
  | [], _, h => by cases h; exact ⟨v, [], rfl, r, rfl⟩
  | (g, x) :: fs, _, ⟨u, gs, e, h1, h2⟩ => by
    subst e
    show RKV K φ H (if g = f then (g, d) :: fs else (g, x) :: putD f d fs) (if g = f then (g, v) :: gs else (g, u) :: putF f v gs)
    by_cases hg : g = f
    · rw [if_pos hg, if_pos hg]; exact ⟨v, gs, rfl, r, h2⟩
    · rw [if_neg hg, if_neg hg]; exact ⟨u, _, rfl, h1, RKV.put r h2⟩
def qsFld (C : Addr) (qo qv : QE) (m : Str) : QS := fun D s S => qv s S fun dv S1 => qo s S1 fun d S2 => Opt (insM S2 d) fun p => Need (p.2.1 = C) (Br (lenLe 900 p.2.2) (D.nx s (S2.set p.1 (.ins C (putD m dv p.2.2)))) False)
theorem ls_fldC {C : Addr} {value : Expr} {qv : QE} {pos' : Pos} (c : Cls X.K C) (na : NoAttr X.K C m) (ho : LE X B o qo) (hv : LE X B value qv) (hs : swapsWith value (some (.Attribute o m pos')) pos.line X.env = pure false := by rfl) : LS X B (.Assign [.Attribute o m pos'] value pos) (qsFld C qo qv m) :=
  PS.imp (ps_fld ho hv hs) fun D σ H ⟨φ, s, S, D', hr, ev, q, ek⟩ =>
    ⟨φ, s, S, _, hr, ev, q, fun φ1 d1 S1 v1 H1 e1 hr1 r1 q1 => ⟨φ1, s, S1, _, hr1, ev.mono e1, q1, fun φ2 d2 S2 v2 H2 e2 hr2 r2 q2 => by
      obtain ⟨⟨kk, C', fs⟩, h1, h2, q3⟩ := Opt.get q2; clear q2
      obtain ⟨h3, q3⟩ := Br.get q3
      have h2' : C' = C := h2
      subst h2'
      obtain ⟨rfl, hS, a, dx, gs, rfl, ea, h5, h6⟩ := hr2.insW h1 r2
      obtain ⟨e3, hr3⟩ := hr2.write (o := .ins C' dx (putF m v1 gs)) (x := O.ins C' fs) (y := O.ins C' (putD m d1 fs)) hS rfl ea fun e3 => ⟨dx, _, upd_same, (RKV.put (r1.mono e2) h6).mono e3⟩
      exact ⟨a, C', dx, gs, rfl, h5, c, na, by rw [h6.len]; exact Nat.lt_of_le_of_lt (lenLe_ok h3) (by decide), ek.nx _ _ _ _ _ (e1.trans (e2.trans e3)) hr3 (ev.mono (e1.trans (e2.trans e3))) q3⟩⟩⟩
end
end LC

set_option Elab.async false
set_option linter.all false
set_option maxRecDepth 100000
set_option maxHeartbeats 5000000
/-! LD5: what is dropped, what no longer changes, loops. -/
namespace LC
open PySem PySem.Spec
open PyProof.Rows L2

/-! ### data that speak of numbers below n alone -/
mutual
def D.lt (n : Nat) : D → Prop
  | .ref k => k < n
  | .tup xs => D.lts n xs
  | .kt xs => D.lts n xs
  | .lst xs => D.lts n xs
  | .ins _ _ xs => D.lts n xs
  | .dK _ xs => D.lts n xs
  | .dT _ xs => D.lts n xs
  | _ => True
def D.lts (n : Nat) : List D → Prop
  | [] => True
  | d :: r => D.lt n d ∧ D.lts n r
end
theorem D.lts_mem {n : Nat} {ds : List D} : D.lts n ds ↔ ∀ d ∈ ds, D.lt n d := by
  induction ds with
  | nil => exact ⟨fun _ d h => absurd h (List.not_mem_nil), fun _ => trivial⟩
  | cons d r ih =>
    constructor
    · rintro ⟨h1, h2⟩ x hx
      rcases (List.mem_cons).mp hx with rfl | hx
      · exact h1
      · exact ih.mp h2 x hx
    · intro h
      exact ⟨h d List.mem_cons_self, ih.mpr fun x hx => h x (List.mem_cons_of_mem _ hx)⟩
theorem D.lts_map {α : Type} {f : α → D} {n : Nat} {l : List α} (h : ∀ a ∈ l, D.lt n (f a)) : D.lts n (l.map f) := D.lts_mem.mpr fun d hd => by
  obtain ⟨a, ha, rfl⟩ := List.mem_map.mp hd
  exact h a ha
theorem D.lts_ints {n : Nat} (ns : List Int) : D.lts n (ns.map D.int) := D.lts_map fun _ _ => trivial
theorem D.lts_strs {n : Nat} (ns : List Str) : D.lts n (ns.map D.str) := D.lts_map fun _ _ => trivial
theorem D.lts_app {n : Nat} {ds es : List D} (h : D.lts n ds) (g : D.lts n es) : D.lts n (ds ++ es) := by
  rw [D.lts_mem] at h g ⊢
  intro d hd
  rcases List.mem_append.mp hd with hd | hd
  · exact h d hd
  · exact g d hd
mutual
theorem D.lt.mono {n m : Nat} (hm : n ≤ m) : ∀ {d : D}, D.lt n d → D.lt m d
  | .ref _, h => Nat.lt_of_lt_of_le h hm
  | .tup _, h => D.lts.mono hm h
  | .kt _, h => D.lts.mono hm h
  | .lst _, h => D.lts.mono hm h
  | .ins _ _ _, h => D.lts.mono hm h
  | .dK _ _, h => D.lts.mono hm h
  | .dT _ _, h => D.lts.mono hm h
  | .non, _ => trivial
  | .bl _, _ => trivial
  | .int _, _ => trivial
  | .str _, _ => trivial
  | .ty _, _ => trivial
  | .adr _, _ => trivial
  | .scr _, _ => trivial
  | .tq _, _ => trivial
  | .bad, _ => trivial
theorem D.lts.mono {n m : Nat} (hm : n ≤ m) : ∀ {d : List D}, D.lts n d → D.lts m d
  | [], _ => trivial
  | _ :: _, h => ⟨D.lt.mono hm h.1, D.lts.mono hm h.2⟩
end
/-! ### what is numbered m and above, by value -/
section
variable (m : Nat) (S : List O)
mutual
def Rs : D → D → Prop
  | .ref k, d => d = .ref k ∧ k < m
  | .tup ys, d => ∃ xs, d = .tup xs ∧ RsL ys xs
  | .kt ys, d => ∃ xs, d = .kt xs ∧ RsL ys xs
  | .lst ys, d => (∃ xs, d = .lst xs ∧ RsL ys xs) ∨ ∃ k xs, d = .ref k ∧ m ≤ k ∧ S[k]? = some (.lst xs) ∧ RsL ys xs
  | .ins C ns ys, d => (∃ xs, d = .ins C ns xs ∧ RsL ys xs) ∨ ∃ k fs, d = .ref k ∧ m ≤ k ∧ S[k]? = some (.ins C fs) ∧ ns = fs.map (·.1) ∧ RsL ys (fs.map (·.2))
  | .dK ks ys, d => (∃ xs, d = .dK ks xs ∧ RsL ys xs) ∨ ∃ k fs, d = .ref k ∧ m ≤ k ∧ S[k]? = some (.dK fs) ∧ ks = fs.map (·.1) ∧ RsL ys (fs.map (·.2))
  | .dT ks ys, d => (∃ xs, d = .dT ks xs ∧ RsL ys xs) ∨ ∃ k fs, d = .ref k ∧ m ≤ k ∧ S[k]? = some (.dT fs) ∧ ks = fs.map (·.1) ∧ RsL ys (fs.map (·.2))
  | .non, d => d = .non
  | .bl b, d => d = .bl b
  | .int i, d => d = .int i
  | .str x, d => d = .str x
  | .ty x, d => d = .ty x
  | .adr x, d => d = .adr x
  | .scr x, d => d = .scr x
  | .tq x, d => d = .tq x
  | .bad, d => d = .bad
def RsL : List D → List D → Prop
  | [], xs => xs = []
  | y :: ys, xs => ∃ x r, xs = x :: r ∧ Rs y x ∧ RsL ys r
end
end
mutual
theorem Rs.same {m : Nat} {S : List O} : ∀ {d : D}, D.lt m d → Rs m S d d
  | .ref k, h => ⟨rfl, h⟩
  | .tup xs, h => ⟨xs, rfl, RsL.same h⟩
  | .kt xs, h => ⟨xs, rfl, RsL.same h⟩
  | .lst xs, h => .inl ⟨xs, rfl, RsL.same h⟩
  | .ins _ _ xs, h => .inl ⟨xs, rfl, RsL.same h⟩
  | .dK _ xs, h => .inl ⟨xs, rfl, RsL.same h⟩
  | .dT _ xs, h => .inl ⟨xs, rfl, RsL.same h⟩
  | .non, _ => rfl
  | .bl _, _ => rfl
  | .int _, _ => rfl
  | .str _, _ => rfl
  | .ty _, _ => rfl
  | .adr _, _ => rfl
  | .scr _, _ => rfl
  | .tq _, _ => rfl
  | .bad, _ => rfl
theorem RsL.same {m : Nat} {S : List O} : ∀ {ds : List D}, D.lts m ds → RsL m S ds ds
  | [], _ => rfl
  | d :: r, h => ⟨d, r, rfl, Rs.same h.1, RsL.same h.2⟩
end
theorem Rs.ofL {m : Nat} {S : List O} {k : Nat} {xs ys : List D} (hm : m ≤ k) (h : S[k]? = some (.lst xs)) (r : RsL m S ys xs) : Rs m S (.lst ys) (.ref k) := .inr ⟨k, xs, rfl, hm, h, r⟩
/-- a list that was one's own, handed on as it is -/
theorem Rs.ofL' {m : Nat} {S : List O} {k : Nat} {xs : List D} (hm : m ≤ k) (h : S[k]? = some (.lst xs)) (r : D.lts m xs) : Rs m S (.lst xs) (.ref k) := Rs.ofL hm h (RsL.same r)
/-- the first m numbers -/
def Ph.cut (φ : Ph) (m : Nat) : Ph := ⟨φ.hid, φ.own.take m⟩
theorem Fz.cut {φ : Ph} {m : Nat} {a : Addr} (h : Fz φ a) : Fz (φ.cut m) a := ⟨h.1, fun z => h.2 (List.mem_of_mem_take z)⟩
section
variable {K : PySem.W.Frag} {φ : Ph} {H : Hp} {S : List O}
theorem LsA.cut {m : Nat} {a : Addr} {xs : List V} (h : LsA K φ H a xs) : LsA K (φ.cut m) H a xs := h.imp (fun ⟨f, g⟩ => ⟨f.cut, g⟩) id
/-- from the m-th on: no number of the first -/
theorem Rel.above (r : Rel K φ H S) {m k : Nat} {a : Addr} (hm : m ≤ k) (h : φ.own[k]? = some a) : Fz (φ.cut m) a := by
  refine ⟨fun z => r.dj a z (List.mem_of_getElem? h), fun z => ?_⟩
  obtain ⟨j, hj⟩ := List.getElem?_of_mem z
  have hjm : j < m := by
    have := (List.getElem?_eq_some_iff.mp hj).1
    simp only [Ph.cut, List.length_take] at this; omega
  have hj' : φ.own[j]? = some a := by
    have : (φ.own.take m)[j]? = some a := hj
    rwa [List.getElem?_take_of_lt hjm] at this
  obtain ⟨l1, g1⟩ := List.getElem?_eq_some_iff.mp hj'
  obtain ⟨l2, g2⟩ := List.getElem?_eq_some_iff.mp h
  have := (List.getElem_inj r.nd).mp (g1.trans g2.symm)
  omega
mutual
theorem Rs.rv {m : Nat} (r : Rel K φ H S) : ∀ {d' d : D} {v : V}, Rs m S d' d → RV K φ H d v → RV K (φ.cut m) H d' v
  | .ref k, _, _, ⟨e, hk⟩, h => by
    subst e
    obtain ⟨a, h1, h2⟩ := h
    exact ⟨a, by show (φ.own.take m)[k]? = _; rw [List.getElem?_take_of_lt hk]; exact h1, h2⟩
  | .tup ys, _, _, ⟨xs, e, q⟩, h => by
    subst e
    obtain ⟨p, vs, h1, h2, h3⟩ := h
    exact ⟨p, vs, h1, h2, RsL.rv r q h3⟩
  | .kt ys, _, _, ⟨xs, e, q⟩, h => by
    subst e
    obtain ⟨p, vs, h1, h2, h3⟩ := h
    exact ⟨p, vs, h1, h2, RsL.rv r q h3⟩
  | .lst ys, _, _, q, h => by
    rcases q with ⟨xs, e, q⟩ | ⟨k, xs, e, hk, hS, q⟩
    · subst e
      obtain ⟨p, vs, h1, h2, h3, h4⟩ := h
      exact ⟨p, vs, h1, h2.cut, h3, RsL.rv r q h4⟩
    · subst e
      obtain ⟨a, h1, h2⟩ := h
      obtain ⟨b, g1, vs, g2, g3⟩ := r.ob k _ hS
      rw [h1] at g1; cases g1
      exact ⟨a, vs, h2, r.above hk h1, g2, RsL.rv r q g3⟩
  | .ins C ns ys, _, _, q, h => by
    rcases q with ⟨xs, e, q⟩ | ⟨k, fs, e, hk, hS, en, q⟩
    · subst e
      obtain ⟨p, dx, vs, h1, h2, h3, h4, h5⟩ := h
      exact ⟨p, dx, vs, h1, h2.cut, h3, h4.trans (RsL.len q), RsL.rv r q h5⟩
    · subst e en
      obtain ⟨a, h1, h2⟩ := h
      obtain ⟨b, g1, dx, gs, g2, g3⟩ := r.ob k _ hS
      rw [h1] at g1; cases g1
      obtain ⟨vs, e1, g4⟩ := g3.split
      subst e1
      exact ⟨a, dx, vs, h2, r.above hk h1, g2, by rw [← RsL.len q]; simp, RsL.rv r q g4⟩
  | .dK ns ys, _, _, q, h => by
    rcases q with ⟨xs, e, q⟩ | ⟨k, fs, e, hk, hS, en, q⟩
    · subst e
      obtain ⟨p, vs, h1, h2, h3, h4, h5⟩ := h
      exact ⟨p, vs, h1, h2.cut, h3, h4.trans (RsL.len q), RsL.rv r q h5⟩
    · subst e en
      obtain ⟨a, h1, h2⟩ := h
      obtain ⟨b, g1, gs, g2, g3⟩ := r.ob k _ hS
      rw [h1] at g1; cases g1
      obtain ⟨vs, e1, g4⟩ := g3.split
      subst e1
      exact ⟨a, vs, h2, r.above hk h1, .inl g2, by rw [← RsL.len q]; simp, RsL.rv r q g4⟩
  | .dT ns ys, _, _, q, h => by
    rcases q with ⟨xs, e, q⟩ | ⟨k, fs, e, hk, hS, en, q⟩
    · subst e
      obtain ⟨p, vs, h1, h2, h3, h4, h5⟩ := h
      exact ⟨p, vs, h1, h2.cut, h3, h4.trans (RsL.len q), RsL.rv r q h5⟩
    · subst e en
      obtain ⟨a, h1, h2⟩ := h
      obtain ⟨b, g1, gs, g2, g3⟩ := r.ob k _ hS
      rw [h1] at g1; cases g1
      obtain ⟨vs, e1, g4⟩ := g3.split
      subst e1
      exact ⟨a, vs, h2, r.above hk h1, .inl g2, by rw [← RsL.len q]; simp, RsL.rv r q g4⟩
  | .non, _, _, e, h => by cases e; exact h
  | .bl _, _, _, e, h => by cases e; exact h
  | .int _, _, _, e, h => by cases e; exact h
  | .str _, _, _, e, h => by cases e; exact h
  | .ty _, _, _, e, h => by cases e; exact h
  | .adr _, _, _, e, h => by cases e; exact h
  | .scr _, _, _, e, h => by cases e; obtain ⟨p, h1, h2⟩ := h; exact ⟨p, h1, h2.cut⟩
  | .tq _, _, _, e, h => by cases e; obtain ⟨p, h1, h2⟩ := h; exact ⟨p, h1, h2.1.cut, h2.2⟩
  | .bad, _, _, e, h => by cases e; exact h
theorem RsL.rv {m : Nat} (r : Rel K φ H S) : ∀ {ys xs : List D} {vs : List V}, RsL m S ys xs → RVs K φ H xs vs → RVs K (φ.cut m) H ys vs
  | [], _, _, e, h => by cases e; exact h
  | y :: ys, _, _, ⟨x, t, e, q1, q2⟩, h => by
    subst e
    obtain ⟨v, ws, e2, h1, h2⟩ := h
    exact ⟨v, ws, e2, Rs.rv r q1 h1, RsL.rv r q2 h2⟩
theorem RsL.len {m : Nat} {S : List O} : ∀ {ys xs : List D}, RsL m S ys xs → xs.length = ys.length
  | [], _, e => by cases e; rfl
  | y :: ys, _, ⟨x, t, e, q1, q2⟩ => by subst e; simp [RsL.len q2]
end
/-- as an object -/
def RsO (m : Nat) (S : List O) : O → O → Prop
  | .lst ys, .lst xs => RsL m S ys xs
  | .drw, .drw => True
  | .drw, .lst xs => ∃ l, RsL m S l xs ∧ DrawL l
  | .ins C fs', .ins C2 fs => C = C2 ∧ fs'.map (·.1) = fs.map (·.1) ∧ RsL m S (fs'.map (·.2)) (fs.map (·.2))
  | .dK fs', .dK fs => fs'.map (·.1) = fs.map (·.1) ∧ RsL m S (fs'.map (·.2)) (fs.map (·.2))
  | .dT fs', .dT fs => fs'.map (·.1) = fs.map (·.1) ∧ RsL m S (fs'.map (·.2)) (fs.map (·.2))
  | .non, _ => True
  | _, _ => False
def RsS (m : Nat) (S : List O) : List O → List O → Prop
  | [], l => l = []
  | o' :: r, l => ∃ o t, l = o :: t ∧ RsO m S o' o ∧ RsS m S r t
theorem RKV.join {κ : Type} : ∀ {fs : List (κ × D)} {vs : List V}, RVs K φ H (fs.map (·.2)) vs → RKV K φ H fs ((fs.map (·.1)).zip vs)
  | [], _, h => by cases h; rfl
  | p :: fs, _, ⟨v, ws, e, h1, h2⟩ => by subst e; exact ⟨v, _, rfl, h1, RKV.join h2⟩
theorem RsO.ro {m : Nat} (r : Rel K φ H S) {o' o : O} {a : Addr} (q : RsO m S o' o) (h : RO K φ H o a) : RO K (φ.cut m) H o' a := by
  cases o' with
  | lst ys => cases o <;> first | exact q.elim | (obtain ⟨vs, h1, h2⟩ := h; exact ⟨vs, h1, RsL.rv r q h2⟩)
  | drw =>
    cases o <;> first | exact q.elim | skip
    · obtain ⟨l, q1, q2⟩ := q
      obtain ⟨vs, h1, h2⟩ := h
      exact ⟨l, vs, q2, h1, RsL.rv r q1 h2⟩
    · obtain ⟨l, vs, h0, h1, h2⟩ := h
      refine ⟨l, vs, h0, h1, ?_⟩
      obtain ⟨ns, i, z, s, rfl, _⟩ := h0
      have lt : D.lts m [D.lst (ns.map D.int), D.int i, D.int z, D.int s] := ⟨D.lts_ints ns, trivial, trivial, trivial, trivial⟩
      exact RsL.rv r (RsL.same lt) h2
  | ins C fs' =>
    cases o <;> first | exact q.elim | skip
    obtain ⟨rfl, e, q⟩ := q
    obtain ⟨dx, gs, h1, h2⟩ := h
    obtain ⟨vs, e2, h3⟩ := h2.split
    subst e2
    exact ⟨dx, _, h1, by rw [← e]; exact RKV.join (RsL.rv r q h3)⟩
  | dK fs' =>
    cases o <;> first | exact q.elim | skip
    obtain ⟨e, q⟩ := q
    obtain ⟨gs, h1, h2⟩ := h
    obtain ⟨vs, e2, h3⟩ := h2.split
    subst e2
    exact ⟨_, h1, by rw [← e]; exact RKV.join (RsL.rv r q h3)⟩
  | dT fs' =>
    cases o <;> first | exact q.elim | skip
    obtain ⟨e, q⟩ := q
    obtain ⟨gs, h1, h2⟩ := h
    obtain ⟨vs, e2, h3⟩ := h2.split
    subst e2
    exact ⟨_, h1, by rw [← e]; exact RKV.join (RsL.rv r q h3)⟩
  | non => exact h.is_some
theorem RsS.len {m : Nat} : ∀ {l' l : List O}, RsS m S l' l → l'.length = l.length
  | [], _, e => by cases e; rfl
  | _ :: _, _, ⟨o, t, e, _, q⟩ => by subst e; simp [RsS.len q]
theorem RsS.get {m : Nat} : ∀ {l' l : List O} {i : Nat} {o' : O}, RsS m S l' l → l'[i]? = some o' → ∃ o, l[i]? = some o ∧ RsO m S o' o
  | [], _, _, _, _, h => by simp at h
  | x :: r, _, 0, _, ⟨o, t, e, q1, q2⟩, h => by subst e; simp at h; subst h; exact ⟨o, rfl, q1⟩
  | x :: r, _, i + 1, _, ⟨o, t, e, q1, q2⟩, h => by subst e; exact RsS.get (i := i) q2 (by simpa using h)
theorem Rel.cut {m : Nat} {S2 : List O} (r : Rel K φ H S) (hm : m ≤ S.length) (q : RsS m S S2 (S.take m)) : Rel K (φ.cut m) H S2 := by
  refine ⟨(List.take_sublist m φ.own).nodup r.nd, fun a ha z => r.dj a ha (List.mem_of_mem_take z), r.hd, ?_, fun i o h => ?_⟩
  · rw [q.len]; simp only [Ph.cut, List.length_take, r.len]
  · obtain ⟨o1, h1, h2⟩ := q.get h
    have hi : i < m := by
      have := (List.getElem?_eq_some_iff.mp h1).1
      rw [List.length_take] at this; omega
    rw [List.getElem?_take_of_lt hi] at h1
    obtain ⟨a, g1, g2⟩ := r.ob i o1 h1
    exact ⟨a, by show (φ.own.take m)[i]? = _; rw [List.getElem?_take_of_lt hi]; exact g1, RsO.ro r h2 g2⟩
theorem Ext.cut {φ' : Ph} {H' : Hp} {m : Nat} (e : Ext K φ φ' H H') (hm : φ.own.length ≤ m) : Ext K φ (φ'.cut m) H H' := ⟨e.hid, by
  obtain ⟨t, ht⟩ := e.pre
  show φ.own <+: φ'.own.take m
  rw [← ht, List.take_append, List.take_of_length_le hm]
  exact List.prefix_append _ _, e.tup, e.xd, fun a u h g n => let ⟨h1, g1⟩ := e.fz a u h g n; ⟨fun z => h1 (List.mem_of_mem_take z), g1⟩⟩
mutual
theorem RV.lt : ∀ {d : D} {v : V}, RV K φ H d v → D.lt φ.own.length d
  | .non, _, _ => trivial
  | .bl _, _, _ => trivial
  | .int _, _, _ => trivial
  | .str _, _, _ => trivial
  | .ty _, _, _ => trivial
  | .adr _, _, _ => trivial
  | .scr _, _, _ => trivial
  | .tq _, _, _ => trivial
  | .ref k, _, ⟨a, h1, h2⟩ => (List.getElem?_eq_some_iff.mp h1).1
  | .tup _, _, ⟨p, vs, h1, h2, h3⟩ => RVs.lt h3
  | .kt _, _, ⟨p, vs, h1, h2, h3⟩ => RVs.lt h3
  | .lst _, _, ⟨p, vs, h1, h2, h3, h4⟩ => RVs.lt h4
  | .ins _ _ _, _, ⟨p, dx, vs, h1, h2, h3, h4, h5⟩ => RVs.lt h5
  | .dK _ _, _, ⟨p, vs, h1, h2, h3, h4, h5⟩ => RVs.lt h5
  | .dT _ _, _, ⟨p, vs, h1, h2, h3, h4, h5⟩ => RVs.lt h5
  | .bad, _, h => h.elim
theorem RVs.lt : ∀ {ds : List D} {vs : List V}, RVs K φ H ds vs → D.lts φ.own.length ds
  | [], _, h => trivial
  | _ :: _, _, ⟨v, ws, h1, h2, h3⟩ => ⟨RV.lt h2, RVs.lt h3⟩
end
end

/-! ### dropping what was made behind the n-th -/
def RsSl (m : Nat) (S : List O) : Sl → Sl → Prop
  | [], l => l = []
  | none :: r, l => ∃ x t, l = x :: t ∧ RsSl m S r t
  | some d' :: r, l => ∃ d t, l = some d :: t ∧ Rs m S d' d ∧ RsSl m S r t
theorem RsSl.ev {X : Cx} {φ : Ph} {H : Hp} {S : List O} {m : Nat} (r : Rel X.K φ H S) : ∀ {s t : Sl} {σ : L2.St}, RsSl m S s t → EV X.K φ H t σ → EV X.K (φ.cut m) H s σ
  | [], t, σ, e, ev => by cases e; exact ⟨ev.len, fun i d h => by simp at h⟩
  | none :: s, _, σ, ⟨y, t, e, q⟩, ev => by
    subst e
    cases σ with
    | nil => have := ev.len; simp at this
    | cons x σ =>
      have ih := RsSl.ev (σ := σ) r q ⟨by have := ev.len; simpa using this, fun i d q => ev.at' (i + 1) d (by simpa using q)⟩
      refine ⟨by have := ih.len; simp [this], fun i d q => ?_⟩
      cases i with
      | zero => simp at q
      | succ i => exact ih.at' i d (by simpa using q)
  | some d' :: s, _, σ, ⟨d, t, e, q1, q⟩, ev => by
    subst e
    cases σ with
    | nil => have := ev.len; simp at this
    | cons x σ =>
      have ih := RsSl.ev (σ := σ) r q ⟨by have := ev.len; simpa using this, fun i d q => ev.at' (i + 1) d (by simpa using q)⟩
      refine ⟨by have := ih.len; simp [this], fun i z q => ?_⟩
      cases i with
      | zero =>
        have q' : d' = z := by simpa using q
        subst q'
        obtain ⟨v, e1, e2⟩ := ev.at' 0 d (by simp)
        exact ⟨v, e1, Rs.rv r q1 e2⟩
      | succ i => exact ih.at' i z (by simpa using q)
/-- P holds, or holds where all behind the m-th object is dropped -/
def Wk (n : Nat) (P : Sl → List O → Prop) (s : Sl) (S : List O) : Prop := P s S ∨ ∃ m s2 S2, n ≤ m ∧ m ≤ S.length ∧ RsSl m S s2 s ∧ RsS m S S2 (S.take m) ∧ P s2 S2
section
variable {X : Cx} {B : Bs}
theorem HR.cut {φ φ' : Ph} {H H' : Hp} {S S' S2 : List O} {m : Nat} (hr : HR X.K B φ H S) (e : Ext X.K φ φ' H H') (hr' : HR X.K B φ' H' S') (hm : S.length ≤ m) (hl : m ≤ S'.length) (l : RsS m S' S2 (S'.take m)) : Ext X.K φ (φ'.cut m) H H' ∧ HR X.K B (φ'.cut m) H' S2 := by
  have e2 : Ext X.K φ (φ'.cut m) H H' := e.cut (by rw [hr.rel.len]; exact hm)
  exact ⟨e2, hr.ext.trans e2, hr'.rel.cut hl l, hr'.tab⟩
theorem Wk.at {φ φ' : Ph} {H H' : Hp} {S S' : List O} {P : Sl → List O → Prop} {s : Sl} {σ : L2.St} (hr : HR X.K B φ H S) (e : Ext X.K φ φ' H H') (hr' : HR X.K B φ' H' S') (ev : EV X.K φ' H' s σ) (w : Wk S.length P s S') :
    ∃ φ2 s2 S2, Ext X.K φ φ2 H H' ∧ HR X.K B φ2 H' S2 ∧ EV X.K φ2 H' s2 σ ∧ P s2 S2 := by
  rcases w with w | ⟨m, s2, S2, h1, h2, h3, h4, h5⟩
  · exact ⟨φ', s, S', e, hr', ev, w⟩
  · obtain ⟨e2, hr2⟩ := hr.cut e hr' h1 h2 h4
    exact ⟨_, s2, _, e2, hr2, h3.ev hr'.rel ev, h5⟩
/-! ### what is walked -/
/-- J yields the values xs while keep stands -/
def ItOk (K : PySem.W.Frag) (B : Bs) (φ1 : Ph) (H1 : Hp) (xs : List D) (keep : List O → Prop) (J : It) : Prop := ∀ (i : Nat) (φ : Ph) (H : Hp) (S : List O), Ext K φ1 φ H1 H → HR K B φ H S → keep S →
  (i < xs.length → J.go i H) ∧ (i = xs.length → J.stop i H) ∧ ∀ x H' d, J.yld i H x H' → xs[i]? = some d → ∃ φ', Ext K φ φ' H H' ∧ HR K B φ' H' S ∧ RV K φ' H' d x
abbrev QI := Sl → List O → (List D → (List O → Prop) → List O → Prop) → Prop
def UI (K : PySem.W.Frag) (B : Bs) (q : QI) : TI := fun σ H R => ∃ φ s S R', HR K B φ H S ∧ EV K φ H s σ ∧ q s S R' ∧
  ∀ φ' xs keep S' J H', Ext K φ φ' H H' → HR K B φ' H' S' → ItOk K B φ' H' xs keep J → R' xs keep S' → R J H'
abbrev LI (X : Cx) (B : Bs) (tg iter : Expr) (q : QI) : Prop := PI X tg iter (UI X.K B q)
theorem PI.imp {tg iter : Expr} {t t' : TI} (h : PI X tg iter t) (i : ∀ σ H R, t' σ H R → t σ H R) : PI X tg iter t' := ⟨fun pins s σ H R I w => h.run pins s σ H R I (i _ _ _ w)⟩
variable {tg e : Expr} {qe : QE} {qa : QA} {p pos : Pos}
/-- a list -/
def qiList (qe : QE) : QI := fun s S R => qe s S fun d S1 => match d with
  | .tup _ => False
  | .tq _ => False
  | .kt _ => False
  | d => Opt (itemsOf S1 d) fun xs => R xs (fun S' => itemsOf S' d = some xs) S1
theorem li_list (he : LE X B e qe) : LI X B tg e (qiList qe) := PI.imp (pi_list he) fun σ H R ⟨φ, s, S, R', hr, ev, q, k⟩ =>
  ⟨φ, s, S, _, hr, ev, q, fun φ1 d S1 v H1 e1 hr1 r1 q1 => by
    split at q1
    · exact q1.elim
    · exact q1.elim
    · exact q1.elim
    · rename_i hd hdq hdk
      obtain ⟨xs, h1, q1⟩ := q1.get
      have at_ : ∀ (φ2 : Ph) (H2 : Hp) (S2 : List O) (p : Addr), RV X.K φ2 H2 d (.ref p) → HR X.K B φ2 H2 S2 → itemsOf S2 d = some xs → ∃ vs, SqL X.K H2 p vs ∧ RVs X.K φ2 H2 xs vs := fun φ2 H2 S2 p r2 hr2 hk => by
        unfold itemsOf at hk
        split at hk
        · exact absurd rfl (hd _)
        · cases hk
          obtain ⟨p', e, h1⟩ := r2
          cases e
          exact ⟨_, h1.sql, .ofInts⟩
        · exact absurd rfl (hdq _)
        · exact absurd rfl (hdk _)
        · obtain ⟨a, vs, e, h1, h2⟩ := hr2.ls hk r2
          cases e
          exact ⟨vs, .inl (.inl h1), h2⟩
      obtain ⟨p, vs0, rfl, _, _⟩ := hr1.items h1 r1
      obtain ⟨vs, h3, h4⟩ := at_ φ1 H1 S1 p r1 hr1 h1
      refine ⟨p, rfl, ⟨vs, h3⟩, k _ _ _ _ _ _ e1 hr1 (fun i φ2 H2 S2 e2 hr2 hk => ?_) q1⟩
      obtain ⟨ws, h5, h6⟩ := at_ φ2 H2 S2 p (r1.mono e2) hr2 hk
      refine ⟨fun hi => ⟨ws, ws[i]'(by rw [h6.len]; exact hi), h5, by simp [h6.len, hi]⟩, fun hi => ⟨ws, h5, by rw [h6.len, hi]; exact Nat.le_refl _⟩, fun x H' d' y hd => ?_⟩
      obtain ⟨rfl, y⟩ := y
      obtain ⟨v, g1, g2⟩ := h6.get hd
      have := y ws h5
      rw [g1] at this; cases this
      exact ⟨φ2, Ext.refl, hr2, g2⟩⟩
def qiTup (qe : QE) : QI := fun s S R => qe s S fun d S1 => match d with
  | .tup xs => R xs (fun _ => True) S1
  | .tq ns => R (ns.map D.int) (fun _ => True) S1
  | .kt xs => R xs (fun _ => True) S1
  | _ => False
theorem li_tup (he : LE X B e qe) : LI X B tg e (qiTup qe) := PI.imp (pi_tup he) fun σ H R ⟨φ, s, S, R', hr, ev, q, k⟩ =>
  ⟨φ, s, S, _, hr, ev, q, fun φ1 d S1 v H1 e1 hr1 r1 q1 => by
    have h0 : ∃ xs a vs, v = .ref a ∧ (∀ φ2 H2, Ext X.K φ1 φ2 H1 H2 → SqT X.K H2 a vs) ∧ RVs X.K φ1 H1 xs vs ∧ R' xs (fun _ => True) S1 := by
      split at q1
      · obtain ⟨a, vs, rfl, h3, h4⟩ := r1
        exact ⟨_, a, vs, rfl, fun _ _ e => SqT.of (e.tup _ _ h3), h4, q1⟩
      · obtain ⟨a, rfl, h3⟩ := r1
        exact ⟨_, a, _, rfl, fun _ _ e => (h3.mono e).sqt, .ofInts, q1⟩
      · obtain ⟨a, vs, rfl, h3, h4⟩ := r1
        exact ⟨_, a, vs, rfl, fun _ _ _ => h3.sqt, h4, q1⟩
      · exact q1.elim
    obtain ⟨xs, a, vs, rfl, h3, h4, q1⟩ := h0
    refine ⟨a, rfl, ⟨vs, h3 _ _ Ext.refl⟩, k _ _ _ _ _ _ e1 hr1 (fun i φ2 H2 S2 e2 hr2 hk => ?_) q1⟩
    have h5 := h3 _ _ e2
    have h6 := h4.mono e2
    refine ⟨fun hi => ⟨vs, vs[i]'(by rw [h6.len]; exact hi), h5, by simp [h6.len, hi]⟩, fun hi => ⟨vs, h5, by rw [h6.len, hi]; exact Nat.le_refl _⟩, fun x H' d y hd => ?_⟩
    obtain ⟨rfl, y⟩ := y
    obtain ⟨v, g1, g2⟩ := h6.get hd
    have := y vs h5
    rw [g1] at this; cases this
    exact ⟨φ2, Ext.refl, hr2, g2⟩⟩
/-- lo, lo + 1, .. -/
def rngD (lo : Int) (n : Nat) : List D := (List.range n).map fun i => D.int (lo + (i : Nat))
theorem rngD_get {lo : Int} {n i : Nat} {d : D} (h : (rngD lo n)[i]? = some d) : i < n ∧ d = .int (lo + i) := by
  unfold rngD at h
  rw [List.getElem?_map] at h
  by_cases hi : i < n
  · rw [List.getElem?_range hi] at h
    simp at h
    exact ⟨hi, h.symm⟩
  · rw [List.getElem?_eq_none (by simpa using hi)] at h; cases h
theorem rngD_len {lo : Int} {n : Nat} : (rngD lo n).length = n := by unfold rngD; simp
theorem itOk_rng {φ1 : Ph} {H1 : Hp} (lo : Int) (n : Nat) : ItOk X.K B φ1 H1 (rngD lo n) (fun _ => True) (Itr lo n) := fun i φ H S e hr _ =>
  ⟨fun hi => by rw [rngD_len] at hi; exact hi, fun hi => by rw [rngD_len] at hi; exact Nat.le_of_eq hi.symm, fun x H' d y hd => by
    obtain ⟨rfl, rfl⟩ := y
    obtain ⟨_, rfl⟩ := rngD_get hd
    exact ⟨φ, Ext.refl, hr, rfl⟩⟩
def qiRng1 (qa : QA) : QI := fun s S R => qa s S fun ds S1 => match ds with
  | [.int j] => -(2 ^ 62) ≤ j ∧ j < 2 ^ 62 ∧ R (rngD 0 j.toNat) (fun _ => True) S1
  | _ => False
def qiRng2 (qa : QA) : QI := fun s S R => qa s S fun ds S1 => match ds with
  | [.int i, .int j] => (-(2 ^ 62) ≤ i ∧ i < 2 ^ 62 ∧ -(2 ^ 62) ≤ j ∧ j < 2 ^ 62) ∧ R (rngD i (j - i).toNat) (fun _ => True) S1
  | _ => False
theorem li_rng1 {a : Expr} (hg : Gl X "range") (hm : X.mg "range" = none) (ha : LA X B [a] qa) (hs : starEach [a] X.env = [(false, eval a X.env)] := by rfl) : LI X B tg (.Call (.Name "range" p) [a] [] pos) (qiRng1 qa) := PI.imp (pi_range1 hg hm ha hs) fun σ H R ⟨φ, s, S, R', hr, ev, q, k⟩ =>
  ⟨φ, s, S, _, hr, ev, q, fun φ1 d S1 v H1 e1 hr1 r1 q1 => by
    split at q1
    · obtain ⟨v1, ws, rfl, r1, r2⟩ := r1
      cases r1; cases r2
      exact ⟨_, rfl, q1.1, q1.2.1, k _ _ _ _ _ _ e1 hr1 (itOk_rng 0 _) q1.2.2⟩
    · exact q1.elim⟩
theorem li_rng2 {a b : Expr} (hg : Gl X "range") (hm : X.mg "range" = none) (ha : LA X B [a, b] qa) (hs : starEach [a, b] X.env = [(false, eval a X.env), (false, eval b X.env)] := by rfl) (hs2 : starEach [b] X.env = [(false, eval b X.env)] := by rfl) :
    LI X B tg (.Call (.Name "range" p) [a, b] [] pos) (qiRng2 qa) := PI.imp (pi_range2 hg hm ha hs hs2) fun σ H R ⟨φ, s, S, R', hr, ev, q, k⟩ =>
  ⟨φ, s, S, _, hr, ev, q, fun φ1 d S1 v H1 e1 hr1 r1 q1 => by
    split at q1
    · obtain ⟨v1, ws, rfl, r1, v2, w2, rfl, r2, r3⟩ := r1
      cases r1; cases r2; cases r3
      exact ⟨_, _, rfl, q1.1, k _ _ _ _ _ _ e1 hr1 (itOk_rng _ _) q1.2⟩
    · exact q1.elim⟩

/-! ### for -/
inductive forBody (g : QG) (qb : QS) (D : Ed) (s : Sl) (xs : List LC.D) (keep : List O → Prop) (S1 : List O) : Prop
  | mk (P : Nat → Sl → List O → Prop) (h0 : P 0 s S1) (hk : ∀ i s' S', i ≤ xs.length → P i s' S' → keep S')
    (st : ∀ i x s' S', xs[i]? = some x → P i s' S' → g x s' S' fun s2 S2 => qb { nx := Wk S1.length (P (i + 1)), ct := Wk S1.length (P (i + 1)), bk := D.nx, rt := D.rt, n := S1.length } s2 S2)
    (he : ∀ s' S', P xs.length s' S' → D.nx s' S')
def qFor (qi : QI) (g : QG) (qb : QS) : QS := fun D s S => qi s S fun xs keep S1 => forBody g qb D s xs keep S1
theorem ls_for {iter : Expr} {body : List Stmt} {qi : QI} {g : QG} {qb : QS} (hp : PassesOwn (model X.prog X.w) X.A X.env X.xe) (hc : X.calm = true) (hi : LI X B tg iter qi) (hg : LG X B tg g) (hb : LSs X B body qb)
    (hs : ∀ x, foldedSetIterable iter X.env x = pure x := by intro _; rfl) : LS X B (.For tg iter body [] pos) (qFor qi g qb) := PS.imp (ps_for hp hc hi hg hb hs) fun D σ H ⟨φ, s, S, D', hr, ev, q, ek⟩ =>
  ⟨φ, s, S, _, hr, ev, q, fun φ1 xs keep S1 J H1 e1 hr1 ok q1 => by
    obtain ⟨P, p0, pk, ps, pe⟩ := q1
    refine ⟨fun i m σ H => m = xs.length - i ∧ i ≤ xs.length ∧ ∃ φ s S, Ext X.K φ1 φ H1 H ∧ HR X.K B φ H S ∧ EV X.K φ H s σ ∧ P i s S, ⟨xs.length, rfl, Nat.zero_le _, φ1, s, S1, Ext.refl, hr1, ev.mono e1, p0⟩, ?_⟩
    rintro i m σ2 H2 ⟨rfl, hi, φ2, s2, S2, e2, hr2, ev2, p2⟩
    have o := ok i φ2 H2 S2 e2 hr2 (pk i s2 S2 hi p2)
    by_cases hlt : i < xs.length
    · refine .inr ⟨o.1 hlt, fun σ' H' => ∃ φ s S, Ext X.K φ1 φ H1 H' ∧ HR X.K B φ H' S ∧ EV X.K φ H' s σ' ∧ P (i + 1) s S, fun σ' H' ⟨φ3, s3, S3, e3, hr3, ev3, p3⟩ => ⟨xs.length - (i + 1), by omega, rfl, hlt, φ3, s3, S3, e3, hr3, ev3, p3⟩, fun x H' y => ?_⟩
      have hx : xs[i]? = some xs[i] := List.getElem?_eq_getElem hlt
      obtain ⟨φ3, e3, hr3, r3⟩ := o.2.2 x H' _ y hx
      refine ⟨φ3, xs[i], s2, S2, _, hr3, ev2.mono e3, r3, ps i _ s2 S2 hx p2, fun φ4 s4 S4 σ4 H4 e4 hr4 ev4 q4 => ?_⟩
      refine ⟨φ4, s4, S4, _, hr4, ev4, q4, ?_⟩
      have e14 := e2.trans (e3.trans e4)
      exact ⟨φ1, H1, e14, by rw [← hr1.rel.len]; exact hr1.ext.pre.length_le, by rw [hr1.rel.len]; exact Nat.le_refl _, fun φ' H' S' s' σ' e' hr' ev' w => Wk.at hr1 e' hr' ev' w, fun φ' H' S' d v e' hr' r w => ek.rt _ _ _ _ _ (e1.trans e') hr' r w,
        fun φ' H' S' s' σ' e' hr' ev' w => ek.nx _ _ _ _ _ (e1.trans e') hr' ev' w, fun φ' H' S' s' σ' e' hr' ev' w => Wk.at hr1 e' hr' ev' w⟩
    · have hi' : i = xs.length := by omega
      subst hi'
      exact .inl ⟨o.2.1 rfl, ek.nx _ _ _ _ _ (e1.trans e2) hr2 ev2 (pe s2 S2 p2)⟩⟩

/-! ### while -/
end
end LC

set_option Elab.async false
set_option linter.all false
set_option maxRecDepth 100000
set_option maxHeartbeats 5000000
/-! LD6: targets of names, list comprehensions, own defs. -/
namespace LC
open PySem PySem.Spec
open PyProof.Rows L2

/-! ### targets that are names, or tuples of such -/
inductive Tgt where
  | nm (i : Nat) | tp (ts : List Tgt)
mutual
def gT (K : PySem.W.Frag) : Tgt → TG
  | .nm i => gName i
  | .tp ts => gTup K ts.length (gTs K ts)
def gTs (K : PySem.W.Frag) : List Tgt → TGs
  | [] => gNil
  | t :: r => gCons (gT K t) (gTs K r)
end
mutual
def stT : Tgt → D → Sl → Option Sl
  | .nm i, d, s => some (s.set i (some d))
  | .tp ts, .tup xs, s => stTs ts xs s
  | .tp _, _, _ => none
def stTs : List Tgt → List D → Sl → Option Sl
  | [], [], s => some s
  | t :: ts, d :: ds, s => (stT t d s).bind (stTs ts ds)
  | _, _, _ => none
end
mutual
def Tgt.ix : Tgt → List Nat
  | .nm i => [i]
  | .tp ts => Tgt.ixs ts
def Tgt.ixs : List Tgt → List Nat
  | [] => []
  | t :: r => t.ix ++ Tgt.ixs r
end
theorem wipe_at {σ : L2.St} {j : Nat} : ∀ {vs : List Nat}, (wipe σ vs)[j]? = if j ∈ vs ∧ j < σ.length then some none else σ[j]?
  | [] => by simp [wipe]
  | v :: vs => by
    show ((wipe σ vs).set v none)[j]? = _
    by_cases hv : v = j
    · subst hv
      by_cases hl : v < σ.length
      · rw [List.getElem?_set_self (by rw [wipe_length]; exact hl), if_pos ⟨List.mem_cons_self, hl⟩]
      · rw [if_neg (fun h => hl h.2), List.getElem?_eq_none (by simp [wipe_length]; omega), List.getElem?_eq_none (by omega)]
    · rw [List.getElem?_set_ne hv, wipe_at (vs := vs)]
      by_cases hm : j ∈ vs ∧ j < σ.length
      · rw [if_pos hm, if_pos ⟨List.mem_cons_of_mem _ hm.1, hm.2⟩]
      · rw [if_neg hm, if_neg fun h => hm ⟨(List.mem_cons.mp h.1).resolve_left fun e => hv e.symm, h.2⟩]
theorem wipe_set {σ : L2.St} {i : Nat} {x : Option V} {vs : List Nat} (h : i ∈ vs) : wipe (σ.set i x) vs = wipe σ vs := by
  apply List.ext_getElem?
  intro j
  rw [wipe_at, wipe_at, List.length_set]
  by_cases hm : j ∈ vs ∧ j < σ.length
  · rw [if_pos hm, if_pos hm]
  · rw [if_neg hm, if_neg hm]
    by_cases hij : i = j
    · subst hij
      have hl : ¬ i < σ.length := fun q => hm ⟨h, q⟩
      rw [List.getElem?_eq_none (by simp; omega), List.getElem?_eq_none (by omega)]
    · rw [List.getElem?_set_ne hij]
section
variable {X : Cx} {B : Bs}
mutual
theorem gT_ok {φ : Ph} {H : Hp} {vs : List Nat} : ∀ {t : Tgt} {d : D} {s s2 : Sl} {v : V} {σ : L2.St} {Q : L2.St → Hp → Prop}, stT t d s = some s2 → RV X.K φ H d v → EV X.K φ H s σ → (∀ i ∈ t.ix, i ∈ vs) → (∀ σ2, EV X.K φ H s2 σ2 → wipe σ2 vs = wipe σ vs → Q σ2 H) → gT X.K t v σ H Q
  | .nm i, d, s, _, v, σ, Q, h, r, ev, hi, q => by
    cases h
    exact q _ (ev.set r) (wipe_set (hi i (by simp [Tgt.ix])))
  | .tp ts, d, s, s2, v, σ, Q, h, r, ev, hi, q => by
    cases d with
    | tup xs =>
      obtain ⟨p, vs', rfl, h1, h2⟩ := r
      have hl := stTs_len h
      exact ⟨p, vs', rfl, h1, by rw [h2.len, hl], gTs_ok h h2 ev hi q⟩
    | _ => cases h
theorem gTs_ok {φ : Ph} {H : Hp} {vs : List Nat} : ∀ {ts : List Tgt} {ds : List D} {s s2 : Sl} {us : List V} {σ : L2.St} {Q : L2.St → Hp → Prop}, stTs ts ds s = some s2 → RVs X.K φ H ds us → EV X.K φ H s σ → (∀ i ∈ Tgt.ixs ts, i ∈ vs) → (∀ σ2, EV X.K φ H s2 σ2 → wipe σ2 vs = wipe σ vs → Q σ2 H) → gTs X.K ts us σ H Q
  | [], [], s, s2, us, σ, Q, h, r, ev, hi, q => by
    cases h; cases r
    exact ⟨rfl, q _ ev rfl⟩
  | t :: ts, d :: ds, s, s2, us, σ, Q, h, r, ev, hi, q => by
    obtain ⟨v, ws, rfl, r1, r2⟩ := r
    cases e : stT t d s with
    | none => simp [stTs, e] at h
    | some s1 =>
      have h' : stTs ts ds s1 = some s2 := by simpa [stTs, e] using h
      exact ⟨v, ws, rfl, gT_ok e r1 ev (fun i m => hi i (by simp [Tgt.ixs, m])) fun σ1 ev1 w1 => gTs_ok h' r2 ev1 (fun i m => hi i (by simp [Tgt.ixs, m])) fun σ2 ev2 w2 => q σ2 ev2 (w2.trans w1)⟩
  | [], _ :: _, _, _, _, _, _, h, _, _, _, _ => by cases h
  | _ :: _, [], _, _, _, _, _, h, _, _, _, _ => by cases h
theorem stTs_len : ∀ {ts : List Tgt} {ds : List D} {s s2 : Sl}, stTs ts ds s = some s2 → ds.length = ts.length
  | [], [], _, _, _ => rfl
  | t :: ts, d :: ds, s, s2, h => by
    cases e : stT t d s with
    | none => simp [stTs, e] at h
    | some s1 =>
      have h' : stTs ts ds s1 = some s2 := by simpa [stTs, e] using h
      simp [stTs_len h']
  | [], _ :: _, _, _, h => by cases h
  | _ :: _, [], _, _, h => by cases h
end
/-- d goes to the target's names -/
def qgT (t : Tgt) : QG := fun d s S Q => ∃ s2, stT t d s = some s2 ∧ Q s2 S
theorem lg_T {tg : Expr} {t : Tgt} (h : PG X tg (gT X.K t)) : LG X B tg (qgT t) := PG.imp h fun v σ H Q ⟨φ, d, s, S, Q', hr, ev, r, ⟨s2, h1, q⟩, k⟩ =>
  gT_ok (vs := t.ix) h1 r ev (fun _ m => m) fun σ2 ev2 _ => k _ _ _ _ _ Ext.refl hr ev2 q
/-- a target of one name -/
theorem tg_nm (i : Nat) {x : Str} {pos : Pos} (hN : X.N.Nodup) (hi : X.N[i]? = some x := by rfl) (hx : Loc X.env.scope x := by first | exact .inl rfl | exact .inr rfl) (hf : X.fn x = true ∨ X.env.scope.names.lookup x = some .local := by first | exact .inl rfl | exact .inr rfl | assumption) : PG X (.Name x pos) (gT X.K (.nm i)) := pg_name hN hi hx hf
theorem tg_nil : PGs X [] (gTs X.K []) := pgs_nil
theorem tg_cons {e : Expr} {es : List Expr} {t : Tgt} {ts : List Tgt} (h1 : PG X e (gT X.K t)) (h2 : PGs X es (gTs X.K ts)) (hs : (assignEach (e :: es) X.env).map (·.2) = assign e X.env :: (assignEach es X.env).map (·.2) := by rfl) : PGs X (e :: es) (gTs X.K (t :: ts)) := pgs_cons h1 h2 hs
theorem tg_tp {es : List Expr} {k : Nat} {pos : Pos} {ts : List Tgt} (hc : X.calm = true) (h : PGs X es (gTs X.K ts)) (hn : (assignEach es X.env).length = ts.length := by rfl) (hst : (assignEach es X.env).findIdx? (·.1) = none := by rfl) : PG X (.Tuple es k pos) (gT X.K (.tp ts)) := pg_tup hc h hn hst

/-! ### list comprehensions -/
abbrev LTs (X : Cx) (B : Bs) (ifs : List Expr) (q : QT) : Prop := PTs X ifs (UP X.K B rB q)
def qYes : QT := fun _ S Q => Q true S
theorem PTs.imp {ifs : List Expr} {t t' : TT} (h : PTs X ifs t) (i : ∀ σ H Q, t' σ H Q → t σ H Q) : PTs X ifs t' := ⟨fun pins s σ H Q I w => h.run pins s σ H Q I (i _ _ _ w)⟩
theorem lts_nil : LTs X B [] qYes := PTs.imp pts_nil fun σ H Q ⟨φ, s, S, Q', hr, ev, q, k⟩ => k _ _ _ _ _ Ext.refl hr rfl q
theorem EV.wipes {φ : Ph} {H : Hp} {s : Sl} {σ : L2.St} (ev : EV X.K φ H s σ) : ∀ {vs : List Nat}, EV X.K φ H (wipeD s vs) (L2.wipe σ vs)
  | [] => ev
  | _ :: _ => (EV.wipes ev).wipe
theorem Rel.lts {K : PySem.W.Frag} {φ : Ph} {H : Hp} {S : List O} (r : Rel K φ H S) (T : List O) : RsS S.length (S ++ T) S S := by
  have key : ∀ (l : List O) (j : Nat), (∀ i o, l[i]? = some o → S[j + i]? = some o) → RsS S.length (S ++ T) l l := fun l => by
    induction l with
    | nil => intro _ _; rfl
    | cons o t ih =>
      intro j h
      refine ⟨o, t, rfl, ?_, ih (j + 1) fun i x hx => by have := h (i + 1) x (by simpa using hx); rwa [show j + (i + 1) = j + 1 + i by omega] at this⟩
      obtain ⟨a, h1, h2⟩ := r.ob (j + 0) o (h 0 o rfl)
      rw [← r.len]
      cases o with
      | lst xs => obtain ⟨vs, h3, h4⟩ := h2; exact RsL.same h4.lt
      | drw => trivial
      | ins C fs => obtain ⟨dx, gs, h3, h4⟩ := h2; obtain ⟨vs, _, h5⟩ := h4.split; exact ⟨rfl, rfl, RsL.same h5.lt⟩
      | dK l' => obtain ⟨gs, h3, h4⟩ := h2; obtain ⟨vs, _, h5⟩ := h4.split; exact ⟨rfl, RsL.same h5.lt⟩
      | dT l' => obtain ⟨gs, h3, h4⟩ := h2; obtain ⟨vs, _, h5⟩ := h4.split; exact ⟨rfl, RsL.same h5.lt⟩
      | non => trivial
  exact key S 0 fun i o h => by rw [Nat.zero_add]; exact h
/-- [e for t in .. if ..]: P tells what is made so far; the objects stay as they are -/
inductive lcV (t : Tgt) (qt : QT) (qe : QE) (vs : List Nat) (s : Sl) (Q : List D → Prop) (xs : List D) (keep : List O → Prop) (S1 : List O) : Prop
  | mk (P : Nat → List D → Prop) (h0 : P 0 []) (hk : ∀ acc, keep (S1 ++ [.lst acc])) (hl : xs.length < sizeLine)
    (st : ∀ i x acc, xs[i]? = some x → acc.length ≤ i → P i acc → ∃ s2, stT t x (wipeD s vs) = some s2 ∧ qt s2 (S1 ++ [.lst acc]) fun b S3 => S3 = S1 ++ [.lst acc] ∧ Br b (qe s2 (S1 ++ [.lst acc]) fun y S4 => S4 = S1 ++ [.lst acc] ∧ D.lt S1.length y ∧ P (i + 1) (acc ++ [y]))
      (P (i + 1) acc))
    (he : ∀ acc, P xs.length acc → acc.length ≤ xs.length → Q acc)
def qLc (mu : Bool) (qi : QI) (t : Tgt) (qt : QT) (qe : QE) (vs : List Nat) : QE := fun s S Q => qi s S fun xs keep S1 => lcV t qt qe vs s (fun acc => if mu then Q (.ref S1.length) (S1 ++ [.lst acc]) else Q (.lst acc) S1) xs keep S1
theorem up_lc {mu : Bool} {qi : QI} {t : Tgt} {qt : QT} {qe : QE} {vs : List Nat} (hv : ∀ i ∈ t.ix, i ∈ vs) {σ : L2.St} {H : Hp} {Q : VK} (h : UP X.K B (rD X.K) (qLc mu qi t qt qe vs) σ H Q) : tLc (UI X.K B qi) (gT X.K t) (UP X.K B rB qt) (UP X.K B (rD X.K) qe) vs σ H Q := by
  obtain ⟨φ, s, S, Q', hr, ev, q, k⟩ := h
  refine ⟨φ, s, S, _, hr, ev, q, fun φ1 xs keep S1 J H1 e1 hr1 ok q1 D hD => ?_⟩
  obtain ⟨P, p0, pk, hsz, ps, pe⟩ := q1
  have e2 : Ext X.K φ1 (φ1.add D) H1 (upd H1 D (.lst [])) := ext_add hD
  have hr2 : HR X.K B (φ1.add D) (upd H1 D (.lst [])) (S1 ++ [.lst []]) := hr1.new (x := O.lst []) hD ⟨[], upd_same, rfl⟩
  have hDn : (φ1.add D).own[S1.length]? = some D := hr1.rel.last D
  refine ⟨fun i m H => m = xs.length - i ∧ i ≤ xs.length ∧ ∃ φ acc, Ext X.K (φ1.add D) φ (upd H1 D (.lst [])) H ∧ HR X.K B φ H (S1 ++ [.lst acc]) ∧ acc.length ≤ i ∧ LC.D.lts S1.length acc ∧ P i acc, ⟨xs.length, rfl, Nat.zero_le _, φ1.add D, [], Ext.refl, hr2, Nat.le_refl _, trivial, p0⟩, ?_⟩
  rintro i m H2 ⟨rfl, hi, φ2, acc, e3, hr3, hac, hlt', p2⟩
  have o := ok i φ2 H2 (S1 ++ [.lst acc]) (e2.trans e3) hr3 (pk acc)
  by_cases hlt : i < xs.length
  · refine .inr ⟨o.1 hlt, fun H' => ∃ φ acc, Ext X.K (φ1.add D) φ (upd H1 D (.lst [])) H' ∧ HR X.K B φ H' (S1 ++ [.lst acc]) ∧ acc.length ≤ i + 1 ∧ LC.D.lts S1.length acc ∧ P (i + 1) acc, fun H' ⟨φ3, S3, a1, a2, a3⟩ => ⟨xs.length - (i + 1), by omega, rfl, hlt, φ3, S3, a1, a2, a3⟩, fun x H' y => ?_⟩
    have hx : xs[i]? = some xs[i] := List.getElem?_eq_getElem hlt
    obtain ⟨φ3, e4, hr4, r4⟩ := o.2.2 x H' _ y hx
    obtain ⟨s2, hs2, q2⟩ := ps i _ acc hx hac p2
    have ev4 : EV X.K φ3 H' (wipeD s vs) (wipe σ vs) := (ev.mono (e1.trans (e2.trans (e3.trans e4)))).wipes
    refine gT_ok (vs := vs) hs2 r4 ev4 hv fun σ5 ev5 w5 => ⟨?_, ?_⟩
    · rw [w5]
      have : ∀ (σ : L2.St), wipe (wipe σ vs) vs = wipe σ vs := fun σ => by
        apply List.ext_getElem?
        intro j
        rw [wipe_at, wipe_at, wipe_length]
        by_cases hm : j ∈ vs ∧ j < σ.length
        · simp [hm]
        · rw [if_neg hm]
      exact this σ
    · refine ⟨φ3, s2, _, _, hr4, ev5, q2, fun φ6 b S6 v6 H6 e6 hr6 r6 q6 => ?_⟩
      cases r6
      obtain ⟨rfl, q6⟩ := q6
      have e06 := e3.trans (e4.trans e6)
      cases b with
      | false => exact ⟨φ6, acc, e06, hr6, Nat.le_succ_of_le hac, hlt', q6⟩
      | true =>
        refine ⟨φ6, s2, _, _, hr6, ev5.mono e6, q6, fun φ7 y S7 v7 H7 e7 hr7 r7 q7 => ?_⟩
        obtain ⟨rfl, hy, q7⟩ := q7
        have e07 := e06.trans e7
        have h8 : (S1 ++ [O.lst acc])[S1.length]? = some (.lst acc) := by simp
        obtain ⟨a, av, ea, h10, h11⟩ := hr7.lstO h8
        have : a = D := by
          have := e07.get hDn
          rw [ea] at this; exact Option.some.inj this
        subst this
        refine ⟨av, h10, by rw [h11.len]; omega, ?_⟩
        obtain ⟨e8, hr8⟩ := hr7.write (o := .lst (av ++ [v7])) (x := O.lst acc) (y := O.lst (acc ++ [y])) h8 rfl ea fun e8 => ⟨_, upd_same, (RVs.app (es := [y]) (ws := [v7]) h11 ⟨v7, [], rfl, r7, rfl⟩).mono e8⟩
        have es : (S1 ++ [O.lst acc]).set S1.length (.lst (acc ++ [y])) = S1 ++ [.lst (acc ++ [y])] := by rw [List.set_append_right _ _ (Nat.le_refl _)]; simp
        rw [es] at hr8
        exact ⟨φ7, acc ++ [y], e07.trans e8, hr8, by simp; omega, LC.D.lts_app hlt' ⟨hy, trivial⟩, q7⟩
  · have hi' : i = xs.length := by omega
    subst hi'
    have fin := pe acc p2 hac
    have hn : S1.length ≤ (S1 ++ [O.lst acc]).length := by simp
    have h8 : (S1 ++ [O.lst acc])[S1.length]? = some (.lst acc) := by simp
    refine .inl ⟨o.2.1 rfl, ?_⟩
    cases mu with
    | true => exact k _ (.ref S1.length) _ _ _ (e1.trans (e2.trans e3)) hr3 (show RV _ _ _ _ _ from ⟨D, e3.get hDn, rfl⟩) (by simpa using fin)
    | false =>
      obtain ⟨e9, hr9⟩ := hr1.cut (e2.trans e3) hr3 (Nat.le_refl _) hn (S2 := S1) (by rw [List.take_left]; exact hr1.rel.lts _)
      have rv : RV X.K (φ2.cut S1.length) H2 (.lst acc) (.ref D) := Rs.rv hr3.rel (Rs.ofL' (Nat.le_refl _) h8 hlt') ⟨D, e3.get hDn, rfl⟩
      exact k _ (.lst acc) _ _ _ (e1.trans e9) hr9 rv (by simpa using fin)
section
variable {elt tg iter : Expr} {ifs : List Expr} {scope : Scope} {own : List (Str × Nat)} {pos : Pos} {qi : QI} {t : Tgt} {qt : QT} {qe : QE}
/-- the block's context -/
abbrev Blk (X : Cx) (scope : Scope) (C : Cx → Prop) : Prop := ∀ (s : Shared) (H : Hp) (A : Addr) (cl : List (Str × Addr)) (fp : List Addr), C (X.blk s H scope (compEnvC scope cl A X.env) fp)
theorem le_lc (mu : Bool) (own : List (Str × Nat)) (t : Tgt) (hc : X.calm = true) (hN : X.N.Nodup) (hi : LI X B tg iter qi) (ok : BlkOk X.N X.env.scope scope own)
    (hg : Blk X scope fun Y => PG Y tg (gT X.K t)) (ht : Blk X scope fun Y => LTs Y B ifs qt) (he : Blk X scope fun Y => LE Y B elt qe) (hv : ∀ i ∈ t.ix, i ∈ own.map (·.2) := by decide) (hs : ∀ x, foldedSetIterable iter X.env x = pure x := by intro _; rfl) :
    LE X B (.ListComp elt [⟨tg, iter, ifs, 0⟩] scope pos) (qLc mu qi t qt qe (own.map (·.2))) := PE.imp (pe_lc hc hN hi ok hg ht he hs) fun _ _ _ => up_lc hv
theorem ls_lc (mu : Bool) (own : List (Str × Nat)) (t : Tgt) (i : Nat) {y : Str} {py spos : Pos} (hc : X.calm = true) (hN : X.N.Nodup) (hy : X.N[i]? = some y) (hyl : X.env.scope.names.lookup y = some .local)
    (hsw : swapsWith (.ListComp elt [⟨tg, iter, ifs, 0⟩] scope pos) (some (.Name y py)) spos.line X.env = pure true) (hi : LI X B tg iter qi) (ok : BlkOk X.N X.env.scope scope own)
    (hg : Blk X scope fun Y => PG Y tg (gT X.K t)) (ht : Blk X scope fun Y => LTs Y B ifs qt) (he : Blk X scope fun Y => LE Y B elt qe) (hv : ∀ i ∈ t.ix, i ∈ own.map (·.2) := by decide) (hs : ∀ x, foldedSetIterable iter X.env x = pure x := by intro _; rfl) :
    LS X B (.Assign [.Name y py] (.ListComp elt [⟨tg, iter, ifs, 0⟩] scope pos) spos) (qSet i (qLc mu qi t qt qe (own.map (·.2)))) := PS.imp (ps_setLc hc hN hy hyl hsw hi ok hg ht he hs) fun D σ H ⟨φ, s, S, D', hr, ev, q, ek⟩ =>
  up_lc hv ⟨φ, s, S, _, hr, ev, q, fun φ1 d S1 v H1 e1 hr1 r1 q1 => ek.nx _ _ _ _ _ e1 hr1 ((ev.mono e1).set r1) q1⟩
end
end
end LC

set_option Elab.async false
set_option linter.all false
set_option maxRecDepth 100000
set_option maxHeartbeats 5000000
/-! LD7: own defs: their bodies, and what the caller's objects have to do with them. -/
namespace LC
open PySem PySem.Spec
open PyProof.Rows L2
/-- what is handed back from a def that was entered with n objects -/
def Rt (n : Nat) (Q' : D → List O → Prop) (d : D) (S : List O) : Prop := ∃ m d' S2, n ≤ m ∧ m ≤ S.length ∧ RsS m S S2 (S.take m) ∧ Rs m S d' d ∧ Q' d' S2
def Xt (n : Nat) (E' : EDt) (C : Addr) (fs : List (Str × D)) (S : List O) : Prop := ∃ m fs' S2, n ≤ m ∧ m ≤ S.length ∧ RsS m S S2 (S.take m) ∧ fs'.map (·.1) = fs.map (·.1) ∧ RsL m S (fs'.map (·.2)) (fs.map (·.2)) ∧ E' C fs' S2
section
variable {P : Program} {w : World} {K : PySem.W.Frag}
variable {mg : Str → Option Value} {base : Heap}
/-- the slots at a def's entry -/
def startD (N : List Str) (ds : List D) : Sl := ds.map some ++ List.replicate (N.length - ds.length) none
theorem start_ok {X : Cx} {φ : Ph} {H : Hp} {N : List Str} {ds : List D} {vs : List V} (r : RVs X.K φ H ds vs) : EV X.K φ H (startD N ds) (L2.start N vs) := by
  refine ⟨by simp [startD, L2.start, r.len], fun i d h => ?_⟩
  unfold startD at h
  by_cases hi : i < ds.length
  · rw [List.getElem?_append_left (by simpa using hi), List.getElem?_map] at h
    cases e : ds[i]? with
    | none => (rw [e] at h; cases h)
    | some x =>
      rw [e] at h
      cases h
      obtain ⟨v, h1, h2⟩ := r.get e
      refine ⟨v, ?_, h2⟩
      unfold L2.start
      rw [List.getElem?_append_left (by simpa [r.len] using hi), List.getElem?_map, h1]; rfl
  · rw [List.getElem?_append_right (by simpa using hi), List.getElem?_replicate] at h
    split at h <;> cases h
/-- a body, by what holds at its entry and at its ends -/
abbrev OkG := List D → List O → (D → List O → Prop) → EDt → Nat → Prop
abbrev BodyG (P : Program) (w : World) (K : PySem.W.Frag) (mg : Str → Option Value) (base : Heap) (qual : Str) (st : Stmt) (f : Addr) (N : List Str) (k : Nat) (ok : OkG) : Prop :=
  ∀ (cdv : Value) (A : Around) (outer : List Env) (s : Shared) (H : Hp) (E : XK) (φ : Ph) (T : List (Addr × Str)) (W' : WD), Room k (A.deeper (envOfC qual (defScope st) s.heap.objs.size f cdv)) → WL K ⟨φ, H, T⟩ W' (fun cls d _ H => E cls d H) →
      ∃ q, LSs (cxOf (L2.CX P w) P w K mg base N qual (defScope st) f cdv A outer s H E) ⟨φ, H, T⟩ (defBody st) q ∧
        ∀ ds S R X n, ok ds S R X n → W' = (fun C fs _ S' => X C fs S') → q { nx := fun _ S' => R .non S', rt := R, n := n } (startD N ds) S
/-- what is promised, by such ends -/
def Conv (sp : SpD) (ok : OkG) : Prop := ∀ ds S Q' E', sp ds S Q' E' → D.lts S.length ds → ∃ R X, ok ds S R X S.length ∧ (∀ d S', R d S' → Rt S.length Q' d S') ∧ ∀ C fs S', X C fs S' → Xt S.length E' C fs S'
section
variable {X : Cx} {φ : Ph} {H : Hp} {T : List (Addr × Str)} {S' : List O} {Q' : D → List O → Prop} {E' : EDt} {Q : VK} {E : XK}
theorem ends_cut (r : Rel K φ H S') {φ' : Ph} {H' : Hp} {S1 S2 : List O} {m : Nat} (hr' : HR K ⟨φ, H, T⟩ φ' H' S1) (h1 : S'.length ≤ m) (h2 : m ≤ S1.length) (h3 : RsS m S1 S2 (S1.take m)) : Ext K φ (φ'.cut m) H H' ∧ Rel K (φ'.cut m) H' S2 :=
  ⟨hr'.ext.cut (by show φ.own.length ≤ m; rw [r.len]; exact h1), hr'.rel.cut h2 h3⟩
theorem ends_x (r : Rel K φ H S') (ke : ∀ φ' C fs S'' cls d H', Ext K φ φ' H H' → Rel K φ' H' S'' → LamX.Tabs T H' → XRel K φ' H' C fs cls d → E' C fs S'' → E cls d H') {φ' : Ph} {H' : Hp} {S1 : List O} {C : Addr} {fs : List (Str × D)} {cls : Value} {d : Option Addr} (hr' : HR K ⟨φ, H, T⟩ φ' H' S1) (xr : XRel K φ' H' C fs cls d) (h : Xt S'.length E' C fs S1) : E cls d H' := by
  obtain ⟨m, fs2, S2, h1, h2, h3, h4, h5, he⟩ := h
  obtain ⟨e1, r1⟩ := ends_cut r hr' h1 h2 h3
  obtain ⟨rfl, dx, gs, rfl, g1, g2⟩ := xr
  obtain ⟨us, eu, g3⟩ := g2.split
  subst eu
  exact ke _ _ fs2 S2 _ _ _ e1 r1 hr'.tab ⟨rfl, dx, _, rfl, g1, by rw [← h4]; exact RKV.join (RsL.rv hr'.rel h5 g3)⟩ he
theorem ends_r (r : Rel K φ H S') (kq : ∀ φ' d S'' v H', Ext K φ φ' H H' → Rel K φ' H' S'' → LamX.Tabs T H' → RV K φ' H' d v → Q' d S'' → Q v H') {φ' : Ph} {H' : Hp} {S1 : List O} {d : D} {v : V} (hr' : HR K ⟨φ, H, T⟩ φ' H' S1) (rv : RV K φ' H' d v) (h : Rt S'.length Q' d S1) : Q v H' := by
  obtain ⟨m, d2, S2, h1, h2, h3, h4, hd⟩ := h
  obtain ⟨e1, r1⟩ := ends_cut r hr' h1 h2 h3
  exact kq _ d2 S2 _ _ e1 r1 hr'.tab (Rs.rv hr'.rel h4 rv) hd
end
theorem body_at {qual : Str} {st : Stmt} {f : Addr} {N : List Str} {k : Nat} {sp : SpD} {ok : OkG} (cv : Conv sp ok) (hb : BodyG P w K mg base qual st f N k ok) (cdv : Value) (A : Around) (outer : List Env) (s : Shared) (H : Hp) (vs : List V) (Q : VK) (E : XK) (hr : Room k (A.deeper (envOfC qual (defScope st) s.heap.objs.size f cdv)))
    (h : upF K sp vs H Q E) : ∃ t, PSs (cxOf (L2.CX P w) P w K mg base N qual (defScope st) f cdv A outer s H E) (defBody st) t ∧ t { nx := fun _ H' => Q .non H', rt := Q } (L2.start N vs) H := by
  obtain ⟨φ, ds, S', Q', E', T, r, rs, tt, h, kq, ke⟩ := h
  have lts := rs.lt
  rw [r.len] at lts
  obtain ⟨R, Xe, hok, cR, cX⟩ := cv _ _ _ _ h lts
  obtain ⟨q, hq, hh⟩ := hb cdv A outer s H E φ T (fun C fs _ S1 => Xe C fs S1) hr (fun φ' C fs s' S1 cls d σ H' hr' ev xr x => ends_x r ke hr' xr (cX _ _ _ x))
  refine ⟨_, hq, φ, startD N ds, S', { nx := fun _ S1 => R .non S1, rt := R, n := S'.length }, ⟨Ext.refl, r, tt⟩, start_ok rs, hh ds S' R Xe _ hok rfl, φ, H, Ext.refl, ?_⟩
  exact ⟨by show φ.own.length ≤ S'.length; rw [r.len]; exact Nat.le_refl _, by show φ.own.length ≤ S'.length; rw [r.len]; exact Nat.le_refl _, fun φ' H' S1 s' σ' e hr' ev x => ends_r r kq hr' (show RV K φ' H' .non .non from rfl) (cR _ _ x), fun φ' H' S1 d v e hr' rv x => ends_r r kq hr' rv (cR _ _ x), fun _ _ _ _ _ _ _ _ h => h.elim, fun _ _ _ _ _ _ _ _ h => h.elim⟩
/-- a def's body, by a promise over data -/
theorem FunD.ok {x qual : Str} {st : Stmt} {f : Addr} {fd : FuncData} {N ps : List Str} {k : Nat} {sp : SpD} {ok : OkG} (cv : Conv sp ok) (F : Fun K x qual st f fd) (S : FnScope N ps (defScope st)) (len : ∀ ds S Q E, sp ds S Q E → ds.length = ps.length) (hb : BodyG P w K mg base qual st f N k ok) : FnOk P w K mg base (L2.CX P w) (k + 1) f fd ps (upF K sp) :=
  F.okX S (fun vs H Q E ⟨φ, ds, S, Q', E', T, r, rs, tt, h, _⟩ => by rw [rs.len]; exact len _ _ _ _ h) fun cdv A outer s H vs Q E hr h => body_at cv hb cdv A outer s H vs Q E hr h
end

/-! ### what a caller sees -/
section
variable {K : PySem.W.Frag} {φ1 φ2 : Ph} {H : Hp}
mutual
theorem RV.tr {m : Nat} (hk : ∀ (k : Nat) (a : Addr), k < m → φ1.own[k]? = some a → φ2.own[k]? = some a) (hf : ∀ a, Fz φ1 a → Fz φ2 a) : ∀ {d : D} {v : V}, D.lt m d → RV K φ1 H d v → RV K φ2 H d v
  | .non, _, _, h => h
  | .bl _, _, _, h => h
  | .int _, _, _, h => h
  | .str _, _, _, h => h
  | .ty _, _, _, h => h
  | .adr _, _, _, h => h
  | .ref k, _, l, ⟨a, h1, h2⟩ => ⟨a, hk k a l h1, h2⟩
  | .tup _, _, l, ⟨p, vs, h1, h2, h3⟩ => ⟨p, vs, h1, h2, RVs.tr hk hf l h3⟩
  | .lst _, _, l, ⟨p, vs, h1, h2, h3, h4⟩ => ⟨p, vs, h1, hf _ h2, h3, RVs.tr hk hf l h4⟩
  | .ins _ _ _, _, l, ⟨p, dx, vs, h1, h2, h3, h4, h5⟩ => ⟨p, dx, vs, h1, hf _ h2, h3, h4, RVs.tr hk hf l h5⟩
  | .dK _ _, _, l, ⟨p, vs, h1, h2, h3, h4, h5⟩ => ⟨p, vs, h1, hf _ h2, h3, h4, RVs.tr hk hf l h5⟩
  | .dT _ _, _, l, ⟨p, vs, h1, h2, h3, h4, h5⟩ => ⟨p, vs, h1, hf _ h2, h3, h4, RVs.tr hk hf l h5⟩
  | .scr _, _, _, ⟨p, h1, h2⟩ => ⟨p, h1, h2.imp (fun ⟨f, g⟩ => ⟨hf _ f, g⟩) id⟩
  | .tq _, _, _, ⟨p, h1, h2⟩ => ⟨p, h1, hf _ h2.1, h2.2⟩
  | .kt _, _, l, ⟨p, vs, h1, h2, h3⟩ => ⟨p, vs, h1, h2, RVs.tr hk hf l h3⟩
  | .bad, _, _, h => h.elim
theorem RVs.tr {m : Nat} (hk : ∀ (k : Nat) (a : Addr), k < m → φ1.own[k]? = some a → φ2.own[k]? = some a) (hf : ∀ a, Fz φ1 a → Fz φ2 a) : ∀ {ds : List D} {vs : List V}, D.lts m ds → RVs K φ1 H ds vs → RVs K φ2 H ds vs
  | [], _, _, h => h
  | _ :: _, _, l, ⟨v, ws, h1, h2, h3⟩ => ⟨v, ws, h1, RV.tr hk hf l.1 h2, RVs.tr hk hf l.2 h3⟩
end
theorem RKV.tr {m : Nat} (hk : ∀ (k : Nat) (a : Addr), k < m → φ1.own[k]? = some a → φ2.own[k]? = some a) (hf : ∀ a, Fz φ1 a → Fz φ2 a) {fs : List (Str × D)} {gs : List (Str × V)} (l : D.lts m (fs.map (·.2))) (r : RKV K φ1 H fs gs) : RKV K φ2 H fs gs := by
  obtain ⟨us, eu, g3⟩ := r.split
  subst eu
  exact RKV.join (g3.tr hk hf l)
end
abbrev XD := Addr → List (Str × D) → Prop
abbrev SpP := List D → (D → Prop) → XD → Prop
/-- a def that changes nothing -/
def lp (sp : SpP) : SpD := fun ds S Q E => sp ds (fun d => Q d S) fun C fs => E C fs S
def at0 (sp : SpP) : SpD := fun ds S Q E => S = [] ∧ sp ds (fun d => Q d []) fun C fs => E C fs []
/-- the objects of the outer defs, all hidden -/
def Ph.all (φ : Ph) : Ph := ⟨φ.hid ++ φ.own, []⟩
section
variable {K : PySem.W.Frag}
theorem Rel.all {φ : Ph} {H : Hp} {S : List O} (r : Rel K φ H S) : Rel K φ.all H [] :=
  ⟨List.nodup_nil, fun _ _ z => (List.not_mem_nil z), fun a ha => (List.mem_append.mp ha).elim (r.hd a) fun h => r.own_some h, rfl, fun i o h => by simp at h⟩
theorem Fz.all {φ : Ph} {a : Addr} (h : Fz φ a) : Fz φ.all a := ⟨fun z => (List.mem_append.mp z).elim h.1 h.2, List.not_mem_nil⟩
theorem Fz.unall {φ : Ph} {a : Addr} (h : a ∉ φ.all.hid) : Fz φ a := ⟨fun z => h (List.mem_append_left _ z), fun z => h (List.mem_append_right _ z)⟩
theorem Ext.unall {φ φ' : Ph} {H H' : Hp} (e : Ext K φ.all φ' H H') : Ext K φ φ H H' := ⟨rfl, List.prefix_refl _, e.tup, e.xd, fun a u h g n => ⟨h, (e.fz a u List.not_mem_nil g n).2⟩⟩
theorem Rel.unall {φ φ' : Ph} {H H' : Hp} {S : List O} (r : Rel K φ H S) (e : Ext K φ.all φ' H H') : Rel K φ H' S := r.kept e.unall fun b u g n => (e.fz b u List.not_mem_nil g n).2
theorem upF_pure {sp : SpP} (hp : ∀ ds Q E, sp ds Q E → D.lts 0 ds) {vs : List V} {H : Hp} {Q : VK} {E : XK} (h : upF K (lp sp) vs H Q E) : upF K (at0 sp) vs H Q E := by
  obtain ⟨φ, ds, S, Q', E', T, r, rs, tt, h, kq, ke⟩ := h
  refine ⟨φ.all, ds, [], fun d S1 => S1 = [] ∧ Q' d S, fun C fs S1 => S1 = [] ∧ E' C fs S, T, r.all, rs.tr (fun k a hk => absurd hk (Nat.not_lt_zero k)) (fun a => Fz.all) (hp _ _ _ h), tt, ⟨rfl, ?_⟩, ?_, ?_⟩
  · have e1 : (fun d => [] = ([] : List O) ∧ Q' d S) = fun d => Q' d S := funext fun d => propext ⟨fun z => z.2, fun z => ⟨rfl, z⟩⟩
    have e2 : (fun C fs => [] = ([] : List O) ∧ E' C fs S) = fun C fs => E' C fs S := funext fun C => funext fun fs => propext ⟨fun z => z.2, fun z => ⟨rfl, z⟩⟩
    show sp ds (fun d => [] = ([] : List O) ∧ Q' d S) (fun C fs => [] = ([] : List O) ∧ E' C fs S)
    rw [e1, e2]
    exact h
  · rintro φ' d S1 v H' e r1 t1 rv ⟨rfl, q⟩
    have e0 : φ'.own.length = 0 := r1.len
    refine kq φ d S v H' e.unall (r.unall e) t1 (rv.tr (m := 0) (fun k a hk => absurd hk (Nat.not_lt_zero k)) (fun a z => Fz.unall (by rw [← e.hid]; exact z.1)) ?_) q
    have := rv.lt
    rwa [e0] at this
  · rintro φ' C fs S1 cls d H' e r1 t1 ⟨hc, dx, gs, hd, h1, h2⟩ ⟨rfl, q⟩
    have e0 : φ'.own.length = 0 := r1.len
    refine ke φ C fs S cls d H' e.unall (r.unall e) t1 ⟨hc, dx, gs, hd, h1, h2.tr (m := 0) (fun k a hk => absurd hk (Nat.not_lt_zero k)) (fun a z => Fz.unall (by rw [← e.hid]; exact z.1)) ?_⟩ q
    obtain ⟨us, eu, g3⟩ := h2.split
    have := g3.lt
    rwa [e0] at this
/-! with the drawing -/
def ld (sp : SpP) : SpD := fun ds S Q E => match ds, S with
  | .ref 0 :: r, .drw :: _ => sp r (fun d => Q d S) fun C fs => E C fs S
  | _, _ => False
def at1 (sp : SpP) : SpD := fun ds S Q E => ∃ r, ds = .ref 0 :: r ∧ S = [.drw] ∧ sp r (fun d => Q d [.drw]) fun C fs => E C fs [.drw]
/-- one object handed on, the others hidden -/
def Ph.one (φ : Ph) (a : Addr) : Ph := ⟨φ.hid ++ φ.own.filter (· ≠ a), [a]⟩
section
variable {φ : Ph} {H : Hp} {S : List O} {a : Addr} {k : Nat}
theorem Rel.one {o o' : O} (r : Rel K φ H S) (hk : φ.own[k]? = some a) (h : RO K (φ.one a) H o' a) : Rel K (φ.one a) H [o'] := by
  refine ⟨(by show [a].Nodup; simp), fun b hb z => ?_, fun b hb => ?_, rfl, fun i x hx => ?_⟩
  · rw [List.mem_singleton.mp z] at hb
    rcases List.mem_append.mp hb with hb | hb
    · exact r.dj a hb (List.mem_of_getElem? hk)
    · simpa using (List.mem_filter.mp hb).2
  · rcases List.mem_append.mp hb with hb | hb
    · exact r.hd b hb
    · exact r.own_some (List.mem_filter.mp hb).1
  · cases i with
    | zero => simp at hx; subst hx; exact ⟨a, rfl, h⟩
    | succ i => simp at hx
theorem Fz.one (h : Fz φ b) (ha : a ∈ φ.own) : Fz (φ.one a) b := ⟨fun z => (List.mem_append.mp z).elim h.1 fun z => h.2 (List.mem_filter.mp z).1, fun z => h.2 (List.mem_singleton.mp z ▸ ha)⟩
theorem Fz.unone {b : Addr} (h : b ∉ (φ.one a).hid) (hn : b ≠ a) : Fz φ b := ⟨fun z => h (List.mem_append_left _ z), fun z => h (List.mem_append_right _ (List.mem_filter.mpr ⟨z, by simpa using hn⟩))⟩
theorem Ext.unone {φ' : Ph} {H' : Hp} (e : Ext K (φ.one a) φ' H H') (ha : a ∈ φ.own) : Ext K φ φ H H' := ⟨rfl, List.prefix_refl _, e.tup, e.xd, fun b u h g n => ⟨h, (e.fz b u (fun z => h (List.mem_singleton.mp z ▸ ha)) g n).2⟩⟩
theorem DrawL.lts {l : List D} {m : Nat} (h : DrawL l) : D.lts m l := by
  obtain ⟨ns, i, r, s, rfl, _⟩ := h
  exact ⟨D.lts_ints ns, trivial, trivial, trivial, trivial⟩
/-- the one object is again as it was: a drawing's list -/
theorem Rel.unone {φ' : Ph} {H' : Hp} {S1 : List O} (r : Rel K φ H S) (hk : φ.own[k]? = some a) (hS : S[k]? = some .drw) (e : Ext K (φ.one a) φ' H H') (r1 : Rel K φ' H' S1) (h1 : S1[0]? = some .drw) : Rel K φ H' S := by
  have ha := List.mem_of_getElem? hk
  refine ⟨r.nd, r.dj, fun b hb => ?_, r.len, fun i x hx => ?_⟩
  · obtain ⟨u, g, n⟩ := r.hd b hb
    exact ⟨u, (e.fz b u (fun z => r.dj b hb (List.mem_singleton.mp z ▸ ha)) g n).2, n⟩
  · by_cases hi : i = k
    · subst hi
      rw [hS] at hx; cases hx
      refine ⟨a, hk, ?_⟩
      obtain ⟨b, g1, l, vs, g2, g3, g4⟩ := r1.ob 0 _ h1
      have : φ'.own[0]? = some a := e.get (k := 0) rfl
      rw [this] at g1; cases g1
      exact ⟨l, vs, g2, g3, g4.tr (m := 0) (fun k a hk => absurd hk (Nat.not_lt_zero k)) (fun b z => Fz.unone (by rw [← e.hid]; exact z.1) fun y => z.2 (y ▸ List.mem_of_getElem? this)) g2.lts⟩
    · obtain ⟨b, g1, g2⟩ := r.ob i x hx
      refine ⟨b, g1, g2.mono (e.unone ha) fun u hu n => (e.fz b u (fun z => ?_) hu n).2⟩
      have hz := List.mem_singleton.mp z
      subst hz
      obtain ⟨l1, f1⟩ := List.getElem?_eq_some_iff.mp g1
      obtain ⟨l2, f2⟩ := List.getElem?_eq_some_iff.mp hk
      exact hi ((List.getElem_inj r.nd).mp (f1.trans f2.symm))
end
theorem upF_draw {sp : SpP} (hp : ∀ ds Q E, sp ds Q E → D.lts 0 ds) {vs : List V} {H : Hp} {Q : VK} {E : XK} (h : upF K (ld sp) vs H Q E) : upF K (at1 sp) vs H Q E := by
  obtain ⟨φ, ds, S, Q', E', T, r, rs, tt, h, kq, ke⟩ := h
  unfold ld at h
  split at h
  · rename_i rest S'
    have hS : (O.drw :: S')[0]? = some .drw := rfl
    obtain ⟨v0, ws, rfl, ⟨a, hk, rfl⟩, rs⟩ := rs
    have ha := List.mem_of_getElem? hk
    obtain ⟨b, hb, l, vs, g2, g3, g4⟩ := r.ob 0 _ hS
    rw [hk] at hb; cases hb
    have tr0 : ∀ {ds : List D} {vs : List V}, D.lts 0 ds → RVs K φ H ds vs → RVs K (φ.one a) H ds vs := fun l h => h.tr (m := 0) (fun k a hk => absurd hk (Nat.not_lt_zero k)) (fun b z => z.one ha) l
    have own1 : ∀ {φ' : Ph} {H' : Hp}, Ext K (φ.one a) φ' H H' → φ'.own.length = 1 → ∀ (k : Nat) (x : Addr), k < 1 → φ'.own[k]? = some x → φ.own[k]? = some x := fun e h1 k x hk' hx => by
      have : k = 0 := by omega
      subst this
      rw [e.get (k := 0) (a := a) rfl] at hx; cases hx; exact hk
    have fz1 : ∀ {φ' : Ph} {H' : Hp}, Ext K (φ.one a) φ' H H' → ∀ b, Fz φ' b → Fz φ b := fun e b z => Fz.unone (by rw [← e.hid]; exact z.1) fun y => z.2 (y ▸ List.mem_of_getElem? (e.get (k := 0) (a := a) rfl))
    have e1 : ∀ (p : Prop) , (([O.drw] : List O) = [.drw] ∧ p) = p := fun p => propext ⟨fun z => z.2, fun z => ⟨rfl, z⟩⟩
    refine ⟨φ.one a, .ref 0 :: rest, [.drw], fun d S1 => S1 = [.drw] ∧ Q' d (.drw :: S'), fun C fs S1 => S1 = [.drw] ∧ E' C fs (.drw :: S'), T, r.one (o := .drw) hk ⟨l, vs, g2, g3, tr0 g2.lts g4⟩, ⟨_, _, rfl, ⟨a, rfl, rfl⟩, tr0 (hp _ _ _ h) rs⟩, tt, ?_, ?_, ?_⟩
    · refine ⟨rest, rfl, rfl, ?_⟩
      show sp rest (fun d => ([O.drw] : List O) = [.drw] ∧ Q' d (.drw :: S')) (fun C fs => ([O.drw] : List O) = [.drw] ∧ E' C fs (.drw :: S'))
      rw [funext fun d => e1 (Q' d (.drw :: S')), funext fun C => funext fun fs => e1 (E' C fs (.drw :: S'))]
      exact h
    · rintro φ' d S1 v H' e r1 t1 rv ⟨rfl, q⟩
      have e0 : φ'.own.length = 1 := r1.len
      have l1 := rv.lt
      rw [e0] at l1
      exact kq φ d _ v H' (e.unone ha) (r.unone hk hS e r1 rfl) t1 (rv.tr (own1 e e0) (fz1 e) l1) q
    · rintro φ' C fs S1 cls d H' e r1 t1 ⟨hc, dx, gs, hd, h1, h2⟩ ⟨rfl, q⟩
      have e0 : φ'.own.length = 1 := r1.len
      have l1 : D.lts 1 (fs.map (·.2)) := by
        obtain ⟨us, eu, g3⟩ := h2.split
        have := g3.lt
        rwa [e0] at this
      exact ke φ C fs _ cls d H' (e.unone ha) (r.unone hk hS e r1 rfl) t1 ⟨hc, dx, gs, hd, h1, h2.tr (own1 e e0) (fz1 e) l1⟩ q
  · exact h.elim
/-! an __init__: one's own instance, new -/
abbrev SpI := List D → (List (Str × D) → Prop) → XD → Prop
def atI (C : Addr) (sp : SpI) : SpD := fun ds S Q E => ∃ r, ds = .ref 0 :: r ∧ S = [.ins C []] ∧ sp r (fun fs => Q .non [.ins C fs]) fun C' fs => E C' fs [.non]
/-- no numbers in what it tells -/
def PureI (sp : SpI) : Prop := ∀ ds Q E, sp ds Q E → D.lts 0 ds ∧ sp ds (fun fs => D.lts 0 (fs.map (·.2)) ∧ Q fs) fun C fs => D.lts 0 (fs.map (·.2)) ∧ E C fs
end
section
variable {X : Cx} {B : Bs} {k : Nat} {f C : Addr} {fd : FuncData} {ps : List Str} {sp : SpI} {dds : List D} {dvs : List V} {ds : List Value} {W : WX} {W' : WD} {x m : Str} {p pos apos : Pos} {e o : Expr} {es : List Expr} {q : QA}
/-- C(..), by value -/
def qMkV (C : Addr) (sp : SpI) (dds : List D) (W' : WD) (q : QA) : QE := fun s S Q => q s S fun ds S1 => sp (ds ++ dds) (fun fs => Q (.ins C (fs.map (·.1)) (fs.map (·.2))) S1) fun C fs => W' C fs s S1
theorem mkV_at {φ : Ph} {H : Hp} {S : List O} {s : Sl} {σ : L2.St} {dl : List D} {vs : List V} {Q' : D → List O → Prop} {Q : VK} (hp : PureI sp) (hr : HR X.K B φ H S) (ev : EV X.K φ H s σ) (r : RVs X.K φ H dl vs) (hdd : RVc X.K dds dvs) (wl : WL X.K B W' W)
    (h : sp (dl ++ dds) (fun fs => Q' (.ins C (fs.map (·.1)) (fs.map (·.2))) S) fun C fs => W' C fs s S) (k : Kont X.K B (rD X.K) φ H Q' Q) :
    ∀ x dx, H x = none → H dx = none → dx ≠ x → upF X.K (atI C sp) (.ref x :: (vs ++ dvs)) (upd (upd H dx (.own x)) x (.ins C dx [])) (fun v H2 => v = .non ∧ Q (.ref x) H2) (WE W σ) := fun x dx hx hdx hne => by
  have hx1 : upd H dx (.own x) x = none := by rw [upd_ne hne.symm]; exact hx
  have e1 : Ext X.K φ φ H (upd H dx (.own x)) := ext_new hdx
  have e2 : Ext X.K φ (φ.add x) (upd H dx (.own x)) (upd (upd H dx (.own x)) x (.ins C dx [])) := ext_add hx1
  have at_ : ∀ b u, H b = some u → upd (upd H dx (.own x)) x (.ins C dx []) b = some u := fun b u z => by rw [upd_ne (ne_of_none z hx), upd_ne (ne_of_none z hdx)]; exact z
  have xh : x ∉ φ.hid ++ φ.own := fun z => by
    rcases List.mem_append.mp z with z | z
    · obtain ⟨u, g, _⟩ := hr.rel.hd x z; rw [hx] at g; cases g
    · obtain ⟨u, g, _⟩ := hr.rel.own_some z; rw [hx] at g; cases g
  obtain ⟨lt, h⟩ := hp _ _ _ h
  have rc : Rel X.K ⟨φ.hid ++ φ.own, [x]⟩ (upd (upd H dx (.own x)) x (.ins C dx [])) [.ins C []] := by
    refine ⟨(by show [x].Nodup; simp), fun b hb z => xh (List.mem_singleton.mp z ▸ hb), fun b hb => ?_, rfl, fun i y hy => ?_⟩
    · have t : Trk H b := (List.mem_append.mp hb).elim (hr.rel.hd b) fun z => hr.rel.own_some z
      obtain ⟨u, g, n⟩ := t
      exact ⟨u, at_ _ _ g, n⟩
    · cases i with
      | zero => simp at hy; subst hy; exact ⟨x, rfl, dx, [], upd_same, rfl⟩
      | succ i => simp at hy
  have rr := (r.mono (e1.trans e2)).app (hdd (φ.add x) (upd (upd H dx (.own x)) x (.ins C dx [])))
  have rr2 : RVs X.K ⟨φ.hid ++ φ.own, [x]⟩ (upd (upd H dx (.own x)) x (.ins C dx [])) (dl ++ dds) (vs ++ dvs) := rr.tr (m := 0) (fun k a hk => absurd hk (Nat.not_lt_zero k)) (fun b z => ⟨fun y => (List.mem_append.mp y).elim z.1 fun y => z.2 (List.mem_append_left _ y), fun y => z.2 (List.mem_append_right _ y)⟩) lt
  have eE : ∀ {φ' : Ph} {H' : Hp}, Ext X.K ⟨φ.hid ++ φ.own, [x]⟩ φ' (upd (upd H dx (.own x)) x (.ins C dx [])) H' → Ext X.K φ φ H H' := fun e => ⟨rfl, List.prefix_refl _, fun p vs h => e.tup p vs (e2.tup p vs (e1.tup p vs h)), fun p gs h => e.xd p gs (e2.xd p gs (e1.xd p gs h)), fun b u h g n => ⟨h, (e.fz b u (fun z => by rw [List.mem_singleton.mp z, hx] at g; cases g) (at_ _ _ g) n).2⟩⟩
  have rR : ∀ {φ' : Ph} {H' : Hp}, Ext X.K ⟨φ.hid ++ φ.own, [x]⟩ φ' (upd (upd H dx (.own x)) x (.ins C dx [])) H' → Rel X.K φ H' S := fun e => hr.rel.kept (eE e) fun b u g n => (e.fz b u (fun z => by rw [List.mem_singleton.mp z, hx] at g; cases g) (at_ _ _ g) n).2
  have fz1 : ∀ {φ' : Ph} {H' : Hp}, Ext X.K ⟨φ.hid ++ φ.own, [x]⟩ φ' (upd (upd H dx (.own x)) x (.ins C dx [])) H' → ∀ b, b ∉ φ'.hid → Fz φ b := fun e b z => by
    rw [e.hid] at z
    exact ⟨fun y => z (List.mem_append_left _ y), fun y => z (List.mem_append_right _ y)⟩
  refine ⟨⟨φ.hid ++ φ.own, [x]⟩, .ref 0 :: (dl ++ dds), [.ins C []], fun d S1 => d = .non ∧ ∃ fs, S1 = [.ins C fs] ∧ D.lts 0 (fs.map (·.2)) ∧ Q' (.ins C (fs.map (·.1)) (fs.map (·.2))) S, fun C' fs S1 => D.lts 0 (fs.map (·.2)) ∧ W' C' fs s S, B.T, rc, ⟨_, _, rfl, ⟨x, rfl, rfl⟩, rr2⟩, tabs_new hx1 (tabs_new hdx hr.tab), ?_, ?_, ?_⟩
  · refine ⟨dl ++ dds, rfl, rfl, ?_⟩
    have e3 : (fun fs : List (Str × D) => (D.non = D.non ∧ ∃ fs', [O.ins C fs] = [O.ins C fs'] ∧ D.lts 0 (fs'.map (·.2)) ∧ Q' (.ins C (fs'.map (·.1)) (fs'.map (·.2))) S)) = fun fs => D.lts 0 (fs.map (·.2)) ∧ Q' (.ins C (fs.map (·.1)) (fs.map (·.2))) S := funext fun fs => propext ⟨fun ⟨_, fs', z, y⟩ => by cases z; exact y, fun z => ⟨rfl, fs, rfl, z⟩⟩
    show sp (dl ++ dds) (fun fs : List (Str × D) => (D.non = D.non ∧ ∃ fs', [O.ins C fs] = [O.ins C fs'] ∧ D.lts 0 (fs'.map (·.2)) ∧ Q' (.ins C (fs'.map (·.1)) (fs'.map (·.2))) S)) _
    rw [e3]
    exact h
  · rintro φ' d S1 v H' e r1 t1 rv ⟨rfl, fs, rfl, l1, q⟩
    cases rv
    refine ⟨rfl, k _ _ _ _ _ (eE e) (hr.mono (eE e) (rR e) t1) ?_ q⟩
    have r0 : RV X.K (φ'.cut 0) H' (.ins C (fs.map (·.1)) (fs.map (·.2))) (.ref x) := Rs.rv (m := 0) r1 (.inr ⟨0, fs, rfl, Nat.le_refl _, rfl, rfl, RsL.same l1⟩) ⟨x, e.get (k := 0) rfl, rfl⟩
    exact r0.tr (m := 0) (fun k a hk => absurd hk (Nat.not_lt_zero k)) (fun b (z : Fz (φ'.cut 0) b) => fz1 e b z.1) l1
  · rintro φ' C' fs S1 cls d H' e r1 t1 ⟨hc, dx', gs, hd, h1, h2⟩ ⟨l1, q⟩
    refine wl _ _ _ _ S _ _ _ _ (hr.mono (eE e) (rR e) t1) (ev.mono (eE e)) ⟨hc, dx', gs, hd, h1, ?_⟩ q
    obtain ⟨us, eu, g3⟩ := h2.split
    subst eu
    refine RKV.join ?_
    have := RsL.rv (m := 0) r1 (RsL.same l1) g3
    exact this.tr (m := 0) (fun k a hk => absurd hk (Nat.not_lt_zero k)) (fun b (z : Fz (φ'.cut 0) b) => fz1 e b z.1) l1
theorem le_mkV {fI : Addr} (hp : PureI sp) (M : Mk X.K C fI) (F : FnOk X.prog X.w X.K X.mg X.base (L2.CX X.prog X.w) k fI fd ps (upF X.K (atI C sp))) (rm : Room (k + 1) X.A) (hm : X.mg x = some (.ref C)) (bd : Binds X.K fd ps ds) (vd : Vals dvs ds) (hdd : RVc X.K dds dvs) (tk : Takes X W) (wl : WL X.K B W' W) (ha : LA X B (e :: es) q) (hg : Gl X x := by rfl)
    (nx : (x == ("__debug__" : Str)) = false := by decide) (st : starEach (e :: es) X.env = (false, eval e X.env) :: starEach es X.env := by rfl) (pn : (backTo pos (starEach es X.env)).any (·.1) = false := by rfl) : LE X B (.Call (.Name x p) (e :: es) [] pos) (qMkV C sp dds W' q) := ⟨fun pins s σ H Q I ⟨φ, s', S, Q', hr', ev, q, kk⟩ => by
  refine wpAny_Call_Name_kw (ld_glob I hg hm ?_ nx)
  refine PySem.W.callWith_K (h₀ := X.base) I.ok.mod.kin M.kp (thn (ha.run pos pins s σ H (fun vs H1 => ∃ φ1 dl S1, Ext X.K φ φ1 H H1 ∧ HR X.K B φ1 H1 S1 ∧ RVs X.K φ1 H1 dl vs ∧ sp (dl ++ dds) (fun fs => Q' (.ins C (fs.map (·.1)) (fs.map (·.2))) S1) fun C fs => W' C fs s' S1) I
    ⟨φ, s', S, _, hr', ev, q, fun φ1 dl S1 vs H1 e1 hr1 r1 q1 => ⟨φ1, dl, S1, e1, hr1, r1, q1⟩⟩) fun us s1 ⟨vs, H1, I1, r, φ1, dl, S1, e1, hr1, r1, q1⟩ => ⟨I1.kIn, ?_⟩) st pn
  exact run_mk (E := WE W) M F rm bd vd (passAt tk σ) I1 r (mkV_at hp hr1 (ev.mono e1) r1 hdd wl q1 (kk.ext e1))⟩
end
end LC

set_option Elab.async false
set_option linter.all false
set_option maxRecDepth 100000
set_option maxHeartbeats 5000000
/-! LD8: exceptions: classes with an own __init__, raise, try .. except. -/
namespace LC
open PySem PySem.Spec
open PyProof.Rows L2

/-! ### C.m(..), m a plain def of the class -/
section
variable {X : Cx} {k : Nat} {f C : Addr} {fd : FuncData} {ps : List Str} {sp : Sp} {E : XK} {x m : Str} {p1 p2 pos : Pos} {e : Expr} {es : List Expr} {t : TA} {mc : Value}
theorem pe_clsm {pl : Sem Bool} (hg : Gl X x) (hm : X.mg x = some (.ref C)) (r : ClX.CRead X.K C mc) (hc : PySem.W.findCls X.K (.ref C) mc m = some (.val (.ref f))) (F : FnOk X.prog X.w X.K X.mg X.base (L2.CX X.prog X.w) k f fd ps sp) (hk : PySem.W.keepIn X.K (.ref f) = true) (hr : Room k X.A) (hb : Binds X.K fd ps [])
    (hx : Passes (L2.CX X.prog X.w) X E) (ha : PA X (e :: es) t) (hdb : (x == ("__debug__" : Str)) = false := by decide)
    (hst : starEach (e :: es) X.env = (false, eval e X.env) :: starEach es X.env := by rfl) 
    (hpl : (backTo pos (starEach es X.env)).any (·.1) = false := by rfl)
    (ht : eval (.Call (.Attribute (.Name x p1) m p2) (e :: es) [] pos) X.env = (do
      let ov ← eval (.Name x p1) X.env
      standAt p2.atName
      let (fn, pre) ← holding [ov] (getMethod ov m pl)
      callWith pos fn pre (backTo pos (starEach (e :: es) X.env)) (backToKw pos (keywordEach [] X.env))) := by rfl) :
    PE X (.Call (.Attribute (.Name x p1) m p2) (e :: es) [] pos) (tCall sp [] E t) := by
  refine ⟨fun pn s σ H Q I hh => ?_⟩
  refine PySem.W.methodCall_KW (pl := pl) (ld_glob I hg hm ?_ hdb) ht
  refine PySem.W.method_cls I.kIn r.ga (ClX.getcval_ok (v := .ref f) I r ⟨hc, rfl⟩ fun s' I' => ?_)
  refine PySem.W.callWith_K (first := []) (h₀ := X.base) I.ok.mod.kin hk (thn (ha.run pos pn s' σ H _ I' hh) fun ws t2 ⟨vs, M2, J2, r2, q2⟩ => ⟨J2.kIn, ?_⟩) hst hpl
  exact run_fn (us := ws) (vs := vs) F hr hb .nil hx J2 r2 q2
end

/-! ### an exception's __init__ -/
/-- self gets its own dict with the fields fl; all else stays -/
def spX (C : Addr) (n : Nat) (fl : List V → List (Str × V)) : Sp := fun vs H Q _ => ∃ (a : Addr) (us : List V), vs = .ref a :: us ∧ us.length = n ∧ H a = some (exo a C none) ∧
  ∀ (d : Addr) (Hf : Hp), H d = none → d ≠ a → Hf a = some (exo a C (some d)) → Hf d = some (exd d (fl us)) → (∀ b, b ≠ a → b ≠ d → Hf b = H b) → Q .non Hf
/-- the base's: called with any of the classes -/
def spX0 (K : PySem.W.Frag) : Sp := fun vs H Q _ => ∃ (a C : Addr) (y : V), vs = [.ref a, y] ∧ OexC K C ∧ PySem.W.findIn K (.ref C) "called" = some none ∧ H a = some (exo a C none) ∧
  ∀ d, H d = none → d ≠ a → Q .non (upd (upd H d (exd d [("called", y)])) a (exo a C (some d)))
section
variable {X : Cx} {B : Bs} {x : Str} {C fI : Addr} {k : Nat} {fd : FuncData} {ps : List Str} {ds : List Value} {dvs : List V} {p pos : Pos} {e : Expr} {es : List Expr} {q : QA}
/-- as HandS's pmk_oex, without arguments -/
theorem pmk_oex0 {sp : Sp} (T : OexC X.K C) (iC : PySem.W.findIn X.K (.ref C) "__init__" = some (some (.ref fI))) (tI : PySem.W.typeIn X.K (.ref fI) = some (.type "function"))
    (F1 : FnOk X.prog X.w X.K X.mg X.base (L2.CX X.prog X.w) k fI fd ps sp) (hr : Room (k + 1) X.A) (hb : Binds X.K fd ps ds) (hd : Vals dvs ds) (hx : Passes (L2.CX X.prog X.w) X (fun _ _ _ => False)) (hg : Gl X x) (hm : X.mg x = some (.ref C))
    (hdb : (x == ("__debug__" : Str)) = false := by decide) :
    PMk X (.Call (.Name x p) [] [] pos) (tMkO C sp dvs tNil) := by
  intro pn s σ H Q I h
  obtain ⟨hz, q1⟩ := h
  obtain ⟨m0, q, N, bs, bm, sn, sub, ab, col, dd, k0, k1, k2, k3, k5, gC, gbm⟩ := T.cls
  apply wpAny_Call_Name_kw; refine ld_glob I hg hm ?_ hdb
  refine PySem.W.callWith_K0 I.kIn T.kC ?_
  show wpAny _ _ (call (.ref C) []) _ _ _
  obtain ⟨hpo, gg, dd0, tt, oo⟩ := s
  have hSz : hpo.objs.size ≤ hpo.objs.size + 1 := Nat.le_succ _
  have hq := q1 (hpo.objs.size + 1) (I.hok.fresh hSz)
  have kp : ∀ b o, hpo.get? b = some o → ((hpo.push (PySem.W.kdv_tup [])).push (PySem.HandSPX.excO C hpo.objs.size)).get? b = some o := fun b o e => Heap.get?_push_of_some _ (Heap.get?_push_of_some _ e)
  have hGet : ((hpo.push (PySem.W.kdv_tup [])).push (PySem.HandSPX.excO C hpo.objs.size)).get? (hpo.objs.size + 1) = some (PySem.HandSPX.excO C hpo.objs.size) := by heap_get
  have J2 : Inv X pn σ (upd H (hpo.objs.size + 1) (exo (hpo.objs.size + 1) C none)) ⟨(hpo.push (PySem.W.kdv_tup [])).push (PySem.HandSPX.excO C hpo.objs.size), gg, dd0, tt, oo⟩ :=
    I.laid (t' := tt) (a := hpo.objs.size + 1) (o := exo (hpo.objs.size + 1) C none) (h' := (hpo.push (PySem.W.kdv_tup [])).push (PySem.HandSPX.excO C hpo.objs.size)) kp hSz (exo_ok hGet)
  have rr : Vals (V.ref (hpo.objs.size + 1) :: ([] ++ dvs)) (Value.ref (hpo.objs.size + 1) :: ([] ++ ds)) := .cons rfl hd
  have hLen : (Value.ref (hpo.objs.size + 1) :: ([] : List Value) ++ ds).length = ps.length := by
    have e := rr.length
    rw [F1.len _ _ _ _ hq] at e
    exact e.symm
  refine wpAny_call (PySem.HandSPX.call_own F.excBase_ValueError (fun Y => PySem.HandSPX.refsVE_contains Y bm gbm) (I.kIn _ _ gC) (PySem.W.looks_findIn I.kIn iC) (fun self => PySem.W.bind_fn I.kIn self tI) (by show 0 ≤ sizeLine; exact Nat.zero_le _)
    (codeAny_mono (F1.run _ X.stack _ _ ⟨Value.ref (hpo.objs.size + 1) :: [], []⟩ (Value.ref (hpo.objs.size + 1) :: ([] ++ ds)) _ _ (fun _ _ _ => False) (hr.make C [] []) (J2.env0.make C [] []) (by have z := hb ⟨(hpo.push (PySem.W.kdv_tup [])).push (PySem.HandSPX.excO C hpo.objs.size), gg, dd0, tt, oo⟩ [Value.ref (hpo.objs.size + 1)] J2.kIn hLen; simpa using z) rr hq) fun r s' hq' => ?_))
  cases r with
  | error ex => exact hx pn σ _ _ ex s' J2 hq'
  | ok fl =>
    cases fl with
    | ret u =>
      obtain ⟨v, M2, o2, b2, u2, k2, rv, ev, d, fs, e1, e2, e3, q2⟩ := hq'
      subst ev
      obtain ⟨h2, g2, dd2, t2, oo'⟩ := s'
      exact ⟨rv, mk_end (raises_own T.exC T.tyC) I hSz kp u2 k2 o2 b2 e1 e2 e3 q2⟩
    | next => exact hq'.elim
    | brk => exact False.elim hq'
    | cont => exact hq'.elim
/-- the fields of such an exception, over data -/
def FlD (K : PySem.W.Frag) (fl : List V → List (Str × V)) (flD : List D → List (Str × D)) : Prop := ∀ φ H ds us, RVs K φ H ds us → RKV K φ H (flD ds) (fl us)
theorem mk_at {φ : Ph} {H : Hp} {S : List O} {dl dds : List D} {vs : List V} {n : Nat} {fl : List V → List (Str × V)} {flD : List D → List (Str × D)} {Q : XK} (hfl : FlD X.K fl flD) (hr : HR X.K B φ H S) (r : RVs X.K φ H dl vs) (hdd : RVc X.K dds dvs) (hn : dl.length + dds.length = n)
    (q : ∀ φ' H' cls d, Ext X.K φ φ' H H' → HR X.K B φ' H' S → XRel X.K φ' H' C (flD (dl ++ dds)) cls d → Q cls d H') :
    ∀ a, H a = none → spX C n fl (.ref a :: (vs ++ dvs)) (upd H a (exo a C none)) (fun v H2 => v = .non ∧ ∃ (d : Addr) (fs : List (Str × V)), H2 a = some (exo a C (some d)) ∧ H2 d = some (exd d fs) ∧ H d = none ∧ Q (.ref C) (some d) (upd (del H2 a) d (.xd fs))) (fun _ _ _ => False) := fun a ha => by
  have rr := r.app (hdd φ H)
  refine ⟨a, vs ++ dvs, rfl, by rw [rr.len, List.length_append]; exact hn, upd_same, fun d Hf hd hne h1 h2 h3 => ⟨rfl, d, fl (vs ++ dvs), h1, h2, by rw [upd_ne hne] at hd; exact hd, ?_⟩⟩
  rw [upd_ne hne] at hd
  have at_ : ∀ b u, H b = some u → upd (del Hf a) d (.xd (fl (vs ++ dvs))) b = some u := fun b u hb => by
    have h4 : b ≠ a := ne_of_none hb ha
    have h5 : b ≠ d := ne_of_none hb hd
    rw [upd_ne h5, del_ne h4, h3 b h4 h5, upd_ne h4]; exact hb
  have e : Ext X.K φ φ H (upd (del Hf a) d (.xd (fl (vs ++ dvs)))) := ext_at at_
  exact q φ _ _ _ e (hr.mono e (hr.rel.kept e fun b u h _ => at_ b u h) (hr.tab.ext at_)) ⟨rfl, d, _, rfl, upd_same, hfl _ _ _ _ (rr.mono e)⟩
/-- raise C(..) -/
def qRaise (C : Addr) (flD : List D → List (Str × D)) (n : Nat) (dds : List D) (W' : WD) (q : QA) : QS := fun _ s S => q s S fun ds S1 => Br (lenLe 1000 ds && Nat.beq (ds ++ dds).length n) (W' C (flD (ds ++ dds)) s S1) False
theorem raise_ok {ds dds : List D} {n : Nat} (h : (lenLe 1000 ds && Nat.beq (ds ++ dds).length n) = true) : ds.length ≤ 1000 ∧ ds.length + dds.length = n := by
  rw [Bool.and_eq_true] at h
  exact ⟨lenLe_ok h.1, by rw [← List.length_append]; exact Nat.eq_of_beq_eq_true h.2⟩
theorem ls_raise0 {W : WX} {W' : WD} {n : Nat} {fl : List V → List (Str × V)} {flD : List D → List (Str × D)} {dds : List D} {rpos : Pos} (hfl : FlD X.K fl flD) (hc : X.calm = true) (T : OexC X.K C) (iC : PySem.W.findIn X.K (.ref C) "__init__" = some (some (.ref fI))) (tI : PySem.W.typeIn X.K (.ref fI) = some (.type "function"))
    (F1 : FnOk X.prog X.w X.K X.mg X.base (L2.CX X.prog X.w) k fI fd ps (spX C n fl)) (hr : Room (k + 1) X.A) (hb : Binds X.K fd ps ds) (hd : Vals dvs ds) (hdd : RVc X.K dds dvs) (tk : Takes X W) (wl : WL X.K B W' W) (hx : Passes (L2.CX X.prog X.w) X (fun _ _ _ => False)) (hg : Gl X x) (hm : X.mg x = some (.ref C))
    (hdb : (x == ("__debug__" : Str)) = false := by decide) :
    LS X B (.Raise (some (.Call (.Name x p) [] [] pos)) none rpos) (qRaise C flD n dds W' qNil) := PS.imp (ps_raise hc tk (pmk_oex0 T iC tI F1 hr hb hd hx hg hm hdb)) fun D σ H ⟨φ, s, S, D', hr', ev, qq, ek⟩ => let ⟨hb, q⟩ := Br.get qq; let ⟨h1, h2⟩ := raise_ok hb
  ⟨Nat.zero_le _, mk_at (dl := []) hfl hr' rfl hdd h2 fun φ' H' cls d e2 hr2 xr => wl _ _ _ _ _ _ _ _ _ hr2 (ev.mono e2) xr q⟩

/-! ### try .. except X as n -/
/-- a later ground -/
structure BLe (K : PySem.W.Frag) (B B' : Bs) : Prop where
  ext : Ext K B.φ0 B'.φ0 B.H0 B'.H0
  tab : B'.T = B.T
/-- n.f in the suite -/
def qXf (K : PySem.W.Frag) (a C : Addr) (fs : List (Str × D)) (m : Str) (qe : QE) : QE := fun s S Q => qe s S fun d S1 => Need (d = .adr a ∧ XfC K C ∧ PySem.W.findIn K (.ref C) m = some none) (Opt (fs.lookup m) fun v => Q v S1)
theorem pe_xfA {a : Addr} {oe : Obj} {cls : Value} {d : Option Addr} {pn : List (Addr × Obj)} {e : Expr} {te : TE} {pos : Pos} {n : Str}
    (hz : Zc cls d oe)
    (hf : ∃ vs, oe.data = .fields vs) (he : PE (X.suite a ((a, oe) :: pn)) e te) (hb : attributeBase e n X.env (eval e X.env) = eval e X.env := by rfl) :
    PE (X.suite a ((a, oe) :: pn)) (.Attribute e n pos) (fun σ H Q => te σ H fun x H1 => x = .ref a ∧ ∃ (C dd : Addr) (fs : List (Str × V)) (v : V), cls = .ref C ∧ XfC X.K C ∧ PySem.W.findIn X.K (.ref C) n = some none ∧ d = some dd ∧ H1 dd = some (.xd fs) ∧ fs.lookup n = some v ∧ Q v H1) := by
  refine ⟨fun pn s σ H Q I h => ?_⟩
  refine attr_of hb (thn (he.run pn s σ H _ I h) fun u t1 hz1 => ?_)
  obtain ⟨x, H1, J1, rx, ex, C, dd, fs, v, ec, T, hno, ed, ea, l, q⟩ := hz1
  subst ex
  have eu : u = Value.ref a := rx
  subst eu
  subst ec
  subst ed
  obtain ⟨ha, _⟩ := J1.pin (a, oe) (List.mem_append_left _ List.mem_cons_self)
  obtain ⟨vs, hd⟩ := hf
  have hOb : ObjOk X.prog X.w H1 t1.heap dd (.xd fs) := J1.hok dd _ ea
  obtain ⟨mm, hN, hr⟩ := hOb
  obtain ⟨o2, hO2, hL2⟩ := lookIn_ns hN
  obtain ⟨u, hu, rr⟩ := RelO.some_of (v := v) (o := mm n) (by rw [← l]; exact hr n)
  have JJ : PySem.W.InstAt t1.heap a oe C (some o2) := ⟨ha, hz.1, by unfold PySem.W.notCls; rw [hd] <;> rfl, by rw [hz.2]; exact hO2⟩
  exact HandSPX.exc_get J1.kIn JJ T.ga T.gg T.exC (PySem.W.findObj_own T.hdC hno rfl (by rw [hL2, hu])) (handed_of rr) ⟨v, H1, J1.tok _, rr, q⟩
theorem le_xf {a : Addr} {oe : Obj} {cls : Value} {d : Option Addr} {pn : List (Addr × Obj)} {e : Expr} {qe : QE} {pos : Pos} {n : Str} {fs : List (Str × D)}
    (hz : Zc cls d oe) (hf : ∃ vs, oe.data = .fields vs) (xr : XRel X.K B.φ0 B.H0 C fs cls d) (he : LE (X.suite a ((a, oe) :: pn)) B e qe) (hb : attributeBase e n X.env (eval e X.env) = eval e X.env := by rfl) :
    LE (X.suite a ((a, oe) :: pn)) B (.Attribute e n pos) (qXf X.K a C fs n qe) := PE.imp (pe_xfA hz hf he hb) fun σ H Q ⟨φ, s, S, Q', hr, ev, q, k⟩ =>
  ⟨φ, s, S, _, hr, ev, q, fun φ1 d1 S1 v1 H1 e1 hr1 r1 ⟨⟨h1, h2, h3⟩, qq⟩ => by
    obtain ⟨v, h4, q1⟩ := Opt.get qq
    subst h1
    obtain ⟨rfl, dd, gs, rfl, h5, h6⟩ := xr
    have h7 := h6.mono hr1.ext
    obtain ⟨u, h8, h9⟩ := h7.lookup_some h4
    exact ⟨r1, C, dd, gs, u, rfl, h2, h3, rfl, hr1.ext.xd _ _ h5, h8, k _ _ _ _ _ e1 hr1 h9 q1⟩⟩
/-- the suite, over the exception that came -/
def tsX (K : PySem.W.Frag) (B : Bs) (qs : Addr → Addr → List (Str × D) → QS) (a : Addr) (cls : Value) (d : Option Addr) : TS := fun D σ H => ∃ φ C fs s S D', D'.n = S.length ∧ XRel K φ H C fs cls d ∧ HR K B φ H S ∧ EV K φ H s σ ∧ qs a C fs D' s S ∧ EK K B φ H D' D
def qTryAs (K : PySem.W.Frag) (c : Value) (i : Nat) (qb : WD → QS) (qs : Addr → Addr → List (Str × D) → QS) (Wo : WD) : QS := fun D s S => qb (fun C fs s1 S1 => ∃ b, PySem.W.exmOne K (.ref C) c = some b ∧
  (b = true → ∀ a, qs a C fs { nx := fun s' S' => D.nx (s'.set i none) S', rt := D.rt, bk := fun s' S' => D.bk (s'.set i none) S', ct := fun s' S' => D.ct (s'.set i none) S', n := S1.length } (s1.set i (some (.adr a))) S1) ∧ (b = false → Wo C fs s1 S1)) { D with n := S.length } s S
theorem ls_try_as {n : Str} {c : Value} {i : Nat} {body suite : List Stmt} {b₀ : Stmt} {np pos' : Pos} {qb : WD → QS} {qs : Addr → Addr → List (Str × D) → QS} {Wout : WX} {Wo : WD}
    (hs : X.stack = X.env :: X.outer) (hf : X.env.frame = some X.env.locals) (hN : X.N.Nodup) (hi : X.N[i]? = some n) (hln : X.env.kindOf n = some .local) (hc : Names X x c) (tk : Takes X Wout) (wl : WL X.K B Wo Wout)
    (hb : ∀ (W : WX) (W' : WD) (pn : List (Addr × Obj)) (xe : Value → Shared → Prop) (B' : Bs), BLe X.K B B' → Takes (X.tr pn xe) W → WL X.K B' W' W → PassesOwn (model X.prog X.w) X.A X.env xe → LSs (X.tr pn xe) B' body (qb W'))
    (hsu : ∀ (a : Addr) (oe : Obj) (cls : Value) (d : Option Addr) (pn : List (Addr × Obj)) (C : Addr) (fs : List (Str × D)) (B' : Bs), Zc cls d oe → (∃ vs, oe.data = .fields vs) → BLe X.K B B' → XRel X.K B'.φ0 B'.H0 C fs cls d → LSs (X.suite a ((a, oe) :: pn)) B' (b₀ :: suite) (qs a C fs)) :
    LS X B (.Try body [.ExceptHandler (some (.Name x np)) (some n) (b₀ :: suite) pos'] [] [] pos) (qTryAs X.K c i qb qs Wo) := by
  have key := ps_try_as (X := X) (Wout := Wout) (tb := fun W D σ H => ∃ (W' : WD) (B' : Bs), BLe X.K B B' ∧ WL X.K B' W' W ∧ US X.K B' (qb W') D σ H) (ts := tsX X.K B qs) (pos := pos) (np := np) (pos' := pos') (body := body) (suite := suite) (b₀ := b₀) hs hf hN hi hln hc tk ?_ ?_
  · refine PS.imp key ?_
    rintro D σ H ⟨φ, s, S, D', hr, ev, q, ek⟩
    refine ⟨_, ⟨φ, H, B.T⟩, ⟨hr.ext, rfl⟩, ?_, φ, s, S, { D' with n := S.length }, ⟨Ext.refl, hr.rel, hr.tab⟩, ev, q, ?_⟩
    · rintro φ' C fs s1 S1 cls d σ1 H1 hr1 ev1 xr ⟨b, h1, h2, h3⟩
      have hrB : HR X.K B φ' H1 S1 := ⟨hr.ext.trans hr1.ext, hr1.rel, hr1.tab⟩
      obtain ⟨rfl, rest⟩ := id xr
      refine ⟨b, h1, fun hb a na => ⟨φ', C, fs, s1.set i (some (.adr a)), S1, _, rfl, xr, hrB, ev1.set rfl, h2 hb a, ?_⟩, fun hb => wl _ _ _ _ _ _ _ _ _ hrB ev1 xr (h3 hb)⟩
      have ek1 := ek.ext hr1.ext
      refine ⟨φ', H1, Ext.refl, ?_⟩
      exact ⟨by rw [← hr1.rel.len]; exact hrB.ext.pre.length_le, by rw [hr1.rel.len]; exact Nat.le_refl _, fun φ'' H'' S'' s' σ' e' hr' ev' w => ek1.nx _ _ _ _ _ e' hr' ev'.wipe w, fun φ'' H'' S'' d' v' e' hr' r w => ek1.rt _ _ _ _ _ e' hr' r w,
        fun φ'' H'' S'' s' σ' e' hr' ev' w => ek1.bk _ _ _ _ _ e' hr' ev'.wipe w, fun φ'' H'' S'' s' σ' e' hr' ev' w => ek1.ct _ _ _ _ _ e' hr' ev'.wipe w⟩
    · have up : ∀ {φ' : Ph} {H' : Hp} {S' : List O}, HR X.K ⟨φ, H, B.T⟩ φ' H' S' → HR X.K B φ' H' S' := fun h => ⟨hr.ext.trans h.ext, h.rel, h.tab⟩
      refine ⟨φ, H, Ext.refl, ?_⟩
      exact ⟨by rw [← hr.rel.len]; exact Nat.le_refl _, by rw [hr.rel.len]; exact Nat.le_refl _, fun φ' H' S' s' σ' e' hr' => ek.nx _ _ _ _ _ e' (up hr'), fun φ' H' S' d' v' e' hr' => ek.rt _ _ _ _ _ e' (up hr'), fun φ' H' S' s' σ' e' hr' => ek.bk _ _ _ _ _ e' (up hr'), fun φ' H' S' s' σ' e' hr' => ek.ct _ _ _ _ _ e' (up hr')⟩
  · intro W pn xe tk' ps'
    refine ⟨fun pins s σ H D I ⟨W', B', eB, wl', h⟩ => ?_⟩
    exact (hb W W' pn xe B' eB tk' wl' ps').run pins s σ H D I h
  · intro a oe cls d pn hz hfl
    refine ⟨fun pins s σ H D I ⟨φ, C, fs, sl, S, D', hn, xr, hr, ev, q, ek⟩ => ?_⟩
    refine (hsu a oe cls d pn C fs ⟨φ, H, B.T⟩ hz hfl ⟨hr.ext, rfl⟩ xr).run pins s σ H D I ⟨φ, sl, S, D', ⟨Ext.refl, hr.rel, hr.tab⟩, ev, q, ?_⟩
    have up : ∀ {φ' : Ph} {H' : Hp} {S' : List O}, HR X.K ⟨φ, H, B.T⟩ φ' H' S' → HR X.K B φ' H' S' := fun h => ⟨hr.ext.trans h.ext, h.rel, h.tab⟩
    refine ⟨φ, H, Ext.refl, ?_⟩
    exact ⟨by rw [hn, ← hr.rel.len]; exact Nat.le_refl _, by rw [hn, hr.rel.len]; exact Nat.le_refl _, fun φ' H' S' s' σ' e' hr' => ek.nx _ _ _ _ _ e' (up hr'), fun φ' H' S' d' v' e' hr' => ek.rt _ _ _ _ _ e' (up hr'), fun φ' H' S' s' σ' e' hr' => ek.bk _ _ _ _ _ e' (up hr'), fun φ' H' S' s' σ' e' hr' => ek.ct _ _ _ _ _ e' (up hr')⟩
end
end LC

set_option Elab.async false
set_option linter.all false
set_option maxRecDepth 100000
set_option maxHeartbeats 5000000
/-! LD9: why(lambda: e). -/
namespace LC
open PySem PySem.Spec
open PyProof.Rows L2

/-- def why(ask): told = None; word = ''; try: told = ask() / except LimeError as e: word = e.called; return (told, word) -/
def ttWhy (K : PySem.W.Frag) (CS : Addr) : (XK → Hp → VK → Prop) → Hp → VK → Prop := fun tl H Q =>
  tl (fun cls d H2 => PySem.W.exmOne K cls (.ref CS) = some true ∧ ∃ (C dd : Addr) (fs : List (Str × V)) (v : V), cls = .ref C ∧ XfC K C ∧ PySem.W.findIn K (.ref C) "called" = some none ∧ d = some dd ∧ H2 dd = some (.xd fs) ∧ fs.lookup ("called" : Str) = some v ∧
    ∀ p, H2 p = none → Q (.ref p) (upd H2 p (.tup [.non, v]))) H (fun v H2 => ∀ p, H2 p = none → Q (.ref p) (upd H2 p (.tup [v, .str ""])))
def qWhy (K : PySem.W.Frag) (CS : Addr) (qb : WD → QE) : QE := fun s S Q => qb (fun C fs _ S1 => Need (PySem.W.exmOne K (.ref C) (.ref CS) = some true ∧ XfC K C ∧ PySem.W.findIn K (.ref C) "called" = some none) (Opt (fs.lookup ("called" : Str)) fun v => Q (.tup [.non, v]) S1)) s S
  fun d S1 => Q (.tup [d, .str ""]) S1
section
variable {X : Cx} {B : Bs}
theorem ext_N {K : PySem.W.Frag} {φ : Ph} {H H1 : Hp} (e : LamX.ExtN H H1) : Ext K φ φ H H1 := ⟨rfl, List.prefix_refl _, fun p vs h => e _ _ h (fun ps z => by cases z), fun p gs h => e _ _ h (fun ps z => by cases z), fun a u h g n => ⟨h, e _ _ g n⟩⟩
theorem rel_N {K : PySem.W.Frag} {φ : Ph} {H H1 : Hp} {S : List O} (e : LamX.ExtN H H1) (r : Rel K φ H S) : Rel K φ H1 S := r.kept (ext_N e) fun b u g n => e _ _ g n
theorem up_why {CS : Addr} {qb : WD → QE} {σ : L2.St} {H : Hp} {Q : VK} (h : UP X.K B (rD X.K) (qWhy X.K CS qb) σ H Q) :
    LamX.tLam B.T (ttWhy X.K CS) (fun E σ H Q => ∃ (B1 : Bs) (W1 : WD), WL X.K B1 W1 (fun cls d _ H => E cls d H) ∧ UP X.K B1 (rD X.K) (qb W1) σ H Q) σ H Q := by
  obtain ⟨φ, s, S, Q', hr, ev, q, k⟩ := h
  refine ⟨hr.tab, fun H1 eN tT => ?_⟩
  have e1 : Ext X.K φ φ H H1 := ext_N eN
  have back : ∀ {φ' : Ph} {H' : Hp} {S' : List O}, HR X.K ⟨φ, H1, B.T⟩ φ' H' S' → HR X.K B φ' H' S' := fun h => ⟨hr.ext.trans (e1.trans h.ext), h.rel, h.tab⟩
  refine ⟨⟨φ, H1, B.T⟩, _, ?_, φ, s, S, _, ⟨Ext.refl, rel_N eN hr.rel, tT⟩, ev.mono e1, q, ?_⟩
  · rintro φ' C fs s1 S1 cls d σ1 H' hr' ev' xr ⟨⟨h1, h2, h3⟩, qq⟩
    obtain ⟨v, h4, h5⟩ := Opt.get qq
    obtain ⟨rfl, dd, gs, rfl, h6, h7⟩ := xr
    obtain ⟨u, h8, h9⟩ := h7.lookup_some h4
    exact ⟨h1, C, dd, gs, u, rfl, h2, h3, rfl, h6, h8, fun p hp => (k.ext (e1.trans hr'.ext)).tup (ds := [.non, v]) (back hr') hp ⟨_, _, rfl, rfl, _, _, rfl, h9, rfl⟩ h5⟩
  · intro φ' d S' v H' e2 hr' rv q' p hp
    exact (k.ext (e1.trans e2)).tup (ds := [d, .str ""]) (back hr') hp ⟨_, _, rfl, rv, _, _, rfl, rfl, rfl⟩ q'
/-- ask() in why: Z is why's context, the maker's state is I; what is raised is wished for at why's own slots -/
theorem pe_ask {Ng : List Str} {qg : Str} {sg : Scope} {g fl cl : Addr} {cdg pm ctv : Value} {params : Arguments} {body : Expr} {scope : Scope} {lv : Nat} {a : Str} {pn : List (Addr × Obj)} {xe : Value → Shared → Prop} {W : WX} {t : XK → TE} {p1 p2 : Pos}
    {pins : List (Addr × Obj)} {σ0 : L2.St} {H0 : Hp} {s0 : Shared} (I0 : Inv X pins σ0 H0 s0) (L : LamX.LamS X.env.scope scope) (hobj : s0.heap.get? fl = some (PySem.W.kla_obj "<lambda>" (X.env.qual ++ "<lambda>") params body scope (cloFrom X.env.cells scope.names []) pm cl ctv))
    (hun : H0 fl = none) (hnf : fl ∉ frs X.stack) (hbind : bindArgs (PySem.W.kla_fn "<lambda>" (X.env.qual ++ "<lambda>") params body scope (cloFrom X.env.cells scope.names []) pm (.ref cl) ctv) ⟨[], []⟩ = pure [])
    (tk : Takes ((cxOf C8.CX0 X.prog X.w X.K X.mg X.base Ng qg sg g cdg X.A X.stack s0 H0 C8.E0).tr pn xe) W) (room : Room (lv + 1) (X.A.deeper (envOfC qg sg s0.heap.objs.size g cdg)))
    (hbody : ∀ (A : Around) (outer : List Env) (s : Shared) (H : Hp) (E : XK), Room lv (A.deeper (LamX.lamEnv X scope s.heap.objs.size fl cl)) → PE (LamX.lamCx X A outer s H E scope fl cl) body (t E))
    (hN : Ng[0]? = some a) (hv : Vis sg a) (hd : (a == ("__debug__" : Str)) = false) (hcd : (a == ("__classdict__" : Str)) = false) :
    PE ((cxOf C8.CX0 X.prog X.w X.K X.mg X.base Ng qg sg g cdg X.A X.stack s0 H0 C8.E0).tr pn xe) (.Call (.Name a p1) [] [] p2)
      (fun σZ HZ Q => σZ[0]? = some (some (.ref fl)) ∧ HZ cl = some (LamX.CodeO cl (X.env.qual ++ "<lambda>")) ∧ t (WE W σZ) σ0 HZ Q) := ⟨fun pz sz σz Hz Q Iz ⟨h1, h2, h3⟩ => by
  have nm := (pe_var (X := (cxOf C8.CX0 X.prog X.w X.K X.mg X.base Ng qg sg g cdg X.A X.stack s0 H0 C8.E0).tr pn xe) (pos := p1) (i := 0) hN hv hd hcd).run pz sz σz Hz (fun v K1 => v = .ref fl ∧ K1 = Hz) Iz ⟨.ref fl, h1, rfl, rfl⟩
  refine wpAny_Call_Name_kw (thn nm fun u s1 ⟨v, K1, I1, r1, ev, eK⟩ => ?_)
  subst ev; subst eK
  cases r1
  have stays : s1.heap.get? fl = _ := I1.base.keep fl _ hobj hun hnf (List.not_mem_nil)
  obtain ⟨⟨oc, cv, tc, c1, c2, c3⟩, _, _⟩ := I1.hok cl _ h2
  refine PySem.W.callWith_F0 ⟨_, _, _, _, stays⟩ (wpAny_call ?_)
  have whole : codeAny (model X.prog X.w) (X.A.deeper (envOfC qg sg s0.heap.objs.size g cdg)) (.call (.ref fl) ⟨[], []⟩) (CR (L2.CX X.prog X.w) (envOfC qg sg s0.heap.objs.size g cdg :: X.stack) X.prog X.w K1 s1 Q (WE W σz)) s1 := by
    refine PySem.W.kla_callFunE room.depth stays rfl L.co L.gen rfl ⟨cl, oc, cv, tc, rfl, c1, c2, c3⟩ ?_
    rw [hbind]
    refine wpAny_pure (wpAny_newFunctionEnv (fun y hy => (L.own y hy).2) (fun y hy => (List.not_mem_nil hy).elim) (fun h₁ ns sb => ⟨I1.nolimit.fresh _ sb, ?_⟩) L.kind)
    have grown : ∀ b o, s1.heap.get? b = some o → h₁.get? b = some o := fun b o e => sb.extBut b o (Nat.ne_of_lt (Heap.lt_size e)) (Heap.get?_push_of_some _ e)
    have J := LamX.lam_start2 (E := WE W σz) (f := fl) (c' := cl) (tk := s1.toks + ([] : List (Str × Value)).length) I0 L I1.env0 room.hd I1.base ns grown
    refine PySem.W.kla_codeExpr (wpAny_mono ((hbody _ _ s1 K1 (WE W σz) (room.deeper _)).run [] _ σ0 K1 Q J h3) (fun v s' ⟨x, K2, J2, rx, qx⟩ => ⟨x, K2, J2.os, J2.bare, J2.base, J2.hok, rx, qx⟩) fun _ _ z => z)
  refine codeAny_mono whole fun r s' hq => ?_
  match r, hq with
  | .error e, hq => exact passAt tk σz pz K1 s1 e s' I1 hq
  | .ok (.ret u), hq => exact I1.after hq
  | .ok .next, hq => exact hq.elim
  | .ok .brk, hq => exact hq.elim
  | .ok .cont, hq => exact hq.elim⟩
/-- why's body, whatever ask() gives -/
def MonoL (tl : XK → Hp → VK → Prop) : Prop := ∀ (E E' : XK) (H : Hp) (Q Q' : VK), tl E H Q → (∀ cls d H', E cls d H' → E' cls d H') → (∀ v H', Q v H' → Q' v H') → tl E' H Q'
def Asks (X : Cx) (Ng : List Str) (x : Str) (sg : Scope) (g : Addr) (cdg : Value) (bg : List Stmt) (a q : Str) (TT : (XK → Hp → VK → Prop) → Hp → VK → Prop) : Prop :=
  ∀ (fl cl : Addr) (s : Shared) (H : Hp) (Q : VK) (tl : XK → Hp → VK → Prop), MonoL tl →
    (∀ (W : WX) (pn : List (Addr × Obj)) (xe : Value → Shared → Prop) (p1 p2 : Pos), Takes ((cxOf C8.CX0 X.prog X.w X.K X.mg X.base Ng x sg g cdg X.A X.stack s H C8.E0).tr pn xe) W →
      PE ((cxOf C8.CX0 X.prog X.w X.K X.mg X.base Ng x sg g cdg X.A X.stack s H C8.E0).tr pn xe) (.Call (.Name a p1) [] [] p2) (fun σZ HZ Q => σZ[0]? = some (some (.ref fl)) ∧ HZ cl = some (LamX.CodeO cl q) ∧ tl (WE W σZ) HZ Q)) →
    H cl = some (LamX.CodeO cl q) → TT tl H Q →
    ∃ t, PSs (cxOf C8.CX0 X.prog X.w X.K X.mg X.base Ng x sg g cdg X.A X.stack s H C8.E0).nox bg t ∧ t { nx := fun _ H' => Q .non H', rt := Q } (L2.start Ng [.ref fl]) H
/-- what is known of the def why -/
structure WhyOk (X : Cx) (x a : Str) (g : Addr) (CS : Addr) (qn : Str) : Prop where
  ex : ∃ (pg : Arguments) (bg : List Stmt) (sg : Scope) (dV kV doc pm cdv ct oc : Value) (an od : Option Addr) (osl : Array (Option Value)) (Ng : List Str), X.mg x = some (.ref g) ∧ PySem.W.keepIn X.K (.ref g) = true ∧
    X.K.lookup g = some ⟨oc, od, .func (PySem.W.fnOf x x pg bg sg dV kV doc pm an cdv ct), osl⟩ ∧ PySem.W.codeIn X.K cdv x = true ∧ L2.Binds X.K (PySem.W.fnOf x x pg bg sg dV kV doc pm an cdv ct) [a] [] ∧ FnScope Ng [a] sg ∧ Ng[0]? = some a ∧ Vis sg a ∧
    Asks X Ng x sg g cdv bg a (qn ++ "<lambda>") (ttWhy X.K CS)
theorem le_why {CS : Addr} {qb : WD → QE} {x a : Str} {g c P : Addr} {lv : Nat} {params : Arguments} {body : Expr} {scope : Scope} {p lpos pos : Pos} (G : WhyOk X x a g CS X.env.qual) (hg : Gl X x)
    (TB : LamX.TabB X.base X.mg c P) (hcode : X.env.code = .ref c) (hmT : (P, X.env.qual ++ "<lambda>") ∈ B.T) (hu : ∀ p ∈ B.T, p.1 = P → p.2 = X.env.qual ++ "<lambda>") (room : Room (lv + 2) X.A) (L : LamX.LamS X.env.scope scope) (hdef : defaultsOf params X.env = ([], []))
    (hbind : ∀ (q : Str) (cl : List (Str × Addr)) (pm cv ctv : Value),
      bindArgs (PySem.W.kla_fn "<lambda>" q params body scope cl pm cv ctv) ⟨[], []⟩ = pure [])
    (hbody : ∀ (A : Around) (outer : List Env) (s : Shared) (H : Hp) (E : XK) (f c' : Addr) (B1 : Bs) (W1 : WD), Room lv (A.deeper (LamX.lamEnv X scope s.heap.objs.size f c')) → WL X.K B1 W1 (fun cls d _ H => E cls d H) → LE (LamX.lamCx X A outer s H E scope f c') B1 body (qb W1))
    (hdb : (x == ("__debug__" : Str)) = false := by decide) (hd : (a == ("__debug__" : Str)) = false := by decide)
    (hcd : (a == ("__classdict__" : Str)) = false := by decide) :
    LE X B (.Call (.Name x p) [.Lambda params body scope lpos] [] pos) (qWhy X.K CS qb) := ⟨fun pins s σ H Q I h => by
  obtain ⟨pg, bg, sg, dV, kV, doc, pm, cdv, ct, oc, an, od, osl, Ng, hm, hk, lk, hcg, hb, Sg, hNg, hva, hA⟩ := G.ex
  obtain ⟨hT, h⟩ := up_why h
  refine wpAny_Call_Name_kw (ld_glob I hg hm (PySem.W.callWith_K (h₀ := X.base) I.ok.mod.kin hk ?_ (by rfl) (by rfl)) hdb)
  refine Calls.spliced_cons (LamX.lam_make2 I TB hcode hmT hu hT hdef (L.has I.ok) fun fl cl pm' ctv H1 s' I1 eN T1 ho hun hnf hco => Calls.spliced_nil ⟨I1.kIn, wpAny_call ?_⟩)
  have whole : codeAny (model X.prog X.w) X.A (.call (.ref g) ⟨[.ref fl], []⟩) (CR C8.CX0 X.stack X.prog X.w H1 s' Q C8.E0) s' :=
    LamX.run_ofS (N := Ng) (ps := [a]) (us := [.ref fl]) (vs := [.ref fl]) lk hcg Sg room I1.env0 (hb s' [.ref fl] I1.kIn rfl) (.cons rfl .nil) rfl fun room' => by
      obtain ⟨t', ht', hq'⟩ := hA fl cl s' H1 Q (fun E K1 Q1 => ∃ (B1 : Bs) (W1 : WD), WL X.K B1 W1 (fun cls d _ H => E cls d H) ∧ UP X.K B1 (rD X.K) (qb W1) σ K1 Q1)
        (fun E E' K1 Q1 Q2 ⟨B1, W1, wl, φ, s, S, Q', m1, m2, m3, kk⟩ hE hQ => ⟨B1, W1, fun φ' C fs s S' cls d σ H' a b c e => hE _ _ _ (wl φ' C fs s S' cls d σ H' a b c e), φ, s, S, Q', m1, m2, m3, fun φ' d S' v H' a b c e => hQ _ _ (kk φ' d S' v H' a b c e)⟩)
        (fun W pn xe p1 p2 tk => pe_ask (t := fun E σ H Q => ∃ (B1 : Bs) (W1 : WD), WL X.K B1 W1 (fun cls d _ H => E cls d H) ∧ UP X.K B1 (rD X.K) (qb W1) σ H Q) I1 L ho hun hnf (hbind _ _ _ _ _) tk room' (fun A outer s2 H2 E room2 => ⟨fun pins2 s3 σ3 H3 Q3 I3 ⟨B1, W1, wl, z⟩ => (hbody A outer _ _ E fl cl B1 W1 room2 wl).run pins2 s3 σ3 H3 Q3 I3 z⟩) hNg hva hd hcd) hco (h H1 eN T1)
      exact ⟨t', ht'.nox, hq'⟩
  refine codeAny_mono whole fun r s2 hq => ?_
  match r, hq with
  | .error e, hq => exact (show False from hq).elim
  | .ok (.ret u), hq => exact I1.after hq
  | .ok .next, hq => exact hq.elim
  | .ok .brk, hq => exact hq.elim
  | .ok .cont, hq => exact hq.elim⟩
/-- what the exceptions that leave a lambda's body are taken by -/
theorem takes_lam {A : Around} {outer : List Env} {s : Shared} {H : Hp} {E : XK} {scope : Scope} {f c' : Addr} : Takes (LamX.lamCx X A outer s H E scope f c') (fun cls d _ H => E cls d H) := takes_of rfl rfl rfl rfl
/-- the body of why -/
theorem why_asks {Ng : List Str} {x a e t w' q : Str} {sg : Scope} {g CS : Addr} {cdg : Value} {j1 j2 : Nat} {p1 p2 p3 p4 p5 p6 p7 p8 p9 p10 p11 p12 p13 p14 p15 p16 p17 p18 p19 p20 p21 : Pos} {kt}
    (hNg : Ng = [a, t, w', e]) (nd : Ng.Nodup) (la : sg.names.lookup a = some .local) (lt : sg.names.lookup t = some .local) (lw : sg.names.lookup w' = some .local) (le : sg.names.lookup e = some .local)
    (dt : (t == ("__debug__" : Str)) = false) (dw : (w' == ("__debug__" : Str)) = false) (de : (e == ("__debug__" : Str)) = false) (ct : (t == ("__classdict__" : Str)) = false) (cw : (w' == ("__classdict__" : Str)) = false) (ce : (e == ("__classdict__" : Str)) = false)
    (hge : sg.names.lookup ("LimeError" : Str) = some .globalImplicit) (hme : X.mg "LimeError" = some (.ref CS)) :
    Asks X Ng x sg g cdg [.Assign [.Name t p1] (.Constant .none j1 p2) p3, .Assign [.Name w' p4] (.Constant (.str "") j2 p5) p6,
      .Try [.Assign [.Name t p7] (.Call (.Name a p8) [] [] p9) p10] [.ExceptHandler (some (.Name "LimeError" p11)) (some e) [.Assign [.Name w' p12] (.Attribute (.Name e p13) "called" p14) p15] p16] [] [] p17,
      .Return (some (.Tuple [.Name t p18, .Name w' p19] kt p20)) p21] a q (ttWhy X.K CS) := by
  subst hNg
  intro fl cl s H Q tl mono act hc h
  refine ⟨_, pss_cons (ps_set (i := 1) nd rfl (.inl lt) pe_non) (pss_cons (ps_set (i := 2) nd rfl (.inl lw) pe_str) (pss_cons
    (ps_try_as (X := (cxOf C8.CX0 X.prog X.w X.K X.mg X.base [a, t, w', e] x sg g cdg X.A X.stack s H C8.E0).nox) (c := .ref CS) (i := 3)
      (tb := fun W D σ H => σ[0]? = some (some (.ref fl)) ∧ H cl = some (LamX.CodeO cl q) ∧ tl (WE W σ) H fun v H' => D.nx (σ.set 1 (some v)) H')
      (ts := fun b cls d => tAsg (fun σ H1 Q => ∃ v, σ[3]? = some (some v) ∧ v = .ref b ∧ ∃ (C dd : Addr) (fs : List (Str × V)) (u : V), cls = .ref C ∧ XfC X.K C ∧ PySem.W.findIn X.K (.ref C) "called" = some none ∧ d = some dd ∧ H1 dd = some (.xd fs) ∧ fs.lookup ("called" : Str) = some u ∧ Q u H1) (gName 2))
      rfl rfl nd rfl le ⟨hge, by decide, .inl hme⟩ LamX.takes0 (fun W pn xe tk _ => ?_) (fun b oe cls d pn hz hf => ?_))
    (pss_one (ps_ret (pe_tup (pa_cons (pe_var (i := 1) rfl (.inl lt) dt ct) (pa_cons (pe_var (i := 2) rfl (.inl lw) dw cw) pa_nil))))))), ?_⟩
  · refine pss_one (PS.imp (ps_set (i := 1) nd rfl (.inl lt) (act W pn xe p8 p9 tk)) ?_)
    rintro D σ H' ⟨h1, h2, h3⟩
    exact ⟨h1, h2, h3⟩
  · exact pss_one (ps_set (i := 2) nd rfl (.inl lw) (pe_xfA hz hf (pe_var (i := 3) rfl (.inl le) de ce)))
  · refine ⟨rfl, hc, ?_⟩
    refine mono _ _ _ _ _ h ?_ ?_
    · rintro cls d H2 ⟨h1, C, dd, fs, v, rfl, h2, h3, rfl, h4, h5, h6⟩
      exact ⟨true, h1, (fun _ a _ => ⟨.ref a, rfl, rfl, C, dd, fs, v, rfl, h2, h3, rfl, h4, h5, ⟨.non, rfl, v, rfl, (by show (2:Nat) ≤ sizeLine; decide), h6⟩⟩), (fun h => by cases h)⟩
    · intro v H2 h1
      exact ⟨v, rfl, .str "", rfl, (by show (2:Nat) ≤ sizeLine; decide), h1⟩
end
end LC

set_option Elab.async false
set_option linter.all false
set_option maxRecDepth 100000
set_option maxHeartbeats 5000000
/-! LD10: the __init__ of exceptions. -/
namespace LC
open PySem PySem.Spec
open PyProof.Rows L2
section
variable {P : Program} {w : World} {K : PySem.W.Frag} {mg : Str → Option Value} {base : Heap} {q : Str} {st : Stmt} {f : Addr} {fd : FuncData} {p1 p2 p3 p4 p5 p6 p7 p8 p9 p10 p11 p12 p13 : Pos}
theorem passN {X : Cx} : Passes (L2.CX X.prog X.w) X (fun _ _ _ => False) := fun _ _ _ _ _ _ _ ⟨_, _, _, _, _, _, _, _, _, _, _, _, h⟩ => h.elim
/-- C.m(..) is read as such at these positions -/
def McOk (o : Expr) (m : Str) (es : List Expr) (p2 p5 : Pos) : Prop := ∃ pl : Env → Sem Bool, ∀ env : Env, eval (.Call (.Attribute o m p2) es [] p5) env = (do
      let ov ← eval o env
      standAt p2.atName
      let (f, first) ← holding [ov] (getMethod ov m (pl env))
      callWith p5 f first (backTo p5 (starEach es env)) (backToKw p5 (keywordEach [] env)))
/-- the base's own -/
theorem ok_lime (F : Fun K "__init__" q st f fd) (Sc : FnScope ["self", "called"] ["self", "called"] (defScope st))
    (hb : defBody st = [.Expr (.Call (.Attribute (.Name "ValueError" p1) "__init__" p2) [.Name "self" p3, .Name "called" p4] [] p5) p6, .Assign [.Attribute (.Name "self" p7) "called" p8] (.Name "called" p9) p10])
    (l1 : (defScope st).names.lookup ("self" : Str) = some .local) (l2 : (defScope st).names.lookup ("called" : Str) = some .local) (l3 : (defScope st).names.lookup ("ValueError" : Str) = some .globalImplicit) (hm : mg "ValueError" = none)
    (hc : McOk (.Name "ValueError" p1) "__init__" [.Name "self" p3, .Name "called" p4] p2 p5) (vV : PySem.W.findCls K (.type "ValueError") (.type "type") "__init__" = some (.val (.builtin "ValueError.__init__"))) : FnOk P w K mg base (L2.CX P w) 1 f fd ["self", "called"] (spX0 K) := by
  refine F.okX Sc (fun vs H Q E ⟨a, C, y, h, _⟩ => by subst h; rfl) fun cdv A outer s H vs Q E hr ⟨a, C, y, hv, T, hno, ha, k⟩ => ?_
  subst hv
  rw [hb]
  obtain ⟨pl, hc⟩ := hc
  refine ⟨_, pss_cons (ps_expr (pe_veinit l3 hm vV (pa_cons (pe_var (i := 0) rfl (.inl l1) (by decide) (by decide)) (pa_cons (pe_var (i := 1) rfl (.inl l2) (by decide) (by decide)) pa_nil)) (hc _)) rfl)
    (pss_one (ps_ost (pe_var (i := 0) rfl (.inl l1) (by decide) (by decide)) (pe_var (i := 1) rfl (.inl l2) (by decide) (by decide)))), ?_⟩
  refine ⟨.ref a, rfl, y, rfl, a, C, [y], rfl, (by show (1:Nat) ≤ 1000; decide), T, ha, y, rfl, .ref a, rfl, a, C, rfl, T, hno, .inl ⟨ha, fun d hd hne => ?_⟩⟩
  exact k d hd hne
end
section
variable {P : Program} {w : World} {K : PySem.W.Frag} {mg : Str → Option Value} {base : Heap} {q wd m n : Str} {st : Stmt} {f fB C B : Addr} {mc : Value} {fd fdB : FuncData} {j : Nat} {p1 p2 p3 p4 p5 p6 p7 p8 p9 p10 p11 p12 p13 p14 : Pos}
/-- what a class of the kind has -/
structure XcOk (K : PySem.W.Frag) (mg : Str → Option Value) (B fB : Addr) (fdB : FuncData) (mc : Value) : Prop where
  gB : mg "LimeError" = some (.ref B)
  rB : ClX.CRead K B mc
  iB : PySem.W.findCls K (.ref B) mc "__init__" = some (.val (.ref fB))
  kB : PySem.W.keepIn K (.ref fB) = true
  bB : Binds K fdB ["self", "called"] []
abbrev sup (wd : Str) (j : Nat) (p1 p2 p3 p4 p5 p6 : Pos) : Stmt := .Expr (.Call (.Attribute (.Name "LimeError" p1) "__init__" p2) [.Name "self" p3, .Constant (.str wd) j p4] [] p5) p6
theorem ok_exc0 (F : Fun K "__init__" q st f fd) (Sc : FnScope ["self"] ["self"] (defScope st)) (hb : defBody st = [sup wd j p1 p2 p3 p4 p5 p6]) (hc : McOk (.Name "LimeError" p1) "__init__" [.Name "self" p3, .Constant (.str wd) j p4] p2 p5)
    (l1 : (defScope st).names.lookup ("self" : Str) = some .local) (l3 : (defScope st).names.lookup ("LimeError" : Str) = some .globalImplicit) (G : XcOk K mg B fB fdB mc) (FB : FnOk P w K mg base (L2.CX P w) 1 fB fdB ["self", "called"] (spX0 K))
    (T : OexC K C) (nc : PySem.W.findIn K (.ref C) "called" = some none) : FnOk P w K mg base (L2.CX P w) 2 f fd ["self"] (spX C 0 fun _ => [("called", .str wd)]) := by
  refine F.okX Sc (fun vs H Q E ⟨a, us, h, hl, _⟩ => by subst h; simp [hl]) fun cdv A outer s H vs Q E hr ⟨a, us, hv, hl, ha, k⟩ => ?_
  subst hv
  rw [hb]
  obtain ⟨pl, hc⟩ := hc
  obtain rfl : us = [] := List.length_eq_zero_iff.mp hl
  refine ⟨_, pss_one (ps_expr (pe_clsm l3 G.gB G.rB G.iB FB G.kB hr G.bB passN (pa_cons (pe_var (i := 0) rfl (.inl l1) (by decide) (by decide)) (pa_cons pe_str pa_nil)) (ht := hc _)) rfl), ?_⟩
  refine ⟨.ref a, rfl, a, C, .str wd, rfl, T, nc, ha, fun d hd hne => ?_⟩
  exact k d _ hd hne upd_same (by rw [upd_ne hne, upd_same]) fun b h1 h2 => by rw [upd_ne h1, upd_ne h2]
/-- with one field that has a default -/
theorem ok_exc1d {dvs : List V} (F : L2.FunD K "__init__" q (defArgs st) (defBody st) (defScope st) dvs [] f fd) (Sc : FnScope ["self", m] ["self", m] (defScope st)) (hb : defBody st = [sup wd j p1 p2 p3 p4 p5 p6, .Assign [.Attribute (.Name "self" p7) m p8] (.Name m p9) p10]) (hc : McOk (.Name "LimeError" p1) "__init__" [.Name "self" p3, .Constant (.str wd) j p4] p2 p5)
    (l1 : (defScope st).names.lookup ("self" : Str) = some .local) (l2 : (defScope st).names.lookup m = some .local) (l3 : (defScope st).names.lookup ("LimeError" : Str) = some .globalImplicit) (G : XcOk K mg B fB fdB mc) (FB : FnOk P w K mg base (L2.CX P w) 1 fB fdB ["self", "called"] (spX0 K))
    (T : OexC K C) (nc : PySem.W.findIn K (.ref C) "called" = some none) (nm : PySem.W.findIn K (.ref C) m = some none) (dm : (m == ("__debug__" : Str)) = false) (cm : (m == ("__classdict__" : Str)) = false) : FnOk P w K mg base (L2.CX P w) 2 f fd ["self", m] (spX C 1 fun us => us.map (fun x => (m, x)) ++ [(("called" : Str), V.str wd)]) := by
  refine L2.FunD.ok F Sc (fun vs H Q E ⟨a, us, h, hl, _⟩ => by subst h; simp [hl]) fun cdv A outer s H vs Q E hr ⟨a, us, hv, hl, ha, k⟩ => ?_
  subst hv
  rw [hb]
  obtain ⟨pl, hc⟩ := hc
  obtain ⟨x, rfl⟩ : ∃ x, us = [x] := List.length_eq_one_iff.mp hl
  refine ⟨_, pss_cons (ps_expr (pe_clsm l3 G.gB G.rB G.iB FB G.kB hr G.bB passN (pa_cons (pe_var (i := 0) rfl (.inl l1) (by decide) (by decide)) (pa_cons pe_str pa_nil)) (ht := hc _)) rfl)
    (pss_one (ps_ost (pe_var (i := 0) rfl (.inl l1) (by decide) (by decide)) (pe_var (i := 1) rfl (.inl l2) dm cm))), ?_⟩
  refine ⟨.ref a, rfl, a, C, .str wd, rfl, T, nc, ha, fun d hd hne => ?_⟩
  refine ⟨x, rfl, .ref a, rfl, a, C, rfl, T, nm, .inr ⟨d, _, upd_same, by rw [upd_ne hne, upd_same], by show (1:Nat) ≤ 900; decide, ?_⟩⟩
  refine k d _ hd hne (by rw [upd_ne (Ne.symm hne), upd_same]) upd_same fun b h1 h2 => by rw [upd_ne h2, upd_ne h1, upd_ne h2]
end
end LC

set_option Elab.async false
set_option linter.all false
set_option maxRecDepth 100000
set_option maxHeartbeats 5000000
/-! LD11: further words; the law's own def; the end. -/
namespace LC
open PySem PySem.Spec
open PyProof.Rows L2
section
variable {prog : Program}
variable {w : World} {A : Around}
variable {E : Value → Shared → Prop} {s : Shared}
end
section
variable {X : Cx} {B : Bs}
theorem PI.or {X : Cx} {tg e : Expr} {t t' : TI} (h : PI X tg e t) (h' : PI X tg e t') : PI X tg e (fun σ H Q => t σ H Q ∨ t' σ H Q) := ⟨fun pins s σ H Q I w => w.elim (h.run pins s σ H Q I) (h'.run pins s σ H Q I)⟩
/-- a list's or a tuple's items -/
def qiAny (qe : QE) : QI := fun s S R => (qiList qe s S R) ∨ (qiTup qe s S R)
theorem li_any {tg e : Expr} {qe : QE} (he : LE X B e qe) : LI X B tg e (qiAny qe) := PI.imp (PI.or (li_list he) (li_tup he)) fun σ H R ⟨φ, s, S, R', hr, ev, q, k⟩ => by
  rcases q with q | q
  · exact .inl ⟨φ, s, S, R', hr, ev, q, k⟩
  · exact .inr ⟨φ, s, S, R', hr, ev, q, k⟩
/-- a text's signs -/
def signs (x : Str) : List D := x.cps.toList.map fun c => D.str ⟨#[c]⟩
def qiStr (qe : QE) : QI := fun s S R => qe s S fun d S1 => match d with
  | .str x => R (signs x) (fun _ => True) S1
  | _ => False
theorem li_str {tg e : Expr} {qe : QE} (he : LE X B e qe) : LI X B tg e (qiStr qe) := PI.imp (pi_str he) fun σ H R ⟨φ, s, S, R', hr, ev, q, k⟩ =>
  ⟨φ, s, S, _, hr, ev, q, fun φ1 d S1 v H1 e1 hr1 r1 q1 => by
    split at q1
    · rename_i x
      cases r1
      have hl : (signs x).length = x.cps.size := by unfold signs; simp
      refine ⟨x, rfl, k _ _ _ _ _ _ e1 hr1 (fun i φ2 H2 S2 e2 hr2 hk => ?_) q1⟩
      refine ⟨fun hi => by rw [hl] at hi; exact hi, fun hi => by rw [hl] at hi; exact Nat.le_of_eq hi.symm, fun y H' d y' hd => ?_⟩
      obtain ⟨rfl, c, h1, rfl⟩ := y'
      refine ⟨φ2, Ext.refl, hr2, ?_⟩
      unfold signs at hd
      rw [List.getElem?_map] at hd
      have h1' : x.cps.toList[i]? = some c := by simpa using h1
      rw [h1'] at hd
      cases hd
      rfl
    · exact q1.elim⟩
/-! ### a def that is known -/
structure Fx (P : Program) (w : World) (K : PySem.W.Frag) (mg : Str → Option Value) (base : Heap) (k : Nat) (f : Addr) (fd : FuncData) (x : Str) (ps : List Str) (sp : SpD) : Prop where
  ok : FnOk P w K mg base (L2.CX P w) k f fd ps (upF K sp)
  gm : mg x = some (.ref f)
  kp : PySem.W.keepIn K (Value.ref f) = true
  bi : Binds K fd ps []
theorem le_fx {k : Nat} {f : Addr} {fd : FuncData} {x : Str} {ps : List Str} {sp : SpD} {W : WX} {W' : WD} {e : Expr} {es : List Expr} {p pos : Pos} {q : QA} (F : Fx X.prog X.w X.K X.mg X.base k f fd x ps sp) (hr : Room k X.A) (tk : Takes X W) (wl : WL X.K B W' W) (ha : LA X B (e :: es) q) (hg : Gl X x := by rfl)
    (hdb : (x == ("__debug__" : Str)) = false := by decide) (he : starEach (e :: es) X.env = (false, eval e X.env) :: starEach es X.env := by rfl) (hpl : (backTo pos (starEach es X.env)).any (·.1) = false := by rfl) : LE X B (.Call (.Name x p) (e :: es) [] pos) (qCall sp [] W' q) :=
  le_call F.ok hr hg F.gm F.kp F.bi .nil RVc.nil tk wl ha hdb he hpl
end
/-- a promise over the tables T0 -/
def upFT (K : PySem.W.Frag) (T0 : List (Addr × Str)) (sp : SpD) : Sp := fun vs H Q E => ∃ φ ds S Q' E', Rel K φ H S ∧ RVs K φ H ds vs ∧ LamX.Tabs T0 H ∧ sp ds S Q' E' ∧ (∀ φ' d S' v H', Ext K φ φ' H H' → Rel K φ' H' S' → LamX.Tabs T0 H' → RV K φ' H' d v → Q' d S' → Q v H') ∧
  (∀ φ' C fs S' cls d H', Ext K φ φ' H H' → Rel K φ' H' S' → LamX.Tabs T0 H' → XRel K φ' H' C fs cls d → E' C fs S' → E cls d H')
/-- a def whose code object stands at c -/
structure FunC (K : PySem.W.Frag) (x qual : Str) (st : Stmt) (f : Addr) (fd : FuncData) (c : Addr) : Prop where
  ex : ∃ (oc : Value) (od : Option Addr) (kV doc pm : Value) (an : Option Addr) (ct : Value) (osl : Array (Option Value)),
    fd = PySem.W.fnOf x qual (defArgs st) (defBody st) (defScope st) .none kV doc pm an (.ref c) ct ∧ K.lookup f = some ⟨oc, od, .func fd, osl⟩ ∧ PySem.W.codeIn K (.ref c) qual = true
section
variable {P : Program} {w : World} {K : PySem.W.Frag} {mg : Str → Option Value} {base : Heap} {T0 : List (Addr × Str)}
theorem FunC.ok {x qual : Str} {st : Stmt} {f c : Addr} {fd : FuncData} {N ps : List Str} {k : Nat} {sp : SpD} {ok : OkG} (cv : Conv sp ok) (F : FunC K x qual st f fd c) (Sc : FnScope N ps (defScope st)) (len : ∀ ds S Q E, sp ds S Q E → ds.length = ps.length)
    (hbody : ∀ (A : Around) (outer : List Env) (s : Shared) (H : Hp) (E : XK) (φ : Ph) (W' : WD), Room k (A.deeper (envOfC qual (defScope st) s.heap.objs.size f (.ref c))) → WL K ⟨φ, H, T0⟩ W' (fun cls d _ H => E cls d H) →
      ∃ q, LSs (cxOf (L2.CX P w) P w K mg base N qual (defScope st) f (.ref c) A outer s H E) ⟨φ, H, T0⟩ (defBody st) q ∧
        ∀ ds S R X n, ok ds S R X n → W' = (fun C fs _ S' => X C fs S') → q { nx := fun _ S' => R .non S', rt := R, n := n } (startD N ds) S) :
    FnOk P w K mg base (L2.CX P w) (k + 1) f fd ps (upFT K T0 sp) := by
  obtain ⟨oc, od, kV, doc, pm, an, ct, osl, rfl, lk, hcd⟩ := F.ex
  refine fn_of lk hcd Sc (fun vs H Q E ⟨φ, ds, S, Q', E', r, rs, tt, h, _⟩ => by rw [rs.len]; exact len _ _ _ _ h) fun A outer s H vs Q E hr ⟨φ, ds, S', Q', E', r, rs, tt, h, kq, ke⟩ => ?_
  have lts := rs.lt
  rw [r.len] at lts
  obtain ⟨R, Xe, hok, cR, cX⟩ := cv _ _ _ _ h lts
  obtain ⟨q, hq, hh⟩ := hbody A outer s H E φ (fun C fs _ S1 => Xe C fs S1) hr (fun φ' C fs s' S1 cls d σ H' hr' ev xr x => ends_x r ke hr' xr (cX _ _ _ x))
  refine ⟨_, hq, φ, startD N ds, S', { nx := fun _ S1 => R .non S1, rt := R, n := S'.length }, ⟨Ext.refl, r, tt⟩, start_ok rs, hh ds S' R Xe _ hok rfl, φ, H, Ext.refl, ?_⟩
  exact ⟨by show φ.own.length ≤ S'.length; rw [r.len]; exact Nat.le_refl _, by show φ.own.length ≤ S'.length; rw [r.len]; exact Nat.le_refl _, fun φ' H' S1 s' σ' e hr' ev x => ends_r r kq hr' (show RV K φ' H' .non .non from rfl) (cR _ _ x), fun φ' H' S1 d v e hr' rv x => ends_r r kq hr' rv (cR _ _ x), fun _ _ _ _ _ _ _ _ h => h.elim, fun _ _ _ _ _ _ _ _ h => h.elim⟩
/-- what the law is handed: the script -/
def spLaw : SpD := fun ds S Q _ => ∃ (ns : List Int), ds = [.scr ns] ∧ S = [] ∧ ns.length ≤ 63 ∧ (∀ z ∈ ns, Builtin.Int.intBits z ≤ 1048576) ∧ ∀ S', Q (.bl true) S'
theorem law_at {ns : List Int} {H : Hp} {a : Addr} (hl : ns.length ≤ 63) (hb : ∀ z ∈ ns, Builtin.Int.intBits z ≤ 1048576) (t : LamX.Tabs T0 H) (h : SqL K H a (ns.map V.int)) : upFT K T0 spLaw [.ref a] H (fun v _ => v = .bl true) fun _ _ _ => False :=
  ⟨⟨[], []⟩, [.scr ns], [], fun d _ => d = .bl true, fun _ _ _ => False, ⟨List.nodup_nil, fun _ h => (List.not_mem_nil h).elim, fun _ h => (List.not_mem_nil h).elim, rfl, fun i o h => (nomatch (show (none : Option O) = some o from h))⟩,
    ⟨.ref a, [], rfl, ⟨a, rfl, h.imp (fun z => ⟨⟨List.not_mem_nil, List.not_mem_nil⟩, z⟩) id⟩, rfl⟩, t, ⟨ns, rfl, rfl, hl, hb, fun _ => rfl⟩, fun φ' d S' v H' _ _ _ rv e => by subst e; exact rv, fun _ _ _ _ _ _ _ _ _ _ _ z => z⟩
end
end LC

set_option Elab.async false
set_option linter.all false
set_option maxRecDepth 100000
set_option maxHeartbeats 5000000
/-! LD12: len, str, repr, ==, isinstance of own classes. -/
namespace LC
open PySem PySem.Spec
open PyProof.Rows L2
section
variable {X : Cx} {B : Bs} {k : Nat} {f C : Addr} {fd : FuncData} {ps : List Str} {sp : Sp} {spp : SpP}
theorem run_own {A : Around} {pins : List (Addr × Obj)} {σ : L2.St} {H : Hp} {s : Shared} {us : List Value} {vs : List V} {Qv : VK} (F : FnOk X.prog X.w X.K X.mg X.base (L2.CX X.prog X.w) k f fd ps sp) (bd : Binds X.K fd ps []) (rm : Room k A) (fr : A.frames = X.A.frames) (I : Inv X pins σ H s) (r : Vals vs us)
    (h : sp vs H Qv (fun _ _ _ => False)) : wpAny (model X.prog X.w) A (call (.ref f) us) (fun u s' => ∃ v H', Inv X pins σ H' s' ∧ RelV v u ∧ Qv v H') X.xe s := by
  have e := I.env0
  have e0 : Env0 X.prog X.w X.K X.mg X.base A X.stack s H := ⟨by rw [fr]; exact e.frames, e.mod, e.bs, e.bsz, e.funs, e.frf, e.hok, e.bare⟩
  have hl : us.length = ps.length := r.length.symm.trans (F.len _ _ _ _ h)
  refine wpAny_call (codeAny_mono (F.run A X.stack s H ⟨us, []⟩ us vs Qv (fun _ _ _ => False) rm e0 (by
    have := bd s us I.kIn (by simpa using hl)
    simpa using this) r h) fun fl s' z => ?_)
  match fl, z with
  | .error ex, ⟨_, _, _, _, _, _, _, _, _, _, _, _, hn⟩ => exact hn.elim
  | .ok (.ret u), z =>
    obtain ⟨v, H', J, rv, q⟩ := I.after z
    exact ⟨v, H', J, rv, q⟩
  | .ok .next, z => exact False.elim z
  | .ok .brk, z => exact False.elim z
  | .ok .cont, z => exact False.elim z
/-- an instance as it lies -/
theorem inst_at {pins : List (Addr × Obj)} {σ : L2.St} {H : Hp} {s : Shared} {a dx : Addr} {fs : List (Str × V)} (I : Inv X pins σ H s) (e : H a = some (.ins C dx fs)) : ∃ ox od, PySem.W.InstAt s.heap a ox C od := by
  obtain ⟨mA, J, _⟩ := ins_get I.hok e
  obtain ⟨od, J, _⟩ := J.look
  exact ⟨_, od, J⟩
def tOwn (C : Addr) (sp : Sp) (back : V → Hp → VK → Prop) : List V → Hp → VK → Prop := fun vs H Q => ∃ a dx fs, vs = [.ref a] ∧ H a = some (.ins C dx fs) ∧ sp vs H (fun v H' => back v H' Q) (fun _ _ _ => False)
theorem call_lenO (F : FnOk X.prog X.w X.K X.mg X.base (L2.CX X.prog X.w) k f fd ps sp) (bd : Binds X.K fd ps []) (rm : Room (k + 1) X.A) (hs : PySem.W.findIn X.K (.ref C) "__len__" = some (some (.ref f))) (hf : PySem.W.isFn X.K (.ref f) = true) :
    CallR X (.builtin "len") (tOwn C sp fun v H Q => ∃ n, v = .int n ∧ (0 ≤ n ∧ n < 2 ^ 63) ∧ Q (.int n) H) := by
  rintro pins s σ H xs us Q I r ⟨a, dx, fs, rfl, e, h⟩
  cases r with
  | cons r0 rn =>
    cases rn
    cases r0
    obtain ⟨ox, od, J⟩ := inst_at I e
    obtain ⟨m, hF⟩ := I.fr
    refine PySem.W.len_K hF I.ok.mod.kin J hs hf (wpAny_mono (run_own F bd rm.in1 rfl I (.cons (show RelV (V.ref a) (.ref a) from rfl) .nil) h) (fun u s' z => ?_) fun _ _ z => z)
    obtain ⟨v, H', J', rv, n, rfl, hn, q⟩ := z
    obtain ⟨t, rfl⟩ := rv
    exact ⟨hn, .int n, H', J'.tok _, ⟨_, rfl⟩, q⟩
end

/-! ### readings -/
section
variable {X : Cx} {B : Bs} {k : Nat} {f C : Addr} {fd : FuncData} {ps : List Str} {sp : SpP}
/-- a def that is asked by such a word: it tells g's values -/
def rcOwn (C : Addr) (sp : SpP) (g : D → List O → (D → List O → Prop) → Prop) : QC := fun ds S Q => match ds with
  | [d] => Opt (insOf S d) fun p => Need (p.1 = C) (sp [d] (fun r => g r S Q) fun _ _ => False)
  | _ => False
theorem lift_own {g : D → List O → (D → List O → Prop) → Prop} {back : V → Hp → VK → Prop} (hg : ∀ {φ : Ph} {H : Hp} {S : List O} {Q' : D → List O → Prop} {Q : VK} {d : D} {v : V}, HR X.K B φ H S → Kont X.K B (rD X.K) φ H Q' Q → RV X.K φ H d v → g d S Q' → back v H Q)
    {x : List V} {H : Hp} {Q : VK} (h : upC X.K B (rcOwn C sp g) x H Q) : tOwn C (upF X.K (lp sp)) back x H Q := by
  obtain ⟨φ, S, ds, Q', hr, r, q, kk⟩ := h
  unfold rcOwn at q
  split at q
  · obtain ⟨v, w', rfl, r1, r2⟩ := r
    cases r2
    obtain ⟨⟨C', fs⟩, h1, h2, q2⟩ := Opt.get q
    have h2' : C' = C := h2
    subst h2'
    obtain ⟨a, dx, gs, rfl, h3, h4⟩ := hr.ins h1 r1
    exact ⟨a, dx, gs, rfl, h3, φ, [_], S, fun d S' => S' = S ∧ g d S Q', fun _ _ _ => False, B.T, hr.rel, ⟨_, _, rfl, r1, rfl⟩, hr.tab, by
      have e : (fun d => S = S ∧ g d S Q') = fun d => g d S Q' := funext fun d => propext ⟨fun z => z.2, fun z => ⟨rfl, z⟩⟩
      show sp _ (fun d => S = S ∧ g d S Q') _
      rw [e]; exact q2, fun φ' d S' v H' e1 r1 t1 rv ⟨e2, q3⟩ => by subst e2; exact hg (hr.mono e1 r1 t1) (kk.ext e1) rv q3, fun _ _ _ _ _ _ _ _ _ _ _ z => z⟩
  · exact q.elim
def gLen : D → List O → (D → List O → Prop) → Prop := fun r S Q => match r with
  | .int n => Need (0 ≤ n ∧ n < 2 ^ 63) (Q (.int n) S)
  | _ => False
/-- what is known of a def that stands in a class -/
structure Mx (P : Program) (w : World) (K : PySem.W.Frag) (mg : Str → Option Value) (base : Heap) (k : Nat) (C : Addr) (m : Str) (f : Addr) (fd : FuncData) (ps : List Str) (sp : SpD) (dvs : List V) (dds : List D) : Prop where
  ok : FnOk P w K mg base (L2.CX P w) k f fd ps (upF K sp)
  cl : Cls K C
  mt : Meth K C m f
  bi : ∃ ds, Vals dvs ds ∧ Binds K fd ps ds
  dd : RVc K dds dvs
theorem Mx.b0 {P : Program} {w : World} {K : PySem.W.Frag} {mg : Str → Option Value} {base : Heap} {C : Addr} {m : Str} {sp : SpD} (M : Mx P w K mg base k C m f fd ps sp [] []) : Binds K fd ps [] := by
  obtain ⟨ds, v, b⟩ := M.bi
  cases v
  exact b
theorem cc_lenO (M : Mx X.prog X.w X.K X.mg X.base k C "__len__" f fd ps (lp sp) [] []) (rm : Room (k + 1) X.A) : CallR X (.builtin "len") (upC X.K B (rcOwn C sp gLen)) := CallR.imp (call_lenO M.ok M.b0 rm M.mt.at_ M.mt.fn) fun x H Q h => lift_own (g := gLen) (fun {φ H S Q' Q d v} hr kk rv q => by
  unfold gLen at q
  split at q
  · cases rv
    exact ⟨_, rfl, q.c, kk.here (d := D.int _) hr rfl q.q⟩
  · exact q.elim) h
end
end LC

set_option Elab.async false
set_option linter.all false
set_option maxRecDepth 100000
set_option maxHeartbeats 5000000
/-! LD13: what a printed text asks. -/
namespace LC
open PySem PySem.Spec
open PyProof.Rows L2
/-- a name of a module that holds plain data -/
def GlD (K : PySem.W.Frag) (mg : Str → Option Value) (x : Str) (d : D) : Prop := ∃ v u, mg x = some u ∧ RelV v u ∧ ∀ φ H, RV K φ H d v
theorem GlD.le {X : Cx} {B : Bs} {x : Str} {d : D} {pos : Pos} (h : GlD X.K X.mg x d) (hg : Gl X x) (hd : (x == ("__debug__" : Str)) = false := by decide) : LE X B (.Name x pos) (qC d) :=
  let ⟨_, _, h1, h2, h3⟩ := h
  le_glob hg h1 h2 h3 hd
theorem GlD.int {K : PySem.W.Frag} {mg : Str → Option Value} {x : Str} {i : Int} {t : Tok} (h : mg x = some (.int i t)) : GlD K mg x (.int i) := ⟨.int i, _, h, ⟨t, rfl⟩, fun _ _ => rfl⟩
theorem GlD.str {K : PySem.W.Frag} {mg : Str → Option Value} {x : Str} {i : Str} {t : Tok} (h : mg x = some (.str i t)) : GlD K mg x (.str i) := ⟨.str i, _, h, ⟨t, rfl⟩, fun _ _ => rfl⟩
def fl0 (w : Str) : List V → List (Str × V) := fun _ => [("called", .str w)]
def fd0 (w : Str) : List D → List (Str × D) := fun _ => [("called", .str w)]
def fl1 (w m : Str) : List V → List (Str × V) := fun us => us.map (fun x => (m, x)) ++ [(("called" : Str), V.str w)]
def fd1 (w m : Str) : List D → List (Str × D) := fun us => us.map (fun x => (m, x)) ++ [(("called" : Str), D.str w)]
theorem fl0_ok {K : PySem.W.Frag} {w : Str} : FlD K (fl0 w) (fd0 w) := fun _ _ _ _ _ => ⟨_, _, rfl, rfl, rfl⟩
theorem fl1_ok {K : PySem.W.Frag} {w m : Str} : FlD K (fl1 w m) (fd1 w m) := fun φ H ds => by
  induction ds with
  | nil => intro us r; cases r; exact ⟨_, _, rfl, rfl, rfl⟩
  | cons d ds ih =>
    rintro us ⟨v, ws, rfl, r1, r2⟩
    exact ⟨v, _, rfl, r1, ih ws r2⟩
/-- a class of exceptions -/
structure XcD (P : Program) (w : World) (K : PySem.W.Frag) (mg : Str → Option Value) (base : Heap) (x : Str) (C fI : Addr) (fd : FuncData) (ps : List Str) (n : Nat) (fl : List V → List (Str × V)) (flD : List D → List (Str × D)) (dvs : List V) (dds : List D) : Prop where
  hfl : FlD K fl flD
  T : OexC K C
  xf : XfC K C
  iC : PySem.W.findIn K (.ref C) "__init__" = some (some (.ref fI))
  tI : PySem.W.typeIn K (.ref fI) = some (.type "function")
  ok : FnOk P w K mg base (L2.CX P w) 2 fI fd ps (spX C n fl)
  bi : ∃ ds, Vals dvs ds ∧ Binds K fd ps ds
  dd : RVc K dds dvs
  gm : mg x = some (.ref C)
  nc : PySem.W.findIn K (.ref C) "called" = some none
section
variable {X : Cx} {B : Bs} {x : Str} {C fI : Addr} {fd : FuncData} {ps : List Str} {dvs : List V} {dds : List D} {n : Nat} {fl : List V → List (Str × V)} {flD : List D → List (Str × D)} {W : WX} {W' : WD} {e : Expr} {es : List Expr} {q : QA} {p pos rpos : Pos}
theorem ls_rz0 (Z : XcD X.prog X.w X.K X.mg X.base x C fI fd ps n fl flD dvs dds) (hc : X.calm = true) (hr : Room 3 X.A) (tk : Takes X W) (wl : WL X.K B W' W) (hg : Gl X x := by rfl)
    (hdb : (x == ("__debug__" : Str)) = false := by decide) :
    LS X B (.Raise (some (.Call (.Name x p) [] [] pos)) none rpos) (qRaise C flD n dds W' qNil) :=
  let ⟨_, vd, b⟩ := Z.bi
  ls_raise0 Z.hfl hc Z.T Z.iC Z.tI Z.ok hr b vd Z.dd tk wl passN hg Z.gm hdb
end
/-! ### defs that change nothing -/
def RtP (Q : D → Prop) (d : D) (S : List O) : Prop := ∃ d', Rs 0 S d' d ∧ Q d'
def XtP (E : XD) (C : Addr) (fs : List (Str × D)) (S : List O) : Prop := ∃ fs', fs'.map (·.1) = fs.map (·.1) ∧ RsL 0 S (fs'.map (·.2)) (fs.map (·.2)) ∧ E C fs'
theorem Rp {Q : D → Prop} {d : D} {S : List O} (q : Q d) (l : D.lt 0 d := by trivial) : RtP Q d S := ⟨d, Rs.same l, q⟩
theorem Xp {E : XD} {C : Addr} {fs : List (Str × D)} {S : List O} (q : E C fs) (l : D.lts 0 (fs.map (·.2)) := by exact ⟨trivial, trivial⟩) : XtP E C fs S := ⟨fs, rfl, RsL.same l, q⟩
def RtW (Q : D → Prop) (d : D) (S : List O) : Prop := match S with
  | .drw :: _ => ∃ d', Rs 1 S d' d ∧ Q d'
  | _ => False
def XtW (E : XD) (C : Addr) (fs : List (Str × D)) (S : List O) : Prop := match S with
  | .drw :: _ => ∃ fs', fs'.map (·.1) = fs.map (·.1) ∧ RsL 1 S (fs'.map (·.2)) (fs.map (·.2)) ∧ E C fs'
  | _ => False
theorem Rw {Q : D → Prop} {d : D} {S : List O} (q : Q d) (l : D.lt 1 d := by trivial) : RtW Q d (.drw :: S) := ⟨d, Rs.same l, q⟩
def RtI (C : Addr) (Q : List (Str × D) → Prop) (d : D) (S : List O) : Prop := match S with
  | .ins C' fs :: _ => d = .non ∧ C' = C ∧ ∃ fs', fs'.map (·.1) = fs.map (·.1) ∧ RsL 1 S (fs'.map (·.2)) (fs.map (·.2)) ∧ Q fs'
  | _ => False
def XtI (E : XD) (C : Addr) (fs : List (Str × D)) (S : List O) : Prop := match S with
  | _ :: _ => ∃ fs', fs'.map (·.1) = fs.map (·.1) ∧ RsL 1 S (fs'.map (·.2)) (fs.map (·.2)) ∧ E C fs'
  | _ => False
def okP (sp : SpP) : OkG := fun ds S R X n => ∃ Q E, sp ds Q E ∧ S = [] ∧ R = RtP Q ∧ X = XtP E ∧ n = 0
def okW (sp : SpP) : OkG := fun ds S R X n => ∃ r Q E, sp r Q E ∧ ds = .ref 0 :: r ∧ S = [.drw] ∧ R = RtW Q ∧ X = XtW E ∧ n = 1
def okI (C : Addr) (sp : SpI) : OkG := fun ds S R X n => ∃ r Q E, sp r Q E ∧ ds = .ref 0 :: r ∧ S = [.ins C []] ∧ R = RtI C Q ∧ X = XtI E ∧ n = 1
def okS (sp : SpD) : OkG := fun ds S R X n => ∃ Q E, sp ds S Q E ∧ D.lts S.length ds ∧ R = Rt S.length Q ∧ X = Xt S.length E ∧ n = S.length
theorem conv_P {sp : SpP} : Conv (at0 sp) (okP sp) := by
  rintro ds S Q' E' ⟨rfl, h⟩ _
  refine ⟨_, _, ⟨_, _, h, rfl, rfl, rfl, rfl⟩, ?_, ?_⟩
  · rintro d S' ⟨d', h1, h2⟩
    exact ⟨0, d', [], Nat.le_refl _, Nat.zero_le _, rfl, h1, h2⟩
  · rintro C fs S' ⟨fs', h1, h2, h3⟩
    exact ⟨0, fs', [], Nat.le_refl _, Nat.zero_le _, rfl, h1, h2, h3⟩
theorem conv_W {sp : SpP} : Conv (at1 sp) (okW sp) := by
  rintro ds S Q' E' ⟨r, rfl, rfl, h⟩ _
  refine ⟨_, _, ⟨_, _, _, h, rfl, rfl, rfl, rfl, rfl⟩, ?_, ?_⟩
  · intro d S' h
    unfold RtW at h
    split at h
    · obtain ⟨d', h1, h2⟩ := h
      exact ⟨1, d', [.drw], Nat.le_refl _, by simp, ⟨_, _, rfl, trivial, rfl⟩, h1, h2⟩
    · exact h.elim
  · intro C fs S' h
    unfold XtW at h
    split at h
    · obtain ⟨fs', h1, h2, h3⟩ := h
      exact ⟨1, fs', [.drw], Nat.le_refl _, by simp, ⟨_, _, rfl, trivial, rfl⟩, h1, h2, h3⟩
    · exact h.elim
theorem conv_I {C : Addr} {sp : SpI} : Conv (atI C sp) (okI C sp) := by
  rintro ds S Q' E' ⟨r, rfl, rfl, h⟩ _
  refine ⟨_, _, ⟨_, _, _, h, rfl, rfl, rfl, rfl, rfl⟩, ?_, ?_⟩
  · intro d S' h
    unfold RtI at h
    split at h
    · obtain ⟨rfl, rfl, fs', h1, h2, h3⟩ := h
      exact ⟨1, .non, [.ins _ fs'], Nat.le_refl _, by simp, ⟨_, _, rfl, ⟨rfl, h1, h2⟩, rfl⟩, rfl, h3⟩
    · exact h.elim
  · intro C fs S' h
    unfold XtI at h
    split at h
    · obtain ⟨fs', h1, h2, h3⟩ := h
      exact ⟨1, fs', [.non], Nat.le_refl _, by simp, ⟨_, _, rfl, trivial, rfl⟩, h1, h2, h3⟩
    · exact h.elim
theorem conv_S {sp : SpD} : Conv sp (okS sp) := fun ds S Q' E' h l => ⟨_, _, ⟨_, _, h, l, rfl, rfl, rfl⟩, fun _ _ h => h, fun _ _ _ h => h⟩
/-! the drawing's list itself -/
def atL (sp : SpP) : SpD := fun ds S Q E => ∃ r l, ds = .ref 0 :: r ∧ S = [.lst l] ∧ DrawL l ∧ sp r (fun d => ∀ l', DrawL l' → Q d [.lst l']) fun _ _ => False
theorem drawL0 : DrawL [.lst [], .int 0, .int 0, .int 0] := ⟨[], 0, 0, 0, rfl, by decide, by decide, by decide, by decide⟩
theorem upF_open {K : PySem.W.Frag} {sp : SpP} (hE : ∀ ds Q E, sp ds Q E → sp ds Q fun _ _ => False) {vs : List V} {H : Hp} {Q : VK} {E : XK} (h : upF K (at1 sp) vs H Q E) : upF K (atL sp) vs H Q E := by
  obtain ⟨φ, ds, S, Q', E', T, r, rs, tt, ⟨rr, rfl, rfl, h⟩, kq, ke⟩ := h
  obtain ⟨a, h1, l, vs', h2, h3, h4⟩ := r.ob 0 .drw rfl
  refine ⟨φ, _, [.lst l], fun d S1 => ∃ l', S1 = [.lst l'] ∧ DrawL l' ∧ Q' d [.drw], fun _ _ _ => False, T, ⟨r.nd, r.dj, r.hd, r.len, fun i o hi => ?_⟩, rs, tt, ⟨rr, l, rfl, rfl, h2, ?_⟩, ?_, fun _ _ _ _ _ _ _ _ _ _ _ z => z.elim⟩
  · cases i with
    | zero => cases hi; exact ⟨a, h1, vs', h3, h4⟩
    | succ i => cases hi
  · have e : (fun d => ∀ l', DrawL l' → ∃ l'', [O.lst l'] = [O.lst l''] ∧ DrawL l'' ∧ Q' d [.drw]) = fun d => Q' d [.drw] := funext fun d => propext ⟨fun z => (z _ drawL0).elim fun _ y => y.2.2, fun z l' hl => ⟨l', rfl, hl, z⟩⟩
    rw [e]
    exact hE _ _ _ h
  · rintro φ' d S1 v H' e r1 t1 rv ⟨l', rfl, hl, q⟩
    refine kq φ' d [.drw] v H' e ⟨r1.nd, r1.dj, r1.hd, r1.len, fun i o hi => ?_⟩ t1 rv q
    obtain ⟨b, g1, vs2, g2, g3⟩ := r1.ob 0 _ rfl
    cases i with
    | zero => cases hi; exact ⟨b, g1, l', vs2, hl, g2, g3⟩
    | succ i => cases hi
def okL (sp : SpP) : OkG := fun ds S R X n => ∃ r Q E l, sp r Q E ∧ ds = .ref 0 :: r ∧ S = [.lst l] ∧ DrawL l ∧ (R = fun d S' => match S' with | .lst l' :: _ => DrawL l' ∧ D.lt 0 d ∧ Q d | _ => False) ∧ (X = fun _ _ _ => False) ∧ n = 1
theorem conv_L {sp : SpP} : Conv (atL sp) (okL sp) := by
  rintro ds S Q' E' ⟨r, l, rfl, rfl, hl, h⟩ _
  refine ⟨_, _, ⟨_, _, _, _, h, rfl, rfl, hl, rfl, rfl, rfl⟩, ?_, fun _ _ _ z => z.elim⟩
  intro d S' h
  split at h
  · rename_i l' rest
    exact ⟨1, d, [.lst l'], Nat.le_refl _, by simp, ⟨_, _, rfl, RsL.same h.1.lts, rfl⟩, Rs.same (h.2.1.mono (Nat.zero_le _)), h.2.2 l' h.1⟩
  · exact h.elim
section
variable {P : Program} {w : World} {K : PySem.W.Frag} {mg : Str → Option Value} {base : Heap}
theorem fn_P {x qual : Str} {st : Stmt} {f : Addr} {fd : FuncData} {N ps : List Str} {k : Nat} {sp : SpP} (F : Fun K x qual st f fd) (S : FnScope N ps (defScope st)) (hp : ∀ ds Q E, sp ds Q E → ds.length = ps.length ∧ D.lts 0 ds) (hb : BodyG P w K mg base qual st f N k (okP sp)) : FnOk P w K mg base (L2.CX P w) (k + 1) f fd ps (upF K (lp sp)) :=
  (FunD.ok conv_P F S (fun ds S Q E h => (hp _ _ _ h.2).1) hb).imp fun vs H Q E h => upF_pure (fun ds Q E h => (hp _ _ _ h).2) h
theorem len_W {sp : SpP} {ps : List Str} (hp : ∀ ds Q E, sp ds Q E → ds.length + 1 = ps.length ∧ D.lts 0 ds) : ∀ ds S Q E, at1 sp ds S Q E → ds.length = ps.length := fun ds S Q E ⟨r, e, _, h⟩ => by rw [e]; exact (hp _ _ _ h).1
theorem fn_W {x qual : Str} {st : Stmt} {f : Addr} {fd : FuncData} {N ps : List Str} {k : Nat} {sp : SpP} (F : Fun K x qual st f fd) (S : FnScope N ps (defScope st)) (hp : ∀ ds Q E, sp ds Q E → ds.length + 1 = ps.length ∧ D.lts 0 ds) (hb : BodyG P w K mg base qual st f N k (okW sp)) : FnOk P w K mg base (L2.CX P w) (k + 1) f fd ps (upF K (ld sp)) :=
  (FunD.ok conv_W F S (len_W hp) hb).imp fun vs H Q E h => upF_draw (fun ds Q E h => (hp _ _ _ h).2) h
theorem fn_L {x qual : Str} {st : Stmt} {f : Addr} {fd : FuncData} {N ps : List Str} {k : Nat} {sp : SpP} (F : Fun K x qual st f fd) (S : FnScope N ps (defScope st)) (hp : ∀ ds Q E, sp ds Q E → ds.length + 1 = ps.length ∧ D.lts 0 ds) (hE : ∀ ds Q E, sp ds Q E → sp ds Q fun _ _ => False) (hb : BodyG P w K mg base qual st f N k (okL sp)) : FnOk P w K mg base (L2.CX P w) (k + 1) f fd ps (upF K (ld sp)) :=
  (FunD.ok conv_L F S (fun ds S Q E ⟨r, l, e, _, _, h⟩ => by rw [e]; exact (hp _ _ _ h).1) hb).imp fun vs H Q E h => upF_open hE (upF_draw (fun ds Q E h => (hp _ _ _ h).2) h)
theorem fn_I {x qual : Str} {st : Stmt} {f C : Addr} {fd : FuncData} {N ps : List Str} {k : Nat} {sp : SpI} (F : Fun K x qual st f fd) (S : FnScope N ps (defScope st)) (hp : ∀ ds Q E, sp ds Q E → ds.length + 1 = ps.length) (hb : BodyG P w K mg base qual st f N k (okI C sp)) : FnOk P w K mg base (L2.CX P w) (k + 1) f fd ps (upF K (atI C sp)) :=
  FunD.ok conv_I F S (fun ds S Q E ⟨r, e, _, h⟩ => by rw [e]; exact hp _ _ _ h) hb
theorem fn_S {x qual : Str} {st : Stmt} {f : Addr} {fd : FuncData} {N ps : List Str} {k : Nat} {sp : SpD} (F : Fun K x qual st f fd) (S : FnScope N ps (defScope st)) (hp : ∀ ds S Q E, sp ds S Q E → ds.length = ps.length) (hb : BodyG P w K mg base qual st f N k (okS sp)) : FnOk P w K mg base (L2.CX P w) (k + 1) f fd ps (upF K sp) :=
  FunD.ok conv_S F S hp hb
end
/-- drawing a number below many -/
def spPull : SpP := fun r Q _ => ∃ many : Int, r = [.int many] ∧ (1 ≤ many ∧ many < 1073741824) ∧ ∀ n : Int, 0 ≤ n → n < many → Q (.int n)
/-- st, then rest, by what holds between -/
inductive sqM (a b : QS) (D : Ed) (s : Sl) (S : List O) : Prop
  | mk (P : Sl → List O → Prop) (h1 : a { D with nx := P } s S) (h3 : ∀ s' S', P s' S' → b D s' S')
theorem sM {a b : QS} {D : Ed} {s : Sl} {S : List O} (P : Sl → List O → Prop) (h : a { D with nx := P } s S) (k : ∀ s' S', P s' S' → b D s' S') : sqM a b D s S := ⟨P, h, k⟩
theorem sD {a b : QS} {D : Ed} {s : Sl} {S : List O} (h : qSeq a b D s S) : sqM a b D s S := ⟨_, h, fun _ _ h => h⟩
theorem lss_consM {X : Cx} {B : Bs} {st : Stmt} {rest : List Stmt} {qs qt : QS} (h1 : LS X B st qs) (h2 : LSs X B rest qt) : LSs X B (st :: rest) (sqM qs qt) := PSs.imp (pss_cons h1 h2) fun D σ H ⟨φ, s, S, D', hr, ev, ⟨P, q, hp⟩, ek⟩ =>
  ⟨φ, s, S, { D' with nx := P }, hr, ev, q, ek.seq (fun φ' H' S' s' σ' ek' hr' ev' q' => ⟨φ', s', S', D', hr', ev', hp _ _ q', ek'⟩) rfl rfl rfl⟩
def qW (vs : List Nat) (b : QS) : QS := fun D s S => b D (wipeD s vs) S
theorem lss_w {X : Cx} {B : Bs} {ss : List Stmt} {q : QS} (vs : List Nat) (h : LSs X B ss q) : LSs X B ss (qW vs q) := PSs.imp h fun D σ H ⟨φ, s, S, D', hr, ev, q, ek⟩ => ⟨φ, _, S, D', hr, ev.forgets, q, ek⟩
/-! ### isinstance -/
def tyN (S : List O) : D → Option String
  | .non => some "NoneType"
  | .bl _ => some "bool"
  | .int _ => some "int"
  | .str _ => some "str"
  | .tup _ => some "tuple"
  | .lst _ => some "list"
  | .scr _ => some "list"
  | .tq _ => some "tuple"
  | .kt _ => some "tuple"
  | .ref k => match S[k]? with
    | some (.lst _) => some "list"
    | some .drw => some "list"
    | some (.dK _) => some "dict"
    | some (.dT _) => some "dict"
    | _ => none
  | _ => none
def tys : List String := ["NoneType", "bool", "int", "str", "tuple", "list", "dict"]
def subTy (t c : String) : Bool := t == c || (t == "bool" && c == "int")
theorem kit_b {K : PySem.W.Frag} {t c : String} (ht : t ∈ tys) (hc : c ∈ ["bool", "int", "str", "tuple", "list"]) : PySem.W.kitOne K (.type t) (.type c) = some (subTy t c) := by
  simp only [tys, List.mem_cons, List.not_mem_nil, or_false] at ht hc
  rcases ht with rfl | rfl | rfl | rfl | rfl | rfl | rfl <;> rcases hc with rfl | rfl | rfl | rfl | rfl <;> rfl
theorem tyN_ty {S : List O} {d : D} {t : String} (h : tyN S d = some t) : tyOf S d = some (.type t) ∧ t ∈ tys := by
  cases d with
  | ref k =>
    simp only [tyN] at h
    simp only [tyOf]
    cases e : S[k]? with
    | none => (rw [e] at h; cases h)
    | some o => rw [e] at h; cases o <;> first | (cases h; done) | (cases h; exact ⟨rfl, by decide⟩)
  | _ => first | (cases h; done) | (cases h; exact ⟨rfl, by decide⟩)
def okTy : String → Bool
  | "bool" => true
  | "int" => true
  | "str" => true
  | "tuple" => true
  | "list" => true
  | _ => false
/-- isinstance of a built-in class -/
def rcIsiB : QC := fun ds S Q => match ds with
  | [d, .ty c] => Opt (tyN S d) fun t => Br (okTy c) (Q (.bl (subTy t c)) S) False
  | _ => False
theorem okTy_mem {c : String} (h : okTy c = true) : c ∈ ["bool", "int", "str", "tuple", "list"] := by
  unfold okTy at h
  split at h <;> first | (cases h; done) | simp
theorem cc_isiB {X : Cx} {B : Bs} : CallR X (.builtin "isinstance") (upC X.K B rcIsiB) := CallR.imp cc_isi fun x H Q ⟨φ, S, ds, Q', hr, r, q, k⟩ => by
  refine ⟨φ, S, ds, Q', hr, r, ?_, k⟩
  unfold rcIsiB at q
  split at q
  · obtain ⟨t, h1, q1⟩ := q.get
    obtain ⟨h2, q2⟩ := q1.get
    obtain ⟨h3, h4⟩ := tyN_ty h1
    exact ⟨h3, rfl, (fun C z => nomatch z), kit_b h4 (okTy_mem h2), q2⟩
  · exact q.elim
/-- an own class for isinstance -/
structure IsO (K : PySem.W.Frag) (C : Addr) : Prop where
  is : IsC K C
  ty : PySem.W.typeIn K (.ref C) = some (.type "type")
/-! ### classes -/
structure MkX (P : Program) (w : World) (K : PySem.W.Frag) (mg : Str → Option Value) (base : Heap) (k : Nat) (x : Str) (C f : Addr) (fd : FuncData) (ps : List Str) (sp : SpI) (dvs : List V) (dds : List D) : Prop where
  hp : PureI sp
  mkr : Mk K C f
  ok : FnOk P w K mg base (L2.CX P w) k f fd ps (upF K (atI C sp))
  gm : mg x = some (.ref C)
  bi : ∃ ds, Vals dvs ds ∧ Binds K fd ps ds
  dd : RVc K dds dvs
section
variable {X : Cx} {B : Bs} {k : Nat} {f C : Addr} {fd : FuncData} {ps : List Str} {spi : SpI} {spd : SpD} {dds : List D} {dvs : List V} {W : WX} {W' : WD} {x m : Str} {p pos apos : Pos} {e o : Expr} {es : List Expr} {q : QA} {qo : QE}
theorem le_mk (M : MkX X.prog X.w X.K X.mg X.base k x C f fd ps spi dvs dds) (rm : Room (k + 1) X.A) (tk : Takes X W) (wl : WL X.K B W' W) (ha : LA X B (e :: es) q) (hg : Gl X x := by rfl)
    (nx : (x == ("__debug__" : Str)) = false := by decide) (st : starEach (e :: es) X.env = (false, eval e X.env) :: starEach es X.env := by rfl) (pn : (backTo pos (starEach es X.env)).any (·.1) = false := by rfl) : LE X B (.Call (.Name x p) (e :: es) [] pos) (qMkV C spi dds W' q) :=
  let ⟨_, vd, bd⟩ := M.bi
  le_mkV M.hp M.mkr M.ok rm M.gm bd vd M.dd tk wl ha hg nx st pn
theorem le_mx (M : Mx X.prog X.w X.K X.mg X.base k C m f fd ps spd dvs dds) (rm : Room k X.A) (tk : Takes X W) (wl : WL X.K B W' W) (ho : LE X B o qo) (ha : LA X B (e :: es) q)
    (mc : McAt X o m (e :: es) apos pos := by exact ⟨_, rfl⟩) (st : starEach (e :: es) X.env = (false, eval e X.env) :: starEach es X.env := by rfl) (pn : (backTo pos (starEach es X.env)).any (·.1) = false := by rfl) : LE X B (.Call (.Attribute o m apos) (e :: es) [] pos) (qMeth C m spd dds W' qo q) :=
  let ⟨_, vd, bd⟩ := M.bi
  le_meth ho M.cl M.mt M.ok rm bd vd M.dd tk wl ha mc st pn
end
/-! ### what the top has written -/
section
variable {K : PySem.W.Frag}
end
end LC

set_option Elab.async false
set_option linter.all false
set_option maxRecDepth 100000
set_option maxHeartbeats 5000000
/-! LD14: int(t, 2) of four signs. -/
namespace LC
open PySem PySem.Spec
open PyProof.Rows L2
section
variable {X : Cx} {B : Bs}
end
theorem sIx_to {n k : Nat} (h : n ≤ k) : HT.sIx n n (some (k : Int)) = n := by rw [HT.sIx_nat]; omega
theorem cutD_to {xs : List D} {k : Nat} (h : xs.length ≤ k) : cutD xs none (some (k : Int)) = xs := cutD_whole xs _ _ ⟨rfl, sIx_to h⟩
theorem atI_get {α : Type} {ds : List α} {i : Int} {d : α} (h0 : 0 ≤ i) (h : ds[i.toNat]? = some d) : L2.atI ds i = some d := by
  have hl := (List.getElem?_eq_some_iff.mp h).1
  have : ixN ds.length i = some i.toNat := by
    unfold ixN
    rw [if_pos h0, if_pos (by omega)]
  unfold L2.atI
  rw [this]
  exact h
theorem atI_map {α β : Type} (f : α → β) (ns : List α) (i : Int) : L2.atI (ns.map f) i = (L2.atI ns i).map f := by
  unfold L2.atI
  rw [List.length_map]
  cases ixN ns.length i with
  | none => rfl
  | some j => simp
theorem atI_in {α : Type} {ns : List α} {i : Int} (h0 : 0 ≤ i) (h : i < ns.length) : ∃ z, z ∈ ns ∧ L2.atI ns i = some z := by
  have hl : i.toNat < ns.length := by omega
  exact ⟨ns[i.toNat], List.getElem_mem hl, atI_get h0 (by simp [List.getElem?_eq_getElem hl])⟩
theorem atI_ints {ns : List Int} {i : Int} (h0 : 0 ≤ i) (h : i < ns.length) : ∃ z, z ∈ ns ∧ L2.atI (ns.map D.int) i = some (.int z) := by
  obtain ⟨z, h1, h2⟩ := atI_in h0 h
  exact ⟨z, h1, by rw [atI_map, h2]; rfl⟩
theorem atI_nat {α : Type} {ds : List α} {i : Nat} {d : α} (h : ds[i]? = some d) : L2.atI ds (0 + (i : Int)) = some d := atI_get (by omega) (by rw [show ((0 : Int) + (i : Int)).toNat = i by omega]; exact h)
mutual
/-- plain data that the law's like goes through, n levels deep -/
def D.dp : D → Nat → Prop
  | .non, _ => True
  | .bl _, _ => True
  | .int _, _ => True
  | .str _, _ => True
  | .tup xs, n + 1 => xs.length ≤ 1000000 ∧ D.dps xs n
  | .lst xs, n + 1 => xs.length ≤ 1000000 ∧ D.dps xs n
  | _, _ => False
def D.dps : List D → Nat → Prop
  | [], _ => True
  | d :: r, n => D.dp d n ∧ D.dps r n
end
theorem D.dps_mem {n : Nat} {ds : List D} : D.dps ds n ↔ ∀ d ∈ ds, D.dp d n := by
  induction ds with
  | nil => simp [D.dps]
  | cons d r ih => simp [D.dps, ih]
theorem D.dps_map {α : Type} {f : α → D} {n : Nat} {l : List α} (h : ∀ a ∈ l, D.dp (f a) n) : D.dps (l.map f) n := D.dps_mem.mpr fun d hd => by
  obtain ⟨a, ha, rfl⟩ := List.mem_map.mp hd
  exact h a ha
theorem D.dps_ints {n : Nat} (ns : List Int) : D.dps (ns.map D.int) n := D.dps_map fun _ _ => trivial
mutual
theorem D.dp.lt : ∀ {d : D} {n m : Nat}, D.dp d n → D.lt m d
  | .non, _, _, _ => trivial
  | .bl _, _, _, _ => trivial
  | .int _, _, _, _ => trivial
  | .str _, _, _, _ => trivial
  | .tup xs, n + 1, _, h => D.dps.lt (ds := xs) (n := n) h.2
  | .lst xs, n + 1, _, h => D.dps.lt (ds := xs) (n := n) h.2
theorem D.dps.lt : ∀ {ds : List D} {n m : Nat}, D.dps ds n → D.lts m ds
  | [], _, _, _ => trivial
  | d :: r, _, _, h => ⟨D.dp.lt h.1, D.dps.lt h.2⟩
end
theorem fn_no {P : Program} {w : World} {K : PySem.W.Frag} {mg : Str → Option Value} {base : Heap} {k : Nat} {f : Addr} {fd : FuncData} {ps : List Str} {sp : SpD} (h : ∀ ds S Q E, ¬ sp ds S Q E) : FnOk P w K mg base (L2.CX P w) k f fd ps (upF K sp) :=
  ⟨fun vs H Q E ⟨_, _, _, _, _, _, _, _, _, z, _⟩ => (h _ _ _ _ z).elim, fun A outer s H args us vs Q E _ _ _ _ ⟨_, _, _, _, _, _, _, _, _, z, _⟩ => (h _ _ _ _ z).elim⟩
/-- a comprehension without a test, whose items are told one by one -/
theorem lc_map {t : Tgt} {qe : QE} {vs : List Nat} {s : Sl} {Q : List D → Prop} {xs : List D} {keep : List O → Prop} {S1 : List O} (g : D → D) (hl : xs.length < sizeLine) (hk : ∀ acc, keep (S1 ++ [.lst acc]))
    (st : ∀ (i : Nat) (x : D) (acc : List D), xs[i]? = some x → ∃ s2, stT t x (wipeD s vs) = some s2 ∧ D.lt S1.length (g x) ∧ ∀ R : D → List O → Prop, R (g x) (S1 ++ [.lst acc]) → qe s2 (S1 ++ [.lst acc]) R) (q : Q (xs.map g)) : lcV t qYes qe vs s Q xs keep S1 := by
  refine ⟨fun i acc => acc = (xs.take i).map g, rfl, hk, hl, ?_, fun acc h _ => by rw [h, List.take_length]; exact q⟩
  rintro i x acc hi _ rfl
  obtain ⟨s2, h1, h2, h3⟩ := st i x ((xs.take i).map g) hi
  refine ⟨s2, h1, rfl, h3 _ ⟨rfl, h2, ?_⟩⟩
  rw [List.take_add_one, hi]
  simp
/-- a comprehension by what holds of its list so far -/
theorem lc_inv {t : Tgt} {qe : QE} {vs : List Nat} {s : Sl} {Q : List D → Prop} {xs : List D} {keep : List O → Prop} {S1 : List O} (P : Nat → List D → Prop) (h0 : P 0 []) (hl : xs.length < sizeLine) (hk : ∀ acc, keep (S1 ++ [.lst acc]))
    (st : ∀ (i : Nat) (x : D) (acc : List D), xs[i]? = some x → P i acc → ∃ s2, stT t x (wipeD s vs) = some s2 ∧ qe s2 (S1 ++ [.lst acc]) fun y S4 => S4 = S1 ++ [.lst acc] ∧ D.lt S1.length y ∧ P (i + 1) (acc ++ [y])) (q : ∀ acc, P xs.length acc → Q acc) : lcV t qYes qe vs s Q xs keep S1 := by
  refine ⟨P, h0, hk, hl, ?_, fun acc h _ => q acc h⟩
  rintro i x acc hi _ hP
  obtain ⟨s2, h1, h2⟩ := st i x acc hi hP
  exact ⟨s2, h1, rfl, h2⟩
/-- a list or a tuple that stays is walked -/
theorem any_at {qe : QE} {s : Sl} {S : List O} {R : List D → (List O → Prop) → List O → Prop} {d : D} {xs : List D} (hq : ∀ R' : D → List O → Prop, R' d S → qe s S R') (h : ∀ S', itemsOf S' d = some xs)
    (r : ∀ keep : List O → Prop, (∀ S', keep S') → R xs keep S) : qiAny qe s S R := by
  cases d with
  | tup ys =>
    have e : ys = xs := Option.some.inj (h [])
    subst e
    exact .inr (hq _ (r _ fun _ => trivial))
  | lst ys =>
    have e : ys = xs := Option.some.inj (h [])
    subst e
    exact .inl (hq _ (r _ fun _ => rfl))
  | scr ns =>
    have e : ns.map D.int = xs := Option.some.inj (h [])
    subst e
    exact .inl (hq _ (r _ fun _ => rfl))
  | tq ns =>
    have e : ns.map D.int = xs := Option.some.inj (h [])
    subst e
    exact .inr (hq _ (r _ fun _ => trivial))
  | kt ys =>
    have e : ys = xs := Option.some.inj (h [])
    subst e
    exact .inr (hq _ (r _ fun _ => trivial))
  | ref k => exact nomatch (show (none : Option (List D)) = some xs from h [])
  | _ => exact nomatch (show (none : Option (List D)) = some xs from h [])
/-- the items of ints -/
theorem int_at {ns : List Int} {i : Nat} {x : D} (h : (ns.map D.int)[i]? = some x) : ∃ z, ns[i]? = some z ∧ x = .int z := by
  rw [List.getElem?_map] at h
  obtain ⟨z, hz, e⟩ := Option.map_eq_some_iff.mp h
  exact ⟨z, hz, e.symm⟩
theorem str_at {x : Str} {i : Nat} {d : D} (h : (LC.signs x)[i]? = some d) : ∃ c, x.cps.toList[i]? = some c ∧ d = .str ⟨#[c]⟩ := by
  unfold LC.signs at h
  rw [List.getElem?_map] at h
  obtain ⟨z, hz, e⟩ := Option.map_eq_some_iff.mp h
  exact ⟨z, hz, e.symm⟩
theorem signs_len {x : Str} : (LC.signs x).length = x.length := by unfold LC.signs; rw [List.length_map]; rfl
end LC

set_option Elab.async false
set_option linter.all false
set_option maxRecDepth 100000
set_option maxHeartbeats 5000000
/-! LD15: signs of shades. -/
namespace LC
open PySem PySem.Spec
open PyProof.Rows L2
def SG : List Nat := [63, 97, 98, 99, 100, 101, 102]
theorem SG_is : ("?abcdef" : Str).cps.toList = SG := by decide +kernel
def goodN (ns : List Int) : Prop := ∀ z ∈ ns, 0 ≤ z ∧ z ≤ 6
instance goodN_dec (ns : List Int) : Decidable (goodN ns) := inferInstanceAs (Decidable (∀ z ∈ ns, 0 ≤ z ∧ z ≤ 6))
def sgn (i : Int) : Nat := SG.getD i.toNat 0
def sgS (i : Int) : Str := ⟨#[sgn i]⟩
def strOf (ns : List Int) : Str := ⟨(ns.map sgn).toArray⟩
def ixS (c : Nat) : Int := (SG.idxOf c : Nat)
theorem cases7 {i : Int} (h : 0 ≤ i ∧ i ≤ 6) : i = 0 ∨ i = 1 ∨ i = 2 ∨ i = 3 ∨ i = 4 ∨ i = 5 ∨ i = 6 := by omega
theorem atI_SG {i : Int} (h : 0 ≤ i ∧ i ≤ 6) : L2.atI ("?abcdef" : Str).cps.toList i = some (sgn i) := by
  rw [SG_is]
  rcases cases7 h with rfl | rfl | rfl | rfl | rfl | rfl | rfl <;> rfl
theorem mem_SG {c : Nat} (h : c ∈ SG) : c = 63 ∨ c = 97 ∨ c = 98 ∨ c = 99 ∨ c = 100 ∨ c = 101 ∨ c = 102 := by simpa [SG] using h
theorem occ_SG {c : Nat} (h : c ∈ SG) : ∃ r, Builtin.Str.occurrences "?abcdef" ⟨#[c]⟩ 0 ("?abcdef" : Str).length 1 = SG.idxOf c :: r := by
  rcases mem_SG h with rfl | rfl | rfl | rfl | rfl | rfl | rfl <;> exact ⟨[], by decide +kernel⟩
theorem ixS_good {c : Nat} (h : c ∈ SG) : 0 ≤ ixS c ∧ ixS c ≤ 6 := by
  rcases mem_SG h with rfl | rfl | rfl | rfl | rfl | rfl | rfl <;> decide
theorem sgn_ixS {c : Nat} (h : c ∈ SG) : sgn (ixS c) = c := by
  rcases mem_SG h with rfl | rfl | rfl | rfl | rfl | rfl | rfl <;> decide
theorem sgn_mem {i : Int} (h : 0 ≤ i ∧ i ≤ 6) : sgn i ∈ SG := by
  rcases cases7 h with rfl | rfl | rfl | rfl | rfl | rfl | rfl <;> decide
theorem ixS_sgn {i : Int} (h : 0 ≤ i ∧ i ≤ 6) : ixS (sgn i) = i := by
  rcases cases7 h with rfl | rfl | rfl | rfl | rfl | rfl | rfl <;> decide
def goodS (x : Str) : Prop := ∀ c ∈ x.cps.toList, c ∈ SG
instance goodS_dec (x : Str) : Decidable (goodS x) := inferInstanceAs (Decidable (∀ c ∈ x.cps.toList, c ∈ SG))
def ixs (x : Str) : List Int := x.cps.toList.map ixS
theorem ixs_good {x : Str} (h : goodS x) : goodN (ixs x) := fun z hz => by
  obtain ⟨c, hc, rfl⟩ := List.mem_map.mp hz
  exact ixS_good (h c hc)
theorem strOf_ixs {x : Str} (h : goodS x) : strOf (ixs x) = x := by
  obtain ⟨⟨l⟩⟩ := x
  unfold strOf ixs
  rw [List.map_map]
  congr 2
  have : ∀ c ∈ l, (sgn ∘ ixS) c = c := fun c hc => sgn_ixS (h c hc)
  exact (List.map_congr_left this).trans (List.map_id' l)
theorem joinL_single : ∀ l : List Nat, TL.joinL [] (l.map fun c => [c]) = l
  | [] => rfl
  | [c] => rfl
  | c :: d :: r => by
    show [c] ++ ([] ++ TL.joinL [] ((d :: r).map fun c => [c])) = _
    rw [joinL_single (d :: r)]; rfl
theorem join_codes (l : List Nat) : Txt.join "" (l.map fun c => (⟨#[c]⟩ : Str)) = ⟨l.toArray⟩ := by
  have e := TL.tl_join "" (l.map fun c => (⟨#[c]⟩ : Str))
  rw [List.map_map] at e
  have e1 : TL.tl ("" : Str) = [] := rfl
  rw [e1, show (TL.tl ∘ fun c => (⟨#[c]⟩ : Str)) = fun c => [c] from rfl, joinL_single] at e
  exact TL.ext_tl ((congrArg TL.tl (TL.join_eq "" _)).trans e)
theorem join_sgs (ns : List Int) : Txt.join "" (ns.map sgS) = strOf ns := by
  unfold strOf
  rw [← join_codes, List.map_map]
  rfl
theorem sum_ones {α : Type} : ∀ l : List α, (l.map fun _ => 1).sum = l.length
  | [] => rfl
  | _ :: r => by rw [List.map_cons, List.sum_cons, sum_ones r, List.length_cons]; omega
/-- the item of ints at a number -/
def ofI (ns : List Int) : D → D
  | .int i => .int (ns.getD i.toNat 0)
  | _ => .non
theorem ofI_rng (ns : List Int) : (rngD 0 ns.length).map (ofI ns) = ns.map D.int := by
  refine List.ext_getElem? fun i => ?_
  rw [List.getElem?_map, List.getElem?_map]
  by_cases h : i < ns.length
  · have h2 : i < (rngD 0 ns.length).length := by rw [rngD_len]; exact h
    have e := (rngD_get (List.getElem?_eq_getElem h2)).2
    rw [List.getElem?_eq_getElem h2, List.getElem?_eq_getElem h, e]
    show some (D.int (ns.getD (0 + (i : Int)).toNat 0)) = some (D.int ns[i])
    rw [show (0 + (i : Int)).toNat = i by omega, List.getD_eq_getElem?_getD, List.getElem?_eq_getElem h]; rfl
  · rw [List.getElem?_eq_none (by rw [rngD_len]; omega), List.getElem?_eq_none (by omega)]; rfl
theorem ixs_len {x : Str} : (ixs x).length = x.length := List.length_map _
end LC

set_option Elab.async false
set_option linter.all false
set_option maxRecDepth 100000
set_option maxHeartbeats 5000000
/-! LD16: dicts by plain keys; sorted; pop by place; index. -/
namespace LC
open PySem PySem.Spec
open PyProof.Rows L2
section
variable {κ : Type} [DecidableEq κ]
def valD (l : List (κ × D)) (k : κ) : Option D := (l.find? fun p => decide (p.1 = k)).map (·.2)
def putE (l : List (κ × D)) (k : κ) (d : D) : List (κ × D) := if (l.any fun p => decide (p.1 = k)) = true then l.map (fun p => if p.1 = k then (p.1, d) else p) else l ++ [(k, d)]
def mergeD (l more : List (κ × D)) : List (κ × D) := more.foldl (fun a p => putE a p.1 p.2) l
variable {K : PySem.W.Frag} {φ : Ph} {H : Hp}
theorem RKV.any : ∀ {l : List (κ × D)} {g : List (κ × V)} (k : κ), RKV K φ H l g → (g.any fun p => decide (p.1 = k)) = l.any fun p => decide (p.1 = k)
  | [], _, _, h => by cases h; rfl
  | _ :: _, _, k, ⟨v, r, e, _, h2⟩ => by subst e; simp only [List.any_cons]; rw [RKV.any k h2]
theorem RKV.val : ∀ {l : List (κ × D)} {g : List (κ × V)} (k : κ), RKV K φ H l g → (match valD l k with | some d => ∃ v, valV g k = some v ∧ RV K φ H d v | none => valV g k = none)
  | [], _, _, h => by cases h; rfl
  | p :: l, _, k, ⟨v, r, e, h1, h2⟩ => by
    subst e
    have ih := RKV.val k h2
    unfold valD valV at ih ⊢
    by_cases hk : p.1 = k
    · simp [List.find?_cons, hk]; exact h1
    · simp only [List.find?_cons, decide_eq_false hk]; exact ih
theorem RKV.app {α : Type} : ∀ {l m : List (α × D)} {g h : List (α × V)}, RKV K φ H l g → RKV K φ H m h → RKV K φ H (l ++ m) (g ++ h)
  | [], _, _, _, a, b => by cases a; exact b
  | _ :: _, _, _, _, ⟨v, r, e, h1, h2⟩, b => by subst e; exact ⟨v, _, rfl, h1, RKV.app h2 b⟩
theorem RKV.dput {l : List (κ × D)} {g : List (κ × V)} {d : D} {v : V} (k : κ) (h : RKV K φ H l g) (r : RV K φ H d v) : RKV K φ H (putE l k d) (putK g k v) := by
  unfold putE putK
  rw [RKV.any k h]
  split
  · have : ∀ {l : List (κ × D)} {g : List (κ × V)}, RKV K φ H l g → RKV K φ H (l.map fun p => if p.1 = k then (p.1, d) else p) (g.map fun p => if p.1 = k then (p.1, v) else p) := by
      intro l
      induction l with
      | nil => intro g h; cases h; rfl
      | cons p l ih =>
        rintro g ⟨u, t, e, h1, h2⟩
        subst e
        simp only [List.map_cons]
        by_cases hk : p.1 = k
        · simp only [if_pos hk]; exact ⟨v, _, rfl, r, ih h2⟩
        · simp only [if_neg hk]; exact ⟨u, _, rfl, h1, ih h2⟩
    exact this h
  · exact h.app ⟨v, [], rfl, r, rfl⟩
end
theorem RKV.merge {K : PySem.W.Frag} {φ : Ph} {H : Hp} : ∀ {m : List (Key × D)} {h : List (Key × V)} {l : List (Key × D)} {g : List (Key × V)}, RKV K φ H m h → RKV K φ H l g → RKV K φ H (mergeD l m) (mergeK g h)
  | [], _, _, _, a, b => by cases a; exact b
  | p :: m, _, l, g, ⟨v, r, e, h1, h2⟩, b => by subst e; exact (RKV.merge (m := m) (h := r) (l := putE l p.1 p.2) (g := putK g p.1 v) h2 (RKV.dput p.1 b h1) : _)
/-- a thing as a key -/
def keyD : D → Option Key
  | .int i => some (.inl i)
  | .str x => some (.inr x)
  | _ => none
theorem keyD_ok {K : PySem.W.Frag} {φ : Ph} {H : Hp} {d : D} {k : Key} {v : V} (h : keyD d = some k) (r : RV K φ H d v) : v = kV k := by
  cases d with
  | int i => cases h; cases r; rfl
  | str i => cases h; cases r; rfl
  | _ => cases h
/-- a dict by plain keys -/
def dkOf (S : List O) (d : D) : Option (List (Key × D)) := match d with
  | .dK ks xs => some (ks.zip xs)
  | .ref k => match S[k]? with
    | some (.dK l) => some l
    | _ => none
  | _ => none
def dkM (S : List O) (d : D) : Option (Nat × List (Key × D)) := match d with
  | .ref k => match S[k]? with
    | some (.dK l) => some (k, l)
    | _ => none
  | _ => none
section
variable {X : Cx} {B : Bs} {φ : Ph} {H : Hp} {S : List O}
theorem HR.dk {d : D} {v : V} {l : List (Key × D)} (hr : HR X.K B φ H S) (h : dkOf S d = some l) (r : RV X.K φ H d v) : ∃ a g, v = .ref a ∧ Rd H a (.dK g) ∧ RKV X.K φ H l g := by
  cases d with
  | dK ks xs => cases h; obtain ⟨p, vs, rfl, _, h1, h2, h3⟩ := r; exact ⟨p, _, rfl, h1, h3.zip h2⟩
  | ref k =>
    obtain ⟨a, ea, rfl⟩ := r
    simp only [dkOf] at h
    split at h
    · rename_i l' e
      cases h
      obtain ⟨b, eb, g, h1, h2⟩ := hr.rel.ob k _ e
      rw [ea] at eb; cases eb
      exact ⟨a, g, rfl, .inl h1, h2⟩
    · cases h
  | _ => cases h
theorem HR.dkW {d : D} {v : V} {k : Nat} {l : List (Key × D)} (hr : HR X.K B φ H S) (h : dkM S d = some (k, l)) (r : RV X.K φ H d v) : d = .ref k ∧ S[k]? = some (.dK l) ∧ ∃ a g, v = .ref a ∧ φ.own[k]? = some a ∧ H a = some (.dK g) ∧ RKV X.K φ H l g := by
  cases d with
  | ref j =>
    obtain ⟨a, ea, rfl⟩ := r
    simp only [dkM] at h
    split at h
    · rename_i l' e
      cases h
      obtain ⟨b, eb, g, h1, h2⟩ := hr.rel.ob k _ e
      rw [ea] at eb; cases eb
      exact ⟨rfl, e, a, g, rfl, ea, h1, h2⟩
    · cases h
  | _ => cases h
end
section
variable {X : Cx} {B : Bs} {o e f : Expr} {qo qe qf : QE} {pos apos cpos : Pos}
/-- d.get(k, x) -/
def qDGet2 (qo qe qf : QE) : QE := fun s S Q => qo s S fun d S1 => Need ((dkOf S1 d).isSome = true) (qe s S1 fun y S2 => qf s S2 fun z S3 => Opt (keyD y) fun k => Opt (dkOf S3 d) fun l => Q ((valD l k).getD z) S3)
theorem le_dget2 (hu : X.A.units + 1 < cLine) (ho : LE X B o qo) (he : LE X B e qe) (hf : LE X B f qf)
    (mm : M2 X o "get" apos e f cpos := by exact ⟨rfl, rfl, rfl, rfl⟩) : LE X B (.Call (.Attribute o "get" apos) [e, f] [] cpos) (qDGet2 qo qe qf) := PE.imp (pe_dget2 hu ho he hf mm) fun σ H Q ⟨φ, s, S, Q', hr, ev, q, k⟩ =>
  ⟨φ, s, S, _, hr, ev, q, fun φ1 d S1 v H1 e1 hr1 r1 q1 => by
    obtain ⟨l0, h0⟩ := Option.isSome_iff_exists.mp q1.c
    obtain ⟨a, g, rfl, h1, _⟩ := hr1.dk h0 r1
    refine ⟨a, rfl, .inl ⟨g, h1⟩, φ1, s, S1, _, hr1, ev.mono e1, q1.q, fun φ2 y S2 w H2 e2 hr2 r2 q2 => ⟨φ2, s, S2, _, hr2, ev.mono (e1.trans e2), q2, fun φ3 z S3 u H3 e3 hr3 r3 q3 => ?_⟩⟩
    obtain ⟨kk, h4, q4⟩ := q3.get
    obtain ⟨l, h5, q5⟩ := q4.get
    obtain ⟨a', g', e6, h6, h7⟩ := hr3.dk h5 (r1.mono (e2.trans e3))
    cases e6
    refine ⟨_, .inl ⟨g', kk, h6, keyD_ok h4 (r2.mono e3), rfl⟩, ?_⟩
    have hv := RKV.val kk h7
    split at hv
    · rename_i d0 hd
      obtain ⟨v0, h8, h9⟩ := hv
      rw [h8]
      rw [hd] at q5
      exact (k.ext (e1.trans (e2.trans e3))).here hr3 h9 q5
    · rename_i hd
      rw [hv]
      rw [hd] at q5
      exact (k.ext (e1.trans (e2.trans e3))).here hr3 r3 q5⟩
/-- where a number stands in a list of numbers -/
def rmIndex : QM := fun d ds S Q => match ds with
  | [.int i] => Opt (lsOf S d) fun xs => Opt (asIs xs) fun ns => Opt (ns.idxOf? i) fun j => Q (.int (j : Nat)) S
  | _ => False
theorem eqV_int (i j : Int) : eqV (.int i) (.int j) = decide (i = j) := by
  first | rfl | (unfold eqV; simp [beq_eq_decide]) | simp [eqV]
theorem mm_index : MtR X "list.index" (upM X.K B rmIndex) := MtR.imp mt_index fun x xs H Q ⟨φ, S, d, ds, Q', hr, r, rs, q, k⟩ => by
  unfold rmIndex at q
  split at q
  · rename_i i
    obtain ⟨v, w', rfl, r1, r2⟩ := rs
    cases r2
    cases r1
    obtain ⟨xs, h1, q⟩ := q.get
    obtain ⟨ns, h2, q⟩ := q.get
    obtain ⟨j, h5, q⟩ := q.get
    obtain ⟨a, vs, rfl, h3, h4⟩ := hr.ls h1 r
    rw [asIs_ok h2 h4] at h3
    obtain ⟨hj, e1, e2⟩ := List.findIdx?_eq_some_iff_getElem.mp h5
    have gi : ∀ (m : Nat) (z : V), (ns.map V.int)[m]? = some z → ∃ (hm : m < ns.length), z = .int ns[m] := fun m z hz => by
      rw [List.getElem?_map] at hz
      obtain ⟨n, hn, rfl⟩ := Option.map_eq_some_iff.mp hz
      obtain ⟨hm, rfl⟩ := List.getElem?_eq_some_iff.mp hn
      exact ⟨hm, rfl⟩
    refine ⟨a, ns.map V.int, .int i, j, .int ns[j], rfl, rfl, .inl (.inl h3), rfl, ?_, by simp [hj], ?_, fun m z hm hz => ?_, k.here (d := D.int _) hr rfl q⟩
    · rw [List.all_map]; exact List.all_eq_true.mpr fun _ _ => rfl
    · rw [eqV_int]; exact decide_eq_true (by simpa using e1)
    · obtain ⟨hml, rfl⟩ := gi m z hz
      rw [eqV_int]
      exact decide_eq_false (by simpa using e2 m hm)
  · exact q.elim
end
end LC

set_option Elab.async false
set_option linter.all false
set_option maxRecDepth 100000
set_option maxHeartbeats 5000000
/-! LD17: defs that hand back a new list that is changed later. -/
namespace LC
open PySem PySem.Spec
open PyProof.Rows L2
section
variable {K : PySem.W.Frag} {φ φ' : Ph} {H H' : Hp} {S : List O} {a b : Addr}
end
section
variable {P : Program} {w : World} {K : PySem.W.Frag} {mg : Str → Option Value} {base : Heap}
end
end LC

set_option Elab.async false
set_option linter.all false
set_option maxRecDepth 100000
set_option maxHeartbeats 5000000
/-! LD18: sorted; displays of dicts. -/
namespace LC
open PySem PySem.Spec PySem.Calls
open PyProof.Rows L2
section
variable {prog : Program} {w : World} {A : Around} {E : Value → Shared → Prop} {s : Shared} {T : String} {r d : Addr} {n : Nat} {P : Nat → Value → Prop} {OK : Heap → Prop}
end
section
variable {X : Cx} {B : Bs}
/-! ### displays -/
abbrev QPs := Sl → List O → (List (D × D) → List O → Prop) → Prop
abbrev rDD (K : PySem.W.Frag) : Ph → Hp → List (D × D) → List (V × V) → Prop := fun φ H ds vs => RVs K φ H (ds.map (·.1)) (vs.map (·.1)) ∧ RVs K φ H (ds.map (·.2)) (vs.map (·.2))
theorem rDD_nil {K : PySem.W.Frag} {φ : Ph} {H : Hp} : rDD K φ H [] [] := ⟨rfl, rfl⟩
theorem rDD_cons {K : PySem.W.Frag} {φ : Ph} {H : Hp} {d e : D} {v u : V} {ps : List (D × D)} {ws : List (V × V)} (r1 : RV K φ H d v) (r2 : RV K φ H e u) (r : rDD K φ H ps ws) : rDD K φ H ((d, e) :: ps) ((v, u) :: ws) := ⟨⟨_, _, rfl, r1, r.1⟩, ⟨_, _, rfl, r2, r.2⟩⟩
structure LPs (X : Cx) (B : Bs) (pos : Pos) (ks : List (Option Expr)) (vs : List Expr) (q : QPs) : Prop where
  ex : ∃ trs, PPs X pos ks vs trs ∧ ∀ σ H Q, UP X.K B (rDD X.K) q σ H Q → tPairs trs σ H Q
def qPNil : QPs := fun _ S Q => Q [] S
def qPCons (qk qv : QE) (r : QPs) : QPs := fun s S Q => qk s S fun k S1 => qv s S1 fun v S2 => r s S2 fun ps S3 => Q ((k, v) :: ps) S3
theorem lps_nil {pos : Pos} : LPs X B pos [] [] qPNil := ⟨[], pps_nil, fun σ H Q ⟨φ, s, S, Q', hr, ev, q, k⟩ => k.here (d := []) hr rDD_nil q⟩
theorem lps_cons {pos : Pos} {k v : Expr} {ks : List (Option Expr)} {vs : List Expr} {qk qv : QE} {r : QPs} (hk : LE X B k qk) (hv : LE X B v qv) (hr : LPs X B pos ks vs r) : LPs X B pos (some k :: ks) (v :: vs) (qPCons qk qv r) :=
  let ⟨trs, h1, h2⟩ := hr.ex
  ⟨_, pps_cons hk hv h1, fun σ H Q ⟨φ, s, S, Q', hr, ev, q, k⟩ => ⟨φ, s, S, _, hr, ev, q, fun φ1 d S1 v1 H1 e1 hr1 r1 q1 => ⟨φ1, s, S1, _, hr1, ev.mono e1, q1, fun φ2 d2 S2 v2 H2 e2 hr2 r2 q2 => h2 _ _ _ ⟨φ2, s, S2, _, hr2, ev.mono (e1.trans e2), q2, fun φ3 ps S3 ws H3 e3 hr3 r3 q3 =>
    k _ _ _ _ _ (e1.trans (e2.trans e3)) hr3 (rDD_cons (r1.mono (e2.trans e3)) (r2.mono e3) r3) q3⟩⟩⟩⟩
def keysD : List D → Option (List Key)
  | [] => some []
  | d :: r => match keyD d, keysD r with
    | some k, some ks => some (k :: ks)
    | _, _ => none
theorem keysD_ok {K : PySem.W.Frag} {φ : Ph} {H : Hp} : ∀ {ps : List (D × D)} {ws : List (V × V)} {ks : List Key}, keysD (ps.map (·.1)) = some ks → rDD K φ H ps ws → ∃ g : List (Key × V), ws = g.map (fun p => (kV p.1, p.2)) ∧ RKV K φ H (ks.zip (ps.map (·.2))) g ∧ g.length = ps.length
  | [], ws, ks, h, ⟨r1, r2⟩ => by
    cases h
    have : ws = [] := List.map_eq_nil_iff.mp r1
    subst this
    exact ⟨[], rfl, rfl, rfl⟩
  | (d, e) :: ps, ws, ks, h, ⟨⟨v1, t1, e1, a1, a2⟩, ⟨v2, t2, e2, b1, b2⟩⟩ => by
    cases ws with
    | nil => cases e1
    | cons w ws =>
      obtain ⟨x, y⟩ := w
      simp only [List.map_cons, List.cons.injEq] at e1 e2
      obtain ⟨rfl, rfl⟩ := e1
      obtain ⟨rfl, rfl⟩ := e2
      simp only [List.map_cons, keysD] at h
      split at h
      · rename_i k ks' h1 h2
        cases h
        obtain ⟨g, rfl, h3, h4⟩ := keysD_ok h2 ⟨a2, b2⟩
        refine ⟨(k, y) :: g, ?_, ⟨y, g, rfl, b1, h3⟩, by simp [h4]⟩
        rw [keyD_ok h1 a1]; rfl
      · cases h
/-- {k: v, ..} -/
def afterDisp (S : List O) (Q : D → List O → Prop) : List (D × D) → List O → Prop := fun ps S2 => Need (S2[S.length]? = some (.dK []) ∧ ps.length ≤ 15) (Opt (keysD (ps.map (·.1))) fun ks => Q (.ref S.length) (S2.set S.length (.dK (mergeD [] (ks.zip (ps.map (·.2)))))))
def qDisp (q : QPs) : QE := fun s S Q => q s (S ++ [.dK []]) (afterDisp S Q)
theorem le_disp {pos : Pos} {ks : List (Option Expr)} {vs : List Expr} {q : QPs} (h : LPs X B pos ks vs q) (hall : ks.all (·.isSome) = true := by rfl) (hl : ks.length = vs.length := by rfl) (h0 : ks ≠ [] := by simp) (h15 : ks.length ≤ 15 := by decide) : LE X B (.Dict ks vs pos) (qDisp q) := by
  obtain ⟨trs, h1, h2⟩ := h.ex
  refine PE.imp (pe_disp h1 hall hl h0 h15) fun σ H Q ⟨φ, s, S, Q', hr, ev, qq, k⟩ p hp => h2 _ _ _ ⟨φ.add p, s, S ++ [O.dK []], afterDisp S Q', hr.new (x := .dK []) hp ⟨[], upd_same, rfl⟩, ev.mono (ext_add hp), qq, fun φ1 ps S1 ws H1 e1 hr1 r1 q1 => ?_⟩
  obtain ⟨⟨g1, g2⟩, q2⟩ := q1
  obtain ⟨kl, g3, q3⟩ := q2.get
  obtain ⟨g, e2, g4, g5⟩ := keysD_ok g3 r1
  have hl : (φ.add p).own[S.length]? = some p := hr.rel.last p
  have o1 := e1.get hl
  obtain ⟨a, o2, l, k1, k2⟩ := hr1.rel.ob _ _ g1
  rw [o1] at o2; cases o2
  cases k2
  obtain ⟨e3, hr3⟩ := hr1.write (o := .dK (mergeK [] g)) (x := O.dK []) (y := O.dK (mergeD [] (kl.zip (ps.map (·.2))))) g1 rfl o1 fun e => ⟨_, upd_same, RKV.merge (g4.mono e) (show RKV X.K _ _ [] [] from rfl)⟩
  refine ⟨k1, g, e2, by rw [g5]; exact g2, k _ _ _ _ _ ((ext_add hp).trans (e1.trans e3)) hr3 (show RV X.K _ _ (.ref S.length) _ from ⟨p, o1, rfl⟩) q3⟩
end
end LC

set_option Elab.async false
set_option linter.all false
set_option maxRecDepth 100000
set_option maxHeartbeats 5000000
/-! LD19: findings as data. -/
namespace LC
open PySem PySem.Spec
open PyProof.Rows L2
theorem u1 {n m : Nat} (h : n + 64 < m) : n + 1 < m := by omega
inductive Fc where
  | scrape (p c : Int) (sh : List Int)
  | cover (p l d : Int)
  | moved (p c l d : Int)
  | year (p c f l : Int)
  | sold (s y : Int)
  | ahead (p c o d : Int)
  | same (p c o d : Int)
  | apart (p c o d : Int)
def Fc.d : Fc → D
  | .scrape p c sh => .tup [.str "scrape", .int p, .int c, .tup (sh.map D.int)]
  | .cover p l d => .tup [.str "cover", .int p, .int l, .int d]
  | .moved p c l d => .tup [.str "moved", .int p, .int c, .int l, .int d]
  | .year p c f l => .tup [.str "year", .int p, .int c, .int f, .int l]
  | .sold s y => .tup [.str "sold", .int s, .int y]
  | .ahead p c o d => .tup [.str "ahead", .int p, .int c, .int o, .int d]
  | .same p c o d => .tup [.str "same", .int p, .int c, .int o, .int d]
  | .apart p c o d => .tup [.str "apart", .int p, .int c, .int o, .int d]
/-- as a law draws them: of these parts, of so many coats at most -/
def Fc.good (ps : List Int) (m : Int) : Fc → Prop
  | .scrape p c sh => p ∈ ps ∧ 0 ≤ c ∧ 1 ≤ sh.length ∧ c + sh.length ≤ m ∧ goodN sh
  | .cover p l d => p ∈ ps ∧ l ∈ ps ∧ p ≠ l ∧ 0 ≤ d ∧ d ≤ m
  | .moved p c l d => p ∈ ps ∧ 1 ≤ c ∧ c ≤ m ∧ l ∈ ps ∧ p ≠ l ∧ 0 ≤ d ∧ d ≤ m
  | .year p c f l => p ∈ ps ∧ 0 ≤ c ∧ c < m ∧ 0 ≤ f ∧ f ≤ l ∧ l ≤ 999
  | .sold s y => 1 ≤ s ∧ s ≤ 6 ∧ 0 ≤ y ∧ y ≤ 999
  | .ahead p c o d => p ∈ ps ∧ 0 ≤ c ∧ c < m ∧ o ∈ ps ∧ 0 ≤ d ∧ d < m ∧ ¬ (p = o ∧ c = d)
  | .same p c o d => p ∈ ps ∧ 0 ≤ c ∧ c < m ∧ o ∈ ps ∧ 0 ≤ d ∧ d < m ∧ p ≠ o
  | .apart p c o d => p ∈ ps ∧ 0 ≤ c ∧ c < m ∧ o ∈ ps ∧ 0 ≤ d ∧ d < m ∧ p ≠ o
theorem Fc.lt {f : Fc} {n : Nat} : D.lt n f.d := by
  cases f with
  | scrape p c sh => exact ⟨trivial, trivial, trivial, D.lts_ints sh, trivial⟩
  | sold s y => exact ⟨trivial, trivial, trivial, trivial⟩
  | cover p l d => exact ⟨trivial, trivial, trivial, trivial, trivial⟩
  | _ => exact ⟨trivial, trivial, trivial, trivial, trivial, trivial⟩
theorem map_at {α : Type} {g : α → D} {l : List α} {i : Nat} {x : D} (h : (l.map g)[i]? = some x) : ∃ p, l[i]? = some p ∧ x = g p := by
  rw [List.getElem?_map] at h
  obtain ⟨p, hp, e⟩ := Option.map_eq_some_iff.mp h
  exact ⟨p, hp, e.symm⟩
theorem take_snoc {α : Type} {l : List α} {i : Nat} {p : α} (h : l[i]? = some p) : l.take (i + 1) = l.take i ++ [p] := by rw [List.take_add_one, h]; rfl
theorem idx_mem {ps : List Int} {p : Int} (h : p ∈ ps) : ∃ (j : Nat) (hj : j < ps.length), ps.idxOf? p = some j ∧ ps[j] = p := by
  cases e : ps.idxOf? p with
  | none =>
    have := List.findIdx?_eq_none_iff.mp e p h
    simp at this
  | some j =>
    obtain ⟨hj, e1, _⟩ := List.findIdx?_eq_some_iff_getElem.mp e
    exact ⟨j, hj, rfl, by simpa using e1⟩
theorem next_part {ps : List Int} {p : Int} (hn : ps.Nodup) (h2 : 2 ≤ ps.length) (h : p ∈ ps) : ∃ j : Nat, j < ps.length ∧ ps.idxOf? p = some j ∧ ∃ o : Int, o ∈ ps ∧ o ≠ p ∧ L2.atI (ps.map D.int) (((j : Int) + 1) % (ps.length : Int)) = some (.int o) := by
  obtain ⟨j, hj, e1, e2⟩ := idx_mem h
  have hp : (0 : Int) < ps.length := by omega
  have m0 := Int.emod_nonneg ((j : Int) + 1) (Int.ne_of_gt hp)
  have m1 := Int.emod_lt_of_pos ((j : Int) + 1) hp
  have hk : (((j : Int) + 1) % (ps.length : Int)).toNat < ps.length := by omega
  refine ⟨j, hj, e1, ps[(((j : Int) + 1) % (ps.length : Int)).toNat], List.getElem_mem hk, fun z => ?_, atI_get m0 (by rw [List.getElem?_map, List.getElem?_eq_getElem hk]; rfl)⟩
  have q := (List.getElem_inj hn).mp (z.trans e2.symm)
  have q2 : ((j : Int) + 1) % (ps.length : Int) = j := by omega
  by_cases hl : (j : Int) + 1 < ps.length
  · rw [Int.emod_eq_of_lt (by omega) hl] at q2; omega
  · have : (j : Int) + 1 = ps.length := by omega
    rw [this, Int.emod_self] at q2; omega
theorem atI_two {b x y lo hi : Int} (h0 : 0 ≤ b) (h1 : b < 2) (hx : lo ≤ x ∧ x ≤ hi) (hy : lo ≤ y ∧ y ≤ hi) : ∃ k : Int, (lo ≤ k ∧ k ≤ hi) ∧ L2.atI [D.int x, D.int y] b = some (.int k) := by
  have : b = 0 ∨ b = 1 := by omega
  rcases this with rfl | rfl
  · exact ⟨x, hx, rfl⟩
  · exact ⟨y, hy, rfl⟩
theorem eqd_pair (p c o d : Int) : D.eqd (.tup [.int p, .int c]) (.tup [.int o, .int d]) = decide (p = o ∧ c = d) := by
  rw [Bool.eq_iff_iff]; simp [D.eqd, D.eqds]
end LC

set_option Elab.async false
set_option linter.all false
set_option maxRecDepth 100000
set_option maxHeartbeats 5000000
/-! LD20: lists that may change later are lent to a def that changes nothing. -/
namespace LC
open PySem PySem.Spec
open PyProof.Rows L2
section
variable {K : PySem.W.Frag} {φ1 φ2 : Ph} {H : Hp}
end
section
variable {K : PySem.W.Frag}
end
end LC

set_option Elab.async false
set_option linter.all false
set_option maxRecDepth 100000
set_option maxHeartbeats 5000000
/-! LD21: the objects behind the n-th in another order. -/
namespace LC
open PySem PySem.Spec
open PyProof.Rows L2
section
variable {K : PySem.W.Frag} {φ1 φ2 : Ph} {H : Hp} {π : Nat → Nat}
end
section
variable {K : PySem.W.Frag} {φ : Ph} {H : Hp} {S : List O} {n : Nat} {is : List Nat} {π : Nat → Nat}
end
end LC

set_option Elab.async false
set_option linter.all false
set_option maxRecDepth 100000
set_option maxHeartbeats 5000000
/-! LD22: the __init__ of exceptions while another one is handled. -/
namespace LC
open PySem PySem.Spec
open PyProof.Rows L2
open L2H (FnH RoomH Hot1 HotC cxH)
section
variable {P : Program} {w : World} {K : PySem.W.Frag} {mg : Str → Option Value} {base : Heap}
theorem okH {x qual : Str} {st : Stmt} {f : Addr} {fd : FuncData} {N ps : List Str} {k : Nat} {sp : Sp} (F : Fun K x qual st f fd) (Sc : FnScope N ps (defScope st)) (len : ∀ vs H Q E, sp vs H Q E → vs.length = ps.length)
    (hb : ∀ (cdv : Value) (A : Around) (outer : List Env) (s : Shared) (H : Hp) (vs : List V) (Q : VK) (E : XK) (p : Addr × Obj), Hot1 A p → RoomH k (A.deeper (envOfC qual (defScope st) s.heap.objs.size f cdv)) → sp vs H Q E →
      ∃ t, PSs (cxH (L2.CX P w) P w K mg base N qual (defScope st) f cdv A outer s H E p) (defBody st) t ∧ t { nx := fun _ H' => Q .non H', rt := Q } (L2.start N vs) H) : FnH P w K mg base (L2.CX P w) (k + 1) f fd ps sp := by
  obtain ⟨oc, od, kV, doc, pm, an, cdv, ct, osl, rfl, lk, hcd⟩ := F.ex
  exact L2H.fn_ofH lk hcd Sc len fun A outer s H vs Q E p h1 h2 h3 => hb cdv A outer s H vs Q E p h1 h2 h3
theorem okHd {x qual : Str} {st : Stmt} {f : Addr} {fd : FuncData} {N ps : List Str} {k : Nat} {sp : Sp} {dvs : List V} (F : L2.FunD K x qual (defArgs st) (defBody st) (defScope st) dvs [] f fd) (Sc : FnScope N ps (defScope st)) (len : ∀ vs H Q E, sp vs H Q E → vs.length = ps.length)
    (hb : ∀ (cdv : Value) (A : Around) (outer : List Env) (s : Shared) (H : Hp) (vs : List V) (Q : VK) (E : XK) (p : Addr × Obj), Hot1 A p → RoomH k (A.deeper (envOfC qual (defScope st) s.heap.objs.size f cdv)) → sp vs H Q E →
      ∃ t, PSs (cxH (L2.CX P w) P w K mg base N qual (defScope st) f cdv A outer s H E p) (defBody st) t ∧ t { nx := fun _ H' => Q .non H', rt := Q } (L2.start N vs) H) : FnH P w K mg base (L2.CX P w) (k + 1) f fd ps sp := by
  obtain ⟨oc, od, dV, kV, doc, pm, an, cdv, ct, osl, rfl, lk, hcd, _, _⟩ := F.ex
  exact L2H.fn_ofH lk hcd Sc len fun A outer s H vs Q E p h1 h2 h3 => hb cdv A outer s H vs Q E p h1 h2 h3
end
section
variable {X : Cx} {k : Nat} {f C : Addr} {fd : FuncData} {ps : List Str} {sp : Sp} {x m : Str} {p1 p2 pos : Pos} {e : Expr} {es : List Expr} {t : TA} {mc : Value}
theorem pe_clsmH {pl : Sem Bool} (hg : Gl X x) (hm : X.mg x = some (.ref C)) (r : ClX.CRead X.K C mc) (hcl : PySem.W.findCls X.K (.ref C) mc m = some (.val (.ref f))) (F : FnH X.prog X.w X.K X.mg X.base (L2.CX X.prog X.w) k f fd ps sp) (hk : PySem.W.keepIn X.K (.ref f) = true) (hr : RoomH k X.A) (hc : HotC X) (hb : Binds X.K fd ps [])
    (ha : PA X (e :: es) t) (hdb : (x == ("__debug__" : Str)) = false := by decide)
    (hst : starEach (e :: es) X.env = (false, eval e X.env) :: starEach es X.env := by rfl) (hpl : (backTo pos (starEach es X.env)).any (·.1) = false := by rfl)
    (ht : eval (.Call (.Attribute (.Name x p1) m p2) (e :: es) [] pos) X.env = (do
      let ov ← eval (.Name x p1) X.env
      standAt p2.atName
      let (fn, pre) ← holding [ov] (getMethod ov m pl)
      callWith pos fn pre (backTo pos (starEach (e :: es) X.env)) (backToKw pos (keywordEach [] X.env))) := by rfl) :
    PE X (.Call (.Attribute (.Name x p1) m p2) (e :: es) [] pos) (tCall sp [] (fun _ _ _ => False) t) := by
  refine ⟨fun pn s σ H Q I hh => ?_⟩
  refine PySem.W.methodCall_KW (pl := pl) (ld_glob I hg hm ?_ hdb) ht
  refine PySem.W.method_cls I.kIn r.ga (ClX.getcval_ok (v := .ref f) I r ⟨hcl, rfl⟩ fun s' I' => ?_)
  refine PySem.W.callWith_K (first := []) (h₀ := X.base) I.ok.mod.kin hk (thn (ha.run pos pn s' σ H _ I' hh) fun ws t2 ⟨vs, M2, J2, r2, q2⟩ => ⟨J2.kIn, ?_⟩) hst hpl
  have q2 : sp (vs ++ []) M2 Q (fun _ _ _ => False) := q2
  rw [List.append_nil] at q2
  exact L2H.run_fnH (us := ws) (vs := vs) (E := fun _ _ _ _ => False) F hr hc hb (fun _ _ _ _ _ _ ⟨_, _, _, _, _, _, _, _, _, _, _, _, h⟩ => h.elim) J2 r2 q2
end
section
variable {P : Program} {w : World} {K : PySem.W.Frag} {mg : Str → Option Value} {base : Heap} {q : Str} {st : Stmt} {f : Addr} {fd : FuncData} {p1 p2 p3 p4 p5 p6 p7 p8 p9 p10 p11 p12 p13 : Pos}
theorem hot_lime (F : Fun K "__init__" q st f fd) (Sc : FnScope ["self", "called"] ["self", "called"] (defScope st))
    (hb : defBody st = [.Expr (.Call (.Attribute (.Name "ValueError" p1) "__init__" p2) [.Name "self" p3, .Name "called" p4] [] p5) p6, .Assign [.Attribute (.Name "self" p7) "called" p8] (.Name "called" p9) p10])
    (l1 : (defScope st).names.lookup ("self" : Str) = some .local) (l2 : (defScope st).names.lookup ("called" : Str) = some .local) (l3 : (defScope st).names.lookup ("ValueError" : Str) = some .globalImplicit) (hm : mg "ValueError" = none)
    (hc : McOk (.Name "ValueError" p1) "__init__" [.Name "self" p3, .Name "called" p4] p2 p5) (vV : PySem.W.findCls K (.type "ValueError") (.type "type") "__init__" = some (.val (.builtin "ValueError.__init__"))) : FnH P w K mg base (L2.CX P w) 1 f fd ["self", "called"] (spX0 K) := by
  refine okH F Sc (fun vs H Q E ⟨a, C, y, h, _⟩ => by subst h; rfl) fun cdv A outer s H vs Q E p hot hr ⟨a, C, y, hv, T, hno, ha, k⟩ => ?_
  subst hv
  rw [hb]
  obtain ⟨pl, hc⟩ := hc
  refine ⟨_, pss_cons (ps_expr (pe_veinit l3 hm vV (pa_cons (pe_var (i := 0) rfl (.inl l1) (by decide) (by decide)) (pa_cons (pe_var (i := 1) rfl (.inl l2) (by decide) (by decide)) pa_nil)) (hc _)) rfl)
    (pss_one (ps_ost (pe_var (i := 0) rfl (.inl l1) (by decide) (by decide)) (pe_var (i := 1) rfl (.inl l2) (by decide) (by decide)))), ?_⟩
  refine ⟨.ref a, rfl, y, rfl, a, C, [y], rfl, (by show (1:Nat) ≤ 1000; decide), T, ha, y, rfl, .ref a, rfl, a, C, rfl, T, hno, .inl ⟨ha, fun d hd hne => ?_⟩⟩
  exact k d hd hne
end
section
variable {P : Program} {w : World} {K : PySem.W.Frag} {mg : Str → Option Value} {base : Heap} {q wd m n : Str} {st : Stmt} {f fB C B : Addr} {mc : Value} {fd fdB : FuncData} {j : Nat} {p1 p2 p3 p4 p5 p6 p7 p8 p9 p10 p11 p12 p13 p14 : Pos}
theorem hot_body1 (Sc : FnScope ["self", m] ["self", m] (defScope st)) (hb : defBody st = [sup wd j p1 p2 p3 p4 p5 p6, .Assign [.Attribute (.Name "self" p7) m p8] (.Name m p9) p10]) (hc : McOk (.Name "LimeError" p1) "__init__" [.Name "self" p3, .Constant (.str wd) j p4] p2 p5)
    (l1 : (defScope st).names.lookup ("self" : Str) = some .local) (l2 : (defScope st).names.lookup m = some .local) (l3 : (defScope st).names.lookup ("LimeError" : Str) = some .globalImplicit) (G : XcOk K mg B fB fdB mc) (FB : FnH P w K mg base (L2.CX P w) 1 fB fdB ["self", "called"] (spX0 K))
    (T : OexC K C) (nc : PySem.W.findIn K (.ref C) "called" = some none) (nm : PySem.W.findIn K (.ref C) m = some none) (dm : (m == ("__debug__" : Str)) = false) (cm : (m == ("__classdict__" : Str)) = false)
    (cdv : Value) (A : Around) (outer : List Env) (s : Shared) (H : Hp) (vs : List V) (Q : VK) (E : XK) (p : Addr × Obj) (hot : Hot1 A p) (hr : RoomH 1 (A.deeper (envOfC q (defScope st) s.heap.objs.size f cdv))) (h : spX C 1 (fun us => us.map (fun x => (m, x)) ++ [(("called" : Str), V.str wd)]) vs H Q E) :
    ∃ t, PSs (cxH (L2.CX P w) P w K mg base ["self", m] q (defScope st) f cdv A outer s H E p) (defBody st) t ∧ t { nx := fun _ H' => Q .non H', rt := Q } (L2.start ["self", m] vs) H := by
  obtain ⟨a, us, hv, hl, ha, k⟩ := h
  subst hv
  rw [hb]
  obtain ⟨pl, hc⟩ := hc
  obtain ⟨x, rfl⟩ : ∃ x, us = [x] := List.length_eq_one_iff.mp hl
  have hotC : HotC (cxH (L2.CX P w) P w K mg base ["self", m] q (defScope st) f cdv A outer s H E p) := ⟨p, ⟨hot.1, hot.2⟩, List.mem_singleton.mpr rfl⟩
  refine ⟨_, pss_cons (ps_expr (pe_clsmH l3 G.gB G.rB G.iB FB G.kB hr hotC G.bB (pa_cons (pe_var (i := 0) rfl (.inl l1) (by decide) (by decide)) (pa_cons pe_str pa_nil)) (ht := hc _)) rfl)
    (pss_one (ps_ost (pe_var (i := 0) rfl (.inl l1) (by decide) (by decide)) (pe_var (i := 1) rfl (.inl l2) dm cm))), ?_⟩
  refine ⟨.ref a, rfl, a, C, .str wd, rfl, T, nc, ha, fun d hd hne => ?_⟩
  refine ⟨x, rfl, .ref a, rfl, a, C, rfl, T, nm, .inr ⟨d, _, upd_same, by rw [upd_ne hne, upd_same], by show (1:Nat) ≤ 900; decide, ?_⟩⟩
  refine k d _ hd hne (by rw [upd_ne (Ne.symm hne), upd_same]) upd_same fun b h1 h2 => by rw [upd_ne h2, upd_ne h1, upd_ne h2]
theorem hot_exc1d {dvs : List V} (F : L2.FunD K "__init__" q (defArgs st) (defBody st) (defScope st) dvs [] f fd) (Sc : FnScope ["self", m] ["self", m] (defScope st)) (hb : defBody st = [sup wd j p1 p2 p3 p4 p5 p6, .Assign [.Attribute (.Name "self" p7) m p8] (.Name m p9) p10]) (hc : McOk (.Name "LimeError" p1) "__init__" [.Name "self" p3, .Constant (.str wd) j p4] p2 p5)
    (l1 : (defScope st).names.lookup ("self" : Str) = some .local) (l2 : (defScope st).names.lookup m = some .local) (l3 : (defScope st).names.lookup ("LimeError" : Str) = some .globalImplicit) (G : XcOk K mg B fB fdB mc) (FB : FnH P w K mg base (L2.CX P w) 1 fB fdB ["self", "called"] (spX0 K))
    (T : OexC K C) (nc : PySem.W.findIn K (.ref C) "called" = some none) (nm : PySem.W.findIn K (.ref C) m = some none) (dm : (m == ("__debug__" : Str)) = false) (cm : (m == ("__classdict__" : Str)) = false) : FnH P w K mg base (L2.CX P w) 2 f fd ["self", m] (spX C 1 fun us => us.map (fun x => (m, x)) ++ [(("called" : Str), V.str wd)]) :=
  okHd F Sc (fun vs H Q E ⟨a, us, h, hl, _⟩ => by subst h; simp [hl]) fun cdv A outer s H vs Q E p hot hr h => hot_body1 Sc hb hc l1 l2 l3 G FB T nc nm dm cm cdv A outer s H vs Q E p hot hr h
end
/-! ### dicts of the top -/
/-- the entries of such a dict -/
def EntL (K : PySem.W.Frag) : List DictEntry → List (Str × D) → Prop
  | [], l => l = []
  | e :: es, l => ∃ x d t r, l = (x, d) :: r ∧ e.key = .str x t ∧ (∃ v, RelV v e.val ∧ ∀ φ H, RV K φ H d v) ∧ EntL K es r
structure DctK (K : PySem.W.Frag) (Pm : Params) (a : Addr) (l : List (Str × D)) : Prop where
  ex : ∃ es n, K.lookup a = some ⟨.type "dict", none, .dict es n, #[]⟩ ∧ PySem.W.KeysLit Pm es.toList ∧ EntL K es.toList l
  low : (a == sysModules) = false
theorem EntL.find {K : PySem.W.Frag} {x : Str} : ∀ {es : List DictEntry} {l : List (Str × D)}, EntL K es l → (match l.lookup x with
    | some d => ∃ e, es.find? (·.key.isStr x) = some e ∧ ∃ v, RelV v e.val ∧ ∀ φ H, RV K φ H d v
    | none => es.find? (·.key.isStr x) = none ∧ es.any (·.refKey) = false)
  | [], _, h => by cases h; exact ⟨rfl, rfl⟩
  | e :: es, _, ⟨y, d, t, r, e1, e2, hv, h⟩ => by
    subst e1
    have ih := EntL.find (x := x) h
    have hk : e.key.isStr x = (x == y) := by rw [e2]; show (y == x) = (x == y); rw [Bool.eq_iff_iff, beq_iff_eq, beq_iff_eq]; exact eq_comm
    have hr : e.refKey = false := by unfold DictEntry.refKey; rw [e2]
    rw [List.lookup_cons, List.find?_cons, hk]
    cases hx : x == y with
    | true => exact ⟨e, rfl, hv⟩
    | false =>
      simp only
      split at ih
      · exact ih
      · exact ⟨ih.1, by rw [List.any_cons, hr, ih.2]; rfl⟩
theorem DctK.at {K : PySem.W.Frag} {w : World} {a : Addr} {l : List (Str × D)} (h : DctK K w.params a l) (x : Str) : match l.lookup x with
    | some d => ∃ v, KDct K w a x v ∧ ∀ φ H, RV K φ H d v
    | none => KMiss K w a x := by
  obtain ⟨es, n, h1, h2, h3⟩ := h.ex
  have f := EntL.find (x := x) h3
  split at f
  · obtain ⟨e, g1, v, g2, g3⟩ := f
    refine ⟨v, ⟨es, n, e.val, h1, h2, ?_, g2⟩, g3⟩
    unfold PySem.W.nsIn
    rw [h1]
    simp only [g1]
  · refine ⟨es, n, h1, h2, h.low, ?_⟩
    unfold PySem.W.nsIn
    rw [h1]
    simp only [f.1, f.2]
    rfl
end LC

set_option Elab.async false
set_option linter.all false
set_option maxRecDepth 100000
set_option maxHeartbeats 5000000
/-! LD23: x = T[e], T a dict of the top; where e is none of its keys, another exception is raised. -/
namespace LC
open PySem PySem.Spec
open PyProof.Rows L2
open L2H (FnH RoomH HotC suiteX)
section
variable {X : Cx} {B : Bs}
end
end LC

set_option Elab.async false
set_option linter.all false
set_option maxRecDepth 100000
set_option maxHeartbeats 5000000
/-! LD24: T[e] of a dict of the top; a local name that holds a def. -/
namespace LC
open PySem PySem.Spec
open PyProof.Rows L2
/-- T[e], the key is there -/
def oIxK (dT : Addr) (l : List (Str × D)) : QO := fun d e S Q => match d, e with
  | .adr a, .str x => Need (a = dT) (Opt (l.lookup x) fun v => Q v S)
  | _, _ => False
section
variable {X : Cx} {B : Bs}
theorem ox_kd {dT : Addr} {l : List (Str × D)} (hT : DctK X.K X.w.params dT l) : IxR X (upR X.K B (oIxK dT l)) := IxR.imp ix_kdict fun x y H Q ⟨φ, S, d, e, Q', hr, r1, r2, q, k⟩ => by
  unfold oIxK at q
  split at q
  · rename_i a z
    obtain ⟨rfl, q⟩ := q
    obtain ⟨v, hv, q⟩ := q.get
    have at_ := hT.at (w := X.w) z
    rw [hv] at at_
    obtain ⟨u, h1, h2⟩ := at_
    cases r1; cases r2
    exact ⟨a, z, u, rfl, rfl, h1, k.here hr (h2 _ _) q⟩
  · exact q.elim
end
/-- defs that a name may hold -/
structure HeldD (P : Program) (w : World) (K : PySem.W.Frag) (mg : Str → Option Value) (base : Heap) (k : Nat) (f : Addr) (sp : SpD) : Prop where
  ex : ∃ (fd : FuncData) (ps : List Str), FnOk P w K mg base (L2.CX P w) k f fd ps (upF K sp) ∧ PySem.W.keepIn K (.ref f) = true ∧ Binds K fd ps []
theorem Fx.held {P : Program} {w : World} {K : PySem.W.Frag} {mg : Str → Option Value} {base : Heap} {j k : Nat} {f : Addr} {fd : FuncData} {x : Str} {ps : List Str} {sp : SpD} (G : Fx P w K mg base j f fd x ps sp) (h : j ≤ k) : HeldD P w K mg base k f sp := ⟨fd, ps, G.ok.mono h, G.kp, G.bi⟩
def qCallA (i : Nat) (L : List (Addr × SpD)) (W' : WD) (q : QA) : QE := fun s S Q => ∃ (f : Addr) (sp : SpD) (j : Nat), s[i]? = some (some (.adr f)) ∧ L[j]? = some (f, sp) ∧ q s S fun ds S1 => sp ds S1 Q fun C fs S' => W' C fs s S'
section
variable {X : Cx} {B : Bs} {k i : Nat} {L : List (Addr × SpD)} {W : WX} {W' : WD} {x : Str} {p pos : Pos} {e : Expr} {es : List Expr} {q : QA}
theorem le_callA (hL : ∀ z ∈ L, HeldD X.prog X.w X.K X.mg X.base k z.1 z.2) (hr : Room k X.A) (hN : X.N[i]? = some x) (hv : Vis X.env.scope x) (tk : Takes X W) (wl : WL X.K B W' W) (ha : LA X B (e :: es) q)
    (hdb : (x == ("__debug__" : Str)) = false := by decide) (hcd : (x == ("__classdict__" : Str)) = false := by decide)
    (st : starEach (e :: es) X.env = (false, eval e X.env) :: starEach es X.env := by rfl) (pn : (backTo pos (starEach es X.env)).any (·.1) = false := by rfl) : LE X B (.Call (.Name x p) (e :: es) [] pos) (qCallA i L W' q) := ⟨fun pins s σ H Q I ⟨φ, sl, S, Q', hr', ev, ⟨f, sp, j, h1, h2, qq⟩, kk⟩ => by
  obtain ⟨fd, ps, F, hk, hb⟩ := (hL _ (List.mem_of_getElem? h2)).ex
  obtain ⟨v, g1, g2⟩ := ev.at' i _ h1
  cases g2
  refine wpAny_Call_Name_kw (thn ((pe_var (pos := p) hN hv hdb hcd).run pins s σ H (fun v H1 => v = .ref f ∧ H1 = H) I ⟨.ref f, g1, rfl, rfl⟩) fun u s1 ⟨v, H1, I1, r1, e1, e2⟩ => ?_)
  subst e1 e2
  cases r1
  refine PySem.W.callWith_K (h₀ := X.base) I.ok.mod.kin hk (thn (ha.run pos pins s1 σ _ (fun vs H2 => ∃ φ1 dl S1, Ext X.K φ φ1 H1 H2 ∧ HR X.K B φ1 H2 S1 ∧ RVs X.K φ1 H2 dl vs ∧ sp dl S1 Q' fun C fs S' => W' C fs sl S') I1
    ⟨φ, sl, S, _, hr', ev, qq, fun φ1 dl S1 vs H2 e1 hr1 r1 q1 => ⟨φ1, dl, S1, e1, hr1, r1, q1⟩⟩) fun us s2 ⟨vs, H2, I2, r, φ1, dl, S1, e1, hr1, r1, q1⟩ => ⟨I2.kIn, ?_⟩) st pn
  exact run_fnSD (ds := []) (dvs := []) (E := WE W) F hr hb .nil (passAt tk σ) I2 r (by rw [List.append_nil]; exact upF_at hr1 (ev.mono e1) r1 wl q1 (kk.ext e1))⟩
end
end LC

set_option Elab.async false
set_option linter.all false
set_option maxRecDepth 100000
set_option maxHeartbeats 5000000
/-! LD25: calls with keywords that stand in the parameters' order and fill all of them. -/
namespace LC
open PySem PySem.Spec
open PyProof.Rows L2
section
variable {K : PySem.W.Frag} {x qual : Str} {params : Arguments} {body : List Stmt} {scope : Scope} {dvs : List V} {f : Addr} {fd : FuncData} {ps ks : List Str} {n : Nat}
end
section
variable {X : Cx} {B : Bs} {k n : Nat} {f : Addr} {fd : FuncData} {ps ks : List Str} {sp : SpD} {W : WX} {W' : WD} {x : Str} {p pos kpos : Pos} {e : Expr} {es : List Expr} {kws : List Keyword} {qe : QE} {q qk : QA} {nm : Option Str}
end
end LC

set_option Elab.async false
set_option linter.all false
set_option maxRecDepth 100000
set_option maxHeartbeats 5000000
/-! LD26: what looking at a finding comes to. -/
namespace LC
open PySem PySem.Spec
open PyProof.Rows L2
def Fc.sh : Fc → List Int
  | .scrape _ _ sh => sh
  | _ => []
end LC

set_option Elab.async false
set_option linter.all false
set_option maxRecDepth 100000
set_option maxHeartbeats 5000000
/-! LD27: a < b < c of whole numbers where c is a written number: no cases. Checks: a list of (good, name). -/
namespace LC
open PySem PySem.Spec
open PyProof.Rows L2
section
variable {X : Cx} {B : Bs} {a b c : Expr} {qa qb : QE} {pos : Pos}
end
end LC

set_option Elab.async false
set_option linter.all false
set_option maxRecDepth 100000
set_option maxHeartbeats 5000000
/-! LD28: the law's checks of a finding. -/
namespace LC
open PySem PySem.Spec
open PyProof.Rows L2
theorem ltN {n : Nat} (h : n ≤ 1000) : n < sizeLine := Nat.lt_of_le_of_lt h (by decide)
theorem leN {n : Nat} (h : n ≤ 1000) : n ≤ sizeLine := Nat.le_trans h (by decide)
end LC

set_option Elab.async false
set_option linter.all false
set_option maxRecDepth 100000
set_option maxHeartbeats 5000000
/-! LD29: tuple * int, one and more. -/
namespace LC
open PySem PySem.Spec
open PyProof.Rows L2
theorem tuple_mul1 (l : Addr) (items : Array Value) (n : Nat) (dd : Option Addr) (sl : Array (Option Value)) (u : Tok) :
    Meets (Builtin.«tuple.__mul__» ⟨[.ref l, .int 1 u], []⟩) (fun _ R s => s.heap.get? l = some { cls := .type "tuple", dict := dd, data := .seq items n, slots := sl } ∧ R (.ok (.ret (Value.ref l))) s) :=
  .of_wp fun prog w A R s h => by
    obtain ⟨hp, g, d, tk, os⟩ := s
    obtain ⟨hl, h⟩ := h
    have f1 := AutoSeq1.idx_int
    have c1 : (items.isEmpty || (1 : Int) == 1) = true := by simp
    wp_walk using wpAny_loadPart' hl
    repeat (first
      | (refine wpAny_ite_false (decide_eq_false (by decide)) ?_; wp_walk using wpAny_loadPart' hl)
      | (refine wpAny_ite_true (decide_eq_true c1) ?_; wp_walk using wpAny_loadPart' hl))
    exact ⟨_, rfl, h⟩
def rRep1 (K : PySem.W.Frag) : R2 := fun x y H Q => ∃ l xs, x = .ref l ∧ y = .int 1 ∧ SqT K H l xs ∧ Q (.ref l) H
section
variable {X : Cx} {B : Bs}
theorem op_rep1 : OpR X (binaryOp .Mult) (rRep1 X.K) := by
  intro pins s σ H x y v u Q I rx ry h
  obtain ⟨l, xs, rfl, rfl, hT, q⟩ := h
  cases rx
  obtain ⟨t, rfl⟩ := ry
  obtain ⟨its, r, ⟨⟨cls, dd, data, sl⟩, ho, hc, n, hd⟩, hs⟩ := I.tuple hT
  simp only at hc hd
  subst hc hd
  refine wpAny_binaryOp_repeat_ref (T := "tuple") (U := "int") (by decide) ⟨_, ho, rfl⟩ (fun s' => typeIs_int s' 1 t) noFill_tuple_mul F.fills_int_mul F.slot_int_rmul repeat_tuple F.slot_int_index.lookup
    (call_meets F.slot_int_rmul (typeIs_int s 1 t) F.entry_int_rmul (F.args_int_rmul_2 _ _) (int_rmul_tuple 1 t l its.toArray n dd sl)
      ⟨ho, rfl, ⟨_, ho, rfl⟩, call_meets F.slot_tuple_mul ⟨_, ho, rfl⟩ F.entry_tuple_mul (F.args_tuple_mul_2 _ _) (tuple_mul1 l its.toArray n dd sl t) ⟨ho, ?_⟩⟩)
  exact ⟨.ref l, _, I, rfl, q⟩
/-- * of ints, of a list and an int, of a tuple and an int -/
def oMulX : QO := fun d e S Q => match d, e with
  | .tup xs, .int j => Need (xs ≠ [] ∧ 1 ≤ j ∧ j ≤ 1000 ∧ xs.length ≤ 1000) (Q (.tup (List.replicate j.toNat xs).flatten) S)
  | d, e => oMul d e S Q
theorem oo_mulX : OpR X (binaryOp .Mult) (upR X.K B oMulX) := OpR.imp ((op_mul.or op_rep).or (op_rep1.or op_repT)) fun x y H Q ⟨φ, S, d, e, Q', hr, r1, r2, q, k⟩ => by
  unfold oMulX at q
  split at q
  · rename_i xs j
    obtain ⟨p, vs, rfl, h1, h2⟩ := id r1
    cases r2
    obtain ⟨⟨hne, h3, h4, h5⟩, q⟩ := q
    by_cases hj : j = 1
    · subst hj
      refine .inr (.inl ⟨p, vs, rfl, rfl, h1, ?_⟩)
      have e : (List.replicate (1 : Int).toNat xs).flatten = xs := by simp
      rw [e] at q
      exact k.here hr r1 q
    · refine .inr (.inr ⟨p, j, vs, rfl, rfl, h1, ?_, by omega, h4, by rw [h2.len]; exact h5, fun p' hp => k.tup hr hp (h2.rep _) q⟩)
      intro z
      have := h2.len
      rw [z] at this
      exact hne (List.length_eq_zero_iff.mp this.symm)
  · unfold oMul at q
    split at q
    · cases r1; cases r2
      exact .inl (.inl ⟨_, _, rfl, rfl, q.c, k.here (d := D.int _) hr rfl q.q⟩)
    · cases r2
      split at q
      · rename_i xs e1
        obtain ⟨a, vs, rfl, h5, h6⟩ := hr.ls e1 r1
        exact .inl (.inr ⟨a, _, vs, rfl, rfl, h5, by have := q.c.1; omega, q.c.2.1, by rw [h6.len]; exact q.c.2.2, fun p hp => k.lst hr hp (h6.rep _) q.q⟩)
      · exact q.elim
    · exact q.elim
end
theorem cutD_from1 {d : D} {r : List D} : cutD (d :: r) (some 1) none = r := by
  unfold cutD
  rw [show (1 : Int) = ((1 : Nat) : Int) from rfl, HT.sIx_nat]
  show ((d :: r).drop (min 1 (d :: r).length)).take ((d :: r).length - min 1 (d :: r).length) = r
  rw [show min 1 (d :: r).length = 1 by simp]
  simp
end LC

set_option Elab.async false
set_option linter.all false
set_option maxRecDepth 100000
set_option maxHeartbeats 5000000
/-! LD30: zip(a, b, strict=True), a and b lists or tuples. -/
namespace LC
open PySem PySem.Spec
open PyProof.Rows L2
section
variable {prog : Program} {w : World} {A : Around} {E : Value → Shared → Prop} {s : Shared}
theorem object_init_meetsK {T newId : String} {self : Value} {rest : List Value} {kw : List (Str × Value)} (hr : rest ≠ []) (hl : typeLookup (.type T) "__init__" = pure (some (.builtin "object.__init__")))
    (hm : Bind.madeBy (.type T) = pure (some newId)) (hne : (some newId != some "object.__new__") = true) :
    Meets (Builtin.«object.__init__» ⟨self :: rest, kw⟩) (fun _ R s => s.TypeIs self T ∧ R (.ok (.ret .none)) s) := by
  refine Meets.of_wp fun prog w A R s hs => ?_
  obtain ⟨hT, hq⟩ := hs
  cases rest with
  | nil => exact absurd rfl hr
  | cons a rest =>
    repeat (any_goals (first | assumption | wp_step))
    exact ⟨_, rfl, hq⟩
theorem callType_newK {T newId : String} {Bn : Builtin} {args : List Value} {kw : List (Str × Value)} {S : PySem.Spec} {Q : Value → Shared → Prop} (ft : TypeCalled T newId "object.__init__") (hr : args ≠ [])
    (hne : (some newId != some "object.__new__") = true) (hct : checkTypeCall T ⟨args, kw⟩ = pure ()) (hcn : checkBuiltinCall newId ⟨.type T :: args, kw⟩ = pure ())
    (hok : ∀ obj, argsOk "object.__init__" ⟨obj :: args, kw⟩) (entryN : entryFor table newId = some Bn) (g : Meets (Bn ⟨.type T :: args, kw⟩) S)
    (h : S A.in1 (wants (fun obj s₁ => s₁.TypeIs obj T ∧ Q obj s₁) E) s) : wpAny (model prog w) A (call (.type T) args kw) Q E s := by
  obtain ⟨c, tl, hmro⟩ := ft.mro
  have hmade := ft.made
  have hsub := ft.sub
  refine wpAny_call (codeAny_of_tree ?_)
  show wpAny _ _ (callAny (.type T) _) _ _ _
  refine wpAny_pure ⟨Code.quiet_builtin _ (by decide +kernel), codeAny_builtin F.entry_type_call ?_⟩
  rw [Around.under_plain (weight_type_call_type T args kw) (units_type_call_type T args kw)]
  have h1 := ft.notType
  have h2 := ft.canCreate
  repeat (any_goals (first | assumption | wp_step))

  refine codeAny_mono (codeAny_call_builtin ft.plain entryN (wpAny_of_eq hcn (g prog w A.in1 _ s h))) fun r s₁ hr' => ?_
  cases r with
  | error e => exact hr'
  | ok fl =>
    cases fl with
    | ret obj =>
      obtain ⟨hT, hq⟩ := hr'
      have hli := ft.init.lookup
      have hbi := ft.init.bind obj
      repeat (any_goals (first | assumption | wp_step))

      refine codeAny_mono (codeAny_call_builtin ft.init.plain F.entry_object_init (ft.init.check _ _ _ _ _ _ _ _ hT (hok obj) (object_init_meetsK hr ft.init.lookup ft.made hne prog w A.in1 (wants (fun r s₂ => r = .none ∧ Q obj s₂) E) s₁ ⟨hT, rfl, hq⟩))) fun r₂ s₂ hr₂ => ?_
      cases r₂ with
      | error e => exact hr₂
      | ok fl₂ =>
        cases fl₂ with
        | ret r =>
          obtain ⟨rfl, hq⟩ := hr₂
          repeat (any_goals (first | assumption | wp_step))
        | _ => exact hr₂.elim
    | _ => exact hr'.elim
end
theorem typeCall_zipS (a b : Value) (t : Value) : checkTypeCall "zip" ⟨[a, b], [("strict", t)]⟩ = pure () := by kernel_rfl
theorem newCall_zipS (a b : Value) (t : Value) : checkBuiltinCall "zip.__new__" ⟨[.type "zip", a, b], [("strict", t)]⟩ = pure () := by kernel_rfl
theorem args_object_init_3K (a b c t : Value) : argsOk "object.__init__" ⟨[a, b, c], [("strict", t)]⟩ := by
  unfold argsOk; rw [signature?_of (id := "object.__init__") (n := ['_', '_', 't', 'i', 'n', 'i', '_', '_']) (o := ['t', 'c', 'e', 'j', 'b', 'o']) (by kernel_rfl) PySem.F.owner_object]; kernel_rfl
/-! ### the iterators, of a list or a tuple -/
def ItG (b : Bool) (h : Heap) (it l : Addr) (k : Nat) : Prop := match b with
  | true => h.IsTupleIter it l k
  | false => h.IsListIter it l k
def SrG (b : Bool) (h : Heap) (l : Addr) (items : Array Value) : Prop := match b with
  | true => h.IsTuple l items
  | false => h.IsList l items
theorem ItG.ext {b : Bool} {h h' : Heap} {a c l : Addr} {i : Nat} (x : ItG b h a l i) (hs : Heap.ExtBut c h h') (hab : a ≠ c) : ItG b h' a l i := by
  cases b with
  | true => exact Heap.IsTupleIter.extBut x hs hab
  | false => exact Heap.IsListIter.extBut x hs hab
theorem ItG.at {b : Bool} {h h' : Heap} {a l : Addr} {i : Nat} (x : ItG b h a l i) (e : ∀ o, h.get? a = some o → h'.get? a = some o) : ItG b h' a l i := by
  cases b with
  | true => exact Heap.IsTupleIter.at x e
  | false => exact Heap.IsListIter.at x e
theorem SrG.ext {b : Bool} {h h' : Heap} {a c : Addr} {items : Array Value} (x : SrG b h a items) (hs : Heap.ExtBut c h h') (hab : a ≠ c) : SrG b h' a items := by
  cases b with
  | true => exact Heap.IsTuple.extBut x hs hab
  | false => exact Heap.IsList.extBut x hs hab
theorem ItG.ob {b : Bool} {h : Heap} {a l : Addr} {i : Nat} (x : ItG b h a l i) : ∃ o vs, h.get? a = some o ∧ o.data = .fields vs := by
  cases b with
  | true => obtain ⟨o, h1, _, h2⟩ := x; exact ⟨o, _, h1, h2⟩
  | false => obtain ⟨o, h1, _, h2⟩ := x; exact ⟨o, _, h1, h2⟩
theorem SrG.lt {b : Bool} {h : Heap} {a : Addr} {items : Array Value} (x : SrG b h a items) : a < h.objs.size := by
  cases b with
  | true => obtain ⟨o, h1, _⟩ := x; exact Heap.lt_size h1
  | false => obtain ⟨o, h1, _⟩ := x; exact Heap.lt_size h1
abbrev IsZipS (h : Heap) (z TI TO : Addr) (f0 : Value) : Prop :=
  h.get? z = some { cls := .type "zip", dict := none, data := .fields #[f0, .bool false, .bool true, .ref TI, .ref TO], slots := #[] }
section
variable {prog : Program} {w : World} {A : Around} {E : Value → Shared → Prop} {s : Shared}
theorem nextG_item {b : Bool} {it l : Addr} {i : Nat} {items : Array Value} {x : Value} {Q : Value → Shared → Prop} (hit : ItG b s.heap it l i)
    (hl : SrG b s.heap l items) (hx : items[i]? = some x)
    (hQ : ∀ h', ItG b h' it l (i + 1) → Heap.SameBut it s.heap h' → Q x { s with heap := h' }) :
    wpAny (model prog w) A (Builtin.SmallTypes.nextOf (.ref it)) Q E s := by
  cases b with
  | true => exact RZ.nextOf_tuple_item hit hl hx hQ
  | false => exact wpAny_nextOf_list_item hit hl hx hQ
theorem nextG_end {b : Bool} {it l : Addr} {i : Nat} {items : Array Value} {Q : Value → Shared → Prop} (hh : A.handled = none)
    (hit : ItG b s.heap it l i) (hl : SrG b s.heap l items) (hx : items[i]? = none)
    (hE : ∀ h' e, Heap.ExtBut it s.heap h' → (∃ o, h'.get? e = some o ∧ o.cls = .type "StopIteration") → E (.ref e) { s with heap := h' }) :
    wpAny (model prog w) A (Builtin.SmallTypes.nextOf (.ref it)) Q E s := by
  cases b with
  | true => exact RZ.nextOf_tuple_end hh hit hl hx hE
  | false => exact wpAny_nextOf_list_end hh hit hl hx hE
theorem nextS_item {b : Bool} {it l : Addr} {i : Nat} {items : Array Value} {x : Value} {Q : Option Value → Shared → Prop} (hit : ItG b s.heap it l i)
    (hl : SrG b s.heap l items) (hx : items[i]? = some x)
    (hQ : ∀ h', ItG b h' it l (i + 1) → Heap.SameBut it s.heap h' → Q (some x) { s with heap := h' }) :
    wpAny (model prog w) A (Builtin.SmallTypes.nextOrEnd (.ref it)) Q E s := by
  unfold Builtin.SmallTypes.nextOrEnd
  exact wpAny_bind (wpAny_attempt (nextG_item hit hl hx fun h' h1 h2 => wpAny_pure (hQ h' h1 h2)))
theorem nextS_end {b : Bool} {it l : Addr} {i : Nat} {items : Array Value} {Q : Option Value → Shared → Prop} (hh : A.handled = none)
    (hit : ItG b s.heap it l i) (hl : SrG b s.heap l items) (hx : items[i]? = none)
    (hQ : ∀ h', Heap.ExtBut it s.heap h' → Q none { s with heap := h' }) :
    wpAny (model prog w) A (Builtin.SmallTypes.nextOrEnd (.ref it)) Q E s := by
  unfold Builtin.SmallTypes.nextOrEnd
  refine wpAny_bind (wpAny_attempt (nextG_end hh hit hl hx fun h' e hk ⟨o, ho, hc⟩ => ?_))
  exact wpAny_bind (wpAny_isInstance (T := "StopIteration") (b := true) ⟨o, ho, hc⟩ isSubtype_stop (wpAny_pure (hQ _ hk)))
theorem zipS_next_item {b1 b2 : Bool} {z TI TO i1 i2 l1 l2 : Addr} {k1 k2 : Nat} {xs ys : Array Value} {x y a b : Value} {Q : Value → Shared → Prop} (D : ZipApart z TI TO i1 i2 l1 l2)
    (hz : IsZipS s.heap z TI TO .none) (hTI : IsPair s.heap TI (.ref i1) (.ref i2)) (hTO : IsPair s.heap TO a b)
    (h1 : ItG b1 s.heap i1 l1 k1) (h2 : ItG b2 s.heap i2 l2 k2) (hl1 : SrG b1 s.heap l1 xs) (hl2 : SrG b2 s.heap l2 ys) (hx : xs[k1]? = some x) (hy : ys[k2]? = some y)
    (hQ : ∀ h', IsZipS h' z TI TO (rawInt s.heap.objs.size) → IsPair h' TO x y → ItG b1 h' i1 l1 (k1 + 1) → ItG b2 h' i2 l2 (k2 + 1) → IsPair h' s.heap.objs.size x y → h'.objs.size = s.heap.objs.size + 1 →
      (∀ c o, c ≠ z → c ≠ TO → c ≠ i1 → c ≠ i2 → s.heap.get? c = some o → h'.get? c = some o) → Q (.ref s.heap.objs.size) { s with heap := h' }) :
    wpAny (model prog w) A (Builtin.«zip.__next__» ⟨[.ref z], []⟩) (fun fin s' => ∃ v, fin = .done (.ret v) ∧ Q v s') E s := by
  show wpAny _ _ (field (.ref z) 2 >>= _) _ _ _
  refine wpAny_bind (wpAny_field hz rfl (x := .bool true) rfl ?_)
  show wpAny _ _ (field (.ref z) 3 >>= _) _ _ _
  refine wpAny_bind (wpAny_field hz rfl (x := .ref TI) rfl ?_)
  refine wpAny_bind (wpAny_seqItems hTI rfl ?_)
  show wpAny _ _ (Builtin.SmallTypes.ownedTupleIsFree (.ref z) >>= _) _ _ _
  refine wpAny_bind ?_
  unfold Builtin.SmallTypes.ownedTupleIsFree
  refine wpAny_bind (wpAny_field hz rfl (x := .none) rfl (wpAny_pure ?_))
  simp only [if_true]
  refine wpAny_bind (wpAny_rule ?_)
  refine wpAny_bind (wpAny_field hz rfl (x := .ref TO) rfl ?_)
  refine wpAny_bind (wpAny_setField_rec hz (by simp) fun h₁ hz₁ hs₁ => ?_)
  replace hz₁ : IsZipS h₁ z TI TO .ellipsis := hz₁
  refine wpAny_bind ?_
  simp only [List.zipIdx_cons, List.zipIdx_nil, List.forIn_cons, List.forIn_nil]

  refine wpAny_bind (wpAny_bind (wpAny_onRaise ?_))
  show wpAny _ _ (Builtin.SmallTypes.nextOrEnd (.ref i1)) _ _ _
  refine nextS_item (h1.ext hs₁.extBut D.i1z) (hl1.ext hs₁.extBut D.l1z) hx fun h₂ h1₂ hs₂ => ?_
  have hTO₂ : IsPair h₂ TO a b := hs₂.extBut _ _ D.TOi1 (hs₁.extBut _ _ D.TOz hTO)
  refine wpAny_bind (wpAny_seqItems hTO₂ rfl ?_)
  refine wpAny_bind (wpAny_updateSeq_pair hTO₂ fun h₃ hTO₃ hs₃ => ?_)
  replace hTO₃ : IsPair h₃ TO x b := hTO₃
  refine wpAny_bind (wpAny_letGo (wpAny_pure ?_))

  refine wpAny_bind (wpAny_bind (wpAny_onRaise ?_))
  show wpAny _ _ (Builtin.SmallTypes.nextOrEnd (.ref i2)) _ _ _
  refine nextS_item (((h2.ext hs₁.extBut D.i2z).ext hs₂.extBut D.i12.symm).ext hs₃.extBut D.TOi2.symm)
    (((hl2.ext hs₁.extBut D.l2z).ext hs₂.extBut D.l2i1).ext hs₃.extBut D.l2TO) hy fun h₄ h2₄ hs₄ => ?_
  have hTO₄ : IsPair h₄ TO x b := hs₄.extBut _ _ D.TOi2 hTO₃
  refine wpAny_bind (wpAny_seqItems hTO₄ rfl ?_)
  refine wpAny_bind (wpAny_updateSeq_pair hTO₄ fun h₅ hTO₅ hs₅ => ?_)
  replace hTO₅ : IsPair h₅ TO x y := hTO₅
  refine wpAny_bind (wpAny_letGo (wpAny_pure (wpAny_pure ?_)))

  refine wpAny_bind (wpAny_seqItems hTO₅ rfl ?_)
  refine wpAny_bind (wpAny_newTuple ?_)
  have hsz : h₅.objs.size = s.heap.objs.size := by rw [hs₅.1, hs₄.1, hs₃.1, hs₂.1, hs₁.1]
  have hz₅ : IsZipS h₅ z TI TO .ellipsis := hs₅.extBut _ _ D.TOz.symm (hs₄.extBut _ _ D.i2z.symm (hs₃.extBut _ _ D.TOz.symm (hs₂.extBut _ _ D.i1z.symm hz₁)))
  have hk₅ : ∀ c o, c ≠ z → c ≠ TO → c ≠ i1 → c ≠ i2 → s.heap.get? c = some o → h₅.get? c = some o := fun c o c1 c2 c3 c4 e =>
    hs₅.extBut _ _ c2 (hs₄.extBut _ _ c4 (hs₃.extBut _ _ c2 (hs₂.extBut _ _ c3 (hs₁.extBut _ _ c1 e))))
  have h1₅ : ItG b1 h₅ i1 l1 (k1 + 1) := ((h1₂.ext hs₃.extBut D.TOi1.symm).ext hs₄.extBut D.i12).ext hs₅.extBut D.TOi1.symm
  have h2₅ : ItG b2 h₅ i2 l2 (k2 + 1) := h2₄.ext hs₅.extBut D.TOi2.symm
  have hzlt : z < h₅.objs.size := Heap.lt_size hz₅
  have hTOlt : TO < h₅.objs.size := Heap.lt_size hTO₅
  show wpAny _ _ (Builtin.SmallTypes.ownedTupleHandOut (.ref z) (.ref h₅.objs.size) >>= _) _ _ _
  refine wpAny_bind ?_
  unfold Builtin.SmallTypes.ownedTupleHandOut
  have hz₆ : IsZipS (h₅.push { cls := .type "tuple", data := .seq #[x, y] }) z TI TO .ellipsis := Heap.get?_push_of_some _ hz₅
  refine wpAny_bind (wpAny_setField_rec hz₆ (by simp) fun h₇ hz₇ hs₇ => ?_)
  replace hz₇ : IsZipS h₇ z TI TO (rawInt h₅.objs.size) := hz₇
  refine wpAny_setField_rec hz₇ (by simp) fun h₈ hz₈ hs₈ => ?_
  replace hz₈ : IsZipS h₈ z TI TO (rawInt h₅.objs.size) := hz₈
  have up : ∀ c o, c ≠ z → h₅.get? c = some o → h₈.get? c = some o := fun c o c1 e => hs₈.extBut _ _ c1 (hs₇.extBut _ _ c1 (Heap.get?_push_of_some _ e))
  have hT₈ : IsPair h₈ h₅.objs.size x y := hs₈.extBut _ _ (Nat.ne_of_gt hzlt) (hs₇.extBut _ _ (Nat.ne_of_gt hzlt) (Heap.get?_push_size _ rfl))
  have hz8 : h₈.objs.size = h₅.objs.size + 1 := by rw [hs₈.1, hs₇.1, Heap.size_push]
  rw [hsz] at hz₈ hT₈ hz8
  refine wpAny_pure ⟨_, rfl, ?_⟩
  show Q (.ref h₅.objs.size) _
  rw [hsz]
  exact hQ h₈ hz₈ (up _ _ D.TOz hTO₅) (h1₅.at fun o e => up _ o D.i1z e) (h2₅.at fun o e => up _ o D.i2z e) hT₈ hz8 fun c o c1 c2 c3 c4 e => up c o c1 (hk₅ c o c1 c2 c3 c4 e)
end
end LC

set_option Elab.async false
set_option linter.all false
set_option maxRecDepth 100000
set_option maxHeartbeats 5000000
/-! LD31: zip(a, b, strict=True): the end, the walk. -/
namespace LC
open PySem PySem.Spec
open PyProof.Rows L2
section
variable {prog : Program} {w : World} {A : Around} {E : Value → Shared → Prop} {s : Shared}
theorem zipS_next_end {b1 b2 : Bool} {z TI TO i1 i2 l1 l2 : Addr} {k1 k2 : Nat} {xs ys : Array Value} {a b : Value} {Q : PySem.Fin → Shared → Prop} (hh : A.handled = none) (D : ZipApart z TI TO i1 i2 l1 l2)
    (hz : IsZipS s.heap z TI TO .none) (hTI : IsPair s.heap TI (.ref i1) (.ref i2)) (hTO : IsPair s.heap TO a b)
    (h1 : ItG b1 s.heap i1 l1 k1) (h2 : ItG b2 s.heap i2 l2 k2) (hl1 : SrG b1 s.heap l1 xs) (hl2 : SrG b2 s.heap l2 ys) (hx : xs[k1]? = none) (hy : ys[k2]? = none)
    (hE : ∀ h' e, (∀ c o, c ≠ z → c ≠ TO → c ≠ i1 → c ≠ i2 → s.heap.get? c = some o → h'.get? c = some o) → (∃ o, h'.get? e = some o ∧ o.cls = .type "StopIteration") → E (.ref e) { s with heap := h' }) :
    wpAny (model prog w) A (Builtin.«zip.__next__» ⟨[.ref z], []⟩) Q E s := by
  show wpAny _ _ (field (.ref z) 2 >>= _) _ _ _
  refine wpAny_bind (wpAny_field hz rfl (x := .bool true) rfl ?_)
  show wpAny _ _ (field (.ref z) 3 >>= _) _ _ _
  refine wpAny_bind (wpAny_field hz rfl (x := .ref TI) rfl ?_)
  refine wpAny_bind (wpAny_seqItems hTI rfl ?_)
  show wpAny _ _ (Builtin.SmallTypes.ownedTupleIsFree (.ref z) >>= _) _ _ _
  refine wpAny_bind ?_
  unfold Builtin.SmallTypes.ownedTupleIsFree
  refine wpAny_bind (wpAny_field hz rfl (x := .none) rfl (wpAny_pure ?_))
  simp only [if_true]
  refine wpAny_bind (wpAny_rule ?_)
  refine wpAny_bind (wpAny_field hz rfl (x := .ref TO) rfl ?_)
  refine wpAny_bind (wpAny_setField_rec hz (by simp) fun h₁ hz₁ hs₁ => ?_)
  replace hz₁ : IsZipS h₁ z TI TO .ellipsis := hz₁
  refine wpAny_bind ?_
  simp only [List.zipIdx_cons, List.zipIdx_nil, List.forIn_cons, List.forIn_nil]
  refine wpAny_bind (wpAny_bind (wpAny_onRaise ?_))
  show wpAny _ _ (Builtin.SmallTypes.nextOrEnd (.ref i1)) _ _ _
  refine nextS_end hh (h1.ext hs₁.extBut D.i1z) (hl1.ext hs₁.extBut D.l1z) hx fun h₂ hs₂ => ?_
  have hz₂ : IsZipS h₂ z TI TO .ellipsis := hs₂ _ _ D.i1z.symm hz₁
  refine wpAny_bind (wpAny_setField_rec hz₂ (by simp) fun h₃ hz₃ hs₃ => ?_)
  refine wpAny_bind ?_
  wp_step
  rw [if_neg (by decide)]
  simp only [List.drop_succ_cons, List.drop_zero, List.zipIdx_cons, List.zipIdx_nil, List.forIn_cons, List.forIn_nil]
  refine wpAny_bind (wpAny_bind (wpAny_bind ?_))
  have h2₃ : ItG b2 h₃ i2 l2 k2 := ((h2.ext hs₁.extBut D.i2z).ext hs₂ D.i12.symm).ext hs₃.extBut D.i2z
  have hl2₃ : SrG b2 h₃ l2 ys := ((hl2.ext hs₁.extBut D.l2z).ext hs₂ D.l2i1).ext hs₃.extBut D.l2z
  refine nextS_end hh h2₃ hl2₃ hy fun h₄ hs₄ => ?_
  refine wpAny_pure (wpAny_pure ?_)
  refine wpAny_bind (wpAny_rule ?_)
  unfold Builtin.SmallTypes.stopIteration
  refine wpAny_bind ?_
  simp only [newExc, newTuple]
  refine wpAny_bind (wpAny_newObj_type ?_ (by size_fits))
  refine wpAny_bind (m := firstArgMember _ _) (wpAny_of_eq (a := Value.none) (by first | rfl | (simp only [firstArgMember]; rfl)) ?_)
  refine wpAny_newObj_type ?_ (by size_fits)
  simp only [raiseNew]
  refine wpAny_bind (wpAny_handled ?_)
  first | rw [show A.in1.handled = none from hh] | rw [hh]
  refine wpAny_bind (wpAny_pure (wpAny_throw ?_))
  exact hE _ _ (fun c o c1 _ c3 c4 x => Heap.get?_push_of_some _ (Heap.get?_push_of_some _ (hs₄ _ _ c4 (hs₃.extBut _ _ c1 (hs₂ _ _ c3 (hs₁.extBut _ _ c1 x)))))) ⟨_, Heap.get?_push_size _ rfl, rfl⟩
theorem pyNext_zipS_item {b1 b2 : Bool} {z TI TO i1 i2 l1 l2 : Addr} {k1 k2 : Nat} {xs ys : Array Value} {x y a b : Value} {Q : Option Value → Shared → Prop} (D : ZipApart z TI TO i1 i2 l1 l2)
    (hz : IsZipS s.heap z TI TO .none) (hTI : IsPair s.heap TI (.ref i1) (.ref i2)) (hTO : IsPair s.heap TO a b)
    (h1 : ItG b1 s.heap i1 l1 k1) (h2 : ItG b2 s.heap i2 l2 k2) (hl1 : SrG b1 s.heap l1 xs) (hl2 : SrG b2 s.heap l2 ys) (hx : xs[k1]? = some x) (hy : ys[k2]? = some y)
    (hQ : ∀ h', IsZipS h' z TI TO (rawInt s.heap.objs.size) → IsPair h' TO x y → ItG b1 h' i1 l1 (k1 + 1) → ItG b2 h' i2 l2 (k2 + 1) → IsPair h' s.heap.objs.size x y → h'.objs.size = s.heap.objs.size + 1 →
      (∀ c o, c ≠ z → c ≠ TO → c ≠ i1 → c ≠ i2 → s.heap.get? c = some o → h'.get? c = some o) → Q (some (.ref s.heap.objs.size)) { s with heap := h' }) :
    wpAny (model prog w) A (pyNext (.ref z)) Q E s := by
  have hT : s.TypeIs (.ref z) "zip" := ⟨_, hz, rfl⟩
  unfold pyNext
  exact wpAny_bind (wpAny_attempt (wpAny_callSpecial?_slot (name := Str.ofString "__next__") hT PySem.F.slot_zip_next
    (wpAny_call_entry PySem.F.slot_zip_next hT PySem.F.entry_zip_next
      (zipS_next_item D hz hTI hTO h1 h2 hl1 hl2 hx hy fun h' a1 a2 a3 a4 a5 a6 a7 => wpAny_pure (hQ h' a1 a2 a3 a4 a5 a6 a7)) (PySem.F.args_zip_next_1 _))))
theorem pyNext_zipS_end {b1 b2 : Bool} {z TI TO i1 i2 l1 l2 : Addr} {k1 k2 : Nat} {xs ys : Array Value} {a b : Value} {Q : Option Value → Shared → Prop} (hh : A.handled = none) (D : ZipApart z TI TO i1 i2 l1 l2)
    (hz : IsZipS s.heap z TI TO .none) (hTI : IsPair s.heap TI (.ref i1) (.ref i2)) (hTO : IsPair s.heap TO a b)
    (h1 : ItG b1 s.heap i1 l1 k1) (h2 : ItG b2 s.heap i2 l2 k2) (hl1 : SrG b1 s.heap l1 xs) (hl2 : SrG b2 s.heap l2 ys) (hx : xs[k1]? = none) (hy : ys[k2]? = none)
    (hQ : ∀ h', (∀ c o, c ≠ z → c ≠ TO → c ≠ i1 → c ≠ i2 → s.heap.get? c = some o → h'.get? c = some o) → Q none { s with heap := h' }) : wpAny (model prog w) A (pyNext (.ref z)) Q E s := by
  have hT : s.TypeIs (.ref z) "zip" := ⟨_, hz, rfl⟩
  unfold pyNext
  refine wpAny_bind (wpAny_attempt (wpAny_callSpecial?_slot (name := Str.ofString "__next__") hT PySem.F.slot_zip_next
    (wpAny_call_entry PySem.F.slot_zip_next hT PySem.F.entry_zip_next (zipS_next_end hh D hz hTI hTO h1 h2 hl1 hl2 hx hy fun h' e hk he => ?_) (PySem.F.args_zip_next_1 _))))
  obtain ⟨o, ho, hc⟩ := he
  refine wpAny_bind (wpAny_isInstance (T := "StopIteration") (b := true) ⟨o, ho, hc⟩ isSubtype_stop ?_)
  exact wpAny_pure (hQ _ hk)
theorem letOwnedTupleGo_zipS {elts : List Expr} {x1} {pos : Pos} {z TI TO T : Addr} {Q : Unit → Shared → Prop} (hz : IsZipS s.heap z TI TO (rawInt T))
    (hQ : ∀ h', IsZipS h' z TI TO .none → Heap.SameBut z s.heap h' → Q () { s with heap := h' }) :
    wpAny (model prog w) A (letOwnedTupleGo (.Tuple elts x1 pos) (.ref z) (.ref T)) Q E s := by
  unfold letOwnedTupleGo
  refine wpAny_bind (wpAny_load hz ?_)
  show wpAny _ _ (if (["enumerate", "zip", "dict_itemiterator", "dict_reverseitemiterator", "odict_iterator", "itertools.zip_longest", "itertools.pairwise"].contains "zip" &&
      (#[rawInt T, .bool false, .bool true, .ref TI, .ref TO] : Array Value)[0]? == some (rawInt T)) = true then _ else _) Q E s
  rw [if_pos (by simp)]
  refine wpAny_bind (wpAny_rule ?_)
  show wpAny _ _ (setField (.ref z) 0 .none) Q E s
  exact wpAny_setField_rec hz (by simp) fun h' hz' hs' => hQ h' hz' hs'
theorem pyIter_zipS {z TI TO : Addr} {f0 : Value} {Q : Value → Shared → Prop} (hz : IsZipS s.heap z TI TO f0) (h : Q (.ref z) s) : wpAny (model prog w) A (pyIter (.ref z)) Q E s := by
  have hT : s.TypeIs (.ref z) "zip" := ⟨_, hz, rfl⟩
  refine wpAny_pyIter_slot hT PySem.F.slot_zip_iter (wpAny_call_entry PySem.F.slot_zip_iter hT PySem.F.entry_zip_iter ?_ (PySem.F.args_zip_iter_1 _))
  show wpAny _ _ (ret (.ref z)) _ _ s
  exact wpAny_pure ⟨_, rfl, "zip", _, hT, PySem.F.slot_zip_next.lookup, h⟩
end
def itTy (b : Bool) : String := if b then "tuple_iterator" else "list_iterator"
abbrev zsH1 (b1 : Bool) (h : Heap) (l1 : Addr) : Heap := h.push { cls := .type (itTy b1), data := .fields #[.ref l1, .int 0 0] }
abbrev zsH2 (b1 b2 : Bool) (h : Heap) (l1 l2 : Addr) : Heap := (zsH1 b1 h l1).push { cls := .type (itTy b2), data := .fields #[.ref l2, .int 0 0] }
abbrev zsH3 (b1 b2 : Bool) (h : Heap) (l1 l2 : Addr) : Heap := (zsH2 b1 b2 h l1 l2).push { cls := .type "tuple", data := .seq #[.ref h.objs.size, .ref (zsH1 b1 h l1).objs.size] }
abbrev zsH4 (b1 b2 : Bool) (h : Heap) (l1 l2 : Addr) : Heap := (zsH3 b1 b2 h l1 l2).push { cls := .type "tuple", data := .seq #[.none, .none] }
abbrev zsH5 (b1 b2 : Bool) (h : Heap) (l1 l2 : Addr) : Heap := (zsH4 b1 b2 h l1 l2).push { cls := .type "zip", data := .fields #[.none, .bool false, .bool true, .ref (zsH2 b1 b2 h l1 l2).objs.size, .ref (zsH3 b1 b2 h l1 l2).objs.size] }
theorem meets_zipS_new (b1 b2 : Bool) (l1 l2 : Addr) (xs ys : Array Value) :
    Meets (Builtin.«zip.__new__» ⟨[.type "zip", .ref l1, .ref l2], [("strict", .bool true)]⟩) (fun _ R s => SrG b1 s.heap l1 xs ∧ SrG b2 s.heap l2 ys ∧
      R (.ok (.ret (.ref (zsH4 b1 b2 s.heap l1 l2).objs.size))) { s with heap := zsH5 b1 b2 s.heap l1 l2 }) :=
  .of_wp fun prog w A R s h => by
    obtain ⟨hp, g, d, tk, os⟩ := s; obtain ⟨hl1, hl2, h⟩ := h
    have hsub := sub_zip
    cases b1 with
    | true =>
      have hL1 : Heap.IsTuple (Shared.heap ⟨hp, g, d, tk, os⟩) l1 xs := hl1
      cases b2 with
      | true =>
        have hL2 : Heap.IsTuple (Shared.heap ⟨hp.push { cls := .type "tuple_iterator", data := .fields #[.ref l1, .int 0 0] }, g, d, tk, os⟩) l2 ys := Heap.IsTuple.push hl2 _
        wp_walk using wpAny_pyIter_tuple hL1, wpAny_pyIter_tuple hL2
        exact ⟨_, rfl, h⟩
      | false =>
        have hL2 : Heap.IsList (Shared.heap ⟨hp.push { cls := .type "tuple_iterator", data := .fields #[.ref l1, .int 0 0] }, g, d, tk, os⟩) l2 ys := Heap.IsList.push hl2 _
        wp_walk using wpAny_pyIter_tuple hL1, wpAny_pyIter_list hL2
        exact ⟨_, rfl, h⟩
    | false =>
      have hL1 : Heap.IsList (Shared.heap ⟨hp, g, d, tk, os⟩) l1 xs := hl1
      cases b2 with
      | true =>
        have hL2 : Heap.IsTuple (Shared.heap ⟨hp.push { cls := .type "list_iterator", data := .fields #[.ref l1, .int 0 0] }, g, d, tk, os⟩) l2 ys := Heap.IsTuple.push hl2 _
        wp_walk using wpAny_pyIter_list hL1, wpAny_pyIter_tuple hL2
        exact ⟨_, rfl, h⟩
      | false =>
        have hL2 : Heap.IsList (Shared.heap ⟨hp.push { cls := .type "list_iterator", data := .fields #[.ref l1, .int 0 0] }, g, d, tk, os⟩) l2 ys := Heap.IsList.push hl2 _
        wp_walk using wpAny_pyIter_list hL1, wpAny_pyIter_list hL2
        exact ⟨_, rfl, h⟩
theorem ItG.mk {b : Bool} {h : Heap} {a l : Addr} (e : h.get? a = some { cls := .type (itTy b), data := .fields #[.ref l, .int 0 0] }) : ItG b h a l 0 := by
  cases b with
  | true => exact ⟨_, e, rfl, rfl⟩
  | false => exact ⟨_, e, rfl, rfl⟩
section
variable {prog : Program} {w : World} {A : Around} {E : Value → Shared → Prop} {s : Shared}
theorem call_zipS {b1 b2 : Bool} {l1 l2 : Addr} {xs ys : Array Value} {Q : Value → Shared → Prop} (hl1 : SrG b1 s.heap l1 xs) (hl2 : SrG b2 s.heap l2 ys)
    (h : ∀ h', IsZipS h' (s.heap.objs.size + 4) (s.heap.objs.size + 2) (s.heap.objs.size + 3) .none → IsPair h' (s.heap.objs.size + 2) (.ref s.heap.objs.size) (.ref (s.heap.objs.size + 1)) →
      IsPair h' (s.heap.objs.size + 3) .none .none → ItG b1 h' s.heap.objs.size l1 0 → ItG b2 h' (s.heap.objs.size + 1) l2 0 → h'.objs.size = s.heap.objs.size + 5 →
      (∀ c o, s.heap.get? c = some o → h'.get? c = some o) → Q (.ref (s.heap.objs.size + 4)) { s with heap := h' }) :
    wpAny (model prog w) A (call (.type "zip") [.ref l1, .ref l2] [("strict", .bool true)]) Q E s := by
  refine callType_newK PySem.F.called_zip (by simp) (by decide) (typeCall_zipS _ _ _) (newCall_zipS _ _ _) (fun obj => args_object_init_3K obj _ _ _) PySem.F.entry_zip_new
    (meets_zipS_new b1 b2 l1 l2 xs ys) ⟨hl1, hl2, ?_⟩
  have z1 : (zsH1 b1 s.heap l1).objs.size = s.heap.objs.size + 1 := Heap.size_push ..
  have z2 : (zsH2 b1 b2 s.heap l1 l2).objs.size = s.heap.objs.size + 2 := by rw [Heap.size_push, z1]
  have z3 : (zsH3 b1 b2 s.heap l1 l2).objs.size = s.heap.objs.size + 3 := by rw [Heap.size_push, z2]
  have z4 : (zsH4 b1 b2 s.heap l1 l2).objs.size = s.heap.objs.size + 4 := by rw [Heap.size_push, z3]
  have z5 : (zsH5 b1 b2 s.heap l1 l2).objs.size = s.heap.objs.size + 5 := by rw [Heap.size_push, z4]
  have g5 : (zsH5 b1 b2 s.heap l1 l2).get? (zsH4 b1 b2 s.heap l1 l2).objs.size = some _ := Heap.get?_push_size _ rfl
  have g4 : (zsH5 b1 b2 s.heap l1 l2).get? (zsH3 b1 b2 s.heap l1 l2).objs.size = some _ := Heap.get?_push_of_some _ (Heap.get?_push_size _ rfl)
  have g3 : (zsH5 b1 b2 s.heap l1 l2).get? (zsH2 b1 b2 s.heap l1 l2).objs.size = some _ := Heap.get?_push_of_some _ (Heap.get?_push_of_some _ (Heap.get?_push_size _ rfl))
  have g2 : (zsH5 b1 b2 s.heap l1 l2).get? (zsH1 b1 s.heap l1).objs.size = some _ := Heap.get?_push_of_some _ (Heap.get?_push_of_some _ (Heap.get?_push_of_some _ (Heap.get?_push_size _ rfl)))
  have g1 : (zsH5 b1 b2 s.heap l1 l2).get? s.heap.objs.size = some _ := Heap.get?_push_of_some _ (Heap.get?_push_of_some _ (Heap.get?_push_of_some _ (Heap.get?_push_of_some _ (Heap.get?_push_size _ rfl))))
  show _ ∧ _
  rw [z2, z3, z4] at g5
  rw [z1, z2] at g3
  rw [z3] at g4
  rw [z1] at g2
  rw [z4]
  exact ⟨⟨_, g5, rfl⟩, h _ g5 g3 g4 (ItG.mk g1) (ItG.mk g2) z5 fun c o x =>
    Heap.get?_push_of_some _ (Heap.get?_push_of_some _ (Heap.get?_push_of_some _ (Heap.get?_push_of_some _ (Heap.get?_push_of_some _ x))))⟩
end
end LC

set_option Elab.async false
set_option linter.all false
set_option maxRecDepth 100000
set_option maxHeartbeats 5000000
/-! LD32: for a, b in zip(xs, ys, strict=True): the rule. -/
namespace LC
open PySem PySem.Spec
open PyProof.Rows L2
def SqB (b : Bool) (K : PySem.W.Frag) (H : Hp) (a : Addr) (xs : List V) : Prop := match b with
  | true => SqT K H a xs
  | false => SqL K H a xs
theorem SqB.at {b : Bool} {X : Cx} {pins : List (Addr × Obj)} {σ : L2.St} {H : Hp} {s : Shared} {a : Addr} {xs : List V} (I : Inv X pins σ H s) (h : SqB b X.K H a xs) : ∃ its : List Value, Vals xs its ∧ SrG b s.heap a its.toArray := by
  cases b with
  | true => obtain ⟨its, rv, p, _⟩ := I.tuple h; exact ⟨its, rv, p⟩
  | false => obtain ⟨its, rv, p, _⟩ := I.list h; exact ⟨its, rv, p.isList⟩
theorem SqB.inj {b : Bool} {X : Cx} {pins : List (Addr × Obj)} {σ : L2.St} {H : Hp} {s : Shared} {a : Addr} {xs ys : List V} (I : Inv X pins σ H s) (h : SqB b X.K H a xs) (g : SqB b X.K H a ys) : xs = ys := by
  cases b with
  | true => exact I.tuple_inj h g
  | false => exact I.list_inj h g
def ItzS (K : PySem.W.Frag) (b1 b2 : Bool) (a b : Addr) : It :=
  ⟨fun i H => ∃ (xs ys : List V) (x y : V), SqB b1 K H a xs ∧ SqB b2 K H b ys ∧ xs[i]? = some x ∧ ys[i]? = some y,
    fun i H v H' => ∃ T x y, v = .ref T ∧ H T = none ∧ H' = upd H T (.tup [x, y]) ∧ (∀ xs, SqB b1 K H a xs → xs[i]? = some x) ∧ ∀ ys, SqB b2 K H b ys → ys[i]? = some y,
    fun i H => ∃ xs ys : List V, SqB b1 K H a xs ∧ SqB b2 K H b ys ∧ xs.length ≤ i ∧ ys.length ≤ i⟩
theorem turn_zipS {P : Program} {w : World} {K : PySem.W.Frag} {elts : List Expr} {kk : Nat} {tpos : Pos} {b1 b2 : Bool} {a b z TI TO i1 i2 : Addr} (D : ZipApart z TI TO i1 i2 a b) :
    Turn P w K (.Tuple elts kk tpos) (ItzS K b1 b2 a b) [z, TI, TO, i1, i2] z (fun i h => IsZipS h z TI TO .none ∧ IsPair h TI (.ref i1) (.ref i2) ∧ (∃ x y, IsPair h TO x y) ∧ ItG b1 h i1 a i ∧ ItG b2 h i2 b i) where
  mem := by simp
  obj := fun i h st c hc => by
    obtain ⟨hz, hTI, ⟨x, y, hTO⟩, g1, g2⟩ := st
    obtain ⟨o1, w1, e1, d1⟩ := g1.ob
    obtain ⟨o2, w2, e2, d2⟩ := g2.ob
    have e' : c = z ∨ c = TI ∨ c = TO ∨ c = i1 ∨ c = i2 := by simpa using hc
    rcases e' with q | q | q | q | q
    · rw [q]; exact ⟨_, hz, fun v q => nomatch q⟩
    · rw [q]; exact ⟨_, hTI, fun v q => nomatch q⟩
    · rw [q]; exact ⟨_, hTO, fun v q => nomatch q⟩
    · rw [q]; exact ⟨o1, e1, fun v q => by rw [d1] at q; cases q⟩
    · rw [q]; exact ⟨o2, e2, fun v q => by rw [d2] at q; cases q⟩
  keep := fun i h h' st k => by
    obtain ⟨hz, hTI, ⟨x, y, hTO⟩, h1, h2⟩ := st
    exact ⟨k z (by simp) _ hz, k TI (by simp) _ hTI, ⟨x, y, k TO (by simp) _ hTO⟩, h1.at fun o q => k i1 (by simp) o q, h2.at fun o q => k i2 (by simp) o q⟩
  item := by
    intro X hP hw hK hc i pins s σ H E I hf st hg
    subst hP hw hK
    obtain ⟨hz, hTI, ⟨x0, y0, hTO⟩, h1, h2⟩ := st
    obtain ⟨xs, ys, x, y, hqx, hqy, hx, hy⟩ := hg
    obtain ⟨its, rv, p⟩ := hqx.at I
    obtain ⟨its2, rv2, p2⟩ := hqy.at I
    obtain ⟨u, hu, ru⟩ := rv.get hx
    obtain ⟨u2, hu2, ru2⟩ := rv2.get hy
    have hzl : z < s.heap.objs.size := Heap.lt_size hz
    refine pyNext_zipS_item D hz hTI hTO h1 h2 p p2 (x := u) (y := u2) (by simpa using hu) (by simpa using hu2) fun h' z' TO' h1' h2' hT hsz hk => ?_
    refine ⟨_, rfl, letOwnedTupleGo_zipS (s := { s with heap := h' }) z' fun h'' z'' sb => ?_⟩
    have hT2 : h''.get? s.heap.objs.size = some { cls := .type "tuple", data := .seq #[u, u2] } := (sb.2 _ (Nat.ne_of_gt hzl)).trans hT
    have new : ObjOk X.prog X.w (upd H s.heap.objs.size (.tup [x, y])) h'' s.heap.objs.size (.tup [x, y]) :=
      ⟨by show 2 ≤ sizeLine; decide, [u, u2], .cons ru (.cons ru2 .nil), ⟨_, hT2, rfl, _, rfl⟩⟩
    have I1 : Inv X pins σ (upd H s.heap.objs.size (.tup [x, y])) { s with heap := h'' } :=
      I.turnedNew (t' := s.toks) (ch := [z, TI, TO, i1, i2]) (fun c o hb q => (sb.2 c (fun q' => hb (by simp [q']))).trans (hk c o (fun q' => hb (by simp [q'])) (fun q' => hb (by simp [q'])) (fun q' => hb (by simp [q'])) (fun q' => hb (by simp [q'])) q)) hf (Nat.le_refl _) new
    refine ⟨.ref s.heap.objs.size, _, I1, rfl, ⟨_, x, y, rfl, I.hok.fresh (Nat.le_refl _), rfl, fun l hl => by rw [SqB.inj I hl hqx]; exact hx, fun l hl => by rw [SqB.inj I hl hqy]; exact hy⟩, ⟨z'', ?_, ⟨u, u2, ?_⟩, ?_, ?_⟩, fun c hcm => ?_⟩
    · exact (sb.2 _ D.TIz).trans (hk _ _ D.TIz D.TITO D.TIi1 D.TIi2 hTI)
    · exact (sb.2 _ D.TOz).trans TO'
    · exact h1'.at fun o q => (sb.2 _ D.i1z).trans q
    · exact h2'.at fun o q => (sb.2 _ D.i2z).trans q
    · have hlt : c < s.heap.objs.size := by
        have e' : c = z ∨ c = TI ∨ c = TO ∨ c = i1 ∨ c = i2 := by simpa using hcm
        rcases e' with q | q | q | q | q
        · rw [q]; exact hzl
        · rw [q]; exact Heap.lt_size hTI
        · rw [q]; exact Heap.lt_size hTO
        · rw [q]; obtain ⟨_, _, e1, _⟩ := h1.ob; exact Heap.lt_size e1
        · rw [q]; obtain ⟨_, _, e2, _⟩ := h2.ob; exact Heap.lt_size e2
      rw [upd_ne (Nat.ne_of_lt hlt)]
      exact (hf c hcm).1
  done := by
    intro X hP hw hK hc i pins s σ H E I hf st hg
    subst hP hw hK
    obtain ⟨hz, hTI, ⟨x0, y0, hTO⟩, h1, h2⟩ := st
    obtain ⟨xs, ys, hqx, hqy, e1, e2⟩ := hg
    obtain ⟨its, rv, p⟩ := hqx.at I
    obtain ⟨its2, rv2, p2⟩ := hqy.at I
    have l1 := rv.length
    have l2 := rv2.length
    exact pyNext_zipS_end (I.ok.hd hc) D hz hTI hTO h1 h2 p p2 (by simp; omega) (by simp; omega) fun h' hk => ⟨rfl, I.turnedL (t' := s.toks) (ch := [z, TI, TO, i1, i2]) (fun c o hb q =>
      hk c o (fun q' => hb (by simp [q'])) (fun q' => hb (by simp [q'])) (fun q' => hb (by simp [q'])) (fun q' => hb (by simp [q'])) q) hf⟩
  self := fun A i s Q E st h => pyIter_zipS st.1 h
theorem callWith_typeKw {M : Model} {A : Around} {E : Value → Shared → Prop} {s : Shared} {env : Env} {pos : Pos} {T : String} {e : Expr} {rest : List Expr} {kws : List Keyword} {Q : Value → Shared → Prop}
    (hall : (backToKw pos (keywordEach kws env)).all (·.1.isSome) = true)
    (h : wpAny M A (spliced (backTo pos (starEach (e :: rest) env))) (fun vs s₁ => wpAny M A (evalAll ((backToKw pos (keywordEach kws env)).map (·.2)))
      (fun ks s₂ => wpAny M A (call (.type T) ([] ++ vs) (((backToKw pos (keywordEach kws env)).filterMap (·.1)).zip ks)) Q E s₂) E s₁) E s)
    (hplain : ((backTo pos (starEach (e :: rest) env)).any (·.1) || (backToKw pos (keywordEach kws env)).any (·.1.isNone)) = false := by rfl) (he : starEach (e :: rest) env = (false, eval e env) :: starEach rest env := by rfl) :
    wpAny M A (callWith pos (.type T) [] (backTo pos (starEach (e :: rest) env)) (backToKw pos (keywordEach kws env))) Q E s := by
  unfold callWith
  refine wpAny_bind (wpAny_holding (wpAny_mono (evalArgs_kw2 (Q := fun a s₂ => wpAny M A (call (.type T) ([] ++ a.pos) a.kw) Q E s₂) hall h he) (fun a s₁ h₁ => wpAny_bind (wpAny_standAt ?_)) fun _ _ x => x))
  simp only [hplain]
  refine wpAny_bind (wpAny_pure ?_)
  exact wpAny_bind (wpAny_mono h₁ (fun r s₂ hr => wpAny_bind (wpAny_holding (wpAny_point (wpAny_pure hr)))) fun _ _ x => x)
def iZipS (K : PySem.W.Frag) (ta : TA) : TI := fun σ H R => ta σ H fun vs H1 => ∃ a b b1 b2 xs ys, vs = [.ref a, .ref b] ∧ SqB b1 K H1 a xs ∧ SqB b2 K H1 b ys ∧ R (ItzS K b1 b2 a b) H1
theorem pi_zipS {X : Cx} {e e2 : Expr} {ta : TA} {p pos tpos kp cp : Pos} {j} {elts : List Expr} {kk : Nat} (hg : Gl X "zip") (hm : X.mg "zip" = none) (ha : PA X [e, e2] ta)
    (hs : starEach [e, e2] X.env = (false, eval e X.env) :: starEach [e2] X.env := by rfl)
    (hall : (backToKw pos (keywordEach [⟨some "strict", .Constant (.bool true) j cp, kp⟩] X.env)).all (·.1.isSome) = true := by rfl) (hks : (backToKw pos (keywordEach [⟨some "strict", .Constant (.bool true) j cp, kp⟩] X.env)).filterMap (·.1) = [("strict" : Str)] := by rfl)
    (hpl : ((backTo pos (starEach [e, e2] X.env)).any (·.1) || (backToKw pos (keywordEach [⟨some "strict", .Constant (.bool true) j cp, kp⟩] X.env)).any (·.1.isNone)) = false := by rfl) :
    PI X (.Tuple elts kk tpos) (.Call (.Name "zip" p) [e, e2] [⟨some "strict", .Constant (.bool true) j cp, kp⟩] pos) (iZipS X.K ta) := by
  refine ⟨fun pins s σ H R I h => ?_⟩
  refine wpAny_Call_Name_kw (ld_blt I hg hm PyProof.Rows.boot_zip (callWith_typeKw hall (thn (ha.run pos pins s σ H _ I h) fun us s1 ⟨vs, H1, I1, r1, q1⟩ => ?_) hpl hs))
  refine thn ((pk_cons (X := X) (kpos := kp) (nm := some "strict") (e := .Constant (.bool true) j cp) pe_bl pk_nil).run pos pins s1 σ H1 (fun zs H2 => zs = [.bl true] ∧ H2 = H1) I1 ⟨rfl, rfl⟩) fun ws s2 ⟨zs, H2, I2, rz, ez, eH⟩ => ?_
  subst ez eH
  rw [hks]
  obtain ⟨a, b, b1, b2, xs, ys, ex, hqx, hqy, q⟩ := q1
  subst ex
  cases rz with
  | cons rb rn =>
  cases rn
  cases rb
  cases r1 with
  | cons r rr =>
    cases rr with
    | cons r' rr =>
      cases rr
      cases r
      cases r'
      have fresh5 : ∀ c, c ∈ [s2.heap.objs.size + 4, s2.heap.objs.size + 2, s2.heap.objs.size + 3, s2.heap.objs.size, s2.heap.objs.size + 1] → FpOk X pins H2 c := fun c hcm => by
        have e' : c = s2.heap.objs.size + 4 ∨ c = s2.heap.objs.size + 2 ∨ c = s2.heap.objs.size + 3 ∨ c = s2.heap.objs.size ∨ c = s2.heap.objs.size + 1 := by simpa using hcm
        have hle : s2.heap.objs.size ≤ c := by
          rcases e' with z | z | z | z | z
          · rw [z]; exact Nat.le_add_right _ _
          · rw [z]; exact Nat.le_add_right _ _
          · rw [z]; exact Nat.le_add_right _ _
          · rw [z]; exact Nat.le_refl _
          · rw [z]; exact Nat.le_add_right _ _
        exact I2.fpOk hle (I2.hok.fresh hle)
      obtain ⟨its, rv, p1⟩ := hqx.at I2
      obtain ⟨its2, rv2, p2⟩ := hqy.at I2
      refine call_zipS p1 p2 fun h' hz hTI hTO h1 h2 hsz hk => pyIter_zipS hz ?_
      have I3 : Inv X pins σ H2 { s2 with heap := h' } := I2.kept (t' := s2.toks) hk
      exact ⟨s2.heap.objs.size + 4, [s2.heap.objs.size + 4, s2.heap.objs.size + 2, s2.heap.objs.size + 3, s2.heap.objs.size, s2.heap.objs.size + 1], _, _, H2, rfl, I3, turn_zipS (PySem.W.ktu_apart s2.heap.objs.size a b p1.lt p2.lt), ⟨hz, hTI, ⟨_, _, hTO⟩, h1, h2⟩, fresh5, q⟩
end LC

set_option Elab.async false
set_option linter.all false
set_option maxRecDepth 100000
set_option maxHeartbeats 5000000
/-! LD33: for a, b in zip(xs, ys, strict=True), over data. -/
namespace LC
open PySem PySem.Spec
open PyProof.Rows L2
def D.isTup : D → Bool
  | .tup _ => true
  | .tq _ => true
  | .kt _ => true
  | _ => false
section
variable {X : Cx} {B : Bs}
theorem HR.itemsB {φ : Ph} {H : Hp} {S : List O} {d : D} {v : V} {xs : List D} (hr : HR X.K B φ H S) (h : itemsOf S d = some xs) (r : RV X.K φ H d v) : ∃ p vs, v = .ref p ∧ SqB d.isTup X.K H p vs ∧ RVs X.K φ H xs vs := by
  cases d with
  | tup ys =>
    cases h
    obtain ⟨p, vs, rfl, h1, h2⟩ := r
    exact ⟨p, vs, rfl, SqT.of h1, h2⟩
  | scr ns =>
    cases h
    obtain ⟨p, rfl, h1⟩ := r
    exact ⟨p, _, rfl, h1.sql, .ofInts⟩
  | tq ns =>
    cases h
    obtain ⟨p, rfl, h1⟩ := r
    exact ⟨p, _, rfl, h1.sqt, .ofInts⟩
  | kt ys =>
    cases h
    obtain ⟨p, vs, rfl, h1, h2⟩ := r
    exact ⟨p, vs, rfl, h1.sqt, h2⟩
  | lst ys =>
    obtain ⟨a, vs, rfl, h1, h2⟩ := hr.ls (d := .lst ys) h r
    exact ⟨a, vs, rfl, .inl (.inl h1), h2⟩
  | ref k =>
    obtain ⟨a, vs, rfl, h1, h2⟩ := hr.ls (d := .ref k) h r
    exact ⟨a, vs, rfl, .inl (.inl h1), h2⟩
  | _ => cases h
def zipD (xs ys : List D) : List D := (xs.zip ys).map fun p => .tup [p.1, p.2]
theorem zipD_len {xs ys : List D} (h : xs.length = ys.length) : (zipD xs ys).length = xs.length := by unfold zipD; simp; omega
theorem zipD_get {xs ys : List D} {i : Nat} {d : D} (h : (zipD xs ys)[i]? = some d) : ∃ x y, xs[i]? = some x ∧ ys[i]? = some y ∧ d = .tup [x, y] := by
  unfold zipD at h
  rw [List.getElem?_map] at h
  cases hz : (xs.zip ys)[i]? with
  | none => rw [hz] at h; cases h
  | some p =>
    rw [hz] at h
    cases h
    obtain ⟨h1, h2⟩ := List.getElem?_zip_eq_some.mp hz
    exact ⟨p.1, p.2, h1, h2, rfl⟩
def qiZipS (qa : QA) : QI := fun s S R => qa s S fun ds S1 => match ds with
  | [d, e] => Opt (itemsOf S1 d) fun xs => Opt (itemsOf S1 e) fun ys => Need (xs.length = ys.length) (R (zipD xs ys) (fun S' => itemsOf S' d = some xs ∧ itemsOf S' e = some ys) S1)
  | _ => False
theorem li_zipS {a b : Expr} {qa : QA} {p pos tpos kp cp : Pos} {j} {elts : List Expr} {kk : Nat} (hg : Gl X "zip") (hm : X.mg "zip" = none) (ha : LA X B [a, b] qa)
    (hs : starEach [a, b] X.env = (false, eval a X.env) :: starEach [b] X.env := by rfl)
    (hall : (backToKw pos (keywordEach [⟨some "strict", .Constant (.bool true) j cp, kp⟩] X.env)).all (·.1.isSome) = true := by rfl) (hks : (backToKw pos (keywordEach [⟨some "strict", .Constant (.bool true) j cp, kp⟩] X.env)).filterMap (·.1) = [("strict" : Str)] := by rfl)
    (hpl : ((backTo pos (starEach [a, b] X.env)).any (·.1) || (backToKw pos (keywordEach [⟨some "strict", .Constant (.bool true) j cp, kp⟩] X.env)).any (·.1.isNone)) = false := by rfl) :
    LI X B (.Tuple elts kk tpos) (.Call (.Name "zip" p) [a, b] [⟨some "strict", .Constant (.bool true) j cp, kp⟩] pos) (qiZipS qa) := PI.imp (pi_zipS hg hm ha hs hall hks hpl) fun σ H R ⟨φ, s, S, R', hr, ev, q, k⟩ =>
  ⟨φ, s, S, _, hr, ev, q, fun φ1 ds S1 vs H1 e1 hr1 r1 q1 => by
    split at q1
    · rename_i d e
      obtain ⟨v, ws, rfl, rd, u, ws2, rfl, re, rn⟩ := r1
      cases rn
      obtain ⟨xs, hx, q2⟩ := q1.get; clear q1
      obtain ⟨ys, hy, ⟨hl, q3⟩⟩ := q2.get; clear q2
      obtain ⟨pa, va, rfl, sa, ra⟩ := hr1.itemsB hx rd
      obtain ⟨pb, vb, rfl, sb, rb⟩ := hr1.itemsB hy re
      refine ⟨pa, pb, d.isTup, e.isTup, va, vb, rfl, sa, sb, k _ _ _ _ _ _ e1 hr1 (fun i φ2 H2 S2 e2 hr2 ⟨k1, k2⟩ => ?_) q3⟩
      obtain ⟨pa', wa, ea, sa2, ra2⟩ := hr2.itemsB k1 (rd.mono e2)
      obtain ⟨pb', wb, eb, sb2, rb2⟩ := hr2.itemsB k2 (re.mono e2)
      cases ea; cases eb
      rw [zipD_len hl]
      refine ⟨fun hi => ⟨wa, wb, wa[i]'(by rw [ra2.len]; exact hi), wb[i]'(by rw [rb2.len]; omega), sa2, sb2, List.getElem?_eq_getElem _, List.getElem?_eq_getElem _⟩,
        fun hi => ⟨wa, wb, sa2, sb2, by rw [ra2.len, hi]; exact Nat.le_refl _, by rw [rb2.len, hi, hl]; exact Nat.le_refl _⟩, fun x H' d' y hd => ?_⟩
      obtain ⟨T, x1, y1, rfl, hT, rfl, f1, f2⟩ := y
      obtain ⟨dx, dy, g1, g2, rfl⟩ := zipD_get hd
      obtain ⟨v1, h1, h2⟩ := ra2.get g1
      obtain ⟨v2, h3, h4⟩ := rb2.get g2
      have z1 := f1 wa sa2
      have z2 := f2 wb sb2
      rw [h1] at z1
      rw [h3] at z2
      cases z1; cases z2
      exact ⟨φ2, ext_new hT, hr2.fix hT, RV.tup_new hT ⟨_, _, rfl, h2, _, _, rfl, h4, rfl⟩⟩
    · exact q1.elim⟩
end
end LC

set_option Elab.async false
set_option linter.all false
set_option maxRecDepth 100000
set_option maxHeartbeats 5000000
/-! LD34: raise X(..) from e, e the exception that is handled. -/
namespace LC
open PySem PySem.Spec
open PyProof.Rows L2 L2H HotX
theorem ld_var {X : Cx} {E : Value → Shared → Prop} {pins : List (Addr × Obj)} {s : Shared} {σ : L2.St} {H : Hp} {i : Nat} {x : Str} {v : V} {pos : Pos} {Q : Value → Shared → Prop} (I : Inv X pins σ H s) (hN : X.N[i]? = some x) (hv : Vis X.env.scope x) (e : σ[i]? = some (some v)) (h : ∀ u, RelV v u → Q u s)
    (hd : (x == ("__debug__" : Str)) = false := by decide) (hcd : (x == ("__classdict__" : Str)) = false := by decide) : wpAny (model X.prog X.w) X.A (eval (.Name x pos) X.env) Q E s := by
  obtain ⟨m, hn, hl⟩ := I.loc
  obtain ⟨u, r, l⟩ := hl i x v hN e hv
  have fin := h u r
  rcases l with ⟨hk, hm⟩ | ⟨hk, c, hc, hcell⟩
  · exact wpAny_Name (wpAny_loadName_local I.ok.kind hk hn hm fin) hd
  · rcases hk with hk | hk
    · exact wpAny_Name (wpAny_loadName_cell I.ok.kind hk hc hcell fin) hd
    · exact wpAny_Name (wpAny_loadName_free I.ok.kind hk hc hcell fin hcd) hd
/-- the heap behind «from v»: field 3 is v, field 4 is True -/
def causeFrom (v : Value) (h : Heap) (a : Addr) : Heap := (h.update a (Obj.mapFields (·.setIfInBounds 3 v))).update a (Obj.mapFields (·.setIfInBounds 4 (.bool true)))
theorem setv_size {vs : Array Value} {i : Nat} {x : Value} : (vs.setIfInBounds i x).size = vs.size := by simp
theorem causeFrom_at {v : Value} {h : Heap} {a : Addr} {oe : Obj} {vs : Array Value} (ha : h.get? a = some oe) (hd : oe.data = .fields vs) :
    (causeFrom v h a).get? a = some ((oe.mapFields (·.setIfInBounds 3 v)).mapFields (·.setIfInBounds 4 (.bool true))) ∧ ((oe.mapFields (·.setIfInBounds 3 v)).mapFields (·.setIfInBounds 4 (.bool true))).data = .fields ((vs.setIfInBounds 3 v).setIfInBounds 4 (.bool true)) := by
  have hd3 := Obj.data_mapFields hd (·.setIfInBounds 3 v)
  have ha3 := Heap.get?_update_self (Obj.mapFields (·.setIfInBounds 3 v)) ha (Obj.isFreed_of_fields hd3)
  have hd4 := Obj.data_mapFields hd3 (·.setIfInBounds 4 (.bool true))
  exact ⟨Heap.get?_update_self (Obj.mapFields (·.setIfInBounds 4 (.bool true))) ha3 (Obj.isFreed_of_fields hd4), hd4⟩
theorem causeFrom_other {v : Value} {h : Heap} {a b : Addr} (hne : a ≠ b) : (causeFrom v h a).get? b = h.get? b := by
  unfold causeFrom
  rw [Heap.get?_update_other _ _ hne, Heap.get?_update_other _ _ hne]
theorem raise_made_hotE {prog : Program} {w : World} {A : Around} {E : Value → Shared → Prop} {env : Env} {s : Shared} {x c : Sem Value} {Q : Flow → Shared → Prop} {x1 : Addr}
    (h : wpAny (model prog w) A x (fun v s₁ => (∀ (Q' : Value → Shared → Prop), Q' (.ref x1) s₁ → wpAny (model prog w) A c Q' E s₁) ∧ ∃ a oe vs cls cls1, v = .ref a ∧ s₁.heap.get? a = some oe ∧ oe.cls = cls ∧ oe.data = .fields vs ∧ vs[1]? = some .none ∧ 4 < vs.size ∧ x1 ≠ a ∧ HotAt A x1 s₁.heap ∧
      (∃ o1, s₁.heap.get? x1 = some o1 ∧ o1.cls = cls1) ∧ PySem.W.Looks (model prog w) s₁.heap (isSubtype cls1 (.type "BaseException")) true ∧
      PySem.W.Looks (model prog w) s₁.heap (isSubtype cls (.type "BaseException")) true ∧ PySem.W.Looks (model prog w) (causeFrom (.ref x1) s₁.heap a) (typeOf cls) (.type "type") ∧
      E (.ref a) { s₁ with heap := (causeFrom (.ref x1) s₁.heap a).update a (Obj.mapFields (·.setIfInBounds 2 (.ref x1))) }) E s) :
    wpAny (model prog w) A (raiseStmt env (some x) (some c)) Q E s := by
  unfold raiseStmt
  dsimp only
  refine wpAny_bind (wpAny_mono h (fun v s₁ h₁ => ?_) fun _ _ x => x)
  obtain ⟨hcs, a, oe, vs, cls, cls1, rfl, ha, hcls, hd, h1, hi, hne, hot, ⟨o1, ho1, hc1⟩, L0, L1, L3, hE⟩ := h₁
  obtain ⟨_, o1', v1, ho1', hd1, _⟩ := id hot
  rw [ho1] at ho1'; cases ho1'
  have LT : PySem.W.Looks (model prog w) s₁.heap (typeOf (.ref a)) cls := fun A Q E s k q => wpAny_typeOf_ref (k _ _ ha) (by rw [hcls]; exact q)
  have LI : PySem.W.Looks (model prog w) s₁.heap (isInstance (.ref a) (.type "BaseException")) true := LT.andThen L1
  have LT1 : PySem.W.Looks (model prog w) s₁.heap (typeOf (.ref x1)) cls1 := fun A Q E s k q => wpAny_typeOf_ref (k _ _ ho1) (by rw [hc1]; exact q)
  have LI1 : PySem.W.Looks (model prog w) s₁.heap (isInstance (.ref x1) (.type "BaseException")) true := LT1.andThen L0
  have hnt : ∀ {Q' : Bool → Shared → Prop}, Q' false s₁ → wpAny (model prog w) A (isType (.ref a)) Q' E s₁ := by
    intro Q' hq
    simp only [isType, loadHead]
    refine wpAny_bind (wpAny_loadPart ha ?_)
    rw [hd]; exact wpAny_pure hq
  have hnt1 : ∀ {Q' : Bool → Shared → Prop}, Q' false s₁ → wpAny (model prog w) A (isType (.ref x1)) Q' E s₁ := by
    intro Q' hq
    simp only [isType, loadHead]
    refine wpAny_bind (wpAny_loadPart ho1 ?_)
    rw [hd1]; exact wpAny_pure hq
  have hd3 := Obj.data_mapFields hd (·.setIfInBounds 3 (.ref x1))
  have ha3 := Heap.get?_update_self (Obj.mapFields (·.setIfInBounds 3 (.ref x1))) ha (Obj.isFreed_of_fields hd3)
  obtain ⟨ha4, hd4⟩ := causeFrom_at (v := .ref x1) ha hd
  have s3 : 3 < vs.size := by omega
  have s4 : 4 < (vs.setIfInBounds 3 (Value.ref x1)).size := by rw [setv_size]; exact hi
  have s2 : 2 < ((vs.setIfInBounds 3 (Value.ref x1)).setIfInBounds 4 (Value.bool true)).size := by rw [setv_size, setv_size]; omega
  have h14 : ((vs.setIfInBounds 3 (Value.ref x1)).setIfInBounds 4 (Value.bool true))[1]? = some Value.none := set_other (by decide) (set_other (by decide) h1)
  have hcls4 : ((oe.mapFields (·.setIfInBounds 3 (.ref x1))).mapFields (·.setIfInBounds 4 (.bool true))).cls = cls := by rw [Obj.cls_mapFields, Obj.cls_mapFields]; exact hcls
  have LT4 : PySem.W.Looks (model prog w) (causeFrom (.ref x1) s₁.heap a) (typeOf (.ref a)) cls := fun A Q E s k q => wpAny_typeOf_ref (k _ _ ha4) (by rw [hcls4]; exact q)
  have hnt4 : ∀ {Q' : Bool → Shared → Prop}, Q' false { s₁ with heap := causeFrom (.ref x1) s₁.heap a } → wpAny (model prog w) A (isType (.ref a)) Q' E { s₁ with heap := causeFrom (.ref x1) s₁.heap a } := by
    intro Q' hq
    simp only [isType, loadHead]
    refine wpAny_bind (wpAny_loadPart ha4 ?_)
    rw [hd4]; exact wpAny_pure hq
  have hot4 : HotAt A x1 (causeFrom (.ref x1) s₁.heap a) := by
    obtain ⟨q1, o, vs', q2, q3, q4⟩ := hot
    exact ⟨q1, o, vs', by rw [causeFrom_other (Ne.symm hne)]; exact q2, q3, q4⟩
  -- what stands behind the two stores
  have rest : wpAny (model prog w) A (do
      let b ← isType (.ref a)
      if b = true then do
        let e ← holding [.ref a] (raisedFor (.ref a) (.ref a))
        setFlight e none
        raiseNew e
      else do
        let e ← raisedInstance (.ref a)
        setFlight e none
        raiseNew e : Sem Flow) Q E { s₁ with heap := causeFrom (.ref x1) s₁.heap a } := by
    refine wpAny_bind (hnt4 ?_)
    simp only [Bool.false_eq_true, if_false]
    unfold raisedInstance
    refine wpAny_bind (wpAny_bind (LT4.here (wpAny_bind (L3.here ?_))))
    rw [if_pos (beq_self_eq_true _)]
    refine wpAny_pure ?_
    unfold setFlight
    refine wpAny_bind (wpAny_bind (wpAny_field ha4 hd4 h14 ?_))
    rw [if_neg (by decide)]
    refine wpAny_pure ?_
    exact raiseNew_hot hot4 hne ha4 hd4 s2 hE
  refine wpAny_bind (wpAny_holding (hcs _ (wpAny_bind (wpAny_pure ?_))))
  dsimp only
  refine wpAny_bind (wpAny_holding ?_)
  unfold excFromValue isExcClass
  refine wpAny_bind (wpAny_bind (hnt ?_))
  simp only [Bool.false_eq_true, if_false]
  refine wpAny_pure ?_
  simp only [Bool.false_eq_true, if_false]
  refine wpAny_bind (LI.here ?_)
  simp only [if_true]
  refine wpAny_pure ?_
  rw [if_neg (show ¬ ((Value.ref x1 == Value.none) = true) from by simp)]
  refine wpAny_bind (wpAny_holding ?_)
  refine wpAny_bind (wpAny_bind (hnt1 ?_))
  simp only [Bool.false_eq_true, if_false]
  refine wpAny_pure ?_
  simp only [Bool.false_eq_true, if_false]
  refine wpAny_bind (LI1.here ?_)
  simp only [if_true]
  refine wpAny_pure ?_
  exact wpAny_bind (wpAny_setField ha hd s3 (wpAny_bind (wpAny_setField ha3 hd3 s4 rest)))
/-- raise X(..) from n, in an except suite; n holds the exception that is handled -/
theorem ps_raiseHE {X : Cx} {W : WX} {e : Expr} {t : L2.St → Hp → XK → Prop} {i : Nat} {n : Str} {a1 : Addr} {oe1 : Obj} {cpos pos : Pos} (hc : Hot1 X.A (a1, oe1)) (hp : (a1, oe1) ∈ X.pn) (tk : L2.Takes X W) (he : PMk5 X e t) (hN : X.N[i]? = some n) (hv : Vis X.env.scope n)
    (hd : (n == ("__debug__" : Str)) = false := by decide) (hcd : (n == ("__classdict__" : Str)) = false := by decide) :
    PS X (.Raise (some e) (some (.Name n cpos)) pos) (fun _ σ H => σ[i]? = some (some (.ref a1)) ∧ PySem.W.subIn X.K oe1.cls (.type "BaseException") = some true ∧ t σ H fun cls d H' => W cls d σ H') := by
  refine ⟨fun pins s σ H D I ⟨hσ, hB, h⟩ => ?_⟩
  obtain ⟨hh, v1, e1, c1⟩ := hc
  show wpAny _ _ (do standAt pos; raiseStmt X.env (some (do let v ← eval e X.env; standAt pos; pure v)) (some (do let v ← eval (.Name n cpos) X.env; standAt pos; pure v))) _ _ _
  refine wpAny_bind (wpAny_standAt (raise_made_hotE (x1 := a1) (wpAny_bind (wpAny_mono (he pins s σ H _ I h) (fun u s1 hu => wpAny_bind (wpAny_standAt (wpAny_pure ?_))) fun _ _ x => x))))
  obtain ⟨⟨a, oe, vs, sI, H', cls, d, rfl, J, k, hne, ha, hz, hd', h1, na, os, ag, r, q⟩, h5⟩ := hu
  have J1 : Inv X pins σ H' s1 := J.landed (B := sI.heap) (fun b o e _ => e) (fun b o e => k b o e) (fun b o e _ => ⟨o.slots, k b o e⟩) os ag
  refine ⟨fun Q' q' => wpAny_bind (ld_var J1 hN hv hσ (fun u r => by cases r; exact wpAny_bind (wpAny_standAt (wpAny_pure q'))) hd hcd), ?_⟩
  have hi : 4 < vs.size := h5 a oe vs rfl ha hd'
  have k4 : ∀ b u, sI.heap.get? b = some u → (causeFrom (.ref a1) s1.heap a).get? b = some u := fun b u z => by
    have nab : a ≠ b := fun y => by
      rw [← y, hne] at z
      cases z
    rw [causeFrom_other nab]
    exact k b u z
  obtain ⟨r1, _⟩ := r (model X.prog X.w) s1.heap (J.kIn.keeps k)
  obtain ⟨_, r2⟩ := r (model X.prog X.w) (causeFrom (.ref a1) s1.heap a) (J.kIn.keeps k4)
  have P1 := (J.pin (a1, oe1) (List.mem_append_left _ hp)).1
  have nap : a1 ≠ a := fun z => by
    rw [z, hne] at P1
    cases P1
  obtain ⟨ha4, hd4⟩ := causeFrom_at (v := .ref a1) ha hd'
  have h12 : (((vs.setIfInBounds 3 (Value.ref a1)).setIfInBounds 4 (Value.bool true)).setIfInBounds 2 (Value.ref a1))[1]? = some Value.none := set_other (by decide) (set_other (by decide) (set_other (by decide) h1))
  refine ⟨a, oe, vs, cls, oe1.cls, rfl, ha, hz.1, hd', h1, hi, nap, ⟨hh, oe1, v1, k _ _ P1, e1, c1⟩, ⟨oe1, k _ _ P1, rfl⟩, PySem.W.looks_subIn (J.kIn.keeps k) hB, r1, r2, tk _ _ (XE.new J (fun b u z => ?_) hne (Heap.get?_update_self _ ha4 (Obj.isFreed_of_fields (Obj.data_mapFields hd4 _)))
    ⟨by rw [Obj.cls_mapFields, Obj.cls_mapFields, Obj.cls_mapFields]; exact hz.1, by rw [HandSPX.dict_mapFields, HandSPX.dict_mapFields, HandSPX.dict_mapFields]; exact hz.2.1⟩ (Obj.data_mapFields hd4 _) h12 na os ag q)⟩
  have nab : a ≠ b := fun y => by
    rw [← y, hne] at z
    cases z
  show ((causeFrom (.ref a1) s1.heap a).update a (Obj.mapFields (·.setIfInBounds 2 (.ref a1)))).get? b = some u
  rw [Heap.get?_update_other _ _ nab]
  exact k4 b u z
end LC

set_option Elab.async false
set_option linter.all false
set_option maxRecDepth 100000
set_option maxHeartbeats 5000000
/-! LD35: isinstance(x, (A, B)); a try whose body raises nothing; tuples in dicts of the top. -/
namespace LC
open PySem PySem.Spec
open PyProof.Rows L2
section
variable {X : Cx} {B : Bs}
theorem call_isiTS : CallR X (.builtin "isinstance") (fun xs H Q => ∃ (x : V) (tp : Addr) (cs : List V) (t : Value) (us : List Value) (b : Bool), xs = [x, .ref tp] ∧ SqT X.K H tp cs ∧ Paired ClsV cs us ∧ TyX X.K H x t ∧ PySem.W.kitAny X.K t us = some b ∧ Q (.bl b) H) := by
  intro pins s σ H xs us Q I r h
  obtain ⟨x, tp, cs, t, ws, b, rfl, hT, k, ty, e, q⟩ := h
  obtain ⟨u1, u2, rfl, r1, r2⟩ := vals2 r
  cases (show u2 = Value.ref tp from r2)
  obtain ⟨P, Z, p, hx⟩ := kit_of I r1 ty
  obtain ⟨its, rv, ⟨o, h1, h2, n, h3⟩, _⟩ := I.tuple hT
  have e3 := ClsV.all k rv
  subst e3
  obtain ⟨oc, od, dt, sl⟩ := o
  simp only at h2 h3
  subst h2 h3
  exact PySem.W.kia_tup Z I.kIn p h1 e hx fun tk => ⟨.bl b, H, I.tok tk, rfl, q⟩
def tysOf : List D → Option (List String)
  | [] => some []
  | .ty c :: r => match tysOf r with
    | some l => some (c :: l)
    | none => none
  | _ :: _ => none
theorem tysOf_ok {φ : Ph} {H : Hp} : ∀ {cs : List D} {vs : List V} {l : List String}, tysOf cs = some l → RVs X.K φ H cs vs → Paired ClsV vs (l.map Value.type)
  | [], _, _, h, r => by cases h; cases r; exact .nil
  | .ty c :: cs, _, l, h, ⟨v, ws, e, r1, r2⟩ => by
    subst e
    unfold tysOf at h
    cases h2 : tysOf cs with
    | none => rw [h2] at h; cases h
    | some l2 =>
      rw [h2] at h
      cases h
      cases r1
      exact .cons (.ty c) (tysOf_ok h2 r2)
  | .non :: _, _, _, h, _ => nomatch h
  | .bl _ :: _, _, _, h, _ => nomatch h
  | .int _ :: _, _, _, h, _ => nomatch h
  | .str _ :: _, _, _, h, _ => nomatch h
  | .adr _ :: _, _, _, h, _ => nomatch h
  | .ref _ :: _, _, _, h, _ => nomatch h
  | .tup _ :: _, _, _, h, _ => nomatch h
  | .lst _ :: _, _, _, h, _ => nomatch h
  | .ins _ _ _ :: _, _, _, h, _ => nomatch h
  | .dK _ _ :: _, _, _, h, _ => nomatch h
  | .dT _ _ :: _, _, _, h, _ => nomatch h
  | .scr _ :: _, _, _, h, _ => nomatch h
  | .tq _ :: _, _, _, h, _ => nomatch h
  | .kt _ :: _, _, _, h, _ => nomatch h
  | .bad :: _, _, _, h, _ => nomatch h
theorem kit_any {K : PySem.W.Frag} {t : String} (ht : t ∈ tys) : ∀ {l : List String}, l.all okTy = true → PySem.W.kitAny K (.type t) (l.map Value.type) = some (l.any (subTy t))
  | [], _ => rfl
  | c :: r, h => by
    rw [List.all_cons, Bool.and_eq_true] at h
    have e := kit_b (K := K) ht (okTy_mem h.1)
    have ih := kit_any (K := K) ht h.2
    unfold PySem.W.kitAny
    rw [List.map_cons]
    simp only [e]
    rw [List.any_cons]
    cases hs : subTy t c with
    | true => rfl
    | false => exact ih
def rcIsiT : QC := fun ds S Q => match ds with
  | [d, .tup cs] => Opt (tyN S d) fun t => Opt (tysOf cs) fun l => Br (l.all okTy) (Q (.bl (l.any (subTy t))) S) False
  | _ => False
theorem cc_isiT : CallR X (.builtin "isinstance") (upC X.K B rcIsiT) := CallR.imp call_isiTS fun x H Q ⟨φ, S, ds, Q', hr, r, q, k⟩ => by
  unfold rcIsiT at q
  split at q
  · obtain ⟨v, w', rfl, r1, v2, w2, rfl, ⟨p, vs, rfl, h1, h2⟩, r3⟩ := r
    cases r3
    obtain ⟨t, ht, q1⟩ := q.get; clear q
    obtain ⟨l, hl, q2⟩ := q1.get; clear q1
    obtain ⟨ha, q3⟩ := q2.get
    obtain ⟨g1, g2⟩ := tyN_ty ht
    exact ⟨v, p, vs, _, _, _, rfl, h1, tysOf_ok hl h2, tyOf_ok hr g1 (fun C z => nomatch z) r1, kit_any g2 ha, k.here (d := D.bl _) hr rfl q3⟩
  · exact q.elim
end
theorem tupE {K : PySem.W.Frag} {p : Addr} {its : Array Value} {n : Nat} {sl : Array (Option Value)} {vs : List V} {ds : List D} (l : K.lookup p = some ⟨.type "tuple", none, .seq its n, sl⟩) (hz : its.size ≤ sizeLine) (r : Vals vs its.toList) (rd : RVc K ds vs) : ∃ v, RelV v (Value.ref p) ∧ ∀ φ H, RV K φ H (.kt ds) v :=
  ⟨.ref p, rfl, fun φ H => ⟨p, vs, rfl, ⟨_, its, n, l, rfl, rfl, hz, r⟩, rd φ H⟩⟩
end LC

set_option Elab.async false
set_option linter.all false
set_option maxRecDepth 100000
set_option maxHeartbeats 5000000
/-! LD36: numbers and findings as words. -/
namespace LC
open PySem PySem.Spec
open PyProof.Rows L2
open TL (tl numL)
theorem atI0 {α : Type} {d : α} {r : List α} : L2.atI (d :: r) 0 = some d := atI_get (by decide) rfl
def num4 (n : Int) : Prop := 0 ≤ n ∧ n < 10000
def numW (n : Int) : Str := toString n
theorem numW_tl {n : Int} (h : 0 ≤ n) : tl (numW n) = numL n.toNat := by
  obtain ⟨m, rfl⟩ := Int.eq_ofNat_of_zero_le h
  exact TL.tl_num m
theorem numW_len {n : Int} (h : num4 n) : 1 ≤ (numW n).length ∧ (numW n).length ≤ 4 := by
  rw [TL.len_tl, numW_tl h.1]
  refine ⟨?_, TL.numL_len (by decide) (by have := h.2; have := h.1; omega)⟩
  have := TL.numL_ne n.toNat
  exact List.length_pos_iff.mpr this
theorem numW_int {n : Int} (h : num4 n) : PySem.intText? (numW n) = some n := by
  obtain ⟨m, rfl⟩ := Int.eq_ofNat_of_zero_le h.1
  exact TL.int_num (by
    have := TL.numL_len (n := m) (k := 4) (by decide) (by have := h.2; omega)
    omega)
theorem numL_head : ∀ n : Nat, 0 < n → ∃ c r, numL n = c :: r ∧ c ≠ 48 := fun n => by
  induction n using Nat.strongRecOn with
  | _ n ih =>
    intro h
    by_cases h10 : n < 10
    · exact ⟨48 + n, [], TL.numL_lt h10, by omega⟩
    · obtain ⟨c, r, e, hc⟩ := ih (n / 10) (by omega) (by omega)
      exact ⟨c, r ++ [48 + n % 10], by rw [TL.numL_step (by omega), e]; rfl, hc⟩
theorem numW_zero : numW 0 = "0" := by decide +kernel
theorem FIG_is : ("0123456789" : Str).cps.toList = [48, 49, 50, 51, 52, 53, 54, 55, 56, 57] := by decide +kernel
theorem fig_iff (c : Nat) : c ∈ ("0123456789" : Str).cps.toList ↔ 48 ≤ c ∧ c ≤ 57 := by
  rw [FIG_is]
  simp
  omega
/-- the words of a finding -/
inductive Th where
  | num (n : Int) | sgs (ns : List Int) | sg (n : Int)
def Th.k : Th → Str
  | .num _ => "number"
  | .sgs _ => "signs"
  | .sg _ => "sign"
def Th.d : Th → D
  | .num n => .int n
  | .sgs ns => .tup (ns.map D.int)
  | .sg n => .int n
def Th.w : Th → Str
  | .num n => numW n
  | .sgs ns => strOf ns
  | .sg n => strOf [n]
def Th.ok : Th → Prop
  | .num n => num4 n
  | .sgs ns => goodN ns ∧ 1 ≤ ns.length ∧ ns.length ≤ 40
  | .sg n => 0 ≤ n ∧ n ≤ 6
def Fc.hd : Fc → Str
  | .scrape _ _ _ => "scrape"
  | .cover _ _ _ => "cover"
  | .moved _ _ _ _ => "moved"
  | .year _ _ _ _ => "year"
  | .sold _ _ => "sold"
  | .ahead _ _ _ _ => "ahead"
  | .same _ _ _ _ => "same"
  | .apart _ _ _ _ => "apart"
def Fc.th : Fc → List Th
  | .scrape p c sh => [.num p, .num c, .sgs sh]
  | .cover p l d => [.num p, .num l, .num d]
  | .moved p c l d => [.num p, .num c, .num l, .num d]
  | .year p c f l => [.num p, .num c, .num f, .num l]
  | .sold s y => [.sg s, .num y]
  | .ahead p c o d => [.num p, .num c, .num o, .num d]
  | .same p c o d => [.num p, .num c, .num o, .num d]
  | .apart p c o d => [.num p, .num c, .num o, .num d]
def numF (f : Fc) : Prop := ∀ t ∈ f.th, t.ok
def Fc.words (f : Fc) : List Str := f.hd :: f.th.map Th.w
theorem Fc.d_th (f : Fc) : f.d = .tup (.str f.hd :: f.th.map Th.d) := by cases f <;> rfl
theorem Fc.th_len (f : Fc) : 2 ≤ f.th.length ∧ f.th.length ≤ 4 := by cases f <;> exact ⟨Nat.le_of_ble_eq_true rfl, Nat.le_of_ble_eq_true rfl⟩
def Fc.line (f : Fc) : Str := Txt.join " " f.words
theorem Th.w_len {t : Th} (h : t.ok) : 1 ≤ t.w.length ∧ t.w.length ≤ 40 := by
  cases t with
  | num n => have := numW_len h; exact ⟨this.1, by have := this.2; show (numW n).length ≤ 40; omega⟩
  | sgs ns =>
    have e : (strOf ns).length = ns.length := by show (ns.map sgn).toArray.size = _; simp
    show 1 ≤ (strOf ns).length ∧ (strOf ns).length ≤ 40
    rw [e]
    exact h.2
  | sg n => exact ⟨Nat.le_of_ble_eq_true rfl, Nat.le_of_ble_eq_true rfl⟩
theorem Fc.hd_len (f : Fc) : f.hd.length ≤ 40 := by
  have w : ∀ x : Str, x = "scrape" ∨ x = "cover" ∨ x = "moved" ∨ x = "year" ∨ x = "sold" ∨ x = "ahead" ∨ x = "same" ∨ x = "apart" → x.length ≤ 40 := by
    rintro x (rfl | rfl | rfl | rfl | rfl | rfl | rfl | rfl) <;> decide +kernel
  cases f <;> exact w _ (by simp [Fc.hd])
theorem sum_le {l : List Nat} {k : Nat} (h : ∀ x ∈ l, x ≤ k) : l.sum ≤ l.length * k := by
  induction l with
  | nil => simp
  | cons x r ih =>
    have h1 := h x List.mem_cons_self
    have h2 := ih fun y hy => h y (List.mem_cons_of_mem _ hy)
    simp only [List.sum_cons, List.length_cons, Nat.succ_mul]
    omega
theorem Fc.words_len {f : Fc} (h : numF f) : f.words.length ≤ 5 ∧ ∀ p ∈ f.words, p.length ≤ 40 := by
  refine ⟨by have := f.th_len; unfold Fc.words; simp; omega, fun p hp => ?_⟩
  rcases List.mem_cons.mp hp with rfl | hp
  · exact Fc.hd_len f
  · obtain ⟨t, ht, rfl⟩ := List.mem_map.mp hp
    exact (Th.w_len (h t ht)).2
theorem Fc.words_sum {f : Fc} (h : numF f) : (f.words.map (·.length)).sum + f.words.length * (" " : Str).length ≤ 16777216 := by
  obtain ⟨h1, h2⟩ := Fc.words_len h
  have h3 : (f.words.map (·.length)).sum ≤ (f.words.map (·.length)).length * 40 := sum_le fun x hx => by
    obtain ⟨p, hp, rfl⟩ := List.mem_map.mp hx
    exact h2 p hp
  rw [List.length_map] at h3
  have e : (" " : Str).length = 1 := by decide +kernel
  rw [e]
  omega
def formsL : List (Str × D) := [("scrape", .kt [.str "number", .str "number", .str "signs"]), ("cover", .kt [.str "number", .str "number", .str "number"]), ("moved", .kt [.str "number", .str "number", .str "number", .str "number"]), ("year", .kt [.str "number", .str "number", .str "number", .str "number"]), ("sold", .kt [.str "sign", .str "number"]), ("ahead", .kt [.str "number", .str "number", .str "number", .str "number"]), ("same", .kt [.str "number", .str "number", .str "number", .str "number"]), ("apart", .kt [.str "number", .str "number", .str "number", .str "number"])]
theorem Fc.words_ne (f : Fc) : f.words ≠ [] := by unfold Fc.words; simp
theorem zero_cps : ("0" : Str).cps = #[48] := by decide +kernel
theorem starts0 {x : Str} {c : Nat} {r : List Nat} (h : tl x = c :: r) (hc : c ≠ 48) : Txt.startswith x "0" = false := by
  have e : x = ⟨(c :: r).toArray⟩ := TL.ext_tl h
  subst e
  unfold Txt.startswith Builtin.Str.subAt
  rw [zero_cps]
  have e2 : ("0" : Str).length = 1 := by decide +kernel
  rw [e2]
  have e3 : ((⟨(c :: r).toArray⟩ : Str).cps.extract 0 (0 + 1) == #[48]) = false := by
    show ((c :: r).toArray.extract 0 (0 + 1) == #[48]) = false
    simp [hc]
  rw [e3, Bool.and_false]
theorem numW_pos {n : Int} (h : num4 n) (h1 : n ≠ 0) : Txt.startswith (numW n) "0" = false := by
  obtain ⟨c, r, e, hc⟩ := numL_head n.toNat (by have := h.1; omega)
  exact starts0 (by rw [numW_tl h.1]; exact e) hc
theorem log_num4 {n : Int} (h : num4 n) : n.natAbs.log2 < 1920 := by
  have h1 : n.natAbs < 2 ^ 14 := by have := h.1; have := h.2; omega
  have := Nat.log2_lt (n := n.natAbs) (k := 14)
  by_cases h0 : n.natAbs = 0
  · rw [h0]; decide
  · exact Nat.lt_trans ((Nat.log2_lt h0).mpr h1) (by decide)
theorem joinL_len (S : List Nat) : ∀ parts : List (List Nat), (TL.joinL S parts).length ≤ (parts.map (·.length)).sum + parts.length * S.length
  | [] => by simp [TL.joinL]
  | [p] => by simp [TL.joinL]
  | p :: q :: r => by
    have ih := joinL_len S (q :: r)
    show (p ++ (S ++ TL.joinL S (q :: r))).length ≤ _
    rw [List.length_append, List.length_append, List.map_cons, List.sum_cons, List.length_cons, Nat.succ_mul]
    omega
theorem join_len (y : Str) (parts : List Str) : (Txt.join y parts).length ≤ (parts.map (·.length)).sum + parts.length * y.length := by
  rw [TL.join_eq, TL.len_tl, TL.tl_join]
  have h := joinL_len (tl y) (parts.map tl)
  rw [List.length_map, List.map_map] at h
  have e : (parts.map ((fun x : List Nat => x.length) ∘ tl)) = parts.map (·.length) := List.map_congr_left fun x _ => (TL.len_tl x).symm
  rw [e, ← TL.len_tl] at h
  exact h
theorem Fc.line_len {f : Fc} (h : numF f) : f.line.length ≤ 300 := by
  have h1 := join_len " " f.words
  obtain ⟨h2, h3⟩ := Fc.words_len h
  have h4 : (f.words.map (·.length)).sum ≤ (f.words.map (·.length)).length * 40 := sum_le fun x hx => by
    obtain ⟨p, hp, rfl⟩ := List.mem_map.mp hx
    exact h3 p hp
  rw [List.length_map] at h4
  have e : (" " : Str).length = 1 := by decide +kernel
  rw [e] at h1
  unfold Fc.line
  omega
theorem Fc.dp (f : Fc) {n : Nat} (hs : f.sh.length ≤ 1000000) : D.dp f.d (n + 2) := by
  cases f with
  | scrape p c sh => exact ⟨by show 4 ≤ 1000000; decide, trivial, trivial, trivial, ⟨by rw [List.length_map]; exact hs, D.dps_ints sh⟩, trivial⟩
  | sold s y => exact ⟨by show 3 ≤ 1000000; decide, trivial, trivial, trivial, trivial⟩
  | cover p l d => exact ⟨by show 4 ≤ 1000000; decide, trivial, trivial, trivial, trivial, trivial⟩
  | _ => exact ⟨by show 5 ≤ 1000000; decide, trivial, trivial, trivial, trivial, trivial, trivial⟩
theorem good_numF {f : Fc} (h : f.good [1, 2, 3, 4] 5) : numF f := by
  have hp : ∀ p : Int, p ∈ ([1, 2, 3, 4] : List Int) → num4 p := fun p hp => by simp at hp; exact ⟨by omega, by omega⟩
  cases f with
  | scrape p c sh =>
    obtain ⟨h1, h2, h3, h4, h5⟩ := h
    intro t ht
    simp only [Fc.th, List.mem_cons, List.not_mem_nil, or_false] at ht
    rcases ht with rfl | rfl | rfl
    · exact hp _ h1
    · exact ⟨h2, by omega⟩
    · exact ⟨h5, h3, by omega⟩
  | cover p l d =>
    obtain ⟨h1, h2, h3, h4, h5⟩ := h
    intro t ht
    simp only [Fc.th, List.mem_cons, List.not_mem_nil, or_false] at ht
    rcases ht with rfl | rfl | rfl
    · exact hp _ h1
    · exact hp _ h2
    · exact ⟨h4, by omega⟩
  | moved p c l d =>
    obtain ⟨h1, h2, h3, h4, h5, h6, h7⟩ := h
    intro t ht
    simp only [Fc.th, List.mem_cons, List.not_mem_nil, or_false] at ht
    rcases ht with rfl | rfl | rfl | rfl
    · exact hp _ h1
    · exact ⟨by omega, by omega⟩
    · exact hp _ h4
    · exact ⟨h6, by omega⟩
  | year p c f l =>
    obtain ⟨h1, h2, h3, h4, h5, h6⟩ := h
    intro t ht
    simp only [Fc.th, List.mem_cons, List.not_mem_nil, or_false] at ht
    rcases ht with rfl | rfl | rfl | rfl
    · exact hp _ h1
    · exact ⟨h2, by omega⟩
    · exact ⟨h4, by omega⟩
    · exact ⟨by omega, by omega⟩
  | sold s y =>
    obtain ⟨h1, h2, h3, h4⟩ := h
    intro t ht
    simp only [Fc.th, List.mem_cons, List.not_mem_nil, or_false] at ht
    rcases ht with rfl | rfl
    · exact ⟨by omega, h2⟩
    · exact ⟨h3, by omega⟩
  | ahead p c o d =>
    obtain ⟨h1, h2, h3, h4, h5, h6, h7⟩ := h
    intro t ht
    simp only [Fc.th, List.mem_cons, List.not_mem_nil, or_false] at ht
    rcases ht with rfl | rfl | rfl | rfl
    · exact hp _ h1
    · exact ⟨h2, by omega⟩
    · exact hp _ h4
    · exact ⟨h5, by omega⟩
  | same p c o d =>
    obtain ⟨h1, h2, h3, h4, h5, h6, h7⟩ := h
    intro t ht
    simp only [Fc.th, List.mem_cons, List.not_mem_nil, or_false] at ht
    rcases ht with rfl | rfl | rfl | rfl
    · exact hp _ h1
    · exact ⟨h2, by omega⟩
    · exact hp _ h4
    · exact ⟨h5, by omega⟩
  | apart p c o d =>
    obtain ⟨h1, h2, h3, h4, h5, h6, h7⟩ := h
    intro t ht
    simp only [Fc.th, List.mem_cons, List.not_mem_nil, or_false] at ht
    rcases ht with rfl | rfl | rfl | rfl
    · exact hp _ h1
    · exact ⟨h2, by omega⟩
    · exact hp _ h4
    · exact ⟨h5, by omega⟩
theorem th_sold (f : Fc) {i : Nat} {t : Th} (h : f.th[i]? = some t) : match t with
    | .sg _ => f.hd = "sold" ∧ i = 0
    | .num _ => ¬ (f.hd = "sold" ∧ i = 0)
    | .sgs _ => True := by
  have ne : ∀ x : Str, x = "scrape" ∨ x = "cover" ∨ x = "moved" ∨ x = "year" ∨ x = "ahead" ∨ x = "same" ∨ x = "apart" → x ≠ "sold" := by
    rintro x (rfl | rfl | rfl | rfl | rfl | rfl | rfl) <;> decide +kernel
  cases f with
  | sold s y =>
    match i, h with
    | 0, h => cases h; exact ⟨rfl, rfl⟩
    | 1, h => cases h; exact fun z => absurd z.2 (by decide)
  | scrape p c sh =>
    match i, h with
    | 0, h => cases h; exact fun z => ne "scrape" (by simp) z.1
    | 1, h => cases h; exact fun z => ne "scrape" (by simp) z.1
    | 2, h => cases h; trivial
  | cover p c sh =>
    match i, h with
    | 0, h => cases h; exact fun z => ne "cover" (by simp) z.1
    | 1, h => cases h; exact fun z => ne "cover" (by simp) z.1
    | 2, h => cases h; exact fun z => ne "cover" (by simp) z.1
  | moved p c o d =>
    match i, h with
    | 0, h => cases h; exact fun z => ne "moved" (by simp) z.1
    | 1, h => cases h; exact fun z => ne "moved" (by simp) z.1
    | 2, h => cases h; exact fun z => ne "moved" (by simp) z.1
    | 3, h => cases h; exact fun z => ne "moved" (by simp) z.1
  | year p c o d =>
    match i, h with
    | 0, h => cases h; exact fun z => ne "year" (by simp) z.1
    | 1, h => cases h; exact fun z => ne "year" (by simp) z.1
    | 2, h => cases h; exact fun z => ne "year" (by simp) z.1
    | 3, h => cases h; exact fun z => ne "year" (by simp) z.1
  | ahead p c o d =>
    match i, h with
    | 0, h => cases h; exact fun z => ne "ahead" (by simp) z.1
    | 1, h => cases h; exact fun z => ne "ahead" (by simp) z.1
    | 2, h => cases h; exact fun z => ne "ahead" (by simp) z.1
    | 3, h => cases h; exact fun z => ne "ahead" (by simp) z.1
  | same p c o d =>
    match i, h with
    | 0, h => cases h; exact fun z => ne "same" (by simp) z.1
    | 1, h => cases h; exact fun z => ne "same" (by simp) z.1
    | 2, h => cases h; exact fun z => ne "same" (by simp) z.1
    | 3, h => cases h; exact fun z => ne "same" (by simp) z.1
  | apart p c o d =>
    match i, h with
    | 0, h => cases h; exact fun z => ne "apart" (by simp) z.1
    | 1, h => cases h; exact fun z => ne "apart" (by simp) z.1
    | 2, h => cases h; exact fun z => ne "apart" (by simp) z.1
    | 3, h => cases h; exact fun z => ne "apart" (by simp) z.1
/-- item by item: numbers made others, the rest as it was -/
def wr (x y : D) : Prop := match x with
  | .int _ => ∃ m, num4 m ∧ y = .int m
  | _ => y = x
def W2 : List D → List D → Prop
  | [], l => l = []
  | x :: xs, l => ∃ y ys, l = y :: ys ∧ wr x y ∧ W2 xs ys
theorem W2.snoc {x y : D} (h : wr x y) : ∀ {xs ys : List D}, W2 xs ys → W2 (xs ++ [x]) (ys ++ [y])
  | [], _, e => by cases e; exact ⟨y, [], rfl, h, rfl⟩
  | a :: xs, _, ⟨b, bs, e, h1, h2⟩ => by subst e; exact ⟨b, bs ++ [y], rfl, h1, W2.snoc h h2⟩
theorem all1 {t : Th} (h : t.ok) {l : List Th} (g : ∀ t ∈ l, t.ok) : ∀ u ∈ t :: l, u.ok := fun u hu => (List.mem_cons.mp hu).elim (fun e => e ▸ h) (g u)
theorem all0 : ∀ u ∈ ([] : List Th), u.ok := fun _ h => nomatch h
end LC

set_option Elab.async false
set_option linter.all false
set_option maxRecDepth 100000
set_option maxHeartbeats 5000000
/-! LD37: f-strings of texts and whole numbers. -/
namespace LC
open PySem PySem.Spec
open PyProof.Rows L2
section
variable {X : Cx} {B : Bs}
end
end LC

set_option Elab.async false
set_option linter.all false
set_option maxRecDepth 100000
set_option maxHeartbeats 5000000
/-! LD38: deeds as words. -/
namespace LC
open PySem PySem.Spec
open PyProof.Rows L2
open TL (tl numL)
inductive Dd where
  | tell (f : Fc) | strike (n : Int) | keep (n : Int) | amend (n : Int) (f : Fc)
def Dd.d : Dd → D
  | .tell f => .tup [.str "tell", f.d]
  | .strike n => .tup [.str "strike", .int n]
  | .keep n => .tup [.str "keep", .int n]
  | .amend n f => .tup [.str "amend", .int n, f.d]
def Dd.ok : Dd → Prop
  | .tell f => numF f
  | .strike n => num4 n
  | .keep n => num4 n
  | .amend n f => num4 n ∧ numF f
def Dd.words : Dd → List Str
  | .tell f => f.words
  | .strike n => ["strike", numW n]
  | .keep n => ["keep", numW n]
  | .amend n f => "amend" :: numW n :: f.words
def Dd.line : Dd → Str
  | .tell f => f.line
  | .strike n => ("strike" : Str) ++ " " ++ numW n
  | .keep n => ("keep" : Str) ++ " " ++ numW n
  | .amend n f => ("amend " : Str) ++ numW n ++ " " ++ f.line
theorem Dd.lt {d : Dd} {n : Nat} : D.lt n d.d := by
  cases d with
  | tell f => exact ⟨trivial, Fc.lt, trivial⟩
  | strike n => exact ⟨trivial, trivial, trivial⟩
  | keep n => exact ⟨trivial, trivial, trivial⟩
  | amend n f => exact ⟨trivial, trivial, Fc.lt, trivial⟩
theorem Dd.line_len {d : Dd} (h : d.ok) : d.line.length ≤ 400 := by
  have l1 : ∀ x y : Str, (x ++ y).length = x.length + y.length := Str.length_append
  have e1 : (" " : Str).length = 1 := by decide +kernel
  cases d with
  | tell f => have := Fc.line_len (f := f) h; show f.line.length ≤ 400; omega
  | strike n =>
    show (("strike" : Str) ++ " " ++ numW n).length ≤ 400
    have e2 : ("strike" : Str).length = 6 := by decide +kernel
    have := (numW_len (n := n) h).2
    rw [l1, l1, e1, e2]; omega
  | keep n =>
    show (("keep" : Str) ++ " " ++ numW n).length ≤ 400
    have e2 : ("keep" : Str).length = 4 := by decide +kernel
    have := (numW_len (n := n) h).2
    rw [l1, l1, e1, e2]; omega
  | amend n f =>
    show (("amend " : Str) ++ numW n ++ " " ++ f.line).length ≤ 400
    have e2 : ("amend " : Str).length = 6 := by decide +kernel
    have := (numW_len (n := n) h.1).2
    have := Fc.line_len h.2
    rw [l1, l1, l1, e1, e2]; omega
theorem cutD_from2 {d e : D} {r : List D} : cutD (d :: e :: r) (some 2) none = r := by
  unfold cutD
  rw [show (2 : Int) = ((2 : Nat) : Int) from rfl, HT.sIx_nat]
  show ((d :: e :: r).drop (min 2 (d :: e :: r).length)).take ((d :: e :: r).length - min 2 (d :: e :: r).length) = r
  rw [show min 2 (d :: e :: r).length = 2 by simp]
  simp
def heads : List Str := ["scrape", "cover", "moved", "year", "sold", "ahead", "same", "apart"]
theorem hd_mem (f : Fc) : f.hd ∈ heads := by cases f <;> simp [Fc.hd, heads]
theorem hd_am (f : Fc) : f.hd ≠ "amend" := (show ∀ x ∈ heads, x ≠ "amend" by decide +kernel) _ (hd_mem f)
end LC

set_option Elab.async false
set_option linter.all false
set_option maxRecDepth 100000
set_option maxHeartbeats 5000000
/-! LD39: try .. except X as n: the suite raises. -/
namespace LC
open PySem PySem.Spec
open PyProof.Rows L2 L2H HotX
section
variable {X : Cx} {pins : List (Addr × Obj)} {σ : L2.St} {H : Hp} {s : Shared}
/-- the name of an except clause is gone from the locals: h' differs there alone -/
theorem gone_inv {i : Nat} {n : Str} {h' : Heap} {t' : Nat} {m : Str → Option Value} {v : Option Value} (I : Inv X pins σ H s) (hN : X.N.Nodup) (hi : X.N[i]? = some n)
    (hlk : ∀ (j : Nat) (y : Str) (v' : V), X.N[j]? = some y → σ[j]? = some (some v') → Vis X.env.scope y → ∃ u, RelV v' u ∧ Look X.env s.heap m y u)
    (hn' : h'.Ns X.env.locals (fun x => if x = n then v else m x)) (hs : Heap.SameBut X.env.locals s.heap h') : Inv X pins (σ.set i none) H { s with heap := h', toks := t' } := by
  have neL : ∀ b o, X.s_0.heap.get? b = some o → b ≠ X.env.locals := fun b o e => Nat.ne_of_lt (Nat.lt_of_lt_of_le (Heap.lt_size e) I.ok.above)
  refine ⟨I.ok, I.os, I.bare, ⟨fun b o e n hb hx => ?_, fun b o e n hb hx => ?_, I.base.free, fun b o e hx => ?_, I.base.tups, I.base.frzs, I.base.tbls⟩, ⟨_, hn', fun j y v' e1 e2 e3 => ?_⟩, fun y c e => ?_, I.free, I.freeC, fun p hp => ?_, fun b ob e => ?_, by simpa using I.len⟩
  · exact (hs.2 b (neL b o e)).trans (I.base.keep b o e n hb hx)
  · obtain ⟨sl, e1⟩ := I.base.slot b o e n hb hx
    exact ⟨sl, (hs.2 b (neL b o e)).trans e1⟩
  · obtain ⟨o', e1⟩ := I.base.there b o e hx
    exact ⟨o', (hs.2 b (neL b o e)).trans e1⟩
  · by_cases hj : j = i
    · subst hj
      by_cases hlt : j < σ.length
      · rw [List.getElem?_set_self hlt] at e2; cases e2
      · rw [List.getElem?_eq_none (by simpa using hlt)] at e2; cases e2
    · rw [List.getElem?_set_ne (Ne.symm hj)] at e2
      obtain ⟨u', r', q⟩ := hlk j y v' e1 e2 e3
      refine ⟨u', r', ?_⟩
      rcases q with ⟨k, e⟩ | ⟨k, c, e, z⟩
      · have ny : y ≠ n := fun e => hj (L2.nodup_ix hN e1 (e ▸ hi))
        exact .inl ⟨k, (if_neg ny).trans e⟩
      · exact .inr ⟨k, c, e, z.sameBut hs (I.cne y c e)⟩
  · obtain ⟨w', z⟩ := I.cell y c e
    exact ⟨w', z.sameBut hs (I.cne y c e)⟩
  · obtain ⟨e, n, ne, nf, d⟩ := I.pin p hp
    exact ⟨(hs.2 p.1 ne).trans e, n, ne, nf, d⟩
  · refine (I.hok b ob e).stay (fun c w' hc q => (hs.2 c ?_).trans q) (fun _ q => q) fun _ _ q => q
    intro z
    subst z
    rcases hc with hc | hc
    · rw [← hc, I.free] at e; cases e
    · rw [I.free] at hc; cases hc
end
theorem freed_dict {o : Obj} {es : Array DictEntry} {ep : Nat} (h : o.data = .dict es ep) : o.isFreed = false := by
  obtain ⟨c, d, dt, sl⟩ := o; subst h; rfl
/-- the context of such a suite -/
abbrev suiteXe (X : Cx) (a : Addr) (pn : List (Addr × Obj)) (xe : Value → Shared → Prop) : Cx := { X with A := X.A.mark (some (.ref a)), calm := false, pn := pn, xe := xe }
section
variable {X : Cx} {x n : Str} {c : Value} {i : Nat} {body suite : List Stmt} {b₀ : Stmt} {np pos pos' : Pos} {tb : WX → TS} {ts : Addr → Value → Option Addr → TS} {Wout : WX}
/-- an exception leaves such a suite -/
theorem takes_leave {a : Addr} {oe : Obj} {pins : List (Addr × Obj)} (hs : X.stack = X.env :: X.outer) (hf : X.env.frame = some X.env.locals) (hN : X.N.Nodup) (hi : X.N[i]? = some n) (hln : X.env.kindOf n = some .local) (ok : X.Ok) (tk : L2.Takes X Wout)
    (hpa : PassesOwnAt (model X.prog X.w) (X.A.mark (some (.ref a))) X.A X.env X.xe) (xe : Value → Shared → Prop)
    (hxe : ∀ e s', (wpAny (model X.prog X.w) (X.A.mark (some (.ref a))) (noteFrame e X.env) (fun _ s₃' =>
            wpAny (model X.prog X.w) (X.A.mark (some (.ref a))) (do bindName X.env n .none; unbindBehindTheSuite X.env n pos')
              (fun _ s₄ => wpAny (model X.prog X.w) (X.A.mark (some (.ref a))) (passOn "try.except-as" e X.env : Sem Flow) (fun _ _ => False) (notedBy (model X.prog X.w) (X.A.mark (some (.ref a))) X.env (cameBackBy (model X.prog X.w) X.A X.env X.xe)) s₄)
              (fun y s₄ => wpAny (model X.prog X.w) (X.A.mark (some (.ref a))) (setFlight e none) (fun _ s₅ => (notedBy (model X.prog X.w) (X.A.mark (some (.ref a))) X.env (cameBackBy (model X.prog X.w) X.A X.env X.xe)) y s₅) (notedBy (model X.prog X.w) (X.A.mark (some (.ref a))) X.env (cameBackBy (model X.prog X.w) X.A X.env X.xe)) s₄) s₃') (notedBy (model X.prog X.w) (X.A.mark (some (.ref a))) X.env (cameBackBy (model X.prog X.w) X.A X.env X.xe)) s') → xe e s') :
    L2.Takes (suiteXe X a ((a, oe) :: (X.pn ++ pins)) xe) (fun cls d σ H => Wout cls d (σ.set i none) H) := by
  intro u s2 ⟨a2, B2, sI2, pn2, σ2, H2, cls2, d2, e2, I2, nb2, up2, sky2, na2, os2, ag2, w2⟩
  subst e2
  refine hxe _ _ ?_
  have ok2 := ok
  have J2 : Inv X pins σ2 H2 sI2 := unsuiteX (X := X) (a := a) (q := (a, oe)) (pn' := pn2) (show Inv (suiteX X a ((a, oe) :: (X.pn ++ pins))) pn2 σ2 H2 sI2 from I2.wish X.xe) ok
  have sky2' : Sky B2 (X.env :: X.outer) a2 (Zc cls2 d2) X.env.locals s2.heap := by rw [← hs]; exact sky2
  have hfr : (X.A.mark (some (.ref a))).frames = some (X.env :: X.outer) := by rw [← hs]; exact ok.frames
  have note : ∀ {Q : Unit → Shared → Prop} {E : Value → Shared → Prop}, (∀ h', HandSPX.HeldZ B2 (X.env :: X.outer) a2 (Zc cls2 d2) X.env.locals h' → s2.heap.UpToSlots h' → Q () { s2 with heap := h' }) → wpAny (model X.prog X.w) (X.A.mark (some (.ref a))) (noteFrame (.ref a2) X.env) Q E s2 := by
    intro Q E fin
    rcases sky2' with ⟨hB, hn, hl, oe, vs, he, hz, hd, h1⟩ | fl | hh
    · exact HandSPX.look_newZ Zc.steady hfr hl hf he hB hn hd h1 hz fin
    · exact HandSPX.looks_onZ Zc.steady hfr hf fl fin
    · exact HandSPX.againZ hf hh.2.2.2 (fin s2.heap hh (Heap.UpToSlots.refl _))
  refine note fun h5 hd5 up5 => ?_
  obtain ⟨m2, hn2, hlk2⟩ := id J2.loc
  have up25 : sI2.heap.UpToSlots h5 := up2.trans up5
  have hn5 : h5.Ns X.env.locals m2 := Heap.Ns.upToSlots hn2 up25
  have hcls : (X.env.scope.kind == .class || (X.env.scope.kind == .module && X.env.locals != X.env.globals)) = false := by rw [ok.kind]; rfl
  refine wpAny_nameGoes_keeps hln hn5 hcls fun h6 v hn6 hs6 => ?_
  obtain ⟨k1, k0, k2, oe5, vs5, T, oT, ts5, he5, hz5, hd5', h15, hnT, hTe, hT5, hdT, h35⟩ := hd5
  obtain ⟨oL5, esL, epL, hL5, hdL5, _⟩ := id hn5
  have aL : a2 ≠ X.env.locals := fun z => by rw [z, hL5] at he5; cases he5; rw [hdL5] at hd5'; cases hd5'
  have TL : T ≠ X.env.locals := fun z => by rw [z, hL5] at hT5; cases hT5; rw [hdL5] at hdT; cases hdT
  have hBL : B2.get? X.env.locals = none := (k2.mem (List.mem_filterMap.mpr ⟨X.env, List.mem_cons_self, hf⟩)).1
  have he6 : h6.get? a2 = some oe5 := (hs6.2 a2 aL).trans he5
  have hT6 : h6.get? T = some oT := (hs6.2 T TL).trans hT5
  have b6 : B2.StaysIn h6 := fun b o hb => (hs6.2 b fun q => by rw [q, hBL] at hb; cases hb).trans (k1 b o hb)
  have f6 : h6.FunFrames B2 (X.env :: X.outer) := Heap.FunFrames.sameBut hs6 hn6 k2
  unfold PySem.passOn
  refine wpAny_bind (wpAny_field he6 hd5' h15 ?_)
  rw [if_neg (show ¬ ((Value.ref T == Value.none) = true) from by simp)]
  rw [hf]
  have goal : wpAny (model X.prog X.w) (X.A.mark (some (.ref a))) (setFlight (.ref a2) (some X.env.locals)) (fun _ s4 => wpAny (model X.prog X.w) (X.A.mark (some (.ref a))) (throw (.ref a2) : Sem Flow) (fun _ _ => False) (notedBy (model X.prog X.w) (X.A.mark (some (.ref a))) X.env (cameBackBy (model X.prog X.w) X.A X.env X.xe)) s4) (notedBy (model X.prog X.w) (X.A.mark (some (.ref a))) X.env (cameBackBy (model X.prog X.w) X.A X.env X.xe)) { s2 with heap := h6, toks := s2.toks + 1 } := by
    refine HandSPX.setFlight_anyZ (Z := Zc cls2 d2) (fl := rawInt X.env.locals) b6 f6 ⟨oe5, vs5, T, oT, ts5, he6, hz5, hd5', h15, hnT, hTe, hT6, hdT, h35⟩ fun h7 b7 f7 t7 up67 => wpAny_throw (hpa _ _ (tk _ _ ?_))
    obtain ⟨oL6, es6, ep6, hL6, hdL6, rL6⟩ := id hn6
    obtain ⟨oL2, es2, ep2, hL2, hdL2, _⟩ := id hn2
    have hL7 : (sI2.heap.update X.env.locals fun _ => oL6).get? X.env.locals = some oL6 := Heap.get?_update_self (fun _ => oL6) hL2 (freed_dict hdL6)
    have hs7 : Heap.SameBut X.env.locals sI2.heap (sI2.heap.update X.env.locals fun _ => oL6) := Heap.SameBut.update ..
    have I7 : Inv X pins (σ2.set i none) H2 { sI2 with heap := sI2.heap.update X.env.locals fun _ => oL6, toks := sI2.toks } := gone_inv J2 hN hi hlk2 (v := v) ⟨oL6, es6, ep6, hL7, hdL6, rL6⟩ hs7
    refine ⟨a2, B2, _, pins, σ2.set i none, H2, cls2, d2, rfl, I7, fun b o hb hfr' => ?_, fun b o hb hnf => ?_, .inr (.inr (by rw [hs]; exact ⟨b7, k0, f7, t7⟩)), na2, os2, ag2, w2⟩
    · have bL : b ≠ X.env.locals := fun z => hfr' (by rw [z, hs]; exact List.mem_filterMap.mpr ⟨X.env, List.mem_cons_self, hf⟩)
      exact nb2 b o ((hs7.2 b bL).symm.trans hb) hfr'
    · by_cases bL : b = X.env.locals
      · subst bL
        have hb' : (sI2.heap.update X.env.locals fun _ => oL6).get? X.env.locals = some o := hb
        rw [hL7] at hb'; cases hb'
        exact up67 _ _ hL6 hnf
      · obtain ⟨sl, e5⟩ := up25 b o ((hs7.2 b bL).symm.trans hb) hnf
        obtain ⟨sl', e7⟩ := up67 b _ ((hs6.2 b bL).trans e5) hnf
        exact ⟨sl', e7⟩
  first
    | exact wpAny_bind (wpAny_pure (wpAny_bind goal))
    | exact wpAny_bind goal
theorem ps_try_asX (hs : X.stack = X.env :: X.outer) (hf : X.env.frame = some X.env.locals) (hN : X.N.Nodup) (hi : X.N[i]? = some n) (hln : X.env.kindOf n = some .local) (hc : Names X x c) (hpa : ∀ hd : Option Value, PassesOwnAt (model X.prog X.w) (X.A.mark hd) X.A X.env X.xe) (tk : L2.Takes X Wout)
    (hb : ∀ (W : WX) (pn : List (Addr × Obj)) (xe : Value → Shared → Prop), L2N.Takes (X.tr pn xe) W → PassesOwn (model X.prog X.w) X.A X.env xe → PSs (X.tr pn xe) body (tb W))
    (hsu : ∀ (a : Addr) (oe : Obj) (cls : Value) (d : Option Addr) (pn : List (Addr × Obj)) (xe : Value → Shared → Prop), L2N.Zn cls d oe → (∃ vs, oe.data = .fields vs) → L2.Takes (suiteXe X a ((a, oe) :: pn) xe) (fun cls d σ H => Wout cls d (σ.set i none) H) → Hot1 (X.A.mark (some (.ref a))) (a, oe) →
      PSs (suiteXe X a ((a, oe) :: pn) xe) (b₀ :: suite) (ts a cls d)) :
    PS X (.Try body [.ExceptHandler (some (.Name x np)) (some n) (b₀ :: suite) pos'] [] [] pos) (fun D σ H => tb (wAs X.K c i ts Wout D) D σ H) := by
  refine ⟨fun pins s σ H D I h => ?_⟩
  have ok := I.ok
  have hfr : X.A.frames = some (X.env :: X.outer) := by rw [ok.frames, hs]
  have hloc : Loc X.env.scope n := .inl hln
  have notFr : ∀ {B h : Heap} {a : Addr} {o : Obj} {vs : Array Value}, h.FunFrames B (X.env :: X.outer) → h.get? a = some o → o.data = .fields vs → a ∉ frs (X.env :: X.outer) := fun {B h a o vs} ff e dd hm => by
    obtain ⟨_, o', e', hnf⟩ := ff.mem hm
    rw [e] at e'; cases e'
    exact hnf _ dd
  refine wpAny_Try_except ?_
  refine wpAny_mono ((hb (wAs X.K c i ts Wout D) (X.pn ++ pins) (fun e s₁ => wpAny (model X.prog X.w) X.A (noteFrame e X.env) (fun _ s₂ => wpAny (model X.prog X.w) X.A (setFlight e none) (fun _ s₃ =>
    wpAny (model X.prog X.w) X.A (handleBy e X.env [.ExceptHandler (some (.Name x np)) (some n) (b₀ :: suite) pos']) (SP X pins D) X.xe s₃) X.xe s₂) X.xe s₁) (fun u s' xx => ?_) PassesOwn.looking).run [] s σ H D (I.toTry _) h) (fun f s1 hsp => ?_) (fun e s1 he => he)
  · obtain ⟨a, B, sI, pins', σ', H', cls, d, rfl, J', nb, up, sky, na, os, ag, b, hb1, hyes, hno⟩ := xx
    have J : Inv X pins σ' H' sI := J'.ofTry ok
    have sky' : Sky B (X.env :: X.outer) a (L2N.Zn cls d) X.env.locals s'.heap := by rw [← hs]; exact sky
    show wpAny (model X.prog X.w) X.A (noteFrame (.ref a) X.env) _ _ _
    refine L2N.Sky.land L2N.Zn.steady hfr hf sky' fun h3 fl3 up3 => ?_
    have J3 : Inv X pins σ' H' { s' with heap := h3 } := J.landed nb fl3.1 (up.trans up3) os ag
    obtain ⟨oe3, vs3, he3, hz3, hd3⟩ := fl3.there
    have nfr : a ∉ frs (X.env :: X.outer) := notFr fl3.2.2.1 he3 hd3
    have nL : a ≠ X.env.locals := fun z => nfr (List.mem_filterMap.mpr ⟨X.env, List.mem_cons_self, by rw [hf, z]⟩)
    have nF : a ∉ X.fs := fun hm => by
      obtain ⟨e, he, q⟩ := List.mem_filterMap.mp hm
      exact nfr (List.mem_filterMap.mpr ⟨e, List.mem_cons_of_mem _ he, q⟩)
    have S3 := J3.suite he3 hd3 na nL nF
    refine wpAny_handleBy_cons (codeAny_handlers_test ?_) (by intro q; cases q)
    have LT : PySem.W.Looks (model X.prog X.w) h3 (typeOf (.ref a)) cls := fun A Q E s k q => wpAny_typeOf_ref (k _ _ he3) (by rw [hz3.1]; exact q)
    have LM := PySem.W.exm_one (M := model X.prog X.w) (J3.kIn) LT hb1
    have test : ∀ {Q : Value → Shared → Prop} {E : Value → Shared → Prop}, Q c { s' with heap := h3 } → wpAny (model X.prog X.w) (X.A.mark (some (.ref a))) (eval (.Name x np) X.env) Q E { s' with heap := h3 } := fun {Q E} q => by
      obtain ⟨hg, hdbg, hm | ⟨hm, hv, hnn⟩⟩ := hc
      · exact ld_glob (X := X.suite a ((a, oe3) :: (X.pn ++ pins))) S3 hg hm q hdbg
      · exact ld_blt (X := X.suite a ((a, oe3) :: (X.pn ++ pins))) S3 hg hm hv q hnn hdbg
    refine test (LM.here ?_)
    cases b with
    | true =>
      refine codeAny_handlers_suite_as ?_
      refine HandSPX.lands_againZ fl3 fun h4 fl4 up4 => ?_
      have J4 : Inv X pins σ' H' { s' with heap := h4 } := J.landed nb fl4.1 ((up.trans up3).trans up4) os ag
      obtain ⟨oe4, vs4, he4, hz4, hd4⟩ := fl4.there
      have S4 := J4.suite he4 hd4 na nL nF
      refine store_ok (X := X.suite a ((a, oe4) :: (X.pn ++ pins))) (v := .ref a) S4 hN hi hloc rfl (fun s5 S5 => ?_) (.inr hln)
      have hot : Hot1 (X.A.mark (some (.ref a))) (a, oe4) := ⟨rfl, vs4, hd4, hz4.2.2 vs4 hd4⟩
      refine wpAny_mono ((hsu a oe4 cls d (X.pn ++ pins) _ hz4 ⟨_, hd4⟩ (takes_leave (pos' := pos') hs hf hN hi hln ok tk (hpa _) _ fun _ _ z => z) hot).run [] s5 _ H' _ (S5.wish _) (hyes rfl a na)) (fun f s6 hsp => ?_) (fun _ _ z => z)
      have end_ : ∀ {σ6 : L2.St} {H6 : Hp} {Q : Shared → Prop} {xe : Value → Shared → Prop}, Inv (suiteXe X a ((a, oe4) :: (X.pn ++ pins)) xe) [] σ6 H6 s6 → (∀ s7, Inv X pins (σ6.set i none) H6 s7 → Q s7) →
          wpAny (model X.prog X.w) X.A (do bindName X.env n .none; unbindBehindTheSuite X.env n pos') (fun _ s7 => Q s7) X.xe s6 := fun {σ6 H6 Q xe} S6 hq => gone_ok (unsuiteX (X := X) (a := a) (q := (a, oe4)) (pn' := []) (show Inv (suiteX X a ((a, oe4) :: (X.pn ++ pins))) [] σ6 H6 s6 from S6.wish X.xe) ok) hN hi hln hq
      cases f with
      | next =>
        obtain ⟨σ6, H6, S6, q6⟩ := hsp
        exact end_ S6 fun s7 J7 => ⟨_, _, J7, q6⟩
      | brk =>
        obtain ⟨σ6, H6, S6, q6⟩ := hsp
        exact end_ S6 fun s7 J7 => ⟨_, _, J7, q6⟩
      | cont =>
        obtain ⟨σ6, H6, S6, q6⟩ := hsp
        exact end_ S6 fun s7 J7 => ⟨_, _, J7, q6⟩
      | ret u =>
        obtain ⟨v6, σ6, H6, S6, r6, q6⟩ := hsp
        exact end_ S6 fun s7 J7 => ⟨_, _, _, J7, r6, q6⟩
    | false =>
      show wpAny _ X.A (handleBy (.ref a) X.env []) _ _ _
      have fl3 := flyingZ_imp (fun o z => z.zc) fl3
      refine wpAny_handleBy_nil ?_
      obtain ⟨k1, k2, k3, oe, vs, T, oT, ts', he, hz, hd, h1, hr⟩ := id fl3
      unfold PySem.passOn
      refine wpAny_bind (wpAny_field he hd h1 ?_)
      rw [if_neg (show ¬ ((Value.ref T == Value.none) = true) from by simp)]
      have fin : wpAny (model X.prog X.w) X.A (setFlight (.ref a) X.env.frame) (fun _ s4 => wpAny (model X.prog X.w) X.A (throw (.ref a) : Sem Flow) (SP X pins D) X.xe s4) X.xe { s' with heap := h3 } := by
        rw [hf]
        refine HandSPX.setFlight_upZ fl3 fun h4 hh4 up4 => wpAny_throw (tk _ _ ?_)
        exact ⟨a, B, sI, pins, σ', H', cls, d, rfl, J, nb, (up.trans up3).trans up4, .inr (.inr (by rw [hs]; exact hh4)), na, os, ag, hno rfl⟩
      first
        | exact wpAny_bind (wpAny_pure (wpAny_bind fin))
        | exact wpAny_bind fin
  · cases f with
    | next =>
      obtain ⟨σ', H', J', q⟩ := hsp
      exact wpAny_execs_nil ⟨σ', H', J'.ofTry ok, q⟩
    | brk =>
      obtain ⟨σ', H', J', q⟩ := hsp
      exact ⟨σ', H', J'.ofTry ok, q⟩
    | cont =>
      obtain ⟨σ', H', J', q⟩ := hsp
      exact ⟨σ', H', J'.ofTry ok, q⟩
    | ret u =>
      obtain ⟨v, σ', H', J', r, q⟩ := hsp
      exact ⟨v, σ', H', J'.ofTry ok, r, q⟩
end
end LC

set_option Elab.async false
set_option linter.all false
set_option maxRecDepth 100000
set_option maxHeartbeats 5000000
/-! LD40: x = T[e] / except KeyError as n: raise C() from n. -/
namespace L2H
open PySem PySem.Spec PyProof.Rows L2 HotX
theorem pmk5_oexH0 {X : Cx} {CX : CXT} {x : Str} {p pos : Pos} {C fI : Addr} {k : Nat} {fd : FuncData} {ps : List Str} {sp : Sp} {ds : List Value} {dvs : List V} (T : OexC X.K C) (iC : PySem.W.findIn X.K (.ref C) "__init__" = some (some (.ref fI))) (tI : PySem.W.typeIn X.K (.ref fI) = some (.type "function"))
    (F1 : FnH X.prog X.w X.K X.mg X.base CX k fI fd ps sp) (hr : RoomH (k + 1) X.A) (hc : HotC X) (hb : Binds X.K fd ps ds) (hd : Vals dvs ds) (hx : Passes CX X (fun _ _ _ => False)) (hg : Gl X x) (hm : X.mg x = some (.ref C))
    (hdb : (x == ("__debug__" : Str)) = false := by decide) :
    PMk5 X (.Call (.Name x p) [] [] pos) (tMkO C sp dvs tNil) := by
  intro pins s σ H Q I h
  obtain ⟨hz, q1⟩ := h
  obtain ⟨nm, q, N, bs, bm, sn, sub, ab, col, dd, k0, k1, k2, k3, k5, hC, hbm⟩ := T.cls
  obtain ⟨pn, hot, hpn⟩ := hc
  apply wpAny_Call_Name_kw; refine ld_glob I hg hm ?_ hdb
  refine PySem.W.callWith_K0 I.kIn T.kC ?_
  show wpAny _ _ (call (.ref C) []) _ _ _
  obtain ⟨hp, g, dr, tk, os⟩ := s
  have hsz : hp.objs.size ≤ hp.objs.size + 1 := Nat.le_succ _
  have hn : H (hp.objs.size + 1) = none := I.hok.fresh hsz
  have hq := q1 (hp.objs.size + 1) hn
  have kk : ∀ b o, hp.get? b = some o → ((hp.push (PySem.W.kdv_tup [])).push (PySem.HandSPX.excO C hp.objs.size)).get? b = some o := fun b o e => Heap.get?_push_of_some _ (Heap.get?_push_of_some _ e)
  have hget : ((hp.push (PySem.W.kdv_tup [])).push (PySem.HandSPX.excO C hp.objs.size)).get? (hp.objs.size + 1) = some (PySem.HandSPX.excO C hp.objs.size) := by heap_get
  have I2 : Inv X pins σ (upd H (hp.objs.size + 1) (exo (hp.objs.size + 1) C none)) ⟨(hp.push (PySem.W.kdv_tup [])).push (PySem.HandSPX.excO C hp.objs.size), g, dr, tk, os⟩ :=
    I.laid (t' := tk) (a := hp.objs.size + 1) (o := exo (hp.objs.size + 1) C none) (h' := (hp.push (PySem.W.kdv_tup [])).push (PySem.HandSPX.excO C hp.objs.size)) kk hsz (exo_ok hget)
  have r2 : Vals (V.ref (hp.objs.size + 1) :: ([] ++ dvs)) (Value.ref (hp.objs.size + 1) :: ([] ++ ds)) := .cons rfl hd
  have hl : (Value.ref (hp.objs.size + 1) :: ([] : List Value) ++ ds).length = ps.length := by
    have e := r2.length
    rw [F1.len _ _ _ _ hq] at e
    exact e.symm
  have b2 := hb ⟨(hp.push (PySem.W.kdv_tup [])).push (PySem.HandSPX.excO C hp.objs.size), g, dr, tk, os⟩ [Value.ref (hp.objs.size + 1)] I2.kIn hl
  have P1 := I2.pin pn (List.mem_append_left _ hpn)
  have hpin : PinOk X.stack (upd H (hp.objs.size + 1) (exo (hp.objs.size + 1) C none)) ⟨(hp.push (PySem.W.kdv_tup [])).push (PySem.HandSPX.excO C hp.objs.size), g, dr, tk, os⟩ pn :=
    ⟨P1.1, P1.2.1, fun hmm => (List.mem_cons.mp (I2.stkSub pn.1 hmm)).elim P1.2.2.1 P1.2.2.2.1, P1.2.2.2.2⟩
  refine wpAny_call (PySem.HandSPX.call_own F.excBase_ValueError (fun Y => PySem.HandSPX.refsVE_contains Y bm hbm) (I.kIn _ _ hC) (PySem.W.looks_findIn I.kIn iC) (fun self => PySem.W.bind_fn I.kIn self tI) (by show 0 ≤ sizeLine; exact Nat.zero_le _)
    (codeAny_mono (F1.run _ X.stack _ _ ⟨Value.ref (hp.objs.size + 1) :: [], []⟩ (Value.ref (hp.objs.size + 1) :: ([] ++ ds)) _ _ (fun _ _ _ => False) pn (hr.make C [] []) ⟨hot.1, hot.2⟩ hpin (I2.env0.make C [] []) (by simpa using b2) r2 hq) fun r s' hq' => ?_))
  cases r with
  | error er => exact hx pins σ _ _ er s' I2 hq'
  | ok fl =>
    cases fl with
    | ret u =>
      obtain ⟨v, H2, os2, bare2, un2, hok2, rv, ev, d, fs, ea, ed, hd1, q2⟩ := hq'
      subst ev
      obtain ⟨h2, g2, d2, t2, os'⟩ := s'
      obtain ⟨t0, G, J, kG, ge, hoe, na⟩ := mk_end0 (d2 := d2) (t2 := t2) I hsz kk un2 hok2 os2 bare2 ea ed hd1
      refine ⟨rv, ⟨hp.objs.size + 1, _, _, ⟨G, g2, d2, t2, os'⟩, _, .ref C, some d, rfl, J, kG, ge, hoe, ⟨rfl, rfl, fun vs hv => ?_⟩, rfl, rfl, na, rfl, bare2, raises_own T.exC T.tyC, q2⟩, fun a oe vs ea2 hg2 hd2 => ?_⟩
      · cases hv
        rfl
      · cases ea2
        have hg3 : h2.get? (hp.objs.size + 1) = some oe := hg2
        rw [hoe] at hg3
        cases hg3
        cases hd2
        show (4 : Nat) < 6
        decide
    | next => exact False.elim hq'
    | brk => exact False.elim hq'
    | cont => exact False.elim hq'
end L2H
namespace LC
open PySem PySem.Spec
open PyProof.Rows L2
open L2H (FnH RoomH HotC suiteX Hot1)
/-- the value at the key; or raise C() -/
def qTryKeyAs (l : List (Str × D)) (i i2 : Nat) (qe : QE) (C : Addr) (flD : List D → List (Str × D)) (n : Nat) (dds : List D) (W' : WD) : QS := fun D s S => qe s S fun d S1 => match d with
  | .str x => match l.lookup x with
    | some v => D.nx (s.set i (some v)) S1
    | none => Br (Nat.beq dds.length n && Nat.blt i2 s.length) (W' C (flD dds) (s.set i2 none) S1) False
  | _ => False
section
variable {X : Cx} {B : Bs}
theorem ls_tryKeyAs {l : List (Str × D)} {T : Str} {dT C fI : Addr} {i i2 n k : Nat} {x y nm : Str} {fd : FuncData} {ps : List Str} {fl : List V → List (Str × V)} {flD : List D → List (Str × D)} {Wout : WX} {Wo : WD} {e : Expr} {qe : QE} {dds : List D} {dvs : List V} {dss : List Value} {p1 p2 p3 p4 p5 p6 p7 p8 p9 p10 p11 : Pos}
    (hT : DctK X.K X.w.params dT l) (gT : X.mg T = some (.ref dT)) (hfl : FlD X.K fl flD)
    (hs : X.stack = X.env :: X.outer) (hf : X.env.frame = some X.env.locals) (hcalm : X.calm = true) (hN : X.N.Nodup) (hi : X.N[i]? = some x) (hloc : Loc X.env.scope x) (hff : X.fn x = true ∨ X.env.scope.names.lookup x = some .local) (hi2 : X.N[i2]? = some nm) (hln : X.env.kindOf nm = some .local) (hvis : Vis X.env.scope nm) (hc : Names X "KeyError" (.type "KeyError")) (hex : PySem.W.exmOne X.K (.type "KeyError") (.type "KeyError") = some true) (hbe : PySem.W.subIn X.K (.type "KeyError") (.type "BaseException") = some true)
    (hpa : ∀ hd : Option Value, PassesOwnAt (model X.prog X.w) (X.A.mark hd) X.A X.env X.xe) (tk : Takes X Wout) (wl : WL X.K B Wo Wout)
    (xT : OexC X.K C) (iC : PySem.W.findIn X.K (.ref C) "__init__" = some (some (.ref fI))) (tI : PySem.W.typeIn X.K (.ref fI) = some (.type "function")) (F1 : FnH X.prog X.w X.K X.mg X.base (L2.CX X.prog X.w) k fI fd ps (spX C n fl)) (hr : Room (k + 1) X.A) (hb : Binds X.K fd ps dss) (hdv : Vals dvs dss) (hdd : RVc X.K dds dvs) (gC : X.mg y = some (.ref C)) (hgT : Gl X T) (hgy : Gl X y)
    (he : ∀ (W : WX) (pn : List (Addr × Obj)) (xe : Value → Shared → Prop), LE (X.tr pn xe) B e qe)
    (hdT : (T == ("__debug__" : Str)) = false) (hdy : (y == ("__debug__" : Str)) = false) (hdn : (nm == ("__debug__" : Str)) = false) (hcn : (nm == ("__classdict__" : Str)) = false) (hpl1 : PlainIx e)
    (hsw : ∀ (pn : List (Addr × Obj)) (xe : Value → Shared → Prop), swapsWith (.Subscript (.Name T p1) e p2) (some (.Name x p3)) p4.line (X.tr pn xe).env = pure false) :
    LS X B (.Try [.Assign [.Name x p3] (.Subscript (.Name T p1) e p2) p4] [.ExceptHandler (some (.Name "KeyError" p5)) (some nm) [.Raise (some (.Call (.Name y p6) [] [] p7)) (some (.Name nm p8)) p9] p10] [] [] p11) (qTryKeyAs l i i2 qe C flD n dds Wo) := by
  refine PS.imp (ps_try_asX (X := X) (Wout := Wout) (i := i2) (c := .type "KeyError")
    (tb := fun W D σ H => tIxDX X.K X.w W (tC (.ref dT)) (UP X.K B (rD X.K) qe) σ H fun v H' => D.nx (σ.set i (some v)) H')
    (ts := fun a cls _ => fun _ σ H => σ[i2]? = some (some (.ref a)) ∧ PySem.W.subIn X.K cls (.type "BaseException") = some true ∧ tMkO C (spX C n fl) dvs tNil σ H fun cls d H' => Wout cls d (σ.set i2 none) H') hs hf hN hi2 hln hc hpa tk ?_ ?_) ?_
  · intro W pn xe tkN _
    exact pss_one (ps_set (X := X.tr pn xe) hN hi hloc (L2H.pe_ixDXN (X := X.tr pn xe) hcalm tkN (pe_glob (X := X.tr pn xe) (v := .ref dT) hgT gT rfl hdT) (he W pn xe) hpl1) (hsw pn xe) hff)
  · intro a oe cls d pn xe hz hfo tkS hot
    have hot' : HotC (suiteXe X a ((a, oe) :: pn) xe) := ⟨(a, oe), hot, List.mem_cons_self⟩
    rw [← hz.1]
    exact pss_one (ps_raiseHE (X := suiteXe X a ((a, oe) :: pn) xe) hot List.mem_cons_self tkS (L2H.pmk5_oexH0 (X := suiteXe X a ((a, oe) :: pn) xe) (CX := L2.CX X.prog X.w) xT iC tI F1 (L2H.roomH_mark hr _) hot' hb hdv (fun _ _ _ _ _ _ _ ⟨_, _, _, _, _, _, _, _, _, _, _, _, h⟩ => h.elim) hgy gC hdy) hi2 hvis hdn hcn)
  · rintro D σ H ⟨φ, s, S, D', hrr, ev, q, ek⟩
    refine ⟨φ, s, S, _, hrr, ev, q, fun φ1 d S1 v H1 e1 hr1 r1 q1 => ?_⟩
    split at q1
    · rename_i z
      cases r1
      refine ⟨dT, z, rfl, rfl, ?_⟩
      have at_ := hT.at (w := X.w) z
      split at q1
      · rename_i dv hl
        rw [hl] at at_
        obtain ⟨v0, h1, h2⟩ := at_
        exact .inl ⟨v0, h1, ek.nx _ _ _ _ _ e1 hr1 ((ev.mono e1).set (h2 _ _)) q1⟩
      · rename_i hl
        rw [hl] at at_
        obtain ⟨hbb, q2⟩ := Br.get q1
        rw [Bool.and_eq_true] at hbb
        refine .inr ⟨at_, fun d => ⟨true, hex, fun _ a na => ⟨?_, hbe, ?_⟩, fun h => nomatch h⟩⟩
        · have hlt : i2 < σ.length := by
            rw [ev.len]
            exact Nat.blt_eq.mp hbb.2
          exact List.getElem?_set_self hlt
        · refine ⟨Nat.zero_le _, mk_at (dl := []) (vs := []) hfl hr1 (show RVs X.K _ _ [] [] from rfl) hdd (by simpa using Nat.eq_of_beq_eq_true hbb.1) fun φ' H' cls d e3 hr3 xr => wl _ _ _ _ _ _ _ _ _ hr3 ?_ (by rw [List.nil_append] at xr; exact xr) q2⟩
          rw [List.set_set]
          exact (ev.mono (e1.trans e3)).wipe
    · exact q1.elim
end
end LC

set_option Elab.async false
set_option linter.all false
set_option maxRecDepth 100000
set_option maxHeartbeats 5000000
/-! LD41: a def that is handed some of the caller's objects, and may change them, and make new ones. -/
namespace LC
open PySem PySem.Spec
open PyProof.Rows L2
section
variable {K : PySem.W.Frag} {φ1 φ2 : Ph} {H : Hp} {π : Nat → Nat} {n : Nat}
end
section
variable {K : PySem.W.Frag} {ks : List Nat} {S S0 S1 : List O} {ds ds0 : List D} {φ φ' : Ph} {H H' : Hp}
end
end LC

set_option Elab.async false
set_option linter.all false
set_option maxRecDepth 100000
set_option maxHeartbeats 5000000
/-! LD42: defs over the whole state, nothing dropped; a book and its lists. -/
namespace LC
open PySem PySem.Spec
open PyProof.Rows L2
section
variable {P : Program} {w : World} {K : PySem.W.Frag} {mg : Str → Option Value} {base : Heap}
end
section
variable {P : Program} {w : World} {K : PySem.W.Frag} {mg : Str → Option Value} {base : Heap}
end
/-! ### a new one: its __init__ over the whole state -/
section
variable {X : Cx} {B : Bs} {k : Nat} {f C : Addr} {fd : FuncData} {ps : List Str} {sp : SpD} {dds : List D} {dvs : List V} {ds : List Value} {W : WX} {W' : WD} {x m : Str} {p pos apos : Pos} {e o : Expr} {es : List Expr} {q : QA}
end
end LC

set_option Elab.async false
set_option linter.all false
set_option maxRecDepth 100000
set_option maxHeartbeats 5000000
/-! LD43: enumerate(xs, start=k), xs a list or a tuple. -/
namespace LC
open PySem PySem.Spec
open PyProof.Rows L2
section
variable {prog : Program} {w : World} {A : Around} {E : Value → Shared → Prop} {s : Shared}
end
/-! over data -/
end LC

set_option Elab.async false
set_option linter.all false
set_option maxRecDepth 100000
set_option maxHeartbeats 5000000
/-! LD44: methods with keywords; len, str, repr, ==, bool, isinstance of numbered instances. -/
namespace LC
open PySem PySem.Spec
open PyProof.Rows L2
section
variable {prog : Program} {w : World} {A : Around} {E : Value → Shared → Prop} {s : Shared} {K : PySem.W.Frag} {x C L f : Addr} {h₀ : Heap} {m : Str → Option Value} {ox : Obj} {od : Option Obj}
end
/-! ### readings -/
section
variable {X : Cx} {B : Bs} {k : Nat} {f C : Addr} {fd : FuncData} {ps : List Str} {sp : Sp} {spd : SpD}
/-! ### methods with keywords -/
variable {dds : List D} {dvs : List V} {W : WX} {W' : WD} {x m : Str} {p pos apos : Pos} {e o : Expr} {es : List Expr} {kws : List Keyword} {q qk : QA} {qo : QE} {ks : List Str} {n : Nat}
end
end LC

set_option Elab.async false
set_option linter.all false
set_option maxRecDepth 100000
set_option maxHeartbeats 5000000
/-! LD45: d[k]; books by their rows and deeds. -/
namespace LC
open PySem PySem.Spec
open PyProof.Rows L2
section
variable {X : Cx} {B : Bs} {o e : Expr} {qo qe : QE} {pos : Pos}
end
abbrev cts (C : Addr) (ns : List Int) : D := .ins C ["seen"] [.tup (ns.map D.int)]
end LC

set_option Elab.async false
set_option linter.all false
set_option maxRecDepth 100000
set_option maxHeartbeats 5000000
/-! LD46: the law's own keeping of a book. -/
namespace LC
open PySem PySem.Spec
open PyProof.Rows L2
def Dd.sh : Dd → Nat
  | .tell f => f.sh.length
  | .amend _ f => f.sh.length
  | _ => 0
theorem ixN_is {n : Int} {l : Nat} (h1 : 0 ≤ n) (h2 : n < l) : ixN l n = some n.toNat := by
  unfold ixN
  rw [if_pos h1, if_pos h2]
end LC

set_option Elab.async false
set_option linter.all false
set_option maxRecDepth 100000
set_option maxHeartbeats 5000000
/-! LD47: two books beside the drawing. -/
namespace LC
open PySem PySem.Spec
open PyProof.Rows L2
end LC

set_option Elab.async false
set_option linter.all false
set_option maxRecDepth 100000
set_option maxHeartbeats 5000000
/-! LD48: defs with lambdas; methods that hand back new lists; methods whose own new objects are by value in the end. -/
namespace LC
open PySem PySem.Spec
open PyProof.Rows L2
/-! ### a promise over the tables T0 -/
section
variable {P : Program} {w : World} {K : PySem.W.Frag} {mg : Str → Option Value} {base : Heap} {T0 : List (Addr × Str)}
end
section
variable {X : Cx} {B : Bs} {k : Nat} {f : Addr} {fd : FuncData} {x : Str} {ps : List Str} {sp : SpD} {W : WX} {W' : WD} {e : Expr} {es : List Expr} {p pos : Pos} {q : QA} {T0 : List (Addr × Str)}
end
/-! ### methods that hand back a new list -/
section
variable {P : Program} {w : World} {K : PySem.W.Frag} {mg : Str → Option Value} {base : Heap}
end
section
variable {X : Cx} {B : Bs}
end
end LC

set_option Elab.async false
set_option linter.all false
set_option maxRecDepth 100000
set_option maxHeartbeats 5000000
/-! LD49: one book beside the drawing. -/
namespace LC
open PySem PySem.Spec
open PyProof.Rows L2
end LC

set_option Elab.async false
set_option linter.all false
set_option maxRecDepth 100000
set_option maxHeartbeats 5000000
/-! LD50: the head by one kernel run: its facts as this layer wants them. -/
namespace LC
open PySem PySem.Spec
open PyProof.Rows L2
section
variable {K : PySem.W.Frag} {w : World} {x qual : Str} {st : Stmt} {f : Addr} {fd : FuncData}
theorem funD_fun (F : L2.FunD K x qual (defArgs st) (defBody st) (defScope st) [] [] f fd) : Fun K x qual st f fd := by
  obtain ⟨oc, od, dV, kV, doc, pm, an, cdv, ct, osl, e, lk, hc, hD, _⟩ := F.ex
  rcases hD with ⟨_, rfl⟩ | ⟨h, _⟩
  · exact ⟨⟨oc, od, kV, doc, pm, an, cdv, ct, osl, e, lk, hc⟩, F.kp⟩
  · exact absurd rfl h
theorem funD_code {p : He.Defn} (F : L2.FunD K x qual (defArgs st) (defBody st) (defScope st) [] [] (He.fAd K p) fd) : FunC K x qual st (He.fAd K p) fd (He.codeOf K p) := by
  obtain ⟨oc, od, dV, kV, doc, pm, an, cdv, ct, osl, e, lk, hc, hD, _⟩ := F.ex
  obtain ⟨c, rfl⟩ := He.codeIn_ref hc
  have ec : He.codeOf K p = c := He.codeOf_eq lk (by rw [e])
  rcases hD with ⟨_, rfl⟩ | ⟨h, _⟩
  · rw [ec]
    exact ⟨oc, od, kV, doc, pm, an, ct, osl, e, lk, hc⟩
  · exact absurd rfl h
/-- the object of an own exception class -/
def excOB (K : PySem.W.Frag) (C : Addr) : Bool := match K.lookup C with
  | some ⟨.type "type", _, .cls cd, sl⟩ => (match cd.mro, sl.toList with
    | .ref C' :: bm, [_, _, _, _, some (.builtin n), _] => C' == C && n == "ValueError.__new__" && !cd.hasDel && PySem.HandSPX.refsVE bm && cd.hasDict
    | _, _ => false)
  | _ => false
theorem excOB_ok {C : Addr} (q : excOB K C = true) : ∃ nm q N bs bm sn sub ab col dd k0 k1 k2 k3 k5, K.lookup C = some (excClassObj nm q C N bs bm true sn sub ab col dd k0 k1 k2 k3 k5 "ValueError.__new__") ∧ PySem.HandSPX.refsVE bm = true := by
  unfold excOB at q
  split at q
  · rename_i dd cd sl ho
    split at q
    · rename_i C' bm k0 k1 k2 k3 n k5 hm hs
      simp only [Bool.and_eq_true, beq_iff_eq, Bool.not_eq_true'] at q
      obtain ⟨⟨⟨⟨rfl, rfl⟩, hdel⟩, hr⟩, hd'⟩ := q
      obtain ⟨nm, bs, mro, ns, qn, hd, sn, sub, ab, col, del⟩ := cd
      dsimp only at hm hdel hd'
      subst hm hdel hd'
      have hsl : sl = #[k0, k1, k2, k3, some (.builtin "ValueError.__new__"), k5] := by
        obtain ⟨l⟩ := sl
        simp only at hs
        rw [hs]
      subst hsl
      exact ⟨nm, qn, ns, bs, bm, sn, sub, ab, col, dd, k0, k1, k2, k3, k5, ho, hr⟩
    · cases q
  · cases q
/-- all that an own exception class's OexC asks -/
def oexB (K : PySem.W.Frag) (C : Addr) : Bool := excOB K C && (decide (PySem.W.findIn K (.ref C) "__setattr__" = some (some (.builtin "object.__setattr__"))) && (decide (PySem.W.subIn K (.ref C) (.type "BaseException") = some true) && (decide (PySem.W.typeIn K (.ref C) = some (.type "type")) && PySem.W.keepIn K (.ref C))))
theorem oexB_ok {C : Addr} (h : oexB K C = true) : OexC K C := by
  obtain ⟨h1, h⟩ := He.ba h
  obtain ⟨h2, h⟩ := He.ba h
  obtain ⟨h3, h⟩ := He.ba h
  obtain ⟨h4, h5⟩ := He.ba h
  exact ⟨excOB_ok h1, of_decide_eq_true h2, of_decide_eq_true h3, of_decide_eq_true h4, h5⟩
def isoB (K : PySem.W.Frag) (C : Addr) : Bool := (PySem.W.plainGet K C Str.empty && (PySem.W.hasDictIn K C && (PySem.W.plainOver K C && decide (PySem.W.findIn K (.ref C) "__setattr__" = some (some (.builtin "object.__setattr__")))))) &&
  (decide (PySem.W.findIn K (.ref C) "__class__" = some (some (.builtin "object.__class__"))) && (decide (PySem.W.specialIn K (.builtin "object.__class__") "__get__" = some (some (.builtin "getset_descriptor.__get__"))) && (decide (PySem.W.takesIn K (.builtin "object.__class__") = some true) && (decide (PySem.W.mroIn K C (.type "object") = some true) && decide (PySem.W.typeIn K (.ref C) = some (.type "type"))))))
theorem isoB_ok {C : Addr} (h : isoB K C = true) : IsO K C := by
  obtain ⟨h0, h⟩ := He.ba h
  obtain ⟨a1, h0⟩ := He.ba h0
  obtain ⟨a2, h0⟩ := He.ba h0
  obtain ⟨a3, a4⟩ := He.ba h0
  obtain ⟨h1, h⟩ := He.ba h
  obtain ⟨h2, h⟩ := He.ba h
  obtain ⟨h3, h⟩ := He.ba h
  obtain ⟨h4, h5⟩ := He.ba h
  exact ⟨⟨⟨a1, a2, a3, of_decide_eq_true a4⟩, of_decide_eq_true h1, of_decide_eq_true h2, of_decide_eq_true h3, of_decide_eq_true h4⟩, of_decide_eq_true h5⟩
/-! ### what the top's names hold -/
def flatV : D → Option V
  | .non => some .non
  | .bl b => some (.bl b)
  | .int i => some (.int i)
  | .str x => some (.str x)
  | .adr a => some (.ref a)
  | _ => none
theorem flatV_ok {d : D} {v : V} (h : flatV d = some v) : ∀ φ H, RV K φ H d v := fun φ H => by
  cases d with
  | non => cases h; rfl
  | bl b => cases h; rfl
  | int i => cases h; rfl
  | str x => cases h; rfl
  | adr a => cases h; rfl
  | _ => cases h
def oneB (d : D) (u : Value) : Bool := match flatV d with
  | some v => He.relB v u
  | none => false
theorem oneB_ok {d : D} {u : Value} (h : oneB d u = true) : ∃ v, RelV v u ∧ ∀ φ H, RV K φ H d v := by
  unfold oneB at h
  cases e : flatV d with
  | none => rw [e] at h; cases h
  | some v => rw [e] at h; exact ⟨v, He.relB_ok h, flatV_ok e⟩
def allB : List D → List Value → Bool
  | [], [] => true
  | d :: ds, u :: us => oneB d u && allB ds us
  | _, _ => false
theorem allB_ok : ∀ {ds : List D} {us : List Value}, allB ds us = true → ∃ vs, Vals vs us ∧ RVc K ds vs
  | [], [], _ => ⟨[], .nil, fun _ _ => rfl⟩
  | [], _ :: _, h => by cases h
  | _ :: _, [], h => by cases h
  | d :: ds, u :: us, h => by
    obtain ⟨h1, h2⟩ := He.ba (show (oneB d u && allB ds us) = true from h)
    obtain ⟨v, r1, r2⟩ := oneB_ok (K := K) h1
    obtain ⟨vs, r3, r4⟩ := allB_ok h2
    exact ⟨v :: vs, .cons r1 r3, fun φ H => ⟨v, vs, rfl, r2 φ H, r4 φ H⟩⟩
def tupAB (K : PySem.W.Frag) (p : Addr) (ds : List D) : Bool := match K.lookup p with
  | some ⟨.type c, none, .seq its _, _⟩ => decide (c = "tuple") && (decide (its.size ≤ sizeLine) && allB ds its.toList)
  | _ => false
theorem tupAB_ok {p : Addr} {ds : List D} (h : tupAB K p ds = true) : ∃ its n sl vs, K.lookup p = some ⟨.type "tuple", none, .seq its n, sl⟩ ∧ its.size ≤ sizeLine ∧ Vals vs its.toList ∧ RVc K ds vs := by
  unfold tupAB at h
  split at h
  · rename_i c its n sl hk
    obtain ⟨h1, h2⟩ := He.ba h
    obtain ⟨h3, h4⟩ := He.ba h2
    obtain ⟨vs, r1, r2⟩ := allB_ok (K := K) h4
    rw [of_decide_eq_true h1] at hk
    exact ⟨its, n, sl, vs, hk, of_decide_eq_true h3, r1, r2⟩
  · cases h
def anyB (K : PySem.W.Frag) : D → Value → Bool
  | .kt ds, u => (match u with
    | .ref p => tupAB K p ds
    | _ => false)
  | d, u => oneB d u
theorem anyB_ok {d : D} {u : Value} (h : anyB K d u = true) : ∃ v, RelV v u ∧ ∀ φ H, RV K φ H d v := by
  unfold anyB at h
  split at h
  · split at h
    · obtain ⟨its, n, sl, vs, h1, h2, h3, h4⟩ := tupAB_ok h
      exact tupE h1 h2 h3 h4
    · cases h
  · exact oneB_ok h
def entB (K : PySem.W.Frag) : List DictEntry → List (Str × D) → Bool
  | [], [] => true
  | e :: es, q :: r => (match e.key with
    | .str y _ => decide (y = q.1)
    | _ => false) && (anyB K q.2 e.val && entB K es r)
  | _, _ => false
theorem entB_ok : ∀ {es : List DictEntry} {l : List (Str × D)}, entB K es l = true → EntL K es l
  | [], [], _ => rfl
  | [], _ :: _, h => by cases h
  | _ :: _, [], h => by cases h
  | e :: es, (x, d) :: r, h => by
    obtain ⟨h1, h2⟩ := He.ba (show ((match e.key with
      | .str y _ => decide (y = x)
      | _ => false) && (anyB K d e.val && entB K es r)) = true from h)
    obtain ⟨h3, h4⟩ := He.ba h2
    split at h1
    · rename_i y t hk
      have := of_decide_eq_true h1
      subst this
      exact ⟨y, d, t, r, rfl, hk, anyB_ok h3, entB_ok h4⟩
    · cases h1
def dctB (K : PySem.W.Frag) (a : Addr) (l : List (Str × D)) : Bool := match K.lookup a with
  | some ⟨_, _, .dict es _, _⟩ => entB K es.toList l
  | _ => false
theorem dctB_ok {a : Addr} {es : Array DictEntry} {n : Nat} {l : List (Str × D)} (k : KDict K w a es n) (h : dctB K a l = true) : DctK K w.params a l := by
  unfold dctB at h
  rw [k.at_] at h
  exact ⟨⟨es, n, k.at_, k.lit, entB_ok h⟩, k.low⟩
/-- a fact of the list -/
theorem fact_at {l : List (PySem.W.Frag → Bool)} (h : (l.all fun f => f K) = true) (i : Nat) {f : PySem.W.Frag → Bool} (e : l[i]? = some f) : f K = true := List.all_eq_true.mp h f (List.mem_of_getElem? e)
/-- a class's own attribute by findCls -/
def valC (K : PySem.W.Frag) (c mc : Value) (m : Str) (v : Value) : Bool := match PySem.W.findCls K c mc m with
  | some (.val u) => decide (u = v)
  | _ => false
theorem valC_ok {c mc v : Value} {m : Str} (h : valC K c mc m v = true) : PySem.W.findCls K c mc m = some (.val v) := by
  unfold valC at h
  split at h
  · rename_i u e
    rw [e, of_decide_eq_true h]
  · cases h
end
/-! ### the Hook: what is looked at are the objects as -/
section
variable (as : List Addr) (fn : List He.DefD) (ts : List He.Tab) (tf : List He.Defn) (ex : PySem.W.Frag → Bool)
def obsAt (K : PySem.W.Frag) (g : Addr → Option Obj) : He.AlX := (He.obsT [] fn ts K, ex K && He.tabsB g tf K)
def obsZ (g : Addr → Option Obj) : He.AlX := obsAt fn ts tf ex (He.frT g as) g
theorem saysZ_of {w : World} {h : Heap} (e : obsAt fn ts tf ex (He.frT h.get? as) h.get? = He.valX fn ts w) : He.SaysX [] fn ts tf ex w h (He.frT h.get? as) := by
  obtain ⟨e1, e2⟩ := Prod.mk.inj (show (He.obsT [] fn ts (He.frT h.get? as), ex (He.frT h.get? as) && He.tabsB h.get? tf (He.frT h.get? as)) = (He.valT fn ts w, true) from e)
  obtain ⟨h1, h2⟩ := He.ba e2
  have key : ∀ p ∈ tf, PySem.W.codeHdIn (He.frT h.get? as) (He.cT (He.frT h.get? as) p).1 (He.cT (He.frT h.get? as) p).2 = true ∧ ∃ o, h.get? (He.cT (He.frT h.get? as) p).2 = some o ∧ He.emptyTab o = true := fun p hp => by
    obtain ⟨h3, h4⟩ := He.ba (List.all_eq_true.mp h2 p hp)
    refine ⟨h3, ?_⟩
    split at h4
    · rename_i o q; exact ⟨o, q, h4⟩
    · cases h4
  refine ⟨e1, h1, fun p hp => (key p hp).1, fun p hp => ?_, fun p hp => ?_⟩
  · obtain ⟨_, o, q, z⟩ := key p hp
    exact He.frT_none q z
  · obtain ⟨_, o, q, z⟩ := key p hp
    rw [q, He.emptyTab_eq z]
def hookZ : PySem.W.Hook where
  α := He.AlX
  obs := fun s => obsZ as fn ts tf ex s.heap.get?
  val := fun w => He.valX fn ts w
  says := fun w h => ∃ K : PySem.W.Frag, K.In h ∧ He.SaysX [] fn ts tf ex w h K
  of := fun _ _ e => ⟨_, He.frT_in, saysZ_of as fn ts tf ex e⟩
  keeps := fun _ _ _ ⟨K, hK, c⟩ k => ⟨K, PySem.W.Frag.In.keeps hK k, ⟨c.t, c.more, c.hd, c.out, fun p hp => k _ _ (c.empty p hp)⟩⟩
theorem obsZ_eq {g : Addr → Option Obj} {s : Shared} (h : ∀ a, g a = s.heap.get? a) : obsZ as fn ts tf ex g = (hookZ as fn ts tf ex).obs s := by
  have e : g = s.heap.get? := funext h
  rw [e] <;> rfl
end
/-- the run's equation in two parts -/
def RunA (r : PySem.W.OpenRow) (q : Program) (M : Nat) (loose : List PySem.Str) (w : World) : Prop :=
  ∀ os : OsState, (HandSHeadRun.endF (HandSHeadRun.stepQ (HandSHeadRun.denQ HandSHeadRun.tabQ) r.prog w) M r.prog w os).map (fun s => (HandSHeadRun.looksF r.prog (PySem.W.boot_heap w.params) s.abs, HandSHeadRun.seenQ q loose (importedModules r.prog.main.body) (fun s => PySem.W.xlAt q [] s && PySem.W.recOk r.toRowW.records s) s.abs)) = some (true, PySem.W.openGood q loose)
def RunB (r : PySem.W.OpenRow) (H : PySem.W.Hook) (ob : PySem.W.SharedT → H.α) (M : Nat) (w : World) : Prop :=
  ∀ os : OsState, (HandSHeadRun.endF (HandSHeadRun.stepQ (HandSHeadRun.denQ HandSHeadRun.tabQ) r.prog w) M r.prog w os).map ob = some (H.val w)
theorem run_both {r : PySem.W.OpenRow} {q : Program} {H : PySem.W.Hook} {ob : PySem.W.SharedT → H.α} {M : Nat} {loose : List PySem.Str} {w : World} (a : RunA r q M loose w) (b : RunB r H ob M w) : HandSHeadRun.RunEq r q H ob M loose w := fun os => by
  obtain ⟨s, h1, h2⟩ := Option.map_eq_some_iff.mp (a os)
  obtain ⟨s', h3, h4⟩ := Option.map_eq_some_iff.mp (b os)
  rw [h1] at h3
  cases Option.some.inj h3
  rw [h1]
  obtain ⟨e1, e2⟩ := Prod.mk.inj h2
  show some (_, _, ob s) = _
  rw [h4, e1, e2]
/-- what is looked at, in two parts -/
theorem runB_of {r : PySem.W.OpenRow} {as : List Addr} {fn : List He.DefD} {ts : List He.Tab} {tf : List He.Defn} {ex : PySem.W.Frag → Bool} {M : Nat} {w : World}
    {g : PySem.W.SharedT → Addr → Option Obj}
    (a : ∀ os : OsState, (HandSHeadRun.endF (HandSHeadRun.stepQ (HandSHeadRun.denQ HandSHeadRun.tabQ) r.prog w) M r.prog w os).map (fun s => He.obsT [] fn ts (He.frT (g s) as)) = some (He.valT fn ts w))
    (b : ∀ os : OsState, (HandSHeadRun.endF (HandSHeadRun.stepQ (HandSHeadRun.denQ HandSHeadRun.tabQ) r.prog w) M r.prog w os).map (fun s => ex (He.frT (g s) as) && He.tabsB (g s) tf (He.frT (g s) as)) = some true) : RunB r (hookZ as fn ts tf ex) (fun s => obsZ as fn ts tf ex (g s)) M w := fun os => by
  obtain ⟨s, h1, h2⟩ := Option.map_eq_some_iff.mp (a os)
  obtain ⟨s', h3, h4⟩ := Option.map_eq_some_iff.mp (b os)
  rw [h1] at h3
  cases Option.some.inj h3
  rw [h1]
  show some (He.obsT [] fn ts (He.frT (g s) as), ex (He.frT (g s) as) && He.tabsB (g s) tf (He.frT (g s) as)) = some (He.valT fn ts w, true)
  rw [h2, h4]
/-- the end, over the tables cs: code, table, name; K told by the head -/
theorem walk_endE {l : PySem.W.OpenLaw} {k : Nat} {q : Program} {loose : List Str} {XP : (Str → Option Value) → Heap → Prop} {YP : World → Heap → Prop} {d : DefRec} {x : Str} (hn : l.most = some 63) (hdf : d.params.defaults = []) (hr : Room k callerA)
    (F : ∀ (w : World) (mg : Str → Option Value) (fa : Addr) (h : Heap), YP w h → h.Ns mainGlobals mg → mg d.name = some (.ref fa) → ∃ (K : PySem.W.Frag), K.In h ∧ ∃ (fd : FuncData) (cs : List (Addr × Addr × Str)), (∀ p ∈ cs, h.get? p.2.1 = some { cls := .none, data := .fields #[] }) ∧ (∀ p ∈ cs, K.lookup p.2.1 = none) ∧ (∀ p ∈ cs, PySem.W.CodeHd h p.1 p.2.1) ∧
      (∀ (s : Shared) (u : Value), BindsTo s fd ⟨[u], []⟩ [(x, u)]) ∧ ∀ base : Heap, K.In base → base.Ns mainGlobals mg → (∀ p ∈ cs, LamX.TabB base mg p.1 p.2.1) → FnOk l.prog w K mg base (L2.CX l.prog w) k fa fd [x] (upFT K (cs.map fun p => p.2) spLaw)) :
    PySem.W.WalkO q loose XP YP l.row.toRowW d []
      (fun f vs => PySem.call f vs) := by
  refine LamX.walk_ofTsE (n := 63) (k := k) (x := x) (CX := fun w => L2.CX l.prog w) hn (by decide) hdf hr (fun w mg fa h Y G hmg => ?_) fun w H s e s' ⟨_, _, _, _, _, _, _, _, _, _, _, _, h⟩ => h
  obtain ⟨K, X, fd, cs, h1, h2, h3, h4, h5⟩ := F w mg fa h Y G hmg
  have mem : ∀ {Pd : Addr × Addr → Prop}, (∀ p ∈ cs, Pd (p.1, p.2.1)) → ∀ p ∈ cs.map (fun p => (p.1, p.2.1)), Pd p := fun h p hp => by
    obtain ⟨r, hr', rfl⟩ := List.mem_map.mp hp
    exact h r hr'
  refine ⟨K, X, fd, cs.map fun p => (p.1, p.2.1), _, mem (Pd := fun p => h.get? p.2 = some { cls := .none, data := .fields #[] }) h1, mem (Pd := fun p => K.lookup p.2 = none) h2, mem (Pd := fun p => PySem.W.CodeHd h p.1 p.2) h3, h4, fun H a ns hl hb ht hs => law_at (T0 := cs.map fun p => p.2) hl hb (fun p hp => ?_) hs, fun base hb hn ht => h5 base hb hn fun p hp => ht (p.1, p.2.1) (List.mem_map.mpr ⟨p, hp, rfl⟩)⟩
  obtain ⟨r, hr', rfl⟩ := List.mem_map.mp hp
  exact LamX.TabS.nil (ht (r.1, r.2.1) (List.mem_map.mpr ⟨r, hr', rfl⟩))
end LC

set_option Elab.async false
set_option linter.all false
set_option maxRecDepth 100000
set_option maxHeartbeats 5000000
/-! LD51: books taken back and done again. -/
namespace LC
open PySem PySem.Spec
open PyProof.Rows L2
end LC

set_option Elab.async false
set_option linter.all false
set_option maxRecDepth 100000
set_option maxHeartbeats 5000000
/-! LD52: tables of lambdas apart. -/
namespace LC
open PySem PySem.Spec
open PyProof.Rows L2
end LC

set_option Elab.async false
set_option linter.all false
set_option maxRecDepth 100000
set_option maxHeartbeats 5000000
/-! LD53: the law's own line of deeds beside a book. -/
namespace LC
open PySem PySem.Spec
open PyProof.Rows L2
/-! ### what is known of all rows of such a book -/
/-! ### a book and the law's two lists -/
end LC

set_option Elab.async false
set_option linter.all false
set_option maxRecDepth 100000
set_option maxHeartbeats 5000000
/-! LD54: != by an own __eq__. -/
namespace LC
open PySem PySem.Spec
open PyProof.Rows L2
section
open PySem.W PySem.Builtin
variable {prog : Program} {w : World} {A : Around} {E : Value → Shared → Prop} {s : Shared} {K : PySem.W.Frag} {x C L f : Addr} {h₀ : Heap} {m : Str → Option Value} {ox : Obj} {od : Option Obj} {b tb : Value}
end
/-! ### readings -/
section
variable {X : Cx} {B : Bs} {k : Nat} {f C : Addr} {fd : FuncData} {ps : List Str} {spd : SpD} {sp : SpP}
end
end LC

set_option Elab.async false
set_option linter.all false
set_option maxRecDepth 100000
set_option maxHeartbeats 5000000
/-! LD55: a text cut at its last sign; pages as lines; code that is never come to. -/
namespace LC
open PySem PySem.Spec
open PyProof.Rows L2
section
variable {X : Cx} {B : Bs}
end
end LC

set_option Elab.async false
set_option linter.all false
set_option maxRecDepth 100000
set_option maxHeartbeats 5000000
/-! LD56: a page is read by its lines. -/
namespace LC
open PySem PySem.Spec
open PyProof.Rows L2
open TL
/-! ### deeds that are let, one behind another -/
end LC

set_option Elab.async false
set_option linter.all false
set_option maxRecDepth 100000
set_option maxHeartbeats 5000000
/-! LD57: enumerate(a list). -/
namespace LC
open PySem PySem.Spec
open PyProof.Rows L2
end LC

set_option Elab.async false
set_option linter.all false
set_option maxRecDepth 100000
set_option maxHeartbeats 5000000
/-! LD58: drawn findings are fine. -/
namespace LC
open PySem PySem.Spec
open PyProof.Rows L2
end LC

set_option Elab.async false
set_option linter.all false
set_option maxRecDepth 100000
set_option maxHeartbeats 5000000
/-! LD59: xs[:0:-1]. -/
namespace LC
open PySem PySem.Spec
open PyProof.Rows L2
section
variable {X : Cx} {B : Bs}
end
end LC

set_option Elab.async false
set_option linter.all false
set_option maxRecDepth 100000
set_option maxHeartbeats 5000000
/-! LD60: a book's states, one behind another. -/
namespace LC
open PySem PySem.Spec
open PyProof.Rows L2
end LC

set_option Elab.async false
set_option linter.all false
set_option maxRecDepth 100000
set_option maxHeartbeats 5000000
/-! LD61: a need that is closed by itself. -/
namespace LC
open PySem PySem.Spec
open PyProof.Rows L2
theorem nd {c : Prop} (hc : c := by first | trivial | rfl | assumption | (exact Nat.le_trans (by assumption) le10) | (exact Nat.lt_of_le_of_lt (by assumption) lt10) | (show (0 : Int) < _; first | decide | omega) | (show (0 : Int) ≤ _; first | decide | omega) | (exact .inl ⟨by omega, by omega⟩) | (exact .inr ⟨by decide, by decide⟩) | (refine ⟨?_, ?_⟩ <;> first | rfl | decide | omega) | (refine ⟨?_, ?_, ?_⟩ <;> first | rfl | decide | omega) | (exact ltN (Nat.le_of_ble_eq_true rfl)) | (exact leN (Nat.le_of_ble_eq_true rfl))) : c := hc
end LC

set_option Elab.async false
set_option linter.all false
set_option maxRecDepth 100000
set_option maxHeartbeats 5000000
/-! LD62: a comprehension whose items change what is there; its list is numbered. -/
namespace LC
open PySem PySem.Spec
open PyProof.Rows L2
section
variable {X : Cx} {B : Bs}
end
section
variable {X : Cx} {B : Bs} {elt tg iter : Expr} {ifs : List Expr} {scope : Scope} {own : List (Str × Nat)} {pos : Pos} {qi : QI} {t : Tgt} {qt : QT} {qe : QE}
end
end LC

set_option Elab.async false
set_option linter.all false
set_option maxRecDepth 100000
set_option maxHeartbeats 5000000
/-! LD63: a list != [] . -/
namespace LC
open PySem PySem.Spec
open PyProof.Rows L2
section
variable {X : Cx} {B : Bs}
end
end LC

set_option Elab.async false
set_option linter.all false
set_option maxRecDepth 100000
set_option maxHeartbeats 5000000
/-! LD64: several books, each with the law's two lists beside it. -/
namespace LC
open PySem PySem.Spec
open PyProof.Rows L2
section
variable {C : Addr} {S S' T : List O} {lo n : Nat} {X : Nat → Pl} {m : Nat → Nat} {b : Nat → Bm} {w : Nat → Nat}
end
section
variable {N1 N2 N3 N4 n0 : Nat}
end
end LC

set_option Elab.async false
set_option linter.all false
set_option maxRecDepth 100000
set_option maxHeartbeats 5000000
/-! LD65: try with several clauses `except C as n`, all of the same name. -/
namespace LC
open PySem PySem.Spec
open PyProof.Rows L2
section
variable {X : Cx} {n : Str} {i : Nat} {body : List Stmt} {h₀ : ExceptHandler} {hds : List ExceptHandler} {l : List (Value × (Addr → Value → Option Addr → TS))} {pos : Pos} {tb : WX → TS} {Wout : WX}
end
section
variable {X : Cx} {B : Bs} {x1 x2 : Str} {pos : Pos}
end
section
variable {dds : List D} {dvs : List V} {W : WX} {W' : WD} {x m : Str} {p pos apos : Pos} {e o : Expr} {es : List Expr} {kws : List Keyword} {q qk : QA} {qo : QE} {ks : List Str} {n : Nat}
end
end LC

set_option Elab.async false
set_option linter.all false
set_option maxRecDepth 100000
set_option maxHeartbeats 5000000
/-! LD66: rows of shades laid one on the other. -/
namespace LC
open PySem PySem.Spec
open PyProof.Rows L2
end LC

set_option Elab.async false
set_option linter.all false
set_option maxRecDepth 100000
set_option maxHeartbeats 5000000
/-! LD67: f"{x}" of an instance with an own __str__. -/
namespace LC
open PySem PySem.Spec
open PyProof.Rows L2
def FmC (K : PySem.W.Frag) (C : Addr) : Prop := PySem.W.findIn K (.ref C) "__format__" = some (some (.builtin "object.__format__")) ∧ PySem.W.mroIn K C (.type "object") = some true
section
variable {X : Cx} {B : Bs} {k : Nat} {f C : Addr} {fd : FuncData} {ps : List Str} {sp : Sp}
end
section
variable {X : Cx} {B : Bs} {k : Nat} {f C : Addr} {fd : FuncData} {ps : List Str} {sp : SpP}
end
end LC

set_option Elab.async false
set_option linter.all false
set_option maxRecDepth 100000
set_option maxHeartbeats 5000000
/-! LD68: tuple(list) that is known to have no dict, t.count(x) of such a tuple. -/
namespace LC
open PySem PySem.Spec
open PyProof.Rows L2
section
variable {X : Cx} {B : Bs}
variable {o e : Expr} {to : TE} {t : TA} {apos cpos : Pos}
end
end LC

set_option Elab.async false
set_option linter.all false
set_option maxRecDepth 100000
set_option maxHeartbeats 5000000
/-! LD69: sorted of tuples of ints, min / max of a list of ints, dict of a list of pairs. -/
namespace LC
open PySem PySem.Spec
open PyProof.Rows L2
section
variable {X : Cx} {B : Bs}
end
end LC

set_option Elab.async false
set_option linter.all false
set_option maxRecDepth 100000
set_option maxHeartbeats 5000000
/-! LD70: drawn houses: a row of paintings, and who is put up when. -/
namespace LC
open PySem PySem.Spec
open PyProof.Rows L2
theorem units65 {k : Nat} {A : Around} (r : Room k A) : A.units + 65 < cLine := by have := r.un; omega
end LC

set_option Elab.async false
set_option linter.all false
set_option maxRecDepth 100000
set_option maxHeartbeats 5000000
/-! LD71: t + u of tuples, the first one empty too; stands. -/
namespace LC
open PySem PySem.Spec
open PyProof.Rows L2
section
variable {X : Cx} {B : Bs}
end
end LC

set_option Elab.async false
set_option linter.all false
set_option maxRecDepth 100000
set_option maxHeartbeats 5000000
/-! LD72: dicts by tuples of plain keys. -/
namespace LC
open PySem PySem.Spec
open PyProof.Rows L2
section
variable {X : Cx} {B : Bs} {φ : Ph} {H : Hp} {S : List O}
end
section
variable {X : Cx} {B : Bs} {o e f : Expr} {qo qe qf : QE} {pos apos cpos : Pos}
end
end LC

set_option Elab.async false
set_option linter.all false
set_option maxRecDepth 100000
set_option maxHeartbeats 5000000
/-! LD73: sorted(set(l)) of a list of ints. -/
namespace LC
open PySem PySem.Spec
open PyProof.Rows L2
section
variable {P : Program} {w : World} {A : Around} {E : Value → Shared → Prop} {s : Shared}
end
section
variable {X : Cx} {B : Bs} {e f : Expr} {qe qf : QE} {pos p1 p2 pos2 kpos : Pos}
end
end LC

set_option Elab.async false
set_option linter.all false
set_option maxRecDepth 100000
set_option maxHeartbeats 5000000
/-! LD74: max of a list of ints. -/
namespace LC
open PySem PySem.Spec
open PyProof.Rows L2
section
variable {X : Cx} {B : Bs}
end
end LC

set_option Elab.async false
set_option linter.all false
set_option maxRecDepth 100000
set_option maxHeartbeats 5000000
/-! LD75: more of dicts by tuples: d.setdefault(t, x), list(d), t in d, d.get(t). -/
namespace LC
open PySem PySem.Spec
open PyProof.Rows L2
section
variable {X : Cx} {pins : List (Addr × Obj)} {σ : L2.St} {H : Hp} {s : Shared} {a b : Addr} {r : Value} {d : V} {k : List Key} {A : Around} {E : Value → Shared → Prop}
end
section
variable {X : Cx} {o e f : Expr} {td ty tx : TE} {apos cpos : Pos}
end
section
variable {X : Cx} {B : Bs} {o e f : Expr} {qo qe qf : QE} {pos apos cpos : Pos}
end
end LC

set_option Elab.async false
set_option linter.all false
set_option maxRecDepth 100000
set_option maxHeartbeats 5000000
/-! LD76: sorted(d), d a dict by tuples of ints. -/
namespace LC
open PySem PySem.Spec PySem.Calls
open PyProof.Rows L2
section
variable {X : Cx} {B : Bs}
end
end LC

set_option Elab.async false
set_option linter.all false
set_option maxRecDepth 100000
set_option maxHeartbeats 5000000
/-! LD77: [e for k in d], d a dict by value, that may be read within. -/
namespace LC
open PySem PySem.Spec
open PyProof.Rows L2
section
variable {a : Addr} {u : HO} {H Hn : Hp}
end
section
variable {K : PySem.W.Frag} {φ : Ph} {a : Addr} {u : HO} {H Hn : Hp}
end
section
variable {X : Cx} {B : Bs}
variable {elt tg iter : Expr} {ifs : List Expr} {scope : Scope} {pos : Pos} {t : Tgt} {qt : QT} {qe : QE} {g : Sl → List O → Option D}
end
end LC

set_option Elab.async false
set_option linter.all false
set_option maxRecDepth 100000
set_option maxHeartbeats 5000000
/-! LD78: sum(l, start=[]) of a list of lists; len(set(l)) of ints. -/
namespace LC
open PySem PySem.Spec
open PyProof.Rows L2
section
variable {prog : Program} {w : World} {A : Around} {R : Result → Shared → Prop}
variable {E : Value → Shared → Prop} {s : Shared}
end
section
variable {X : Cx} {B : Bs} {e f : Expr} {qe qf : QE} {pos p1 kpos : Pos}
end
end LC

set_option Elab.async false
set_option linter.all false
set_option maxRecDepth 100000
set_option maxHeartbeats 5000000
/-! LD79: C(x, f=y): an instance by value, made with keywords. -/
namespace LC
open PySem PySem.Spec
open PyProof.Rows L2
section
variable {X : Cx} {B : Bs} {k n : Nat} {f C : Addr} {fd : FuncData} {ps ks : List Str} {sq : Sp} {spi : SpI} {dds : List D} {dvs : List V} {W : WX} {W' : WD} {x : Str} {p pos : Pos} {e : Expr} {es : List Expr} {kws : List Keyword} {q qk : QA}
end
end LC

set_option Elab.async false
set_option linter.all false
set_option maxRecDepth 100000
set_option maxHeartbeats 5000000
/-! LD80: coats, groups, nodes: plain. -/
namespace LC
open PySem PySem.Spec
open PyProof.Rows L2
/-! ### lists of pairs as dicts -/
section
variable {κ α : Type} [DecidableEq κ]
variable {kf : κ → List Key} {vf : α → D}
end
/-! ### coats -/
/-! ### groups -/
end LC

set_option Elab.async false
set_option linter.all false
set_option maxRecDepth 100000
set_option maxHeartbeats 5000000
/-! LD81: d.get(t), t in d, an __init__ with defaults. -/
namespace LC
open PySem PySem.Spec
open PyProof.Rows L2
section
variable {X : Cx} {B : Bs} {o e f : Expr} {qo qe qf : QE} {pos apos cpos : Pos}
end
section
variable {P : Program} {w : World} {K : PySem.W.Frag} {mg : Str → Option Value} {base : Heap}
end
end LC

set_option Elab.async false
set_option linter.all false
set_option maxRecDepth 100000
set_option maxHeartbeats 5000000
/-! LD82: a, b = l, l a list. -/
namespace LC
open PySem PySem.Spec
open PyProof.Rows L2
section
variable {X : Cx} {B : Bs}
end
end LC

set_option Elab.async false
set_option linter.all false
set_option maxRecDepth 100000
set_option maxHeartbeats 5000000
/-! LD83: the web of coats: plain. -/
namespace LC
open PySem PySem.Spec
open PyProof.Rows L2
end LC

set_option Elab.async false
set_option linter.all false
set_option maxRecDepth 100000
set_option maxHeartbeats 5000000
/-! LD84: the web's walk: small things. -/
namespace LC
open PySem PySem.Spec
open PyProof.Rows L2
/-! ### nodes -/
end LC

set_option Elab.async false
set_option linter.all false
set_option maxRecDepth 100000
set_option maxHeartbeats 5000000
/-! LD85: the web's edges as objects; years. -/
namespace LC
open PySem PySem.Spec
open PyProof.Rows L2
/-! ### years -/
end LC

set_option Elab.async false
set_option linter.all false
set_option maxRecDepth 100000
set_option maxHeartbeats 5000000
/-! LD86: {} by value. -/
namespace LC
open PySem PySem.Spec
open PyProof.Rows L2
section
variable {X : Cx} {B : Bs} {pos : Pos}
end
end LC

set_option Elab.async false
set_option linter.all false
set_option maxRecDepth 100000
set_option maxHeartbeats 5000000
/-! LD87: the web, plain: what is read, years, edges. -/
namespace LC
open PySem PySem.Spec
open PyProof.Rows L2
/-! ### years -/
/-! ### edges -/
/-! ### the fields -/
end LC

set_option Elab.async false
set_option linter.all false
set_option maxRecDepth 100000
set_option maxHeartbeats 5000000
/-! LD88: findings by their words; the groups' least coats in order. -/
namespace LC
open PySem PySem.Spec
open PyProof.Rows L2
end LC

set_option Elab.async false
set_option linter.all false
set_option maxRecDepth 100000
set_option maxHeartbeats 5000000
/-! LD89: whether some story shows all: what is looked at. -/
namespace LC
open PySem PySem.Spec
open PyProof.Rows L2
end LC

set_option Elab.async false
set_option linter.all false
set_option maxRecDepth 100000
set_option maxHeartbeats 5000000
/-! LD90: the web whole: its fields. -/
namespace LC
open PySem PySem.Spec
open PyProof.Rows L2
/-! ### by value -/
/-! ### what is told of it -/
end LC

set_option Elab.async false
set_option linter.all false
set_option maxRecDepth 100000
set_option maxHeartbeats 5000000
/-! LD91: stands, plain: what can be painted next. -/
namespace LC
open PySem PySem.Spec
open PyProof.Rows L2
end LC

set_option Elab.async false
set_option linter.all false
set_option maxRecDepth 100000
set_option maxHeartbeats 5000000
/-! LD92: {t: x}, min(l, default=d). -/
namespace L2
open PySem PySem.Spec PyProof.Rows
section
variable {X : Cx} {pins : List (Addr × Obj)} {σ : St} {H : Hp} {s : Shared} {a b : Addr} {kvs : List (List Key × V)} {k : List Key} {v : V} {r : Value} {A : Around} {E : Value → Shared → Prop}
end
end L2
namespace LC
open PySem PySem.Spec
open PyProof.Rows L2
section
variable {X : Cx} {B : Bs} {e f : Expr} {qe qf : QE} {pos p1 kpos : Pos}
end
end LC

set_option Elab.async false
set_option linter.all false
set_option maxRecDepth 100000
set_option maxHeartbeats 5000000
/-! LD93: stands in order; the fewest paintings still to come. -/
namespace LC
open PySem PySem.Spec
open PyProof.Rows L2
/-! ### stands in order -/
/-! ### the fewest paintings still to come -/
end LC

set_option Elab.async false
set_option linter.all false
set_option maxRecDepth 100000
set_option maxHeartbeats 5000000
/-! LD94: xs[i] |= b. -/
namespace L2
open PySem PySem.Spec PyProof.Rows
end L2
namespace LC
open PySem PySem.Spec
open PyProof.Rows L2
section
variable {X : Cx} {B : Bs} {o i e : Expr} {qo qi qe : QE} {pos tpos : Pos}
end
end LC

set_option Elab.async false
set_option linter.all false
set_option maxRecDepth 100000
set_option maxHeartbeats 5000000
/-! LD95: what may be of two coats, plain. -/
namespace LC
open PySem PySem.Spec
open PyProof.Rows L2
/-! ### the moves of stories of the fewest paintings -/
end LC

set_option Elab.async false
set_option linter.all false
set_option maxRecDepth 100000
set_option maxHeartbeats 5000000
/-! LD96: the story's steps, plain. -/
namespace LC
open PySem PySem.Spec
open PyProof.Rows L2
end LC

set_option Elab.async false
set_option linter.all false
set_option maxRecDepth 100000
set_option maxHeartbeats 5000000
/-! LD97: any text read as a number, as signs, as a finding, as a deed; or none. -/
namespace LC
open PySem PySem.Spec
open PyProof.Rows L2
open TL (tl numL)
theorem numL_zero : numL 0 = [48] := TL.numL_lt (by decide)
theorem numL_of : ∀ (k : Nat) (l : List Nat), l.length = k + 1 → (∀ c ∈ l, 48 ≤ c ∧ c ≤ 57) → (k = 0 ∨ l.head? ≠ some 48) → ∃ n, numL n = l ∧ n < 10 ^ (k + 1)
  | 0, l, hl, hd, _ => by
    match l, hl with
    | [c], _ =>
      have := hd c (by simp)
      exact ⟨c - 48, by rw [TL.numL_lt (by omega)]; congr 1; omega, by omega⟩
  | k + 1, l, hl, hd, hh => by
    have hne : l ≠ [] := fun z => by rw [z] at hl; cases hl
    obtain ⟨r, c, rfl⟩ : ∃ r c, l = r ++ [c] := ⟨l.dropLast, l.getLast hne, (List.dropLast_concat_getLast hne).symm⟩
    have hr : r.length = k + 1 := by rw [List.length_append] at hl; simpa using hl
    have hc := hd c (by simp)
    have h0 : r.head? ≠ some 48 := by
      rcases hh with z | z
      · cases z
      · cases r with
        | nil => cases hr
        | cons x r => exact z
    obtain ⟨n, h1, h2⟩ := numL_of k r hr (fun x hx => hd x (List.mem_append_left _ hx)) (.inr h0)
    have hn : n ≠ 0 := fun z => by
      rw [z, numL_zero] at h1
      rw [← h1] at h0
      exact h0 rfl
    refine ⟨n * 10 + (c - 48), ?_, by rw [Nat.pow_succ]; omega⟩
    rw [TL.numL_step (by omega), show (n * 10 + (c - 48)) / 10 = n by omega, show (n * 10 + (c - 48)) % 10 = c - 48 by omega, h1]
    congr 2
    omega
/-- a word that writes a number -/
def isNum (w : Str) : Prop := ∃ n, num4 n ∧ w = numW n
def figW (w : Str) : Prop := 1 ≤ w.length ∧ w.length ≤ 4 ∧ (∀ c ∈ tl w, 48 ≤ c ∧ c ≤ 57) ∧ (w.length ≤ 1 ∨ (tl w).head? ≠ some 48)
theorem figW_num {w : Str} (h : figW w) : isNum w := by
  obtain ⟨h1, h2, h3, h4⟩ := h
  rw [TL.len_tl] at h1 h2 h4
  obtain ⟨n, e, hn⟩ := numL_of ((tl w).length - 1) (tl w) (by omega) h3 (h4.imp (fun z => by omega) id)
  have hb : n < 10000 := Nat.lt_of_lt_of_le hn (by
    have : (tl w).length - 1 + 1 ≤ 4 := by omega
    exact Nat.le_trans (Nat.pow_le_pow_right (by decide) this) (by decide))
  exact ⟨(n : Int), ⟨by omega, by omega⟩, TL.ext_tl (by rw [numW_tl (by omega)]; exact e.symm)⟩
theorem num_figW {w : Str} (h : isNum w) : figW w := by
  obtain ⟨n, hn, rfl⟩ := h
  refine ⟨(numW_len hn).1, (numW_len hn).2, ?_, ?_⟩
  · rw [numW_tl hn.1]
    intro c hc
    have := TL.numL_digits n.toNat c hc
    omega
  · by_cases h0 : n = 0
    · left
      rw [TL.len_tl, numW_tl hn.1, h0]
      rw [show (0 : Int).toNat = 0 from rfl, numL_zero]
      exact Nat.le_refl _
    · right
      obtain ⟨c, r, e, hc⟩ := numL_head n.toNat (by have := hn.1; omega)
      rw [numW_tl hn.1, e]
      intro z
      exact hc (Option.some.inj z)
theorem starts1 {x : Str} {r : List Nat} (h : tl x = 48 :: r) : Txt.startswith x "0" = true := by
  have e : x = ⟨(48 :: r).toArray⟩ := TL.ext_tl h
  subst e
  unfold Txt.startswith Builtin.Str.subAt
  rw [zero_cps]
  have e2 : ("0" : Str).length = 1 := by decide +kernel
  rw [e2]
  simp [Str.length]
theorem not_starts {x : Str} (h : Txt.startswith x "0" = false) : (tl x).head? ≠ some 48 := fun z => by
  cases hx : tl x with
  | nil => rw [hx] at z; cases z
  | cons c r =>
    rw [hx] at z
    cases z
    rw [starts1 hx] at h
    cases h
/-- the program's look at a word -/
theorem figs_all (w : Str) : (w.cps.toList.map fun c => decide (c ∈ ("0123456789" : Str).cps.toList)).all id = decide (∀ c ∈ tl w, 48 ≤ c ∧ c ≤ 57) := by
  rw [List.all_map, Bool.eq_iff_iff, List.all_eq_true, decide_eq_true_iff]
  constructor
  · intro h c hc
    have := h c hc
    exact (fig_iff c).mp (of_decide_eq_true this)
  · intro h c hc
    exact decide_eq_true ((fig_iff c).mpr (h c hc))

/-! ### signs -/
theorem strOf_good {ns : List Int} (h : goodN ns) : goodS (strOf ns) := fun c hc => by
  obtain ⟨z, hz, e⟩ := List.mem_map.mp (show c ∈ ns.map sgn from hc)
  rw [← e]
  exact sgn_mem (h z hz)
theorem ixs_strOf {ns : List Int} (h : goodN ns) : ixs (strOf ns) = ns := by
  show (ns.map sgn).map ixS = ns
  rw [List.map_map]
  conv => rhs; rw [← List.map_id ns]
  exact List.map_congr_left fun z hz => ixS_sgn (h z hz)
theorem strOf_len (ns : List Int) : (strOf ns).length = ns.length := by
  show (ns.map sgn).toArray.size = _
  simp
theorem strOf_ne {ns : List Int} (h : 1 ≤ ns.length) : strOf ns ≠ "" := fun z => by
  have := strOf_len ns
  rw [z] at this
  have e : ("" : Str).length = 0 := by decide +kernel
  omega
theorem len_pos {x : Str} (h : x ≠ "") : 1 ≤ x.length := by
  rcases Nat.eq_zero_or_pos x.length with z | z
  · have hx0 : tl x = [] := List.eq_nil_of_length_eq_zero (by rw [← TL.len_tl]; exact z)
    exact absurd (TL.ext_tl (by rw [hx0]; decide +kernel)) h
  · exact z
/-- a word that writes shades, one at least -/
def isSgs (w : Str) : Prop := ∃ ns, goodN ns ∧ 1 ≤ ns.length ∧ w = strOf ns
theorem isSgs_iff {w : Str} : isSgs w ↔ goodS w ∧ w ≠ "" := by
  constructor
  · rintro ⟨ns, h1, h2, rfl⟩
    exact ⟨strOf_good h1, strOf_ne h2⟩
  · rintro ⟨h1, h2⟩
    exact ⟨ixs w, ixs_good h1, by rw [ixs_len]; exact len_pos h2, (strOf_ixs h1).symm⟩
theorem strOf_inj {a b : List Int} (ha : goodN a) (hb : goodN b) (h : strOf a = strOf b) : a = b := by
  rw [← ixs_strOf ha, h, ixs_strOf hb]
theorem numW_inj {a b : Int} (ha : num4 a) (hb : num4 b) (h : numW a = numW b) : a = b := by
  have := numW_int ha
  rw [h, numW_int hb] at this
  exact (Option.some.inj this).symm
def isSg (w : Str) : Prop := ∃ n : Int, 0 ≤ n ∧ n ≤ 6 ∧ w = strOf [n]
theorem isSg_iff {w : Str} : isSg w ↔ isSgs w ∧ w.length = 1 := by
  constructor
  · rintro ⟨n, h0, h1, rfl⟩
    exact ⟨⟨[n], fun z hz => by rw [List.mem_singleton.mp hz]; omega, by simp, rfl⟩, by rw [strOf_len]; rfl⟩
  · rintro ⟨⟨ns, hg, _, rfl⟩, hl⟩
    rw [strOf_len] at hl
    match ns, hl with
    | [n], _ => exact ⟨n, (hg n (by simp)).1, (hg n (by simp)).2, rfl⟩

/-! ### things -/
def Th.fine : Th → Prop
  | .num n => num4 n
  | .sgs ns => goodN ns ∧ 1 ≤ ns.length
  | .sg n => 0 ≤ n ∧ n ≤ 6
def fineF (f : Fc) : Prop := ∀ t ∈ f.th, t.fine
theorem Th.inj {t u : Th} (ht : t.fine) (hu : u.fine) (hk : t.k = u.k) (hw : t.w = u.w) : t = u := by
  have n1 : ("number" : Str) ≠ "signs" := by decide +kernel
  have n2 : ("number" : Str) ≠ "sign" := by decide +kernel
  have n3 : ("signs" : Str) ≠ "sign" := by decide +kernel
  cases t with
  | num n => cases u with
    | num m => rw [numW_inj ht hu hw]
    | sgs _ => exact absurd hk n1
    | sg _ => exact absurd hk n2
  | sgs ns => cases u with
    | num m => exact absurd hk.symm n1
    | sgs ms => rw [strOf_inj ht.1 hu.1 hw]
    | sg _ => exact absurd hk n3
  | sg n => cases u with
    | num m => exact absurd hk.symm n2
    | sgs _ => exact absurd hk.symm n3
    | sg m =>
      have z := strOf_inj (a := [n]) (b := [m]) (fun z hz => by rw [List.mem_singleton.mp hz]; exact ht) (fun z hz => by rw [List.mem_singleton.mp hz]; exact hu) hw
      cases z
      rfl
/-- the kinds of a form, by its first word -/
def formK (x : Str) : Option (List Str) :=
  if x = "scrape" then some ["number", "number", "signs"] else if x = "cover" then some ["number", "number", "number"] else
  if x = "moved" then some ["number", "number", "number", "number"] else if x = "year" then some ["number", "number", "number", "number"] else
  if x = "sold" then some ["sign", "number"] else if x = "ahead" then some ["number", "number", "number", "number"] else
  if x = "same" then some ["number", "number", "number", "number"] else if x = "apart" then some ["number", "number", "number", "number"] else none
theorem formK_hd (f : Fc) : formK f.hd = some (f.th.map Th.k) := by cases f <;> rfl
theorem th_num {ts : List Th} {r : List Str} (h : ts.map Th.k = ("number" : Str) :: r) : ∃ n us, ts = .num n :: us ∧ us.map Th.k = r := by
  cases ts with
  | nil => cases h
  | cons t us =>
    rw [List.map_cons] at h
    injection h with h1 h2
    cases t with
    | num n => exact ⟨n, us, rfl, h2⟩
    | sgs _ => exact absurd h1 (by show ("signs" : Str) ≠ "number"; decide +kernel)
    | sg _ => exact absurd h1 (by show ("sign" : Str) ≠ "number"; decide +kernel)
theorem th_sgs {ts : List Th} {r : List Str} (h : ts.map Th.k = ("signs" : Str) :: r) : ∃ n us, ts = .sgs n :: us ∧ us.map Th.k = r := by
  cases ts with
  | nil => cases h
  | cons t us =>
    rw [List.map_cons] at h
    injection h with h1 h2
    cases t with
    | sgs n => exact ⟨n, us, rfl, h2⟩
    | num _ => exact absurd h1 (by show ("number" : Str) ≠ "signs"; decide +kernel)
    | sg _ => exact absurd h1 (by show ("sign" : Str) ≠ "signs"; decide +kernel)
theorem th_sg {ts : List Th} {r : List Str} (h : ts.map Th.k = ("sign" : Str) :: r) : ∃ n us, ts = .sg n :: us ∧ us.map Th.k = r := by
  cases ts with
  | nil => cases h
  | cons t us =>
    rw [List.map_cons] at h
    injection h with h1 h2
    cases t with
    | sg n => exact ⟨n, us, rfl, h2⟩
    | num _ => exact absurd h1 (by show ("number" : Str) ≠ "sign"; decide +kernel)
    | sgs _ => exact absurd h1 (by show ("signs" : Str) ≠ "sign"; decide +kernel)
theorem th_nil {ts : List Th} (h : ts.map Th.k = []) : ts = [] := List.map_eq_nil_iff.mp h
/-- things of a form make a finding -/
theorem fc_of {x : Str} {ts : List Th} (h : formK x = some (ts.map Th.k)) : ∃ f : Fc, f.hd = x ∧ f.th = ts := by
  unfold formK at h
  split at h
  · obtain ⟨a, us, rfl, h1⟩ := th_num (Option.some.inj h).symm
    obtain ⟨b, vs, rfl, h2⟩ := th_num h1
    obtain ⟨c, ws, rfl, h3⟩ := th_sgs h2
    rw [th_nil h3]
    exact ⟨.scrape a b c, by subst_vars; rfl, rfl⟩
  split at h
  · obtain ⟨a, us, rfl, h1⟩ := th_num (Option.some.inj h).symm
    obtain ⟨b, vs, rfl, h2⟩ := th_num h1
    obtain ⟨c, ws, rfl, h3⟩ := th_num h2
    rw [th_nil h3]
    exact ⟨.cover a b c, by subst_vars; rfl, rfl⟩
  split at h
  · obtain ⟨a, us, rfl, h1⟩ := th_num (Option.some.inj h).symm
    obtain ⟨b, vs, rfl, h2⟩ := th_num h1
    obtain ⟨c, ws, rfl, h3⟩ := th_num h2
    obtain ⟨d, xs, rfl, h4⟩ := th_num h3
    rw [th_nil h4]
    exact ⟨.moved a b c d, by subst_vars; rfl, rfl⟩
  split at h
  · obtain ⟨a, us, rfl, h1⟩ := th_num (Option.some.inj h).symm
    obtain ⟨b, vs, rfl, h2⟩ := th_num h1
    obtain ⟨c, ws, rfl, h3⟩ := th_num h2
    obtain ⟨d, xs, rfl, h4⟩ := th_num h3
    rw [th_nil h4]
    exact ⟨.year a b c d, by subst_vars; rfl, rfl⟩
  split at h
  · obtain ⟨a, us, rfl, h1⟩ := th_sg (Option.some.inj h).symm
    obtain ⟨b, vs, rfl, h2⟩ := th_num h1
    rw [th_nil h2]
    exact ⟨.sold a b, by subst_vars; rfl, rfl⟩
  split at h
  · obtain ⟨a, us, rfl, h1⟩ := th_num (Option.some.inj h).symm
    obtain ⟨b, vs, rfl, h2⟩ := th_num h1
    obtain ⟨c, ws, rfl, h3⟩ := th_num h2
    obtain ⟨d, xs, rfl, h4⟩ := th_num h3
    rw [th_nil h4]
    exact ⟨.ahead a b c d, by subst_vars; rfl, rfl⟩
  split at h
  · obtain ⟨a, us, rfl, h1⟩ := th_num (Option.some.inj h).symm
    obtain ⟨b, vs, rfl, h2⟩ := th_num h1
    obtain ⟨c, ws, rfl, h3⟩ := th_num h2
    obtain ⟨d, xs, rfl, h4⟩ := th_num h3
    rw [th_nil h4]
    exact ⟨.same a b c d, by subst_vars; rfl, rfl⟩
  split at h
  · obtain ⟨a, us, rfl, h1⟩ := th_num (Option.some.inj h).symm
    obtain ⟨b, vs, rfl, h2⟩ := th_num h1
    obtain ⟨c, ws, rfl, h3⟩ := th_num h2
    obtain ⟨d, xs, rfl, h4⟩ := th_num h3
    rw [th_nil h4]
    exact ⟨.apart a b c d, by subst_vars; rfl, rfl⟩
  · cases h
/-- words that write a finding -/
def isFc (ws : List Str) : Prop := ∃ f : Fc, fineF f ∧ ws = f.words
theorem Fc.words_inj {f g : Fc} (hf : fineF f) (hg : fineF g) (h : f.words = g.words) : f = g := by
  unfold Fc.words at h
  injection h with h1 h2
  have hk : f.th.map Th.k = g.th.map Th.k := by
    have := formK_hd f
    rw [h1, formK_hd g] at this
    exact (Option.some.inj this).symm
  have ht : f.th = g.th := by
    refine List.ext_getElem? fun i => ?_
    have ew : (f.th.map Th.w)[i]? = (g.th.map Th.w)[i]? := by rw [h2]
    have ek : (f.th.map Th.k)[i]? = (g.th.map Th.k)[i]? := by rw [hk]
    rw [List.getElem?_map, List.getElem?_map] at ew ek
    cases e1 : f.th[i]? with
    | none =>
      rw [e1] at ew
      cases e2 : g.th[i]? with
      | none => rfl
      | some u => rw [e2] at ew; cases ew
    | some t =>
      rw [e1] at ew ek
      cases e2 : g.th[i]? with
      | none => rw [e2] at ew; cases ew
      | some u =>
        rw [e2] at ew ek
        rw [Th.inj (hf t (List.mem_of_getElem? e1)) (hg u (List.mem_of_getElem? e2)) (Option.some.inj ek) (Option.some.inj ew)]
  have hd : f.d = g.d := by rw [Fc.d_th, Fc.d_th, h1, ht]
  have hne : ∀ {x y : Str}, x ≠ y → x = y → False := fun h e => h e
  cases f <;> cases g <;> first
    | (exfalso; refine hne ?_ h1; simp only [Fc.hd]; decide +kernel)
    | (simp only [Fc.d, D.tup.injEq, List.cons.injEq, D.int.injEq, and_true, true_and] at hd; obtain ⟨rfl, rfl, hd⟩ := hd; rw [List.map_inj_right (fun a b h => D.int.inj h)] at hd; rw [hd])
    | (simp only [Fc.d, D.tup.injEq, List.cons.injEq, D.int.injEq, and_true, true_and] at hd; simp only [hd])
/-! ### deeds -/
def Dd.fine : Dd → Prop
  | .tell f => fineF f
  | .strike n => num4 n
  | .keep n => num4 n
  | .amend n f => num4 n ∧ fineF f
def isDd (ws : List Str) : Prop := ∃ d : Dd, d.fine ∧ ws = d.words
/-! ### splitting -/
theorem spl_ne (S : List Nat) : ∀ (k : Nat) (acc l : List Nat), TL.spl S k acc l ≠ []
  | _, acc, [] => by rw [TL.spl_nil]; simp
  | 0, acc, c :: r => by
    unfold TL.spl
    split
    · simp
    · exact spl_ne S 0 _ r
  | k + 1, acc, _ :: r => by
    show TL.spl S k acc r ≠ []
    exact spl_ne S k acc r
theorem spl_bd (S : List Nat) : ∀ (k : Nat) (acc l : List Nat), (∀ p ∈ TL.spl S k acc l, p.length ≤ acc.length + l.length) ∧ (TL.spl S k acc l).length ≤ l.length + 1
  | _, acc, [] => by rw [TL.spl_nil]; simp
  | 0, acc, c :: r => by
    unfold TL.spl
    split
    · have ih := spl_bd S (S.length - 1) [] r
      refine ⟨fun p hp => ?_, by simp only [List.length_cons]; omega⟩
      rcases List.mem_cons.mp hp with rfl | hp
      · omega
      · have := ih.1 p hp
        simp only [List.length_cons, List.length_nil] at *
        omega
    · have ih := spl_bd S 0 (acc ++ [c]) r
      refine ⟨fun p hp => ?_, by have := ih.2; simp only [List.length_cons]; omega⟩
      have := ih.1 p hp
      simp only [List.length_append, List.length_cons, List.length_nil] at *
      omega
  | k + 1, acc, c :: r => by
    have ih := spl_bd S k acc r
    show (∀ p ∈ TL.spl S k acc r, _) ∧ (TL.spl S k acc r).length ≤ _
    refine ⟨fun p hp => ?_, by have := ih.2; simp only [List.length_cons]; omega⟩
    have := ih.1 p hp
    simp only [List.length_cons]
    omega
theorem spl_sum (S : List Nat) : ∀ (k : Nat) (acc l : List Nat), ((TL.spl S k acc l).map (·.length)).sum + (TL.spl S k acc l).length ≤ acc.length + l.length + 1
  | _, acc, [] => by rw [TL.spl_nil]; simp
  | 0, acc, c :: r => by
    unfold TL.spl
    split
    · have ih := spl_sum S (S.length - 1) [] r
      simp only [List.map_cons, List.sum_cons, List.length_cons, List.length_nil] at *
      omega
    · have ih := spl_sum S 0 (acc ++ [c]) r
      simp only [List.length_append, List.length_cons, List.length_nil] at *
      omega
  | k + 1, acc, c :: r => by
    have ih := spl_sum S k acc r
    show ((TL.spl S k acc r).map (·.length)).sum + (TL.spl S k acc r).length ≤ _
    simp only [List.length_cons]
    omega
theorem split_tl {x y : Str} {s : Nat} (ey : tl y = [s]) (hk : y.cps.all (· < 256) = true) : (Txt.split x y).map tl = TL.spl [s] 0 [] (tl x) := by
  rw [TL.split_spl x y (by rw [ey]; simp) (TL.kind_ok hk), ey]
theorem blank_tl : tl (" " : Str) = [32] := by decide +kernel
theorem blank_kind : (" " : Str).cps.all (· < 256) = true := by decide +kernel
theorem split_ne (x : Str) {y : Str} {s : Nat} (ey : tl y = [s]) (hk : y.cps.all (· < 256) = true) : Txt.split x y ≠ [] := fun z => by
  have := split_tl (x := x) ey hk
  rw [z] at this
  exact spl_ne _ _ _ _ this.symm
theorem split_bd (x : Str) {y : Str} {s : Nat} (ey : tl y = [s]) (hk : y.cps.all (· < 256) = true) : (∀ p ∈ Txt.split x y, p.length ≤ x.length) ∧ (Txt.split x y).length ≤ x.length + 1 := by
  have e := split_tl (x := x) ey hk
  have b := spl_bd [s] 0 [] (tl x)
  rw [← e] at b
  refine ⟨fun p hp => ?_, ?_⟩
  · have := b.1 (tl p) (List.mem_map.mpr ⟨p, hp, rfl⟩)
    rw [TL.len_tl, TL.len_tl]
    simpa using this
  · have := b.2
    rw [List.length_map] at this
    rw [TL.len_tl]
    exact this
theorem split_sum (x : Str) {y : Str} {s : Nat} (ey : tl y = [s]) (hk : y.cps.all (· < 256) = true) : ((Txt.split x y).map (·.length)).sum + (Txt.split x y).length ≤ x.length + 1 := by
  have e := split_tl (x := x) ey hk
  have b := spl_sum [s] 0 [] (tl x)
  rw [← e, List.map_map, List.length_map] at b
  rw [TL.len_tl x]
  have e2 : (Txt.split x y).map (fun z : Str => z.length) = (Txt.split x y).map (List.length ∘ tl) := List.map_congr_left fun z _ => TL.len_tl z
  rw [e2]
  simpa using b
end LC
namespace LC
open PySem PySem.Spec
open PyProof.Rows L2
theorem forms_look (x : Str) : formsL.lookup x = (formK x).map fun l => D.kt (l.map D.str) := by
  unfold formK
  by_cases h1 : x = "scrape"
  · subst h1; rfl
  by_cases h2 : x = "cover"
  · subst h2; rfl
  by_cases h3 : x = "moved"
  · subst h3; rfl
  by_cases h4 : x = "year"
  · subst h4; rfl
  by_cases h5 : x = "sold"
  · subst h5; rfl
  by_cases h6 : x = "ahead"
  · subst h6; rfl
  by_cases h7 : x = "same"
  · subst h7; rfl
  by_cases h8 : x = "apart"
  · subst h8; rfl
  rw [if_neg h1, if_neg h2, if_neg h3, if_neg h4, if_neg h5, if_neg h6, if_neg h7, if_neg h8]
  unfold formsL
  simp only [List.lookup, beq_false_of_ne h1, beq_false_of_ne h2, beq_false_of_ne h3, beq_false_of_ne h4, beq_false_of_ne h5, beq_false_of_ne h6, beq_false_of_ne h7, beq_false_of_ne h8]
  rfl
theorem formK_len {x : Str} {l : List Str} (h : formK x = some l) : l.length ≤ 4 ∧ 2 ≤ l.length := by
  unfold formK at h
  repeat' split at h
  all_goals first | cases h; exact ⟨by decide, by decide⟩ | cases h
theorem formK_kinds {x : Str} {l : List Str} (h : formK x = some l) : ∀ k ∈ l, k = "number" ∨ k = "signs" ∨ k = "sign" := by
  unfold formK at h
  repeat' split at h
  all_goals first | (cases h; intro k hk; simp only [List.mem_cons, List.not_mem_nil, or_false] at hk; rcases hk with rfl | rfl | rfl | rfl <;> simp) | (cases h; intro k hk; simp only [List.mem_cons, List.not_mem_nil, or_false] at hk; rcases hk with rfl | rfl | rfl <;> simp) | (cases h; intro k hk; simp only [List.mem_cons, List.not_mem_nil, or_false] at hk; rcases hk with rfl | rfl <;> simp) | cases h
/-- a word read as a thing of a kind -/
def thAs (k w : Str) (t : Th) : Prop := t.k = k ∧ t.fine ∧ t.w = w
def isTh (k w : Str) : Prop := ∃ t, thAs k w t
theorem isTh_num {w : Str} : isTh "number" w ↔ isNum w := by
  constructor
  · rintro ⟨t, h1, h2, h3⟩
    cases t with
    | num n => exact ⟨n, h2, h3.symm⟩
    | sgs _ => exact absurd h1 (by show ("signs" : Str) ≠ "number"; decide +kernel)
    | sg _ => exact absurd h1 (by show ("sign" : Str) ≠ "number"; decide +kernel)
  · rintro ⟨n, h1, h2⟩
    exact ⟨.num n, rfl, h1, h2.symm⟩
theorem isTh_sgs {w : Str} : isTh "signs" w ↔ isSgs w := by
  constructor
  · rintro ⟨t, h1, h2, h3⟩
    cases t with
    | num n => exact absurd h1 (by show ("number" : Str) ≠ "signs"; decide +kernel)
    | sgs ns => exact ⟨ns, h2.1, h2.2, h3.symm⟩
    | sg _ => exact absurd h1 (by show ("sign" : Str) ≠ "signs"; decide +kernel)
  · rintro ⟨ns, h1, h2, h3⟩
    exact ⟨.sgs ns, rfl, ⟨h1, h2⟩, h3.symm⟩
theorem isTh_sg {w : Str} : isTh "sign" w ↔ isSg w := by
  constructor
  · rintro ⟨t, h1, h2, h3⟩
    cases t with
    | num n => exact absurd h1 (by show ("number" : Str) ≠ "sign"; decide +kernel)
    | sgs _ => exact absurd h1 (by show ("signs" : Str) ≠ "sign"; decide +kernel)
    | sg n => exact ⟨n, h2.1, h2.2, h3.symm⟩
  · rintro ⟨n, h1, h2, h3⟩
    exact ⟨.sg n, rfl, ⟨h1, h2⟩, h3.symm⟩
/-- words that are all read, form by form -/
theorem isFc_of {x : Str} {l wr : List Str} {ts : List Th} (h : formK x = some l) (hk : ts.map Th.k = l) (hw : ts.map Th.w = wr) (hf : ∀ t ∈ ts, t.fine) : ∃ f : Fc, fineF f ∧ x :: wr = f.words ∧ f.d = .tup (.str x :: ts.map Th.d) := by
  obtain ⟨f, h1, h2⟩ := fc_of (x := x) (ts := ts) (by rw [hk]; exact h)
  refine ⟨f, fun t ht => hf t (by rw [← h2]; exact ht), ?_, by rw [Fc.d_th, h1, h2]⟩
  unfold Fc.words
  rw [h1, h2, hw]
/-- what a finding's words are, place by place -/
theorem isFc_at {x : Str} {wr : List Str} (h : isFc (x :: wr)) : ∃ l, formK x = some l ∧ l.length = wr.length ∧ ∀ (i : Nat) (k w : Str), l[i]? = some k → wr[i]? = some w → isTh k w := by
  obtain ⟨f, hf, e⟩ := h
  unfold Fc.words at e
  injection e with e1 e2
  refine ⟨f.th.map Th.k, by rw [e1]; exact formK_hd f, by rw [e2]; simp, fun i k w hk hw => ?_⟩
  rw [e2, List.getElem?_map] at hw
  rw [List.getElem?_map] at hk
  cases ht : f.th[i]? with
  | none => rw [ht] at hk; cases hk
  | some t =>
    rw [ht] at hk hw
    exact ⟨t, Option.some.inj hk, hf t (List.mem_of_getElem? ht), Option.some.inj hw⟩
end LC
namespace LC
open PySem PySem.Spec
open PyProof.Rows L2
theorem feq_two {w : Str} (h : ¬ (w = "strike" ∨ w = "keep")) : ([D.str "strike", D.str "keep"].any fun y => y.feq (.str w)) = false := by
  have h1 : (("strike" : Str) == w) = false := beq_false_of_ne fun z => h (.inl z.symm)
  have h2 : (("keep" : Str) == w) = false := beq_false_of_ne fun z => h (.inr z.symm)
  show ((("strike" : Str) == w) || ((("keep" : Str) == w) || false)) = false
  rw [h1, h2]
  rfl
theorem hd_sk (f : Fc) : ¬ (f.hd = "strike" ∨ f.hd = "keep") := (show ∀ x ∈ heads, ¬ (x = "strike" ∨ x = "keep") by decide +kernel) _ (hd_mem f)
theorem isDd_sk {w0 : Str} {wr : List Str} (h0 : w0 = "strike" ∨ w0 = "keep") (h : isDd (w0 :: wr)) : ∃ v, wr = [v] ∧ isNum v := by
  obtain ⟨d, hd, e⟩ := h
  cases d with
  | tell f =>
    injection e with e1 e2
    rw [e1] at h0
    exact absurd h0 (hd_sk f)
  | strike n => injection e with e1 e2; exact ⟨_, e2, n, hd, rfl⟩
  | keep n => injection e with e1 e2; exact ⟨_, e2, n, hd, rfl⟩
  | amend n f =>
    injection e with e1 e2
    rw [e1] at h0
    exact absurd h0 (by decide +kernel)
theorem isDd_am {wr : List Str} (h : isDd ("amend" :: wr)) : ∃ v r, wr = v :: r ∧ r ≠ [] ∧ isNum v ∧ isFc r := by
  obtain ⟨d, hd, e⟩ := h
  cases d with
  | tell f => injection e with e1 e2; exact absurd e1.symm (hd_am f)
  | strike n => injection e with e1 e2; exact absurd e1 (by decide +kernel)
  | keep n => injection e with e1 e2; exact absurd e1 (by decide +kernel)
  | amend n f => injection e with e1 e2; exact ⟨_, _, e2, Fc.words_ne f, ⟨n, hd.1, rfl⟩, f, hd.2, rfl⟩
theorem isDd_tell {w0 : Str} {wr : List Str} (h0 : ¬ (w0 = "strike" ∨ w0 = "keep")) (h1 : w0 ≠ "amend") (h : isDd (w0 :: wr)) : isFc (w0 :: wr) := by
  obtain ⟨d, hd, e⟩ := h
  cases d with
  | tell f => exact ⟨f, hd, e⟩
  | strike n => injection e with e1 e2; exact absurd (.inl e1) h0
  | keep n => injection e with e1 e2; exact absurd (.inr e1) h0
  | amend n f => injection e with e1 e2; exact absurd e1 h1
theorem no_am {wr : List Str} : ¬ isFc ("amend" :: wr) := fun ⟨f, _, e⟩ => by
  injection e with e1 e2
  exact hd_am f e1.symm
end LC

set_option Elab.async false
set_option linter.all false
set_option maxRecDepth 100000
set_option maxHeartbeats 5000000
/-! LD98: zip of a text and a list; d.update(e); x = T[e] / except KeyError as n, with what C has by default. -/
namespace LC
open PySem PySem.Spec
open PyProof.Rows L2
open L2H (FnH)
def ItzU (K : PySem.W.Frag) (x : Str) (b : Addr) : It :=
  ⟨fun i H => ∃ (ys : List V) (c : Nat) (y : V), SqL K H b ys ∧ x.cps[i]? = some c ∧ ys[i]? = some y,
    fun i H v H' => ∃ T c y, v = .ref T ∧ H T = none ∧ H' = upd H T (.tup [.str ⟨#[c]⟩, y]) ∧ x.cps[i]? = some c ∧ ∀ ys, SqL K H b ys → ys[i]? = some y,
    fun i H => ∃ ys : List V, SqL K H b ys ∧ x.cps.size = i ∧ ys.length = i⟩
theorem turn_zipU {P : Program} {w : World} {K : PySem.W.Frag} {elts : List Expr} {kk : Nat} {tpos : Pos} {x : Str} {t : Tok} {b z TI TO i1 i2 : Addr} (D : ZipSep2 z TI TO i1 i2 [i1] [i2, b]) (hne : b ≠ i2) :
    Turn P w K (.Tuple elts kk tpos) (ItzU K x b) [z, TI, TO, i1, i2] z (fun i h => IsZip h z TI TO .none ∧ IsPair h TI (.ref i1) (.ref i2) ∧ (∃ x y, IsPair h TO x y) ∧ h.IsStrIter i1 (strIterType x) x t i ∧ h.IsListIter i2 b i) where
  mem := by simp
  obj := fun i h st c hc => by
    obtain ⟨hz, hTI, ⟨x, y, hTO⟩, ⟨o1, e1, _, d1⟩, ⟨o2, e2, _, d2⟩⟩ := st
    have e' : c = z ∨ c = TI ∨ c = TO ∨ c = i1 ∨ c = i2 := by simpa using hc
    rcases e' with q | q | q | q | q
    · rw [q]; exact ⟨_, hz, fun v q => nomatch q⟩
    · rw [q]; exact ⟨_, hTI, fun v q => nomatch q⟩
    · rw [q]; exact ⟨_, hTO, fun v q => nomatch q⟩
    · rw [q]; exact ⟨o1, e1, fun v q => by rw [d1] at q; cases q⟩
    · rw [q]; exact ⟨o2, e2, fun v q => by rw [d2] at q; cases q⟩
  keep := fun i h h' st k => by
    obtain ⟨hz, hTI, ⟨x, y, hTO⟩, ⟨o1, e1, r1⟩, h2⟩ := st
    exact ⟨k z (by simp) _ hz, k TI (by simp) _ hTI, ⟨x, y, k TO (by simp) _ hTO⟩, ⟨o1, k i1 (by simp) o1 e1, r1⟩, h2.at fun o q => k i2 (by simp) o q⟩
  item := by
    intro X hP hw hK hc i pins s σ H E I hf st hg
    subst hP hw hK
    obtain ⟨hz, hTI, ⟨x0, y0, hTO⟩, h1, h2⟩ := st
    obtain ⟨ys, c, y, hqy, hx, hy⟩ := hg
    obtain ⟨its2, rv2, p2, _⟩ := I.list hqy
    obtain ⟨u2, hu2, ru2⟩ := rv2.get hy
    have hzl : z < s.heap.objs.size := Heap.lt_size hz
    have hl1 : i < x.cps.size := (Array.getElem?_eq_some_iff.mp hx).1
    have hl2 : i < its2.toArray.size := by have := (List.getElem?_eq_some_iff.mp hu2).1; simpa using this
    refine wpAny_pyNext_zipD2_item D (Draws.text (A := X.A.in1) (I.ok.hd hc) i1 x t) (Draws.list (A := X.A.in1) (I.ok.hd hc) i2 b hne its2.toArray) hz hTI hTO h1 ⟨h2, p2.isList⟩ hl1 hl2 fun x1 x2 h' tk e1 e2 z' TO' h1' h2' hT hsz hk => ?_
    obtain ⟨c', u, hc', rfl⟩ := e1
    have e2' : some u2 = some x2 := by rw [← hu2]; simpa using e2
    cases e2'
    obtain ⟨h2', _⟩ := h2'
    refine ⟨_, rfl, wpAny_letOwnedTupleGo_zip (s := { s with heap := h', toks := tk }) z' fun h'' z'' sb => ?_⟩
    have hT2 : h''.get? s.heap.objs.size = some { cls := .type "tuple", data := .seq #[.str ⟨#[c']⟩ u, u2] } := (sb.2 _ (Nat.ne_of_gt hzl)).trans hT
    have new : ObjOk X.prog X.w (upd H s.heap.objs.size (.tup [.str ⟨#[c']⟩, y])) h'' s.heap.objs.size (.tup [.str ⟨#[c']⟩, y]) :=
      ⟨by show 2 ≤ sizeLine; decide, [.str ⟨#[c']⟩ u, u2], .cons ⟨u, rfl⟩ (.cons ru2 .nil), ⟨_, hT2, rfl, _, rfl⟩⟩
    have I1 : Inv X pins σ (upd H s.heap.objs.size (.tup [.str ⟨#[c']⟩, y])) { s with heap := h'', toks := tk } :=
      I.turnedNew (t' := tk) (ch := [z, TI, TO, i1, i2]) (fun c o hb q => (sb.2 c (fun q' => hb (by simp [q']))).trans (hk c o (fun q' => hb (by simp [q'])) (fun q' => hb (by simp [q'])) (fun q' => hb (by simp [q'])) (fun q' => hb (by simp [q'])) q)) hf (Nat.le_refl _) new
    refine ⟨.ref s.heap.objs.size, _, I1, rfl, ⟨_, c', y, rfl, I.hok.fresh (Nat.le_refl _), rfl, hc', fun l hl => by rw [I.list_inj hl hqy]; exact hy⟩, ⟨z'', ?_, ⟨.str ⟨#[c']⟩ u, u2, ?_⟩, ?_, ?_⟩, fun c hcm => ?_⟩
    · exact (sb.2 _ D.TIz).trans (hk _ _ D.TIz D.TITO D.TIi1 D.TIi2 hTI)
    · exact (sb.2 _ D.TOz).trans TO'
    · obtain ⟨o1, g1, r1⟩ := h1'
      exact ⟨o1, (sb.2 _ D.zi1.symm).trans g1, r1⟩
    · exact h2'.at fun o q => (sb.2 _ D.zi2.symm).trans q
    · have hlt : c < s.heap.objs.size := by
        have e' : c = z ∨ c = TI ∨ c = TO ∨ c = i1 ∨ c = i2 := by simpa using hcm
        rcases e' with q | q | q | q | q
        · rw [q]; exact hzl
        · rw [q]; exact Heap.lt_size hTI
        · rw [q]; exact Heap.lt_size hTO
        · rw [q]; obtain ⟨_, e1, _⟩ := h1; exact Heap.lt_size e1
        · rw [q]; obtain ⟨_, e2, _⟩ := h2; exact Heap.lt_size e2
      rw [upd_ne (Nat.ne_of_lt hlt)]
      exact (hf c hcm).1
  done := by
    intro X hP hw hK hc i pins s σ H E I hf st hg
    subst hP hw hK
    obtain ⟨hz, hTI, ⟨x0, y0, hTO⟩, h1, h2⟩ := st
    obtain ⟨ys, hqy, e1, e2⟩ := hg
    obtain ⟨its2, rv2, p2, _⟩ := I.list hqy
    have l2 : its2.toArray.size = i := by have := rv2.length; simp; omega
    exact wpAny_pyNext_zipD2_end D (Draws.text (A := X.A.in1) (I.ok.hd hc) i1 x t) (Draws.list (A := X.A.in1) (I.ok.hd hc) i2 b hne its2.toArray) hz hTI hTO h1 ⟨h2, p2.isList⟩ (Nat.le_of_eq e1.symm) (Nat.le_of_eq l2.symm) (.inl e1.symm) fun h' tk hk => ⟨rfl, I.turnedL (t' := tk) (ch := [z, TI, TO, i1, i2]) (fun c o hb q =>
      hk c o (fun q' => hb (by simp [q'])) (fun q' => hb (by simp [q'])) (fun q' => hb (by simp [q'])) (fun q' => hb (by simp [q'])) q) hf⟩
  self := fun A i s Q E st h => wpAny_pyIter_zip st.1 h
def iZipU (K : PySem.W.Frag) (ta : TA) : TI := fun σ H R => ta σ H fun vs H1 => ∃ x b ys, vs = [.str x, .ref b] ∧ SqL K H1 b ys ∧ R (ItzU K x b) H1
theorem pi_zipU {X : Cx} {e e2 : Expr} {ta : TA} {p pos tpos : Pos} {elts : List Expr} {kk : Nat} (hg : Gl X "zip") (hm : X.mg "zip" = none) (ha : PA X [e, e2] ta)
    (hs : starEach [e, e2] X.env = (false, eval e X.env) :: starEach [e2] X.env := by rfl) (hpl : (backTo pos (starEach [e2] X.env)).any (·.1) = false := by rfl) :
    PI X (.Tuple elts kk tpos) (.Call (.Name "zip" p) [e, e2] [] pos) (iZipU X.K ta) := by
  refine ⟨fun pins s σ H R I h => ?_⟩
  refine Call_ (ld_blt I hg hm PyProof.Rows.boot_zip (PyProof.Rows.callWith_type1 (thn (ha.run pos pins s σ H _ I h) fun us s1 ⟨vs, H1, I1, r1, q1⟩ => ?_) hs hpl))
  obtain ⟨x, b, ys, ex, hqy, q⟩ := q1
  subst ex
  cases r1 with
  | cons r rr =>
    cases rr with
    | cons r' rr =>
      cases rr
      obtain ⟨t, rfl⟩ := r
      cases r'
      have fresh5 : ∀ c, c ∈ [s1.heap.objs.size + 4, s1.heap.objs.size + 2, s1.heap.objs.size + 3, s1.heap.objs.size, s1.heap.objs.size + 1] → FpOk X pins H1 c := fun c hcm => by
        have e' : c = s1.heap.objs.size + 4 ∨ c = s1.heap.objs.size + 2 ∨ c = s1.heap.objs.size + 3 ∨ c = s1.heap.objs.size ∨ c = s1.heap.objs.size + 1 := by simpa using hcm
        have hle : s1.heap.objs.size ≤ c := by
          rcases e' with z | z | z | z | z
          · rw [z]; exact Nat.le_add_right _ _
          · rw [z]; exact Nat.le_add_right _ _
          · rw [z]; exact Nat.le_add_right _ _
          · rw [z]; exact Nat.le_refl _
          · rw [z]; exact Nat.le_add_right _ _
        exact I1.fpOk hle (I1.hok.fresh hle)
      obtain ⟨its2, rv2, p2, _⟩ := I1.list hqy
      have hb : b < s1.heap.objs.size := p2.lt
      refine zip_begins2 (begins_text x t) (begins_list b its2.toArray) trivial p2.isList fun h' hz hTI hTO h1 h2 hsz hk => wpAny_pyIter_zip hz ?_
      have I2 : Inv X pins σ H1 { s1 with heap := h' } := I1.kept (t' := s1.toks) hk
      exact ⟨s1.heap.objs.size + 4, [s1.heap.objs.size + 4, s1.heap.objs.size + 2, s1.heap.objs.size + 3, s1.heap.objs.size, s1.heap.objs.size + 1], _, _, H1, rfl, I2,
        turn_zipU (zip_sep2 (fp1 := []) (fp2 := [b]) (fun _ h => by cases h) (fun c h => by rw [List.mem_singleton.mp h]; exact hb)) (Nat.ne_of_lt (Nat.lt_succ_of_lt hb)), ⟨hz, hTI, ⟨_, _, hTO⟩, ⟨_, h1, rfl, rfl⟩, ⟨_, h2, rfl, rfl⟩⟩, fresh5, q⟩
section
variable {X : Cx} {B : Bs}
def qiZipU (qa : QA) : QI := fun s S R => qa s S fun ds S1 => match ds with
  | [.str x, e] => Opt (lsOf S1 e) fun ys => Need (x.length = ys.length) (R (zipD (LC.signs x) ys) (fun S' => lsOf S' e = some ys) S1)
  | _ => False
theorem li_zipU {a b : Expr} {qa : QA} {p pos tpos : Pos} {elts : List Expr} {kk : Nat} (hg : Gl X "zip") (hm : X.mg "zip" = none) (ha : LA X B [a, b] qa)
    (hs : starEach [a, b] X.env = (false, eval a X.env) :: starEach [b] X.env := by rfl) (hpl : (backTo pos (starEach [b] X.env)).any (·.1) = false := by rfl) :
    LI X B (.Tuple elts kk tpos) (.Call (.Name "zip" p) [a, b] [] pos) (qiZipU qa) := PI.imp (pi_zipU hg hm ha hs hpl) fun σ H R ⟨φ, s, S, R', hr, ev, q, k⟩ =>
  ⟨φ, s, S, _, hr, ev, q, fun φ1 ds S1 vs H1 e1 hr1 r1 q1 => by
    split at q1
    · rename_i x e
      obtain ⟨v, ws, rfl, rd, u, ws2, rfl, re, rn⟩ := r1
      cases rn
      cases rd
      obtain ⟨ys, hy, ⟨hl, q3⟩⟩ := q1.get; clear q1
      have hl' : (LC.signs x).length = ys.length := by rw [signs_len]; exact hl
      obtain ⟨pb, vb, rfl, sb, rb⟩ := hr1.ls hy re
      refine ⟨x, pb, vb, rfl, .inl (.inl sb), k _ _ _ _ _ _ e1 hr1 (fun i φ2 H2 S2 e2 hr2 k2 => ?_) q3⟩
      obtain ⟨pb', wb, eb, sb2, rb2⟩ := hr2.ls k2 (re.mono e2)
      cases eb
      have hxs : x.cps.size = ys.length := hl
      rw [zipD_len hl', signs_len]
      refine ⟨fun hi => ⟨wb, x.cps[i]'(by exact hi), wb[i]'(by rw [rb2.len]; omega), .inl (.inl sb2), Array.getElem?_eq_getElem _, List.getElem?_eq_getElem _⟩,
        fun hi => ⟨wb, .inl (.inl sb2), by rw [hi]; rfl, by rw [rb2.len, hi]; exact hl.symm⟩, fun z H' d' y hd => ?_⟩
      obtain ⟨T, c1, y1, rfl, hT, rfl, f1, f2⟩ := y
      obtain ⟨dx, dy, g1, g2, rfl⟩ := zipD_get hd
      obtain ⟨c, hc, rfl⟩ := str_at g1
      obtain ⟨v2, h3, h4⟩ := rb2.get g2
      have z2 := f2 wb (.inl (.inl sb2))
      have z1 : x.cps[i]? = some c := by simpa using hc
      rw [f1] at z1
      rw [h3] at z2
      cases z1; cases z2
      exact ⟨φ2, ext_new hT, hr2.fix hT, RV.tup_new hT ⟨_, _, rfl, rfl, _, _, rfl, h4, rfl⟩⟩
    · exact q1.elim⟩
end
/-! ### d.update(e), both numbered -/
section
variable {X : Cx} {B : Bs}
theorem mt_update : MtR X "dict.update" (fun x xs H Q => ∃ a g b m, x = .ref a ∧ xs = [.ref b] ∧ H a = some (.dK g) ∧ H b = some (.dK m) ∧ a ≠ b ∧ g.length + m.length ≤ sizeLine ∧ Q .non (upd H a (.dK (mergeK g m)))) := by
  intro pins s σ H x xs v us Q I rx rv h
  obtain ⟨a, g, b, m, rfl, rfl, ea, eb, hab, hl, q⟩ := h
  cases rx
  cases rv with
  | cons r rr =>
  cases rr
  cases r
  obtain ⟨z, hd, vs0, rel, dd⟩ := dk_of I.hok ea
  obtain ⟨z2, hd2, vs2, rel2, dd2⟩ := dk_of I.hok eb
  refine call_meetsIn PySem.F.slot_dict_update dd.typeIs PySem.F.entry_dict_update (PySem.F.args_dict_update_2 _ _) (meets_dict_update (mixKind X.prog X.w) a b hab hd2) ⟨vs0, vs2, dd, dd2, by rw [← rel.length, ← rel2.length]; exact hl, fun h' dd' _ hs => ?_⟩
  have hl2 : (mergeK g m).length ≤ sizeLine := Nat.le_trans (length_mergeK m g) hl
  have J := d_write (t' := s.toks) I (by rw [ea]; exact True.intro) hs (let ⟨q, _, _, hq, _⟩ := dd'; ⟨q, hq⟩) (dk_new hl2 hd (KV.merge rel2 rel) dd')
  exact (⟨.non, _, J, rfl, q⟩ : EP X pins σ Q _ _)
def rmUpd : QM := fun d ds S Q => match ds with
  | [e] => Opt (dkM S d) fun p => Opt (dkM S e) fun m => Need (p.1 ≠ m.1 ∧ p.2.length + m.2.length ≤ sizeLine) (Q .non (S.set p.1 (.dK (mergeD p.2 m.2))))
  | _ => False
theorem mm_update : MtR X "dict.update" (upM X.K B rmUpd) := MtR.imp mt_update fun x xs H Q ⟨φ, S, d, ds, Q', hr, r, rs, q, k⟩ => by
  unfold rmUpd at q
  split at q
  · obtain ⟨v1, w1, rfl, r1, r2⟩ := rs
    cases r2
    obtain ⟨⟨j, l⟩, h1, q1⟩ := q.get; clear q
    obtain ⟨⟨i, m⟩, h2, ⟨⟨hij, hlen⟩, q2⟩⟩ := q1.get; clear q1
    obtain ⟨rfl, hS, a, g, rfl, ea, h3, h4⟩ := hr.dkW h1 r
    obtain ⟨rfl, hS2, b, gm, rfl, eb, h5, h6⟩ := hr.dkW h2 r1
    have hab : a ≠ b := fun z => by
      subst z
      have l1 := (List.getElem?_eq_some_iff.mp ea).1
      exact hij ((List.getElem?_inj l1 hr.rel.nd).mp (ea.trans eb.symm))
    exact ⟨a, g, b, gm, rfl, rfl, h3, h5, hab, by rw [h4.len, h6.len]; exact hlen, k.write (x := O.dK l) (y := O.dK _) (d := .non) hr hS rfl ea (fun e => ⟨_, upd_same, RKV.merge (h6.mono e) (h4.mono e)⟩) (fun _ e => rfl) q2⟩
  · exact q.elim
end
/-! ### x = T[e] / except KeyError as n: raise C() from n -/
section
variable {X : Cx} {B : Bs}
theorem ls_tryKeyAsZ {l : List (Str × D)} {T : Str} {dT C fI : Addr} {i i2 n : Nat} {x y nm : Str} {fd : FuncData} {ps : List Str} {fl : List V → List (Str × V)} {flD : List D → List (Str × D)} {dvs : List V} {dds : List D} {Wout : WX} {Wo : WD} {e : Expr} {qe : QE} {p1 p2 p3 p4 p5 p6 p7 p8 p9 p10 p11 : Pos}
    (Z : XcD X.prog X.w X.K X.mg X.base y C fI fd ps n fl flD dvs dds) (F1 : FnH X.prog X.w X.K X.mg X.base (L2.CX X.prog X.w) 2 fI fd ps (spX C n fl))
    (hT : DctK X.K X.w.params dT l) (gT : X.mg T = some (.ref dT))
    (hs : X.stack = X.env :: X.outer) (hf : X.env.frame = some X.env.locals) (hcalm : X.calm = true) (hN : X.N.Nodup) (hi : X.N[i]? = some x) (hloc : Loc X.env.scope x) (hff : X.fn x = true ∨ X.env.scope.names.lookup x = some .local) (hi2 : X.N[i2]? = some nm) (hln : X.env.kindOf nm = some .local) (hvis : Vis X.env.scope nm) (hc : Names X "KeyError" (.type "KeyError")) (hex : PySem.W.exmOne X.K (.type "KeyError") (.type "KeyError") = some true) (hbe : PySem.W.subIn X.K (.type "KeyError") (.type "BaseException") = some true)
    (hpa : ∀ hd : Option Value, PassesOwnAt (model X.prog X.w) (X.A.mark hd) X.A X.env X.xe) (tk : Takes X Wout) (wl : WL X.K B Wo Wout)
    (hr : Room 3 X.A) (hgT : Gl X T) (hgy : Gl X y)
    (he : ∀ (W : WX) (pn : List (Addr × Obj)) (xe : Value → Shared → Prop), LE (X.tr pn xe) B e qe)
    (hdT : (T == ("__debug__" : Str)) = false) (hdy : (y == ("__debug__" : Str)) = false) (hdn : (nm == ("__debug__" : Str)) = false) (hcn : (nm == ("__classdict__" : Str)) = false) (hpl1 : PlainIx e)
    (hsw : ∀ (pn : List (Addr × Obj)) (xe : Value → Shared → Prop), swapsWith (.Subscript (.Name T p1) e p2) (some (.Name x p3)) p4.line (X.tr pn xe).env = pure false) :
    LS X B (.Try [.Assign [.Name x p3] (.Subscript (.Name T p1) e p2) p4] [.ExceptHandler (some (.Name "KeyError" p5)) (some nm) [.Raise (some (.Call (.Name y p6) [] [] p7)) (some (.Name nm p8)) p9] p10] [] [] p11) (qTryKeyAs l i i2 qe C flD n dds Wo) :=
  let ⟨_, vd, b⟩ := Z.bi
  ls_tryKeyAs hT gT Z.hfl hs hf hcalm hN hi hloc hff hi2 hln hvis hc hex hbe hpa tk wl Z.T Z.iC Z.tI F1 hr b vd Z.dd Z.gm hgT hgy he hdT hdy hdn hcn hpl1 hsw
end
end LC
namespace LC
open PySem PySem.Spec
open PyProof.Rows L2
/-- the law's letters for the kinds of words -/
def kindC (k : Str) : Nat := if k = "number" then 110 else if k = "signs" then 115 else 49
def lawKs (x : Str) : Option (List Nat) := (formK x).map fun l => l.map kindC
def lawForms : List (Key × D) := [(.inr "scrape", .str "nns"), (.inr "cover", .str "nnn"), (.inr "moved", .str "nnnn"), (.inr "year", .str "nnnn"), (.inr "sold", .str "1n"), (.inr "ahead", .str "nnnn"), (.inr "same", .str "nnnn"), (.inr "apart", .str "nnnn")]
theorem law_form (x : Str) : (valD lawForms (.inr x)).getD (.str "") = .str ⟨((lawKs x).getD []).toArray⟩ := by
  unfold lawKs formK
  by_cases h1 : x = "scrape"
  · subst h1; rfl
  by_cases h2 : x = "cover"
  · subst h2; rfl
  by_cases h3 : x = "moved"
  · subst h3; rfl
  by_cases h4 : x = "year"
  · subst h4; rfl
  by_cases h5 : x = "sold"
  · subst h5; rfl
  by_cases h6 : x = "ahead"
  · subst h6; rfl
  by_cases h7 : x = "same"
  · subst h7; rfl
  by_cases h8 : x = "apart"
  · subst h8; rfl
  rw [if_neg h1, if_neg h2, if_neg h3, if_neg h4, if_neg h5, if_neg h6, if_neg h7, if_neg h8]
  have ne : ∀ {y : Str}, ¬ x = y → decide ((Sum.inr y : Key) = .inr x) = false := fun h => decide_eq_false fun z => h (Sum.inr.inj z).symm
  unfold valD lawForms
  simp only [List.find?_cons, ne h1, ne h2, ne h3, ne h4, ne h5, ne h6, ne h7, ne h8, List.find?_nil]
  exact congrArg D.str (TL.ext_tl (by decide +kernel))
end LC
namespace LC
open PySem PySem.Spec
open PyProof.Rows L2
def thO : Option Th → D
  | none => .non
  | some t => t.d
theorem thO_pl {n : Nat} : ∀ u : Option Th, D.pl (thO u) (n + 1)
  | none => trivial
  | some (.num _) => trivial
  | some (.sgs ns) => by
    show D.pls (ns.map D.int) n
    induction ns with
    | nil => trivial
    | cons a l ih => exact ⟨trivial, ih⟩
  | some (.sg _) => trivial
theorem thOs_pl {n : Nat} : ∀ us : List (Option Th), D.pls (us.map thO) (n + 1)
  | [] => trivial
  | u :: us => ⟨thO_pl u, thOs_pl us⟩
theorem any_thO (x : Str) (us : List (Option Th)) : ((D.str x :: us.map thO).any fun y => D.eqd y .non) = us.any Option.isNone := by
  rw [List.any_cons, List.any_map]
  show (false || _) = _
  rw [Bool.false_or]
  congr 1
  funext u
  match u with
  | none => rfl
  | some (.num _) => rfl
  | some (.sgs _) => rfl
  | some (.sg _) => rfl
/-- what was read so far of a line's words -/
def ThAt (l wr : List Str) (us : List (Option Th)) : Prop := ∀ (j : Nat) (u : Option Th), us[j]? = some u → ∃ k w, l[j]? = some k ∧ wr[j]? = some w ∧ match u with
  | some t => thAs k w t
  | none => ¬ isTh k w
theorem ThAt.snoc {l wr : List Str} {us : List (Option Th)} {u : Option Th} {k w : Str} (h : ThAt l wr us) (hk : l[us.length]? = some k) (hw : wr[us.length]? = some w) (hu : match u with
  | some t => thAs k w t
  | none => ¬ isTh k w) : ThAt l wr (us ++ [u]) := fun j v hv => by
  rcases Nat.lt_trichotomy j us.length with c | c | c
  · rw [List.getElem?_append_left c] at hv
    exact h j v hv
  · subst c
    rw [List.getElem?_append_right (Nat.le_refl _), Nat.sub_self] at hv
    cases hv
    exact ⟨k, w, hk, hw, hu⟩
  · rw [List.getElem?_append_right (by omega)] at hv
    have : j - us.length ≠ 0 := by omega
    cases hq : j - us.length with
    | zero => exact absurd hq this
    | succ m => rw [hq] at hv; cases hv
theorem all_some : ∀ {us : List (Option Th)}, us.any Option.isNone = false → ∃ ts : List Th, us = ts.map some
  | [], _ => ⟨[], rfl⟩
  | none :: us, h => by cases h
  | some t :: us, h => by
    obtain ⟨ts, e⟩ := all_some (us := us) (by simpa using h)
    exact ⟨t :: ts, by rw [e]; rfl⟩
theorem ThAt.read {x : Str} {l wr : List Str} {ts : List Th} (h : ThAt l wr (ts.map some)) (hl : ts.length = l.length) (hll : l.length = wr.length) (hk : formK x = some l) : ∃ f : Fc, fineF f ∧ x :: wr = f.words ∧ f.d = .tup (.str x :: ts.map Th.d) := by
  have at_ : ∀ (j : Nat) (t : Th), ts[j]? = some t → l[j]? = some t.k ∧ t.fine ∧ wr[j]? = some t.w := fun j t ht => by
    obtain ⟨k, w, h1, h2, h3, h4, h5⟩ := h j (some t) (by rw [List.getElem?_map, ht]; rfl)
    exact ⟨by rw [h3]; exact h1, h4, by rw [h5]; exact h2⟩
  refine isFc_of hk ?_ ?_ fun t ht => ?_
  · refine List.ext_getElem? fun j => ?_
    rw [List.getElem?_map]
    cases e : ts[j]? with
    | none => rw [List.getElem?_eq_none (by have := List.getElem?_eq_none_iff.mp e; omega)]; rfl
    | some t => exact (at_ j t e).1.symm
  · refine List.ext_getElem? fun j => ?_
    rw [List.getElem?_map]
    cases e : ts[j]? with
    | none => rw [List.getElem?_eq_none (by have := List.getElem?_eq_none_iff.mp e; omega)]; rfl
    | some t => exact (at_ j t e).2.2.symm
  · obtain ⟨j, hj⟩ := List.getElem?_of_mem ht
    exact (at_ j t hj).2.1
theorem ThAt.bad {x : Str} {l wr : List Str} {us : List (Option Th)} (h : ThAt l wr us) (hn : us.any Option.isNone = true) (hk : formK x = some l) : ¬ isFc (x :: wr) := fun y => by
  obtain ⟨u, hu, e⟩ := List.any_eq_true.mp hn
  cases u with
  | some t => cases e
  | none =>
    obtain ⟨j, hj⟩ := List.getElem?_of_mem hu
    obtain ⟨k, w, h1, h2, h3⟩ := h j none hj
    obtain ⟨l', y1, y2, y3⟩ := isFc_at y
    rw [hk] at y1
    cases y1
    exact h3 (y3 j k w h1 h2)
theorem no_th {x : Str} {l wr : List Str} {j : Nat} {k w : Str} (hk : formK x = some l) (h1 : l[j]? = some k) (h2 : wr[j]? = some w) (h3 : ¬ isTh k w) : ¬ isFc (x :: wr) := fun y => by
  obtain ⟨l', y1, y2, y3⟩ := isFc_at y
  rw [hk] at y1
  cases y1
  exact h3 (y3 j k w h1 h2)
theorem formK_ok {x : Str} {l : List Str} (h : formK x = some l) : PyData.strOk x = true := by
  unfold formK at h
  repeat' split at h
  all_goals first | (subst_vars; decide +kernel) | cases h
end LC
namespace LC
open PySem PySem.Spec
open PyProof.Rows L2
section
variable {X : Cx} {B : Bs}
/-- split, the list numbered -/
def rmSplitM : QM := fun d ds S Q => match d, ds with
  | .str a, [.str b] => Need ((b.length == 0) = false ∧ a.length + 2 ≤ sizeLine) (Q (.ref S.length) (S ++ [.lst ((Txt.split a b).map D.str)]))
  | _, _ => False
theorem mm_splitM : MtR X "str.split" (upM X.K B rmSplitM) := MtR.imp mt_split fun x xs H Q ⟨φ, S, d, ds, Q', hr, r, rs, q, k⟩ => by
  unfold rmSplitM at q
  split at q
  · obtain ⟨v, w', rfl, r1, r2⟩ := rs
    cases r2; cases r1; cases r
    exact ⟨_, _, rfl, rfl, q.c.1, q.c.2, fun p hp => k.new (x := O.lst _) hr hp ⟨_, upd_same, .ofStrs⟩ q.q⟩
  · exact q.elim
end
end LC
namespace LC
open PySem PySem.Spec
open PyProof.Rows L2
/-- how long words are together, with a blank behind each -/
def wsum : List Str → Nat
  | [] => 0
  | w :: ws => w.length + 1 + wsum ws
theorem wsum_is : ∀ ws : List Str, (ws.map fun w : Str => w.length).sum + ws.length = wsum ws
  | [] => rfl
  | w :: ws => by
    have := wsum_is ws
    simp only [List.map_cons, List.sum_cons, List.length_cons, wsum]
    omega
theorem wsum_app : ∀ a b : List Str, wsum (a ++ b) = wsum a + wsum b
  | [], b => by simp [wsum]
  | w :: a, b => by
    have := wsum_app a b
    simp only [List.cons_append, wsum]
    omega
theorem wsum_drop : ∀ (n : Nat) (a : List Str), wsum (a.drop n) ≤ wsum a
  | 0, a => by simp
  | n + 1, [] => by simp
  | n + 1, w :: a => by
    have := wsum_drop n a
    simp only [List.drop_succ_cons, wsum]
    omega
theorem wsum_take : ∀ (n : Nat) (a : List Str), wsum (a.take n) ≤ wsum a
  | 0, a => by simp [wsum]
  | n + 1, [] => by simp
  | n + 1, w :: a => by
    have := wsum_take n a
    simp only [List.take_succ_cons, wsum]
    omega
theorem wsum_set (w : Str) : ∀ (n : Nat) (a : List Str), wsum (a.set n w) ≤ wsum a + w.length
  | _, [] => by simp [wsum]
  | 0, v :: a => by simp only [List.set_cons_zero, wsum]; omega
  | n + 1, v :: a => by
    have := wsum_set w n a
    simp only [List.set_cons_succ, wsum]
    omega
theorem wsum_mem {w : Str} : ∀ {a : List Str}, w ∈ a → w.length + 1 ≤ wsum a
  | v :: a, h => by
    rcases List.mem_cons.mp h with rfl | h
    · simp only [wsum]; omega
    · have := wsum_mem h
      simp only [wsum]; omega
theorem wsum_join (ws : List Str) : (Txt.join " " ws).length ≤ wsum ws := by
  have h := join_len " " ws
  have e : (" " : Str).length = 1 := by decide +kernel
  rw [e, Nat.mul_one] at h
  have := wsum_is ws
  omega
theorem wsum_need {ws : List Str} {n : Nat} (h : wsum ws ≤ 1000000) : (ws.map (·.length)).sum + ws.length * (" " : Str).length ≤ 16777216 := by
  have e : (" " : Str).length = 1 := by decide +kernel
  rw [e, Nat.mul_one]
  have := wsum_is ws
  omega
def cutW (ws : List Str) (lo hi : Option Int) : List Str := (ws.drop (HT.sIx ws.length 0 lo)).take (HT.sIx ws.length ws.length hi - HT.sIx ws.length 0 lo)
theorem cutW_D (ws : List Str) (lo hi : Option Int) : LC.cutD (ws.map D.str) lo hi = (cutW ws lo hi).map D.str := by
  unfold LC.cutD cutW
  rw [List.length_map, ← List.map_drop, ← List.map_take]
theorem cutW_sum (ws : List Str) (lo hi : Option Int) : wsum (cutW ws lo hi) ≤ wsum ws := Nat.le_trans (wsum_take _ _) (wsum_drop _ _)
theorem cutS_len (z : Str) (lo hi : Option Int) : (cutS z lo hi).length ≤ z.length := by
  show ((z.cps.toList.drop _).take _).toArray.size ≤ z.cps.size
  simp
  omega
theorem split_wsum (x : Str) : wsum (Txt.split x " ") ≤ x.length + 1 := by
  have := split_sum x blank_tl blank_kind
  rw [← wsum_is]
  exact this
end LC
namespace LC
open PySem PySem.Spec
open PyProof.Rows L2
theorem sh_words {f : Fc} {N : Nat} (h : ∀ w ∈ f.words, w.length ≤ N) : f.sh.length ≤ N := by
  cases f with
  | scrape p c sh =>
    have := h (strOf sh) (by simp [Fc.words, Fc.th, Th.w])
    rw [strOf_len] at this
    exact this
  | _ => exact Nat.zero_le _
theorem dsh_words {d : Dd} {N : Nat} (h : ∀ w ∈ d.words, w.length ≤ N) : d.sh ≤ N := by
  cases d with
  | tell f => exact sh_words (f := f) h
  | strike n => exact Nat.zero_le _
  | keep n => exact Nat.zero_le _
  | amend n f => exact sh_words (f := f) fun w hw => h w (List.mem_cons_of_mem _ (List.mem_cons_of_mem _ hw))
theorem Dd.dp2 {d : Dd} (h : d.sh ≤ 1000000) {n : Nat} : D.dp d.d (n + 3) := by
  cases d with
  | tell f => exact ⟨by show 2 ≤ 1000000; decide, trivial, Fc.dp f h, trivial⟩
  | strike n => exact ⟨by show 2 ≤ 1000000; decide, trivial, trivial, trivial⟩
  | keep n => exact ⟨by show 2 ≤ 1000000; decide, trivial, trivial, trivial⟩
  | amend n f => exact ⟨by show 3 ≤ 1000000; decide, trivial, trivial, Fc.dp f h, trivial⟩
end LC
namespace LC
open PySem PySem.Spec
open PyProof.Rows L2
theorem Dd.words_inj {d e : Dd} (hd : d.fine) (he : e.fine) (h : d.words = e.words) : d = e := by
  have nsk : ("strike" : Str) ≠ "keep" := by decide +kernel
  have nsa : ("strike" : Str) ≠ "amend" := by decide +kernel
  have nka : ("keep" : Str) ≠ "amend" := by decide +kernel
  cases d with
  | tell f =>
    cases e with
    | tell g => rw [Fc.words_inj hd he h]
    | strike n => injection h with h1 h2; exact absurd (.inl h1) (hd_sk f)
    | keep n => injection h with h1 h2; exact absurd (.inr h1) (hd_sk f)
    | amend n g => injection h with h1 h2; exact absurd h1 (hd_am f)
  | strike m =>
    cases e with
    | tell g => injection h with h1 h2; exact absurd (.inl h1.symm) (hd_sk g)
    | strike n => injection h with h1 h2; injection h2 with h3 h4; rw [numW_inj hd he h3]
    | keep n => injection h with h1 h2; exact absurd h1 nsk
    | amend n g => injection h with h1 h2; exact absurd h1 nsa
  | keep m =>
    cases e with
    | tell g => injection h with h1 h2; exact absurd (.inr h1.symm) (hd_sk g)
    | strike n => injection h with h1 h2; exact absurd h1.symm nsk
    | keep n => injection h with h1 h2; injection h2 with h3 h4; rw [numW_inj hd he h3]
    | amend n g => injection h with h1 h2; exact absurd h1 nka
  | amend m f =>
    cases e with
    | tell g => injection h with h1 h2; exact absurd h1.symm (hd_am g)
    | strike n => injection h with h1 h2; exact absurd h1.symm nsa
    | keep n => injection h with h1 h2; exact absurd h1.symm nka
    | amend n g =>
      injection h with h1 h2
      injection h2 with h3 h4
      rw [numW_inj hd.1 he.1 h3, Fc.words_inj hd.2 he.2 h4]
theorem Dd.d_tup (d : Dd) : ∃ xs, d.d = .tup xs := by cases d <;> exact ⟨_, rfl⟩
end LC

set_option Elab.async false
set_option linter.all false
set_option maxRecDepth 100000
set_option maxHeartbeats 5000000
/-! LD99: raise C(row=x) from n, while n is handled. -/
namespace LC
open PySem PySem.Spec PySem.HandSPX PySem.W
section
variable {prog : Program} {w : World} {A : Around} {E : Value → Shared → Prop} {R : Result → Shared → Prop} {h : Heap} {g : Array GenState} {d : Drawn} {t : Nat} {os : OsState}
variable {nm q : Str} {C N : Addr} {bs bm bmB : List Value} {hdct : Bool} {sn : List Str} {sub : List Value} {ab : Bool} {col : Option Bool} {dd : Option Addr} {k0 k1 k2 k3 k5 : Option Value} {B newId initId : String}
end
end LC
namespace LC
open PySem PySem.Spec PyProof.Rows L2 HotX
open L2H (FnH RoomH HotC suiteX Hot1 PMk5 PinOk)
end LC

set_option Elab.async false
set_option linter.all false
set_option maxRecDepth 100000
set_option maxHeartbeats 5000000
/-! LD100: try: .. except X as n: raise C(row=e) from n. -/
namespace LC
open PySem PySem.Spec
open PyProof.Rows L2
open L2H (FnH RoomH HotC suiteX Hot1)
section
variable {X : Cx} {B : Bs}
end
end LC

set_option Elab.async false
set_option linter.all false
set_option maxRecDepth 100000
set_option maxHeartbeats 5000000
/-! LD101: the web in plain words: groups, years, ways. -/
namespace LC
open PySem PySem.Spec
open PyProof.Rows L2
/-! ### groups -/
/-! ### years -/
/-! ### ways -/
end LC

set_option Elab.async false
set_option linter.all false
set_option maxRecDepth 100000
set_option maxHeartbeats 5000000
/-! LD102: rows of paintings, the stands along them, and where a coat is painted. -/
namespace LC
open PySem PySem.Spec
open PyProof.Rows L2
section
variable {fs : List (Int × Fc)} {row : List (List Int)}
end
end LC

set_option Elab.async false
set_option linter.all false
set_option maxRecDepth 100000
set_option maxHeartbeats 5000000
/-! LD103: tales: rows that some putting up and some years agree with; they are the rows that the web lets. -/
namespace LC
open PySem PySem.Spec
open PyProof.Rows L2
section
variable {fs : List (Int × Fc)} {b : Int} {row : List (List Int)}
/-! ### from a tale to the web -/
end
end LC

set_option Elab.async false
set_option linter.all false
set_option maxRecDepth 100000
set_option maxHeartbeats 5000000
/-! LD104: rows that the web lets are tales. -/
namespace LC
open PySem PySem.Spec
open PyProof.Rows L2
section
variable {fs : List (Int × Fc)} {b : Int} {row : List (List Int)}
end
end LC

set_option Elab.async false
set_option linter.all false
set_option maxRecDepth 100000
set_option maxHeartbeats 5000000
/-! LD105: where the web fits there are tales; what must be earlier is so in all of them. -/
namespace LC
open PySem PySem.Spec
open PyProof.Rows L2
section
variable {fs : List (Int × Fc)} {b : Int}
end
end LC

set_option Elab.async false
set_option linter.all false
set_option maxRecDepth 100000
set_option maxHeartbeats 5000000
/-! LD106: the law's look whether puttings up and movings can be laid between the paintings. -/
namespace LC
open PySem PySem.Spec
open PyProof.Rows L2
section
variable (lo : Ct → Int)
variable {lo : Ct → Int}
end
/-! ### parts that lie one on the other -/
end LC

set_option Elab.async false
set_option linter.all false
set_option maxRecDepth 100000
set_option maxHeartbeats 5000000
/-! LD107: the law's look at puttings up is right. -/
namespace LC
open PySem PySem.Spec
open PyProof.Rows L2
section
variable {fs : List (Int × Fc)} {b : Int} {row : List (List Int)}
end
end LC

set_option Elab.async false
set_option linter.all false
set_option maxRecDepth 100000
set_option maxHeartbeats 5000000
/-! LD108: the law's years of a row are right; a row is good by the law where it is a tale. -/
namespace LC
open PySem PySem.Spec
open PyProof.Rows L2
/-! ### years -/
section
variable {fs : List (Int × Fc)} {b : Int} {row : List (List Int)}
end
end LC

set_option Elab.async false
set_option linter.all false
set_option maxRecDepth 100000
set_option maxHeartbeats 5000000
namespace LW
open PySem PySem.Spec
open PyProof.Rows L2 LC
/-! ### places -/
def top (i : Nat) : Stmt := PySem.Challenge.pw_limecoat_k42_lines_read_or_refused.main.body.getD i (.Pass ⟨0, 0, 0, 0⟩)
abbrev s_read_coats : Stmt := top 9
abbrev s_read_number : Stmt := top 14
abbrev s_read_signs : Stmt := top 15
abbrev s_read_sign : Stmt := top 16
abbrev s_read_words : Stmt := top 18
abbrev s_read_fact : Stmt := top 19
abbrev s_read_deed : Stmt := top 20
abbrev s__law_open : Stmt := top 22
abbrev s__law_pull : Stmt := top 23
abbrev s__law_num : Stmt := top 24
abbrev s__law_like : Stmt := top 25
abbrev s__law_shades : Stmt := top 26
abbrev s__law_fact : Stmt := top 27
abbrev s__law_why : Stmt := top 28
abbrev s__law_fact_line : Stmt := top 29
abbrev s__law_deed_line : Stmt := top 30
abbrev s__law_wide_fact : Stmt := top 31
abbrev s__law_wide_deed : Stmt := top 32
abbrev s__law_number_in : Stmt := top 33
abbrev s__law_fact_in : Stmt := top 34
abbrev s__law_deed_in : Stmt := top 35
abbrev s__law_spoilt : Stmt := top 36
abbrev s__law_sign : Stmt := top 37
abbrev s__law_row_of : Stmt := top 38
abbrev s_law : Stmt := top 39
abbrev s_LimeError_init : Stmt := inClass (top 2) 0
abbrev s_BadCoat_init : Stmt := inClass (top 3) 0
abbrev s_BadShade_init : Stmt := inClass (top 4) 0
abbrev s_BadText_init : Stmt := inClass (top 5) 0
abbrev s_Coats_init : Stmt := inClass (top 8) 0
abbrev s_Coats_len : Stmt := inClass (top 8) 1
abbrev s_Coats_shade : Stmt := inClass (top 8) 5
theorem sc_read_coats : FnScope ["text", "sign"] ["text"] (defScope s_read_coats) := ⟨rfl, rfl, rfl, by decide +kernel, rfl, by decide +kernel, by decide +kernel⟩
theorem sc_read_number : FnScope ["word", "good", "sign"] ["word"] (defScope s_read_number) := ⟨rfl, rfl, rfl, by decide +kernel, rfl, by decide +kernel, by decide +kernel⟩
theorem sc_read_signs : FnScope ["word", "coats", "at"] ["word"] (defScope s_read_signs) := ⟨rfl, rfl, rfl, by decide +kernel, rfl, by decide +kernel, by decide +kernel⟩
theorem sc_read_sign : FnScope ["word", "shades"] ["word"] (defScope s_read_sign) := ⟨rfl, rfl, rfl, by decide +kernel, rfl, by decide +kernel, by decide +kernel⟩
theorem sc_read_words : FnScope ["words", "form", "e", "things", "kind", "word", "reader"] ["words"] (defScope s_read_words) := ⟨rfl, rfl, rfl, by decide +kernel, rfl, by decide +kernel, by decide +kernel⟩
theorem sc_read_fact : FnScope ["text"] ["text"] (defScope s_read_fact) := ⟨rfl, rfl, rfl, by decide +kernel, rfl, by decide +kernel, by decide +kernel⟩
theorem sc_read_deed : FnScope ["text", "words"] ["text"] (defScope s_read_deed) := ⟨rfl, rfl, rfl, by decide +kernel, rfl, by decide +kernel, by decide +kernel⟩
theorem sc__law_open : FnScope ["_law_script"] ["_law_script"] (defScope s__law_open) := ⟨rfl, rfl, rfl, by decide +kernel, rfl, by decide +kernel, by decide +kernel⟩
theorem sc__law_pull : FnScope ["_law_draw", "_law_many", "_law_cell", "_law_got"] ["_law_draw", "_law_many"] (defScope s__law_pull) := ⟨rfl, rfl, rfl, by decide +kernel, rfl, by decide +kernel, by decide +kernel⟩
theorem sc__law_num : FnScope ["_law_found"] ["_law_found"] (defScope s__law_num) := ⟨rfl, rfl, rfl, by decide +kernel, rfl, by decide +kernel, by decide +kernel⟩
theorem sc__law_like : FnScope ["_law_found", "_law_due", "_law_k"] ["_law_found", "_law_due"] (defScope s__law_like) := ⟨rfl, rfl, rfl, by decide +kernel, rfl, by decide +kernel, by decide +kernel⟩
theorem sc__law_shades : FnScope ["_law_draw", "_law_many", "_law_top", "_law_k"] ["_law_draw", "_law_many"] (defScope s__law_shades) := ⟨rfl, rfl, rfl, by decide +kernel, rfl, by decide +kernel, by decide +kernel⟩
theorem sc__law_fact : FnScope ["_law_draw", "_law_parts", "_law_most", "_law_word", "_law_part", "_law_coat", "_law_first", "_law_other", "_law_second"] ["_law_draw", "_law_parts", "_law_most"] (defScope s__law_fact) := ⟨rfl, rfl, rfl, by decide +kernel, rfl, by decide +kernel, by decide +kernel⟩
theorem sc__law_why : FnScope ["_law_ask", "_law_told", "_law_word", "e"] ["_law_ask"] (defScope s__law_why) := ⟨rfl, rfl, rfl, by decide +kernel, rfl, by decide +kernel, by decide +kernel⟩
theorem sc__law_fact_line : FnScope ["_law_fact_here", "_law_words", "_law_at", "_law_shade"] ["_law_fact_here"] (defScope s__law_fact_line) := ⟨rfl, rfl, rfl, by decide +kernel, rfl, by decide +kernel, by decide +kernel⟩
theorem sc__law_deed_line : FnScope ["_law_deed"] ["_law_deed"] (defScope s__law_deed_line) := ⟨rfl, rfl, rfl, by decide +kernel, rfl, by decide +kernel, by decide +kernel⟩
theorem sc__law_wide_fact : FnScope ["_law_draw", "_law_fact_here", "_law_wide", "_law_thing"] ["_law_draw"] (defScope s__law_wide_fact) := ⟨rfl, rfl, rfl, by decide +kernel, rfl, by decide +kernel, by decide +kernel⟩
theorem sc__law_wide_deed : FnScope ["_law_draw", "_law_way", "_law_number", "_law_fact_here"] ["_law_draw"] (defScope s__law_wide_deed) := ⟨rfl, rfl, rfl, by decide +kernel, rfl, by decide +kernel, by decide +kernel⟩
theorem sc__law_number_in : FnScope ["_law_word", "_law_sign_here"] ["_law_word"] (defScope s__law_number_in) := ⟨rfl, rfl, rfl, by decide +kernel, rfl, by decide +kernel, by decide +kernel⟩
theorem sc__law_fact_in : FnScope ["_law_words", "_law_forms", "_law_form", "_law_things", "_law_kind", "_law_word", "_law_shades_here", "_law_sign_here"] ["_law_words"] (defScope s__law_fact_in) := ⟨rfl, rfl, rfl, by decide +kernel, rfl, by decide +kernel, by decide +kernel⟩
theorem sc__law_deed_in : FnScope ["_law_line", "_law_words", "_law_number", "_law_fact_here"] ["_law_line"] (defScope s__law_deed_in) := ⟨rfl, rfl, rfl, by decide +kernel, rfl, by decide +kernel, by decide +kernel⟩
theorem sc__law_spoilt : FnScope ["_law_draw", "_law_text", "_law_at", "_law_signs", "_law_sign_here", "_law_words", "_law_one", "_law_way", "_law_odd"] ["_law_draw", "_law_text"] (defScope s__law_spoilt) := ⟨rfl, rfl, rfl, by decide +kernel, rfl, by decide +kernel, by decide +kernel⟩
theorem sc__law_sign : FnScope ["_law_shade"] ["_law_shade"] (defScope s__law_sign) := ⟨rfl, rfl, rfl, by decide +kernel, rfl, by decide +kernel, by decide +kernel⟩
theorem sc__law_row_of : FnScope ["_law_line", "_law_whole", "e"] ["_law_line", "_law_whole"] (defScope s__law_row_of) := ⟨rfl, rfl, rfl, by decide +kernel, rfl, by decide +kernel, by decide +kernel⟩
theorem sc_law : FnScope ["_law_script", "_law_draw", "_law_turn", "_law_line", "_law_bend", "_law_whole", "_law_due", "_law_found"] ["_law_script"] (defScope s_law) := ⟨rfl, rfl, rfl, by decide +kernel, rfl, by decide +kernel, by decide +kernel⟩
theorem sc_LimeError_init : FnScope ["self", "called"] ["self", "called"] (defScope s_LimeError_init) := ⟨rfl, rfl, rfl, by decide +kernel, rfl, by decide +kernel, by decide +kernel⟩
theorem sc_BadCoat_init : FnScope ["self"] ["self"] (defScope s_BadCoat_init) := ⟨rfl, rfl, rfl, by decide +kernel, rfl, by decide +kernel, by decide +kernel⟩
theorem sc_BadShade_init : FnScope ["self"] ["self"] (defScope s_BadShade_init) := ⟨rfl, rfl, rfl, by decide +kernel, rfl, by decide +kernel, by decide +kernel⟩
theorem sc_BadText_init : FnScope ["self", "row"] ["self", "row"] (defScope s_BadText_init) := ⟨rfl, rfl, rfl, by decide +kernel, rfl, by decide +kernel, by decide +kernel⟩
theorem sc_Coats_init : FnScope ["self", "shades", "shade"] ["self", "shades"] (defScope s_Coats_init) := ⟨rfl, rfl, rfl, by decide +kernel, rfl, by decide +kernel, by decide +kernel⟩
theorem sc_Coats_len : FnScope ["self"] ["self"] (defScope s_Coats_len) := ⟨rfl, rfl, rfl, by decide +kernel, rfl, by decide +kernel, by decide +kernel⟩
theorem sc_Coats_shade : FnScope ["self", "at"] ["self", "at"] (defScope s_Coats_shade) := ⟨rfl, rfl, rfl, by decide +kernel, rfl, by decide +kernel, by decide +kernel⟩
def dd_read_coats : He.DefD := ⟨("read_coats", none), "read_coats", "read_coats", defArgs s_read_coats, defBody s_read_coats, defScope s_read_coats, [], []⟩
def dd_read_number : He.DefD := ⟨("read_number", none), "read_number", "read_number", defArgs s_read_number, defBody s_read_number, defScope s_read_number, [], []⟩
def dd_read_signs : He.DefD := ⟨("read_signs", none), "read_signs", "read_signs", defArgs s_read_signs, defBody s_read_signs, defScope s_read_signs, [], []⟩
def dd_read_sign : He.DefD := ⟨("read_sign", none), "read_sign", "read_sign", defArgs s_read_sign, defBody s_read_sign, defScope s_read_sign, [], []⟩
def dd_read_words : He.DefD := ⟨("read_words", none), "read_words", "read_words", defArgs s_read_words, defBody s_read_words, defScope s_read_words, [], []⟩
def dd_read_fact : He.DefD := ⟨("read_fact", none), "read_fact", "read_fact", defArgs s_read_fact, defBody s_read_fact, defScope s_read_fact, [], []⟩
def dd_read_deed : He.DefD := ⟨("read_deed", none), "read_deed", "read_deed", defArgs s_read_deed, defBody s_read_deed, defScope s_read_deed, [], []⟩
def dd__law_open : He.DefD := ⟨("_law_open", none), "_law_open", "_law_open", defArgs s__law_open, defBody s__law_open, defScope s__law_open, [], []⟩
def dd__law_pull : He.DefD := ⟨("_law_pull", none), "_law_pull", "_law_pull", defArgs s__law_pull, defBody s__law_pull, defScope s__law_pull, [], []⟩
def dd__law_num : He.DefD := ⟨("_law_num", none), "_law_num", "_law_num", defArgs s__law_num, defBody s__law_num, defScope s__law_num, [], []⟩
def dd__law_like : He.DefD := ⟨("_law_like", none), "_law_like", "_law_like", defArgs s__law_like, defBody s__law_like, defScope s__law_like, [], []⟩
def dd__law_shades : He.DefD := ⟨("_law_shades", none), "_law_shades", "_law_shades", defArgs s__law_shades, defBody s__law_shades, defScope s__law_shades, [], []⟩
def dd__law_fact : He.DefD := ⟨("_law_fact", none), "_law_fact", "_law_fact", defArgs s__law_fact, defBody s__law_fact, defScope s__law_fact, [], []⟩
def dd__law_why : He.DefD := ⟨("_law_why", none), "_law_why", "_law_why", defArgs s__law_why, defBody s__law_why, defScope s__law_why, [], []⟩
def dd__law_fact_line : He.DefD := ⟨("_law_fact_line", none), "_law_fact_line", "_law_fact_line", defArgs s__law_fact_line, defBody s__law_fact_line, defScope s__law_fact_line, [], []⟩
def dd__law_deed_line : He.DefD := ⟨("_law_deed_line", none), "_law_deed_line", "_law_deed_line", defArgs s__law_deed_line, defBody s__law_deed_line, defScope s__law_deed_line, [], []⟩
def dd__law_wide_fact : He.DefD := ⟨("_law_wide_fact", none), "_law_wide_fact", "_law_wide_fact", defArgs s__law_wide_fact, defBody s__law_wide_fact, defScope s__law_wide_fact, [], []⟩
def dd__law_wide_deed : He.DefD := ⟨("_law_wide_deed", none), "_law_wide_deed", "_law_wide_deed", defArgs s__law_wide_deed, defBody s__law_wide_deed, defScope s__law_wide_deed, [], []⟩
def dd__law_number_in : He.DefD := ⟨("_law_number_in", none), "_law_number_in", "_law_number_in", defArgs s__law_number_in, defBody s__law_number_in, defScope s__law_number_in, [], []⟩
def dd__law_fact_in : He.DefD := ⟨("_law_fact_in", none), "_law_fact_in", "_law_fact_in", defArgs s__law_fact_in, defBody s__law_fact_in, defScope s__law_fact_in, [], []⟩
def dd__law_deed_in : He.DefD := ⟨("_law_deed_in", none), "_law_deed_in", "_law_deed_in", defArgs s__law_deed_in, defBody s__law_deed_in, defScope s__law_deed_in, [], []⟩
def dd__law_spoilt : He.DefD := ⟨("_law_spoilt", none), "_law_spoilt", "_law_spoilt", defArgs s__law_spoilt, defBody s__law_spoilt, defScope s__law_spoilt, [], []⟩
def dd__law_sign : He.DefD := ⟨("_law_sign", none), "_law_sign", "_law_sign", defArgs s__law_sign, defBody s__law_sign, defScope s__law_sign, [], []⟩
def dd__law_row_of : He.DefD := ⟨("_law_row_of", none), "_law_row_of", "_law_row_of", defArgs s__law_row_of, defBody s__law_row_of, defScope s__law_row_of, [], []⟩
def dd_law : He.DefD := ⟨("law", none), "law", "law", defArgs s_law, defBody s_law, defScope s_law, [], []⟩
def dd_LimeError_init : He.DefD := ⟨("LimeError", some "__init__"), "__init__", "LimeError.__init__", defArgs s_LimeError_init, defBody s_LimeError_init, defScope s_LimeError_init, [], []⟩
def dd_BadCoat_init : He.DefD := ⟨("BadCoat", some "__init__"), "__init__", "BadCoat.__init__", defArgs s_BadCoat_init, defBody s_BadCoat_init, defScope s_BadCoat_init, [], []⟩
def dd_BadShade_init : He.DefD := ⟨("BadShade", some "__init__"), "__init__", "BadShade.__init__", defArgs s_BadShade_init, defBody s_BadShade_init, defScope s_BadShade_init, [], []⟩
def dd_BadText_init : He.DefD := ⟨("BadText", some "__init__"), "__init__", "BadText.__init__", defArgs s_BadText_init, defBody s_BadText_init, defScope s_BadText_init, [.int 0], []⟩
def dd_Coats_init : He.DefD := ⟨("Coats", some "__init__"), "__init__", "Coats.__init__", defArgs s_Coats_init, defBody s_Coats_init, defScope s_Coats_init, [], []⟩
def dd_Coats_len : He.DefD := ⟨("Coats", some "__len__"), "__len__", "Coats.__len__", defArgs s_Coats_len, defBody s_Coats_len, defScope s_Coats_len, [], []⟩
def dd_Coats_shade : He.DefD := ⟨("Coats", some "shade"), "shade", "Coats.shade", defArgs s_Coats_shade, defBody s_Coats_shade, defScope s_Coats_shade, [], []⟩
def fns0 : List He.DefD := [dd_read_coats, dd_read_number, dd_read_signs, dd_read_sign, dd_read_words, dd_read_fact, dd_read_deed, dd__law_open, dd__law_pull, dd__law_num, dd__law_like, dd__law_shades, dd__law_fact, dd__law_why, dd__law_fact_line, dd__law_deed_line, dd__law_wide_fact, dd__law_wide_deed, dd__law_number_in, dd__law_fact_in, dd__law_deed_in, dd__law_spoilt, dd__law_sign, dd__law_row_of, dd_law, dd_LimeError_init, dd_BadCoat_init, dd_BadShade_init, dd_BadText_init, dd_Coats_init]
def fns1 : List He.DefD := [dd_Coats_len, dd_Coats_shade]
def fns : List He.DefD := fns0 ++ (fns1)
def tabs_ : List He.Tab := [(fun K => He.ga K "FORMS", ["scrape", "cover", "moved", "year", "sold", "ahead", "same", "apart"]), (fun K => He.ga K "READERS", ["number", "signs", "sign"])]
def tfs : List He.Defn := [("law", none)]
def fxs0 : List (PySem.W.Frag → Bool) := [fun K => (He.Fa.glo "read_coats").ok K, fun K => (He.Fa.glo "read_number").ok K, fun K => (He.Fa.glo "read_signs").ok K, fun K => (He.Fa.glo "read_sign").ok K, fun K => (He.Fa.glo "read_words").ok K, fun K => (He.Fa.glo "read_fact").ok K, fun K => (He.Fa.glo "read_deed").ok K, fun K => (He.Fa.glo "_law_open").ok K, fun K => (He.Fa.glo "_law_pull").ok K, fun K => (He.Fa.glo "_law_num").ok K, fun K => (He.Fa.glo "_law_like").ok K, fun K => (He.Fa.glo "_law_shades").ok K, fun K => (He.Fa.glo "_law_fact").ok K, fun K => (He.Fa.glo "_law_why").ok K, fun K => (He.Fa.glo "_law_fact_line").ok K, fun K => (He.Fa.glo "_law_deed_line").ok K, fun K => (He.Fa.glo "_law_wide_fact").ok K, fun K => (He.Fa.glo "_law_wide_deed").ok K, fun K => (He.Fa.glo "_law_number_in").ok K, fun K => (He.Fa.glo "_law_fact_in").ok K, fun K => (He.Fa.glo "_law_deed_in").ok K, fun K => (He.Fa.glo "_law_spoilt").ok K, fun K => (He.Fa.glo "_law_sign").ok K, fun K => (He.Fa.glo "_law_row_of").ok K, fun K => (He.Fa.glo "law").ok K, fun K => He.eqO (PySem.W.findIn K (.ref (He.ga K "LimeError")) "__init__") (some (some (.ref (He.ma K (He.ga K "LimeError") "__init__")))), fun K => decide (PySem.W.typeIn K (.ref (He.ma K (He.ga K "LimeError") "__init__")) = some (.type "function")), fun K => He.eqO (PySem.W.findIn K (.ref (He.ga K "BadCoat")) "__init__") (some (some (.ref (He.ma K (He.ga K "BadCoat") "__init__")))), fun K => decide (PySem.W.typeIn K (.ref (He.ma K (He.ga K "BadCoat") "__init__")) = some (.type "function")), fun K => He.eqO (PySem.W.findIn K (.ref (He.ga K "BadShade")) "__init__") (some (some (.ref (He.ma K (He.ga K "BadShade") "__init__"))))]
def fxs1 : List (PySem.W.Frag → Bool) := [fun K => decide (PySem.W.typeIn K (.ref (He.ma K (He.ga K "BadShade") "__init__")) = some (.type "function")), fun K => He.eqO (PySem.W.findIn K (.ref (He.ga K "BadText")) "__init__") (some (some (.ref (He.ma K (He.ga K "BadText") "__init__")))), fun K => decide (PySem.W.typeIn K (.ref (He.ma K (He.ga K "BadText") "__init__")) = some (.type "function")), fun K => (He.Fa.meth "Coats" "__init__").ok K, fun K => (He.Fa.meth "Coats" "__len__").ok K, fun K => (He.Fa.meth "Coats" "shade").ok K, fun K => (He.Fa.glo "LimeError").ok K, fun K => (He.Fa.glo "BadCoat").ok K, fun K => (He.Fa.glo "BadShade").ok K, fun K => (He.Fa.glo "BadText").ok K, fun K => (He.Fa.glo "Coats").ok K, fun K => isoB K (He.ga K "Coats"), fun K => (He.Fa.mkr "Coats").ok K, fun K => (He.Fa.noat "Coats" "seen").ok K, fun K => decide (PySem.W.findIn K (.ref (He.ga K "Coats")) "__format__" = some (some (.builtin "object.__format__"))), fun K => decide (PySem.W.mroIn K (He.ga K "Coats") (.type "object") = some true), fun K => L2.xfB K (He.ga K "BadCoat"), fun K => (He.Fa.noat "BadCoat" "called").ok K, fun K => (He.Fa.exm "BadCoat" "LimeError" true).ok K, fun K => (He.Fa.exm "BadCoat" "BadCoat" true).ok K, fun K => L2.xfB K (He.ga K "BadShade"), fun K => (He.Fa.noat "BadShade" "called").ok K, fun K => (He.Fa.exm "BadShade" "LimeError" true).ok K, fun K => (He.Fa.exm "BadShade" "BadShade" true).ok K, fun K => L2.xfB K (He.ga K "BadText"), fun K => (He.Fa.noat "BadText" "called").ok K, fun K => (He.Fa.exm "BadText" "LimeError" true).ok K, fun K => (He.Fa.exm "BadText" "BadText" true).ok K, fun K => (He.Fa.noat "BadText" "row").ok K, fun K => (He.Fa.free "KeyError").ok K]
def fxs2 : List (PySem.W.Frag → Bool) := [fun K => (He.Fa.free "ValueError").ok K, fun K => (He.Fa.free "all").ok K, fun K => (He.Fa.free "bool").ok K, fun K => (He.Fa.free "int").ok K, fun K => (He.Fa.free "isinstance").ok K, fun K => (He.Fa.free "len").ok K, fun K => (He.Fa.free "list").ok K, fun K => (He.Fa.free "min").ok K, fun K => (He.Fa.free "range").ok K, fun K => (He.Fa.free "str").ok K, fun K => (He.Fa.free "tuple").ok K, fun K => (He.Fa.free "zip").ok K, fun K => (He.Fa.glo "FORMS").ok K, fun K => dctB K (He.ga K "FORMS") [("scrape", .kt [.str "number", .str "number", .str "signs"]), ("cover", .kt [.str "number", .str "number", .str "number"]), ("moved", .kt [.str "number", .str "number", .str "number", .str "number"]), ("year", .kt [.str "number", .str "number", .str "number", .str "number"]), ("sold", .kt [.str "sign", .str "number"]), ("ahead", .kt [.str "number", .str "number", .str "number", .str "number"]), ("same", .kt [.str "number", .str "number", .str "number", .str "number"]), ("apart", .kt [.str "number", .str "number", .str "number", .str "number"])], fun K => (He.Fa.glo "READERS").ok K, fun K => dctB K (He.ga K "READERS") [("number", .adr (He.ga K "read_number")), ("signs", .adr (He.ga K "read_signs")), ("sign", .adr (He.ga K "read_sign"))], fun K => (He.Fa.str "SIGNS" "?abcdef").ok K, fun K => (He.Fa.str "FIGURES" "0123456789").ok K, fun K => (He.Fa.int "MOST_FIGURES" 4).ok K, fun K => oexB K (He.ga K "BadCoat"), fun K => oexB K (He.ga K "BadShade"), fun K => oexB K (He.ga K "BadText"), fun K => valC K (.type "ValueError") (.type "type") "__init__" (.builtin "ValueError.__init__"), fun K => PySem.W.readsIn K (He.ga K "LimeError") (.type "type"), fun K => He.eqO (PySem.W.specialIn K (.ref (He.ga K "LimeError")) "__getattribute__") (some (some (.builtin "type.__getattribute__"))), fun K => valC K (.ref (He.ga K "LimeError")) (.type "type") "__init__" (.ref (He.ma K (He.ga K "LimeError") "__init__"))]
def fxs : List (PySem.W.Frag → Bool) := fxs0 ++ (fxs1 ++ (fxs2))
def exB (K : PySem.W.Frag) : Bool := fxs.all fun f => f K
def ass0 : List Addr := [3, 2, 6, 21, 20, 38, 37, 35, 34, 58, 57, 55, 54, 77, 76, 74, 73, 97, 96, 94, 93, 87, 162, 161, 111, 110, 118, 117, 125, 124]
def ass1 : List Addr := [130, 129, 137, 136, 144, 143, 151, 150, 159, 158, 152, 171, 170, 172, 173, 174, 175, 176, 177, 178, 179, 180, 185, 184, 190, 189, 197, 196, 198, 205]
def ass2 : List Addr := [204, 212, 211, 219, 218, 226, 225, 233, 232, 240, 239, 245, 244, 250, 249, 257, 256, 264, 263, 269, 268, 276, 275, 281, 280, 288, 287, 293, 292, 298]
def ass3 : List Addr := [297, 305, 304, 312, 311, 319, 318, 326, 325, 333, 332]
def ass : List Addr := ass0 ++ (ass1 ++ (ass2 ++ (ass3)))
abbrev hk : PySem.W.Hook := LC.hookZ ass fns tabs_ tfs exB
def obs_ (s : PySem.W.SharedT) : He.AlX := LC.obsZ ass fns tabs_ tfs exB (HandSHeadRun.getT s)
theorem obs_eq (s : PySem.W.SharedT) : obs_ s = hk.obs s.abs := LC.obsZ_eq ass fns tabs_ tfs exB (HandSHeadRun.getT_eq s)
def names0 : List PySem.Str := ["_wall", "__name__", "LimeError", "BadCoat", "BadShade", "BadText", "SIGNS", "Coats", "read_coats", "FIGURES", "MOST_FIGURES", "FORMS", "read_number", "read_signs", "read_sign", "READERS", "read_words", "read_fact", "read_deed", "_law_open", "_law_pull", "_law_num", "_law_like", "_law_shades", "_law_fact", "_law_why", "_law_fact_line", "_law_deed_line", "_law_wide_fact", "_law_wide_deed"]
def names1 : List PySem.Str := ["_law_number_in", "_law_fact_in", "_law_deed_in", "_law_spoilt", "_law_sign", "_law_row_of"]
def names : List PySem.Str := names0 ++ (names1)
abbrev RowL_ : PySem.W.OpenRow := PySem.W.OpenLaw.row PySem.Challenge.rw_limecoat_k42_lines_read_or_refused
abbrev ViewL_ : Program := PySem.W.view RowL_.prog [39]
theorem runA_f (w : World) : LC.RunA RowL_ ViewL_ 14000 names (w.withFollow "special-get-raises" false) := by intro os; kernel_rfl
theorem runA_t (w : World) : LC.RunA RowL_ ViewL_ 14000 names (w.withFollow "special-get-raises" true) := by intro os; kernel_rfl
theorem runA (w : World) : LC.RunA RowL_ ViewL_ 14000 names w := PySem.W.byRow2 "special-get-raises" (P := (fun w => LC.RunA RowL_ ViewL_ 14000 names w)) runA_f runA_t w
def RunD (w : World) : Prop := ∀ os : OsState, (HandSHeadRun.endF (HandSHeadRun.stepQ (HandSHeadRun.denQ HandSHeadRun.tabQ) RowL_.prog w) 14000 RowL_.prog w os).map (fun s => He.obsT [] fns tabs_ (He.frT (HandSHeadRun.getT s) ass)) = some (He.valT fns tabs_ w)
theorem runD_f (w : World) : RunD (w.withFollow "special-get-raises" false) := by intro os; kernel_rfl
theorem runD_t (w : World) : RunD (w.withFollow "special-get-raises" true) := by intro os; kernel_rfl
theorem runD (w : World) : RunD w := PySem.W.byRow2 "special-get-raises" (P := RunD) runD_f runD_t w
def RunX (w : World) : Prop := ∀ os : OsState, (HandSHeadRun.endF (HandSHeadRun.stepQ (HandSHeadRun.denQ HandSHeadRun.tabQ) RowL_.prog w) 14000 RowL_.prog w os).map (fun s => exB (He.frT (HandSHeadRun.getT s) ass) && He.tabsB (HandSHeadRun.getT s) tfs (He.frT (HandSHeadRun.getT s) ass)) = some true
theorem runX_f (w : World) : RunX (w.withFollow "special-get-raises" false) := by intro os; kernel_rfl
theorem runX_t (w : World) : RunX (w.withFollow "special-get-raises" true) := by intro os; kernel_rfl
theorem runX (w : World) : RunX w := PySem.W.byRow2 "special-get-raises" (P := RunX) runX_f runX_t w
theorem runB (w : World) : LC.RunB RowL_ hk obs_ 14000 w := LC.runB_of (runD w) (runX w)
theorem run (w : World) : HandSHeadRun.RunEq RowL_ ViewL_ hk obs_ 14000 names w := LC.run_both (runA w) (runB w)
/-- where all stands -/
structure Ad where
  a_read_coats : Addr
  d_read_coats : FuncData
  a_read_number : Addr
  d_read_number : FuncData
  a_read_signs : Addr
  d_read_signs : FuncData
  a_read_sign : Addr
  d_read_sign : FuncData
  a_read_words : Addr
  d_read_words : FuncData
  a_read_fact : Addr
  d_read_fact : FuncData
  a_read_deed : Addr
  d_read_deed : FuncData
  a__law_open : Addr
  d__law_open : FuncData
  a__law_pull : Addr
  d__law_pull : FuncData
  a__law_num : Addr
  d__law_num : FuncData
  a__law_like : Addr
  d__law_like : FuncData
  a__law_shades : Addr
  d__law_shades : FuncData
  a__law_fact : Addr
  d__law_fact : FuncData
  a__law_why : Addr
  d__law_why : FuncData
  a__law_fact_line : Addr
  d__law_fact_line : FuncData
  a__law_deed_line : Addr
  d__law_deed_line : FuncData
  a__law_wide_fact : Addr
  d__law_wide_fact : FuncData
  a__law_wide_deed : Addr
  d__law_wide_deed : FuncData
  a__law_number_in : Addr
  d__law_number_in : FuncData
  a__law_fact_in : Addr
  d__law_fact_in : FuncData
  a__law_deed_in : Addr
  d__law_deed_in : FuncData
  a__law_spoilt : Addr
  d__law_spoilt : FuncData
  a__law_sign : Addr
  d__law_sign : FuncData
  a__law_row_of : Addr
  d__law_row_of : FuncData
  a_law : Addr
  d_law : FuncData
  a_LimeError_init : Addr
  d_LimeError_init : FuncData
  a_BadCoat_init : Addr
  d_BadCoat_init : FuncData
  a_BadShade_init : Addr
  d_BadShade_init : FuncData
  a_BadText_init : Addr
  d_BadText_init : FuncData
  a_Coats_init : Addr
  d_Coats_init : FuncData
  a_Coats_len : Addr
  d_Coats_len : FuncData
  a_Coats_shade : Addr
  d_Coats_shade : FuncData
  c_LimeError : Addr
  c_BadCoat : Addr
  c_BadShade : Addr
  c_BadText : Addr
  c_Coats : Addr
  v_FORMS : Addr
  v_READERS : Addr
  code : Addr
  tab : Addr
abbrev T0of (a : Ad) : List (Addr × Str) := [(a.tab, "law.<locals>." ++ "<lambda>")]
structure Txt (K : PySem.W.Frag) (w : World) (mg : Str → Option Value) (a : Ad) : Prop where
  F_read_coats : Fun K "read_coats" "read_coats" s_read_coats a.a_read_coats a.d_read_coats
  b_read_coats : Binds K a.d_read_coats ["text"] []
  m_read_coats : mg "read_coats" = some (.ref a.a_read_coats)
  F_read_number : Fun K "read_number" "read_number" s_read_number a.a_read_number a.d_read_number
  b_read_number : Binds K a.d_read_number ["word"] []
  m_read_number : mg "read_number" = some (.ref a.a_read_number)
  F_read_signs : Fun K "read_signs" "read_signs" s_read_signs a.a_read_signs a.d_read_signs
  b_read_signs : Binds K a.d_read_signs ["word"] []
  m_read_signs : mg "read_signs" = some (.ref a.a_read_signs)
  F_read_sign : Fun K "read_sign" "read_sign" s_read_sign a.a_read_sign a.d_read_sign
  b_read_sign : Binds K a.d_read_sign ["word"] []
  m_read_sign : mg "read_sign" = some (.ref a.a_read_sign)
  F_read_words : Fun K "read_words" "read_words" s_read_words a.a_read_words a.d_read_words
  b_read_words : Binds K a.d_read_words ["words"] []
  m_read_words : mg "read_words" = some (.ref a.a_read_words)
  F_read_fact : Fun K "read_fact" "read_fact" s_read_fact a.a_read_fact a.d_read_fact
  b_read_fact : Binds K a.d_read_fact ["text"] []
  m_read_fact : mg "read_fact" = some (.ref a.a_read_fact)
  F_read_deed : Fun K "read_deed" "read_deed" s_read_deed a.a_read_deed a.d_read_deed
  b_read_deed : Binds K a.d_read_deed ["text"] []
  m_read_deed : mg "read_deed" = some (.ref a.a_read_deed)
  F__law_open : Fun K "_law_open" "_law_open" s__law_open a.a__law_open a.d__law_open
  b__law_open : Binds K a.d__law_open ["_law_script"] []
  m__law_open : mg "_law_open" = some (.ref a.a__law_open)
  F__law_pull : Fun K "_law_pull" "_law_pull" s__law_pull a.a__law_pull a.d__law_pull
  b__law_pull : Binds K a.d__law_pull ["_law_draw", "_law_many"] []
  m__law_pull : mg "_law_pull" = some (.ref a.a__law_pull)
  F__law_num : Fun K "_law_num" "_law_num" s__law_num a.a__law_num a.d__law_num
  b__law_num : Binds K a.d__law_num ["_law_found"] []
  m__law_num : mg "_law_num" = some (.ref a.a__law_num)
  F__law_like : Fun K "_law_like" "_law_like" s__law_like a.a__law_like a.d__law_like
  b__law_like : Binds K a.d__law_like ["_law_found", "_law_due"] []
  m__law_like : mg "_law_like" = some (.ref a.a__law_like)
  F__law_shades : Fun K "_law_shades" "_law_shades" s__law_shades a.a__law_shades a.d__law_shades
  b__law_shades : Binds K a.d__law_shades ["_law_draw", "_law_many"] []
  m__law_shades : mg "_law_shades" = some (.ref a.a__law_shades)
  F__law_fact : Fun K "_law_fact" "_law_fact" s__law_fact a.a__law_fact a.d__law_fact
  b__law_fact : Binds K a.d__law_fact ["_law_draw", "_law_parts", "_law_most"] []
  m__law_fact : mg "_law_fact" = some (.ref a.a__law_fact)
  F__law_why : Fun K "_law_why" "_law_why" s__law_why a.a__law_why a.d__law_why
  b__law_why : Binds K a.d__law_why ["_law_ask"] []
  m__law_why : mg "_law_why" = some (.ref a.a__law_why)
  F__law_fact_line : Fun K "_law_fact_line" "_law_fact_line" s__law_fact_line a.a__law_fact_line a.d__law_fact_line
  b__law_fact_line : Binds K a.d__law_fact_line ["_law_fact_here"] []
  m__law_fact_line : mg "_law_fact_line" = some (.ref a.a__law_fact_line)
  F__law_deed_line : Fun K "_law_deed_line" "_law_deed_line" s__law_deed_line a.a__law_deed_line a.d__law_deed_line
  b__law_deed_line : Binds K a.d__law_deed_line ["_law_deed"] []
  m__law_deed_line : mg "_law_deed_line" = some (.ref a.a__law_deed_line)
  F__law_wide_fact : Fun K "_law_wide_fact" "_law_wide_fact" s__law_wide_fact a.a__law_wide_fact a.d__law_wide_fact
  b__law_wide_fact : Binds K a.d__law_wide_fact ["_law_draw"] []
  m__law_wide_fact : mg "_law_wide_fact" = some (.ref a.a__law_wide_fact)
  F__law_wide_deed : Fun K "_law_wide_deed" "_law_wide_deed" s__law_wide_deed a.a__law_wide_deed a.d__law_wide_deed
  b__law_wide_deed : Binds K a.d__law_wide_deed ["_law_draw"] []
  m__law_wide_deed : mg "_law_wide_deed" = some (.ref a.a__law_wide_deed)
  F__law_number_in : Fun K "_law_number_in" "_law_number_in" s__law_number_in a.a__law_number_in a.d__law_number_in
  b__law_number_in : Binds K a.d__law_number_in ["_law_word"] []
  m__law_number_in : mg "_law_number_in" = some (.ref a.a__law_number_in)
  F__law_fact_in : Fun K "_law_fact_in" "_law_fact_in" s__law_fact_in a.a__law_fact_in a.d__law_fact_in
  b__law_fact_in : Binds K a.d__law_fact_in ["_law_words"] []
  m__law_fact_in : mg "_law_fact_in" = some (.ref a.a__law_fact_in)
  F__law_deed_in : Fun K "_law_deed_in" "_law_deed_in" s__law_deed_in a.a__law_deed_in a.d__law_deed_in
  b__law_deed_in : Binds K a.d__law_deed_in ["_law_line"] []
  m__law_deed_in : mg "_law_deed_in" = some (.ref a.a__law_deed_in)
  F__law_spoilt : Fun K "_law_spoilt" "_law_spoilt" s__law_spoilt a.a__law_spoilt a.d__law_spoilt
  b__law_spoilt : Binds K a.d__law_spoilt ["_law_draw", "_law_text"] []
  m__law_spoilt : mg "_law_spoilt" = some (.ref a.a__law_spoilt)
  F__law_sign : Fun K "_law_sign" "_law_sign" s__law_sign a.a__law_sign a.d__law_sign
  b__law_sign : Binds K a.d__law_sign ["_law_shade"] []
  m__law_sign : mg "_law_sign" = some (.ref a.a__law_sign)
  F__law_row_of : Fun K "_law_row_of" "_law_row_of" s__law_row_of a.a__law_row_of a.d__law_row_of
  b__law_row_of : Binds K a.d__law_row_of ["_law_line", "_law_whole"] []
  m__law_row_of : mg "_law_row_of" = some (.ref a.a__law_row_of)
  F_law : FunC K "law" "law" s_law a.a_law a.d_law a.code
  b_law : Binds K a.d_law ["_law_script"] []
  m_law : mg "law" = some (.ref a.a_law)
  F_LimeError_init : Fun K "__init__" "LimeError.__init__" s_LimeError_init a.a_LimeError_init a.d_LimeError_init
  b_LimeError_init : Binds K a.d_LimeError_init ["self", "called"] []
  i_LimeError_init : PySem.W.findIn K (.ref a.c_LimeError) "__init__" = some (some (.ref a.a_LimeError_init))
  t_LimeError_init : PySem.W.typeIn K (.ref a.a_LimeError_init) = some (.type "function")
  F_BadCoat_init : Fun K "__init__" "BadCoat.__init__" s_BadCoat_init a.a_BadCoat_init a.d_BadCoat_init
  b_BadCoat_init : Binds K a.d_BadCoat_init ["self"] []
  i_BadCoat_init : PySem.W.findIn K (.ref a.c_BadCoat) "__init__" = some (some (.ref a.a_BadCoat_init))
  t_BadCoat_init : PySem.W.typeIn K (.ref a.a_BadCoat_init) = some (.type "function")
  F_BadShade_init : Fun K "__init__" "BadShade.__init__" s_BadShade_init a.a_BadShade_init a.d_BadShade_init
  b_BadShade_init : Binds K a.d_BadShade_init ["self"] []
  i_BadShade_init : PySem.W.findIn K (.ref a.c_BadShade) "__init__" = some (some (.ref a.a_BadShade_init))
  t_BadShade_init : PySem.W.typeIn K (.ref a.a_BadShade_init) = some (.type "function")
  F_BadText_init : L2.FunD K "__init__" "BadText.__init__" (defArgs s_BadText_init) (defBody s_BadText_init) (defScope s_BadText_init) [V.int 0] [] a.a_BadText_init a.d_BadText_init
  i_BadText_init : PySem.W.findIn K (.ref a.c_BadText) "__init__" = some (some (.ref a.a_BadText_init))
  t_BadText_init : PySem.W.typeIn K (.ref a.a_BadText_init) = some (.type "function")
  F_Coats_init : Fun K "__init__" "Coats.__init__" s_Coats_init a.a_Coats_init a.d_Coats_init
  b_Coats_init : Binds K a.d_Coats_init ["self", "shades"] []
  i_Coats_init : Meth K a.c_Coats "__init__" a.a_Coats_init
  F_Coats_len : Fun K "__len__" "Coats.__len__" s_Coats_len a.a_Coats_len a.d_Coats_len
  b_Coats_len : Binds K a.d_Coats_len ["self"] []
  i_Coats_len : Meth K a.c_Coats "__len__" a.a_Coats_len
  F_Coats_shade : Fun K "shade" "Coats.shade" s_Coats_shade a.a_Coats_shade a.d_Coats_shade
  b_Coats_shade : Binds K a.d_Coats_shade ["self", "at"] []
  i_Coats_shade : Meth K a.c_Coats "shade" a.a_Coats_shade
  k_LimeError : mg "LimeError" = some (.ref a.c_LimeError)
  k_BadCoat : mg "BadCoat" = some (.ref a.c_BadCoat)
  k_BadShade : mg "BadShade" = some (.ref a.c_BadShade)
  k_BadText : mg "BadText" = some (.ref a.c_BadText)
  k_Coats : mg "Coats" = some (.ref a.c_Coats)
  o_Coats : IsO K a.c_Coats
  mk_Coats : Mk K a.c_Coats a.a_Coats_init
  na_Coats_seen : NoAttr K a.c_Coats "seen"
  fm_Coats : FmC K a.c_Coats
  xf_BadCoat : XfC K a.c_BadCoat
  nc_BadCoat : PySem.W.findIn K (.ref a.c_BadCoat) "called" = some none
  ex_BadCoat : PySem.W.exmOne K (.ref a.c_BadCoat) (.ref a.c_LimeError) = some true
  es_BadCoat : PySem.W.exmOne K (.ref a.c_BadCoat) (.ref a.c_BadCoat) = some true
  xf_BadShade : XfC K a.c_BadShade
  nc_BadShade : PySem.W.findIn K (.ref a.c_BadShade) "called" = some none
  ex_BadShade : PySem.W.exmOne K (.ref a.c_BadShade) (.ref a.c_LimeError) = some true
  es_BadShade : PySem.W.exmOne K (.ref a.c_BadShade) (.ref a.c_BadShade) = some true
  xf_BadText : XfC K a.c_BadText
  nc_BadText : PySem.W.findIn K (.ref a.c_BadText) "called" = some none
  ex_BadText : PySem.W.exmOne K (.ref a.c_BadText) (.ref a.c_LimeError) = some true
  es_BadText : PySem.W.exmOne K (.ref a.c_BadText) (.ref a.c_BadText) = some true
  nf_BadText_row : PySem.W.findIn K (.ref a.c_BadText) "row" = some none
  n_KeyError : mg "KeyError" = none
  n_ValueError : mg "ValueError" = none
  n_all : mg "all" = none
  n_bool : mg "bool" = none
  n_int : mg "int" = none
  n_isinstance : mg "isinstance" = none
  n_len : mg "len" = none
  n_list : mg "list" = none
  n_min : mg "min" = none
  n_range : mg "range" = none
  n_str : mg "str" = none
  n_tuple : mg "tuple" = none
  n_zip : mg "zip" = none
  gm_FORMS : mg "FORMS" = some (.ref a.v_FORMS)
  kd_FORMS : DctK K w.params a.v_FORMS [("scrape", .kt [.str "number", .str "number", .str "signs"]), ("cover", .kt [.str "number", .str "number", .str "number"]), ("moved", .kt [.str "number", .str "number", .str "number", .str "number"]), ("year", .kt [.str "number", .str "number", .str "number", .str "number"]), ("sold", .kt [.str "sign", .str "number"]), ("ahead", .kt [.str "number", .str "number", .str "number", .str "number"]), ("same", .kt [.str "number", .str "number", .str "number", .str "number"]), ("apart", .kt [.str "number", .str "number", .str "number", .str "number"])]
  gm_READERS : mg "READERS" = some (.ref a.v_READERS)
  kd_READERS : DctK K w.params a.v_READERS [("number", .adr a.a_read_number), ("signs", .adr a.a_read_signs), ("sign", .adr a.a_read_sign)]
  g_SIGNS : GlD K mg "SIGNS" (.str "?abcdef")
  g_FIGURES : GlD K mg "FIGURES" (.str "0123456789")
  g_MOST_FIGURES : GlD K mg "MOST_FIGURES" (.int 4)
section
variable {P : Program} {w : World} {K : PySem.W.Frag} {mg : Str → Option Value} {base : Heap} {a : Ad}
def sp_Coats_init (a : Ad) : SpI := fun ds Q E => ∃ (d : D), ds = [d] ∧ ∃ ns : List Int, (d = .lst (ns.map D.int) ∨ d = .tup (ns.map D.int)) ∧ ns.length < 1000000 ∧ (goodN ns → Q [("seen", .tup (ns.map D.int))]) ∧ (¬ goodN ns → E a.c_BadShade [("called", .str "badshade")])
theorem pure_Coats_init {a : Ad} : PureI (sp_Coats_init a) := by
  rintro ds Q E ⟨d, rfl, ns, h1, h2, h3, h4⟩
  refine ⟨⟨by rcases h1 with rfl | rfl <;> exact D.lts_ints ns, trivial⟩, d, rfl, ns, h1, h2, fun g => ⟨⟨D.lts_ints ns, trivial⟩, h3 g⟩, fun g => ⟨⟨trivial, trivial⟩, h4 g⟩⟩
theorem good_all (ns : List Int) : (ns.map fun z => decide (0 ≤ z) && decide (z < 7)).all id = decide (goodN ns) := by
  rw [List.all_map, Bool.eq_iff_iff, List.all_eq_true]
  constructor
  · intro h
    refine decide_eq_true fun z hz => ?_
    have := h z hz
    simp at this
    omega
  · intro h z hz
    have := of_decide_eq_true h z hz
    simp
    omega
theorem ok_Coats_init (T : Txt K w mg a) (Z_BadShade : XcD P w K mg base "BadShade" a.c_BadShade a.a_BadShade_init a.d_BadShade_init ["self"] 0 (fl0 "badshade") (fd0 "badshade") [] []) : MkX P w K mg base 4 "Coats" a.c_Coats a.a_Coats_init a.d_Coats_init ["self", "shades"] (sp_Coats_init a) [] [] := by
  refine ⟨pure_Coats_init, T.mk_Coats, fn_I T.F_Coats_init sc_Coats_init (by (intro ds Q E h; first | (obtain ⟨h, _⟩ := h; subst h; rfl) | (obtain ⟨_, h, _⟩ := h; subst h; rfl) | (obtain ⟨_, _, h, _⟩ := h; subst h; rfl) | (obtain ⟨_, _, _, h, _⟩ := h; subst h; rfl) | (obtain ⟨_, _, _, _, h, _⟩ := h; subst h; rfl) | (obtain ⟨_, _, _, _, _, h, _⟩ := h; subst h; rfl))) fun cdv A outer s H E φ T0 W' room wl => ⟨_, (lss_cons (ls_if (lt_not (lt_truth (le_callB (cc_all rfl) rfl T.n_all (by rfl) (la_cons (le_lc false [("shade", 2)] (.nm 2) rfl sc_Coats_init.nd (li_any (lv 1)) (by (conv => { arg 1; whnf }); (conv => { arg 2; whnf }); exact ⟨rfl, by decide +kernel, by decide +kernel, by decide +kernel, by decide +kernel⟩) (fun _ _ _ _ _ => (tg_nm 2 sc_Coats_init.nd)) (fun _ _ _ _ _ => lts_nil) (fun _ _ _ _ _ => (le_chain oo_le oo_lt le_int (lv 2) (le_callB cc_len rfl T.n_len (by rfl) (la_cons (T.g_SIGNS.le rfl) la_nil))))) la_nil)))) (lss_cons (ls_rz0 Z_BadShade rfl (room.mono (by decide)) (takes_of rfl rfl rfl rfl) wl)
    lss_nil) lss_nil)
    (lss_consW [0, 1] (ls_fldC (C := a.c_Coats) T.o_Coats.is.cl T.na_Coats_seen (lv 0) (le_callTy cc_tuple rfl T.n_tuple (by rfl) (la_cons (lv 1) la_nil)))
    lss_nil)), fun ds S R X n h hW => ?_⟩, T.k_Coats, ⟨[], .nil, T.b_Coats_init⟩, RVc.nil⟩
  obtain ⟨r, Q, E, h, rfl, rfl, rfl, rfl, rfl⟩ := h
  subst hW
  obtain ⟨d, rfl, ns, hd, hn, h1, h2⟩ := h
  conv => whnf
  refine any_at (fun R' h => h) (xs := ns.map D.int) (fun S' => by rcases hd with rfl | rfl <;> rfl) fun keep hk => ?_
  refine lc_map (fun d => match d with | .int z => .bl (decide (0 ≤ z) && decide (z < 7)) | _ => .non) (by rw [List.length_map]; exact Nat.lt_trans hn (by decide)) (fun _ => hk _) ?_ ?_
  · intro i x acc hi
    obtain ⟨z, hz, rfl⟩ := int_at hi
    refine ⟨_, rfl, trivial, fun R r => ?_⟩
    conv => whnf
    repeat (refine Need.mk ?_ ?_; exact nd; conv => whnf)
    refine lif (fun hc => ?_) (fun hc => ?_)
    · conv => whnf
      repeat (refine Need.mk ?_ ?_; exact nd; conv => whnf)
      have hc : decide (0 ≤ z) = true := hc
      exact Eq.mp (by simp only [hc]; rfl) r
    · conv => whnf
      repeat (refine Need.mk ?_ ?_; exact nd; conv => whnf)
      have hc : decide (0 ≤ z) = false := hc
      exact Eq.mp (by simp only [hc]; rfl) r
  · conv => whnf
    repeat (refine Need.mk ?_ ?_; exact nd; conv => whnf)
    rw [List.map_map]
    refine optI (asBs_map (fun z => decide (0 ≤ z) && decide (z < 7)) ns) ?_
    conv => whnf
    repeat (refine Need.mk ?_ ?_; exact nd; conv => whnf)
    rw [good_all]
    refine bnd (fun hg => ?_) (fun hg => ?_)
    · rcases hd with rfl | rfl
      · conv => whnf
        repeat (refine Need.mk ?_ ?_; exact nd; conv => whnf)
        exact ⟨rfl, rfl, _, rfl, RsL.same ⟨D.lts_ints ns, trivial⟩, h1 hg⟩
      · conv => whnf
        repeat (refine Need.mk ?_ ?_; exact nd; conv => whnf)
        exact ⟨rfl, rfl, _, rfl, RsL.same ⟨D.lts_ints ns, trivial⟩, h1 hg⟩
    · conv => whnf
      repeat (refine Need.mk ?_ ?_; exact nd; conv => whnf)
      exact ⟨_, rfl, RsL.same ⟨trivial, trivial⟩, h2 hg⟩
def sp_read_coats (a : Ad) : SpP := fun ds Q E => ∃ x : Str, ds = [.str x] ∧ x.length < 1000000 ∧ (goodS x → Q (cts a.c_Coats (ixs x))) ∧ (¬ goodS x → E a.c_BadText [("row", .int 0), ("called", .str "badtext")])
theorem good_allS (x : Str) : (x.cps.toList.map fun c => decide (c ∈ ("?abcdef" : Str).cps.toList)).all id = decide (goodS x) := by
  rw [List.all_map, Bool.eq_iff_iff, SG_is, List.all_eq_true]
  constructor
  · intro h
    refine decide_eq_true fun z hz => ?_
    have := h z hz
    simpa using this
  · intro h z hz
    have := of_decide_eq_true h z hz
    simpa using this
theorem ok_read_coats (T : Txt K w mg a) (Z_BadText : XcD P w K mg base "BadText" a.c_BadText a.a_BadText_init a.d_BadText_init ["self", "row"] 1 (fl1 "badtext" "row") (fd1 "badtext" "row") [V.int 0] [D.int 0]) (I_Coats : MkX P w K mg base 4 "Coats" a.c_Coats a.a_Coats_init a.d_Coats_init ["self", "shades"] (sp_Coats_init a) [] []) : Fx P w K mg base 6 a.a_read_coats a.d_read_coats "read_coats" ["text"] (lp (sp_read_coats a)) := by
  refine ⟨fn_P T.F_read_coats sc_read_coats (by (intro ds Q E h; first | (obtain ⟨h, hr⟩ := h; subst h; (try (obtain ⟨_, hr⟩ := hr)); (try (obtain ⟨_, hr⟩ := hr)); (try (obtain ⟨_, hr⟩ := hr)); (try (obtain ⟨_, hr⟩ := hr)); (all_goals exact ⟨rfl, by (repeat' (first | trivial | exact webD_lt | exact mvsD_lt _ | exact ctsD_lt _ | exact dcD_lts rdD_lt | exact dcD_lts seenV_lt | exact dcD_lts ctsD_lt | exact prs_lt' _ | exact prps_lt _ | exact pr_lt _ | exact Nd.lt _ | exact dcD_lts ndsD_lt | exact dcD_lts pr_lt | exact lmD_lt | exact Ev.lt | exact evs_lt _ | exact itDs_lt _ | exact prs_lt _ | exact Wld.lt | exact rows_lt | exact deeds_lt | exact pasts_lt | exact D.lts_ints _ | exact D.lts_strs _ | exact Fc.lt | exact Dd.lt | exact fcs_lt _ | exact nfs_lt _ | exact nf_lt | exact D.pl.lt (by assumption) | exact D.dp.lt (by assumption) | exact D.dps.lt (by assumption) | exact D.pls.lt (by assumption) | assumption | refine ⟨?_, ?_⟩))⟩)) | (obtain ⟨_, h, hr⟩ := h; subst h; (try (obtain ⟨_, hr⟩ := hr)); (try (obtain ⟨_, hr⟩ := hr)); (try (obtain ⟨_, hr⟩ := hr)); (try (obtain ⟨_, hr⟩ := hr)); (all_goals exact ⟨rfl, by (repeat' (first | trivial | exact webD_lt | exact mvsD_lt _ | exact ctsD_lt _ | exact dcD_lts rdD_lt | exact dcD_lts seenV_lt | exact dcD_lts ctsD_lt | exact prs_lt' _ | exact prps_lt _ | exact pr_lt _ | exact Nd.lt _ | exact dcD_lts ndsD_lt | exact dcD_lts pr_lt | exact lmD_lt | exact Ev.lt | exact evs_lt _ | exact itDs_lt _ | exact prs_lt _ | exact Wld.lt | exact rows_lt | exact deeds_lt | exact pasts_lt | exact D.lts_ints _ | exact D.lts_strs _ | exact Fc.lt | exact Dd.lt | exact fcs_lt _ | exact nfs_lt _ | exact nf_lt | exact D.pl.lt (by assumption) | exact D.dp.lt (by assumption) | exact D.dps.lt (by assumption) | exact D.pls.lt (by assumption) | assumption | refine ⟨?_, ?_⟩))⟩)) | (obtain ⟨_, _, h, hr⟩ := h; subst h; (try (obtain ⟨_, hr⟩ := hr)); (try (obtain ⟨_, hr⟩ := hr)); (try (obtain ⟨_, hr⟩ := hr)); (try (obtain ⟨_, hr⟩ := hr)); (all_goals exact ⟨rfl, by (repeat' (first | trivial | exact webD_lt | exact mvsD_lt _ | exact ctsD_lt _ | exact dcD_lts rdD_lt | exact dcD_lts seenV_lt | exact dcD_lts ctsD_lt | exact prs_lt' _ | exact prps_lt _ | exact pr_lt _ | exact Nd.lt _ | exact dcD_lts ndsD_lt | exact dcD_lts pr_lt | exact lmD_lt | exact Ev.lt | exact evs_lt _ | exact itDs_lt _ | exact prs_lt _ | exact Wld.lt | exact rows_lt | exact deeds_lt | exact pasts_lt | exact D.lts_ints _ | exact D.lts_strs _ | exact Fc.lt | exact Dd.lt | exact fcs_lt _ | exact nfs_lt _ | exact nf_lt | exact D.pl.lt (by assumption) | exact D.dp.lt (by assumption) | exact D.dps.lt (by assumption) | exact D.pls.lt (by assumption) | assumption | refine ⟨?_, ?_⟩))⟩)) | (obtain ⟨_, _, _, h, hr⟩ := h; subst h; (try (obtain ⟨_, hr⟩ := hr)); (try (obtain ⟨_, hr⟩ := hr)); (try (obtain ⟨_, hr⟩ := hr)); (try (obtain ⟨_, hr⟩ := hr)); (all_goals exact ⟨rfl, by (repeat' (first | trivial | exact webD_lt | exact mvsD_lt _ | exact ctsD_lt _ | exact dcD_lts rdD_lt | exact dcD_lts seenV_lt | exact dcD_lts ctsD_lt | exact prs_lt' _ | exact prps_lt _ | exact pr_lt _ | exact Nd.lt _ | exact dcD_lts ndsD_lt | exact dcD_lts pr_lt | exact lmD_lt | exact Ev.lt | exact evs_lt _ | exact itDs_lt _ | exact prs_lt _ | exact Wld.lt | exact rows_lt | exact deeds_lt | exact pasts_lt | exact D.lts_ints _ | exact D.lts_strs _ | exact Fc.lt | exact Dd.lt | exact fcs_lt _ | exact nfs_lt _ | exact nf_lt | exact D.pl.lt (by assumption) | exact D.dp.lt (by assumption) | exact D.dps.lt (by assumption) | exact D.pls.lt (by assumption) | assumption | refine ⟨?_, ?_⟩))⟩)) | (obtain ⟨_, _, _, _, h, hr⟩ := h; subst h; (try (obtain ⟨_, hr⟩ := hr)); (try (obtain ⟨_, hr⟩ := hr)); (try (obtain ⟨_, hr⟩ := hr)); (try (obtain ⟨_, hr⟩ := hr)); (all_goals exact ⟨rfl, by (repeat' (first | trivial | exact webD_lt | exact mvsD_lt _ | exact ctsD_lt _ | exact dcD_lts rdD_lt | exact dcD_lts seenV_lt | exact dcD_lts ctsD_lt | exact prs_lt' _ | exact prps_lt _ | exact pr_lt _ | exact Nd.lt _ | exact dcD_lts ndsD_lt | exact dcD_lts pr_lt | exact lmD_lt | exact Ev.lt | exact evs_lt _ | exact itDs_lt _ | exact prs_lt _ | exact Wld.lt | exact rows_lt | exact deeds_lt | exact pasts_lt | exact D.lts_ints _ | exact D.lts_strs _ | exact Fc.lt | exact Dd.lt | exact fcs_lt _ | exact nfs_lt _ | exact nf_lt | exact D.pl.lt (by assumption) | exact D.dp.lt (by assumption) | exact D.dps.lt (by assumption) | exact D.pls.lt (by assumption) | assumption | refine ⟨?_, ?_⟩))⟩)) | (obtain ⟨_, _, _, _, _, h, hr⟩ := h; subst h; (try (obtain ⟨_, hr⟩ := hr)); (try (obtain ⟨_, hr⟩ := hr)); (try (obtain ⟨_, hr⟩ := hr)); (try (obtain ⟨_, hr⟩ := hr)); (all_goals exact ⟨rfl, by (repeat' (first | trivial | exact webD_lt | exact mvsD_lt _ | exact ctsD_lt _ | exact dcD_lts rdD_lt | exact dcD_lts seenV_lt | exact dcD_lts ctsD_lt | exact prs_lt' _ | exact prps_lt _ | exact pr_lt _ | exact Nd.lt _ | exact dcD_lts ndsD_lt | exact dcD_lts pr_lt | exact lmD_lt | exact Ev.lt | exact evs_lt _ | exact itDs_lt _ | exact prs_lt _ | exact Wld.lt | exact rows_lt | exact deeds_lt | exact pasts_lt | exact D.lts_ints _ | exact D.lts_strs _ | exact Fc.lt | exact Dd.lt | exact fcs_lt _ | exact nfs_lt _ | exact nf_lt | exact D.pl.lt (by assumption) | exact D.dp.lt (by assumption) | exact D.dps.lt (by assumption) | exact D.pls.lt (by assumption) | assumption | refine ⟨?_, ?_⟩))⟩)) | (obtain ⟨h, _⟩ := h; exact (by simp at h)))) fun cdv A outer s H E φ T0 W' room wl => ⟨_, (lss_cons (ls_if (lt_not (lt_truth (le_callB (cc_all rfl) rfl T.n_all (by rfl) (la_cons (le_lc false [("sign", 1)] (.nm 1) rfl sc_read_coats.nd (li_str (lv 0)) (by (conv => { arg 1; whnf }); (conv => { arg 2; whnf }); exact ⟨rfl, by decide +kernel, by decide +kernel, by decide +kernel, by decide +kernel⟩) (fun _ _ _ _ _ => (tg_nm 1 sc_read_coats.nd)) (fun _ _ _ _ _ => lts_nil) (fun _ _ _ _ _ => (le_cmp oo_in (lv 1) (T.g_SIGNS.le rfl) (by rfl)))) la_nil)))) (lss_cons (ls_rz0 Z_BadText rfl (room.mono (by decide)) (takes_of rfl rfl rfl rfl) wl)
    lss_nil) lss_nil)
    (lss_cons (ls_ret (le_mk I_Coats (room.mono (by decide)) (takes_of rfl rfl rfl rfl) wl (la_cons (le_lc false [("sign", 1)] (.nm 1) rfl sc_read_coats.nd (li_str (lv 0)) (by (conv => { arg 1; whnf }); (conv => { arg 2; whnf }); exact ⟨rfl, by decide +kernel, by decide +kernel, by decide +kernel, by decide +kernel⟩) (fun _ _ _ _ _ => (tg_nm 1 sc_read_coats.nd)) (fun _ _ _ _ _ => lts_nil) (fun _ _ _ _ _ => (le_bm PySem.F.plainAttrs_str PySem.F.slot_str_index PySem.F.type_str_index mm_sindex (T.g_SIGNS.le rfl) (la_cons (lv 1) la_nil)))) la_nil)))
    lss_nil)), fun ds S R X n h hW => ?_⟩, T.m_read_coats, T.F_read_coats.kp, T.b_read_coats⟩
  obtain ⟨Q, E, h, rfl, rfl, rfl, rfl⟩ := h
  subst hW
  obtain ⟨x, rfl, hx, h1, h2⟩ := h
  conv => whnf
  repeat (refine Need.mk ?_ ?_; exact nd; conv => whnf)
  refine lc_map (fun d => match d with | .str ⟨⟨[c]⟩⟩ => .bl (decide (c ∈ ("?abcdef" : Str).cps.toList)) | _ => .non) (by rw [signs_len]; exact Nat.lt_trans hx (by decide)) (fun _ => trivial) ?_ ?_
  · intro i d acc hi
    obtain ⟨c, hc, rfl⟩ := str_at hi
    refine ⟨_, rfl, trivial, fun R r => ?_⟩
    conv => whnf
    repeat (refine Need.mk ?_ ?_; exact nd; conv => whnf)
    exact r
  · conv => whnf
    repeat (refine Need.mk ?_ ?_; exact nd; conv => whnf)
    unfold LC.signs
    rw [List.map_map]
    refine optI (asBs_map (fun c => decide (c ∈ ("?abcdef" : Str).cps.toList)) x.cps.toList) ?_
    conv => whnf
    repeat (refine Need.mk ?_ ?_; exact nd; conv => whnf)
    rw [good_allS]
    refine bnd (fun hg => ?_) (fun hg => ?_)
    · conv => whnf
      repeat (refine Need.mk ?_ ?_; exact nd; conv => whnf)
      refine lc_map (fun d => match d with | .str ⟨⟨[c]⟩⟩ => .int (ixS c) | _ => .non) (by rw [signs_len]; exact Nat.lt_trans hx (by decide)) (fun _ => trivial) ?_ ?_
      · intro i d acc hi
        obtain ⟨c, hc, rfl⟩ := str_at hi
        obtain ⟨r', hr'⟩ := occ_SG (hg c (List.mem_of_getElem? hc))
        refine ⟨_, rfl, trivial, fun R r => ?_⟩
        conv => whnf
        repeat (refine Need.mk ?_ ?_; exact nd; conv => whnf)
        rw [hr']
        exact r
      · conv => whnf
        repeat (refine Need.mk ?_ ?_; exact nd; conv => whnf)
        unfold LC.signs
        rw [List.map_map]
        refine ⟨_, rfl, ixs x, .inl ?_, ?_, fun _ => ?_, fun hn => absurd (ixs_good hg) hn⟩
        · unfold ixs; rw [List.map_map]; rfl
        · unfold ixs; rw [List.length_map]; exact hx
        conv => whnf
        repeat (refine Need.mk ?_ ?_; exact nd; conv => whnf)
        exact Rp (h1 hg) ⟨D.lts_ints _, trivial⟩
    · conv => whnf
      repeat (refine Need.mk ?_ ?_; exact nd; conv => whnf)
      exact Xp (h2 hg) ⟨trivial, trivial, trivial⟩
def sp_read_number (a : Ad) : SpP := fun ds Q E => ∃ w : Str, ds = [.str w] ∧ w.length ≤ 100000 ∧ (∀ n, num4 n → w = numW n → Q (.int n)) ∧ (¬ isNum w → E a.c_BadText [("row", .int 0), ("called", .str "badtext")])
theorem ok_read_number (T : Txt K w mg a) (Z_BadText : XcD P w K mg base "BadText" a.c_BadText a.a_BadText_init a.d_BadText_init ["self", "row"] 1 (fl1 "badtext" "row") (fd1 "badtext" "row") [V.int 0] [D.int 0]) : Fx P w K mg base 4 a.a_read_number a.d_read_number "read_number" ["word"] (lp (sp_read_number a)) := by
  refine ⟨fn_P T.F_read_number sc_read_number (by (intro ds Q E h; first | (obtain ⟨h, hr⟩ := h; subst h; (try (obtain ⟨_, hr⟩ := hr)); (try (obtain ⟨_, hr⟩ := hr)); (try (obtain ⟨_, hr⟩ := hr)); (try (obtain ⟨_, hr⟩ := hr)); (all_goals exact ⟨rfl, by (repeat' (first | trivial | exact webD_lt | exact mvsD_lt _ | exact ctsD_lt _ | exact dcD_lts rdD_lt | exact dcD_lts seenV_lt | exact dcD_lts ctsD_lt | exact prs_lt' _ | exact prps_lt _ | exact pr_lt _ | exact Nd.lt _ | exact dcD_lts ndsD_lt | exact dcD_lts pr_lt | exact lmD_lt | exact Ev.lt | exact evs_lt _ | exact itDs_lt _ | exact prs_lt _ | exact Wld.lt | exact rows_lt | exact deeds_lt | exact pasts_lt | exact D.lts_ints _ | exact D.lts_strs _ | exact Fc.lt | exact Dd.lt | exact fcs_lt _ | exact nfs_lt _ | exact nf_lt | exact D.pl.lt (by assumption) | exact D.dp.lt (by assumption) | exact D.dps.lt (by assumption) | exact D.pls.lt (by assumption) | assumption | refine ⟨?_, ?_⟩))⟩)) | (obtain ⟨_, h, hr⟩ := h; subst h; (try (obtain ⟨_, hr⟩ := hr)); (try (obtain ⟨_, hr⟩ := hr)); (try (obtain ⟨_, hr⟩ := hr)); (try (obtain ⟨_, hr⟩ := hr)); (all_goals exact ⟨rfl, by (repeat' (first | trivial | exact webD_lt | exact mvsD_lt _ | exact ctsD_lt _ | exact dcD_lts rdD_lt | exact dcD_lts seenV_lt | exact dcD_lts ctsD_lt | exact prs_lt' _ | exact prps_lt _ | exact pr_lt _ | exact Nd.lt _ | exact dcD_lts ndsD_lt | exact dcD_lts pr_lt | exact lmD_lt | exact Ev.lt | exact evs_lt _ | exact itDs_lt _ | exact prs_lt _ | exact Wld.lt | exact rows_lt | exact deeds_lt | exact pasts_lt | exact D.lts_ints _ | exact D.lts_strs _ | exact Fc.lt | exact Dd.lt | exact fcs_lt _ | exact nfs_lt _ | exact nf_lt | exact D.pl.lt (by assumption) | exact D.dp.lt (by assumption) | exact D.dps.lt (by assumption) | exact D.pls.lt (by assumption) | assumption | refine ⟨?_, ?_⟩))⟩)) | (obtain ⟨_, _, h, hr⟩ := h; subst h; (try (obtain ⟨_, hr⟩ := hr)); (try (obtain ⟨_, hr⟩ := hr)); (try (obtain ⟨_, hr⟩ := hr)); (try (obtain ⟨_, hr⟩ := hr)); (all_goals exact ⟨rfl, by (repeat' (first | trivial | exact webD_lt | exact mvsD_lt _ | exact ctsD_lt _ | exact dcD_lts rdD_lt | exact dcD_lts seenV_lt | exact dcD_lts ctsD_lt | exact prs_lt' _ | exact prps_lt _ | exact pr_lt _ | exact Nd.lt _ | exact dcD_lts ndsD_lt | exact dcD_lts pr_lt | exact lmD_lt | exact Ev.lt | exact evs_lt _ | exact itDs_lt _ | exact prs_lt _ | exact Wld.lt | exact rows_lt | exact deeds_lt | exact pasts_lt | exact D.lts_ints _ | exact D.lts_strs _ | exact Fc.lt | exact Dd.lt | exact fcs_lt _ | exact nfs_lt _ | exact nf_lt | exact D.pl.lt (by assumption) | exact D.dp.lt (by assumption) | exact D.dps.lt (by assumption) | exact D.pls.lt (by assumption) | assumption | refine ⟨?_, ?_⟩))⟩)) | (obtain ⟨_, _, _, h, hr⟩ := h; subst h; (try (obtain ⟨_, hr⟩ := hr)); (try (obtain ⟨_, hr⟩ := hr)); (try (obtain ⟨_, hr⟩ := hr)); (try (obtain ⟨_, hr⟩ := hr)); (all_goals exact ⟨rfl, by (repeat' (first | trivial | exact webD_lt | exact mvsD_lt _ | exact ctsD_lt _ | exact dcD_lts rdD_lt | exact dcD_lts seenV_lt | exact dcD_lts ctsD_lt | exact prs_lt' _ | exact prps_lt _ | exact pr_lt _ | exact Nd.lt _ | exact dcD_lts ndsD_lt | exact dcD_lts pr_lt | exact lmD_lt | exact Ev.lt | exact evs_lt _ | exact itDs_lt _ | exact prs_lt _ | exact Wld.lt | exact rows_lt | exact deeds_lt | exact pasts_lt | exact D.lts_ints _ | exact D.lts_strs _ | exact Fc.lt | exact Dd.lt | exact fcs_lt _ | exact nfs_lt _ | exact nf_lt | exact D.pl.lt (by assumption) | exact D.dp.lt (by assumption) | exact D.dps.lt (by assumption) | exact D.pls.lt (by assumption) | assumption | refine ⟨?_, ?_⟩))⟩)) | (obtain ⟨_, _, _, _, h, hr⟩ := h; subst h; (try (obtain ⟨_, hr⟩ := hr)); (try (obtain ⟨_, hr⟩ := hr)); (try (obtain ⟨_, hr⟩ := hr)); (try (obtain ⟨_, hr⟩ := hr)); (all_goals exact ⟨rfl, by (repeat' (first | trivial | exact webD_lt | exact mvsD_lt _ | exact ctsD_lt _ | exact dcD_lts rdD_lt | exact dcD_lts seenV_lt | exact dcD_lts ctsD_lt | exact prs_lt' _ | exact prps_lt _ | exact pr_lt _ | exact Nd.lt _ | exact dcD_lts ndsD_lt | exact dcD_lts pr_lt | exact lmD_lt | exact Ev.lt | exact evs_lt _ | exact itDs_lt _ | exact prs_lt _ | exact Wld.lt | exact rows_lt | exact deeds_lt | exact pasts_lt | exact D.lts_ints _ | exact D.lts_strs _ | exact Fc.lt | exact Dd.lt | exact fcs_lt _ | exact nfs_lt _ | exact nf_lt | exact D.pl.lt (by assumption) | exact D.dp.lt (by assumption) | exact D.dps.lt (by assumption) | exact D.pls.lt (by assumption) | assumption | refine ⟨?_, ?_⟩))⟩)) | (obtain ⟨_, _, _, _, _, h, hr⟩ := h; subst h; (try (obtain ⟨_, hr⟩ := hr)); (try (obtain ⟨_, hr⟩ := hr)); (try (obtain ⟨_, hr⟩ := hr)); (try (obtain ⟨_, hr⟩ := hr)); (all_goals exact ⟨rfl, by (repeat' (first | trivial | exact webD_lt | exact mvsD_lt _ | exact ctsD_lt _ | exact dcD_lts rdD_lt | exact dcD_lts seenV_lt | exact dcD_lts ctsD_lt | exact prs_lt' _ | exact prps_lt _ | exact pr_lt _ | exact Nd.lt _ | exact dcD_lts ndsD_lt | exact dcD_lts pr_lt | exact lmD_lt | exact Ev.lt | exact evs_lt _ | exact itDs_lt _ | exact prs_lt _ | exact Wld.lt | exact rows_lt | exact deeds_lt | exact pasts_lt | exact D.lts_ints _ | exact D.lts_strs _ | exact Fc.lt | exact Dd.lt | exact fcs_lt _ | exact nfs_lt _ | exact nf_lt | exact D.pl.lt (by assumption) | exact D.dp.lt (by assumption) | exact D.dps.lt (by assumption) | exact D.pls.lt (by assumption) | assumption | refine ⟨?_, ?_⟩))⟩)) | (obtain ⟨h, _⟩ := h; exact (by simp at h)))) fun cdv A outer s H E φ T0 W' room wl => ⟨_, (lss_cons (ls_set 1 (le_and (le_chain oo_le oo_le le_int (le_callB cc_len rfl T.n_len (by rfl) (la_cons (lv 0) la_nil)) (T.g_MOST_FIGURES.le rfl)) (le_one (le_callB (cc_all rfl) rfl T.n_all (by rfl) (la_cons (le_lc false [("sign", 2)] (.nm 2) rfl sc_read_number.nd (li_str (lv 0)) (by (conv => { arg 1; whnf }); (conv => { arg 2; whnf }); exact ⟨rfl, by decide +kernel, by decide +kernel, by decide +kernel, by decide +kernel⟩) (fun _ _ _ _ _ => (tg_nm 2 sc_read_number.nd)) (fun _ _ _ _ _ => lts_nil) (fun _ _ _ _ _ => (le_cmp oo_in (lv 2) (T.g_FIGURES.le rfl) (by rfl)))) la_nil)))) sc_read_number.nd)
    (lss_consW [1] (ls_if (LW.t (lw_or (lt_not (lt_truth (lv 1))) (lw_or1 (LW.t (lw_and (lt_cmp (oo_ne room.units) (lv 0) le_str (by rfl)) (lw_and1 (lt_truth (le_bm PySem.F.plainAttrs_str PySem.F.slot_str_startswith PySem.F.type_str_startswith mm_starts (lv 0) (la_cons le_str la_nil))))))))) (lss_cons (ls_rz0 Z_BadText rfl (room.mono (by decide)) (takes_of rfl rfl rfl rfl) wl)
    lss_nil) lss_nil)
    (lss_cons (ls_ret (le_callTy cc_int rfl T.n_int (by rfl) (la_cons (lv 0) la_nil)))
    lss_nil))), fun ds S R X n h hW => ?_⟩, T.m_read_number, T.F_read_number.kp, T.b_read_number⟩
  obtain ⟨Q, E, h, rfl, rfl, rfl, rfl⟩ := h
  subst hW
  obtain ⟨w, rfl, hl, h1, h2⟩ := h
  have z24 : (100002 : Nat) ≤ sizeLine := by decide
  conv => whnf
  repeat (refine Need.mk ?_ ?_; exact nd; conv => whnf)
  refine Need.mk (by omega) ?_
  conv => whnf
  repeat (refine Need.mk ?_ ?_; exact nd; conv => whnf)
  refine brd (fun g1 => ?_) (fun g1 => ?_)
  · conv => whnf
    repeat (refine Need.mk ?_ ?_; exact nd; conv => whnf)
    refine brd (fun g2 => ?_) (fun g2 => ?_)
    · conv => whnf
      repeat (refine Need.mk ?_ ?_; exact nd; conv => whnf)
      refine lc_map (fun d => match d with | .str ⟨⟨[c]⟩⟩ => .bl (decide (c ∈ ("0123456789" : Str).cps.toList)) | _ => .non) (by rw [signs_len]; exact ltN (by omega)) (fun _ => trivial) ?_ ?_
      · intro i d acc hi
        obtain ⟨c, hc, rfl⟩ := str_at hi
        refine ⟨_, rfl, trivial, fun R r => ?_⟩
        conv => whnf
        repeat (refine Need.mk ?_ ?_; exact nd; conv => whnf)
        exact r
      conv => whnf
      repeat (refine Need.mk ?_ ?_; exact nd; conv => whnf)
      unfold LC.signs
      rw [List.map_map]
      refine optI (asBs_map (fun c => decide (c ∈ ("0123456789" : Str).cps.toList)) w.cps.toList) ?_
      conv => whnf
      repeat (refine Need.mk ?_ ?_; exact nd; conv => whnf)
      rw [figs_all]
      by_cases h3 : ∀ c ∈ TL.tl w, 48 ≤ c ∧ c ≤ 57
      · rw [decide_eq_true h3]
        conv => whnf
        repeat (refine Need.mk ?_ ?_; exact nd; conv => whnf)
        by_cases hz : w = "0"
        · subst hz
          conv => whnf
          repeat (refine Need.mk ?_ ?_; exact nd; conv => whnf)
          refine optI (show PySem.intText? "0" = some 0 by rw [← numW_zero]; exact numW_int ⟨by decide, by decide⟩) ?_
          conv => whnf
          repeat (refine Need.mk ?_ ?_; exact nd; conv => whnf)
          exact Rp (h1 0 ⟨by decide, by decide⟩ numW_zero.symm)
        · refine lifT (by show (!decide (w = "0")) = true; rw [decide_eq_false hz]; rfl) ?_
          conv => whnf
          repeat (refine Need.mk ?_ ?_; exact nd; conv => whnf)
          by_cases h4 : Txt.startswith w "0" = true
          · rw [h4]
            conv => whnf
            repeat (refine Need.mk ?_ ?_; exact nd; conv => whnf)
            refine Xp (h2 fun z => ?_) ⟨trivial, trivial, trivial⟩
            obtain ⟨n, hn, rfl⟩ := z
            by_cases h0 : n = 0
            · rw [h0] at hz; exact hz numW_zero
            · rw [numW_pos hn h0] at h4; cases h4
          · have h5 : Txt.startswith w "0" = false := by simpa using h4
            rw [h5]
            obtain ⟨n, hn, rfl⟩ := figW_num (w := w) ⟨by omega, by omega, h3, .inr (not_starts h5)⟩
            conv => whnf
            repeat (refine Need.mk ?_ ?_; exact nd; conv => whnf)
            refine Need.mk (by omega) ?_
            conv => whnf
            repeat (refine Need.mk ?_ ?_; exact nd; conv => whnf)
            refine optI (numW_int hn) ?_
            conv => whnf
            repeat (refine Need.mk ?_ ?_; exact nd; conv => whnf)
            exact Rp (h1 n hn rfl)
      · rw [decide_eq_false h3]
        conv => whnf
        repeat (refine Need.mk ?_ ?_; exact nd; conv => whnf)
        exact Xp (h2 fun z => h3 (num_figW z).2.2.1) ⟨trivial, trivial, trivial⟩
    · conv => whnf
      repeat (refine Need.mk ?_ ?_; exact nd; conv => whnf)
      exact Xp (h2 fun z => g2 (by have := (num_figW z).2.1; omega)) ⟨trivial, trivial, trivial⟩
  · conv => whnf
    repeat (refine Need.mk ?_ ?_; exact nd; conv => whnf)
    exact Xp (h2 fun z => g1 (by have := (num_figW z).1; omega)) ⟨trivial, trivial, trivial⟩
def sp_Coats_len (a : Ad) : SpP := fun ds Q E => ∃ ns : List Int, ds = [cts a.c_Coats ns] ∧ Q (.int ns.length)
theorem ok_Coats_len (T : Txt K w mg a)  : Mx P w K mg base 1 a.c_Coats "__len__" a.a_Coats_len a.d_Coats_len ["self"] (lp (sp_Coats_len a)) [] [] := by
  refine ⟨fn_P T.F_Coats_len sc_Coats_len (by (intro ds Q E h; first | (obtain ⟨h, hr⟩ := h; subst h; (try (obtain ⟨_, hr⟩ := hr)); (try (obtain ⟨_, hr⟩ := hr)); (try (obtain ⟨_, hr⟩ := hr)); (try (obtain ⟨_, hr⟩ := hr)); (all_goals exact ⟨rfl, by (repeat' (first | trivial | exact webD_lt | exact mvsD_lt _ | exact ctsD_lt _ | exact dcD_lts rdD_lt | exact dcD_lts seenV_lt | exact dcD_lts ctsD_lt | exact prs_lt' _ | exact prps_lt _ | exact pr_lt _ | exact Nd.lt _ | exact dcD_lts ndsD_lt | exact dcD_lts pr_lt | exact lmD_lt | exact Ev.lt | exact evs_lt _ | exact itDs_lt _ | exact prs_lt _ | exact Wld.lt | exact rows_lt | exact deeds_lt | exact pasts_lt | exact D.lts_ints _ | exact D.lts_strs _ | exact Fc.lt | exact Dd.lt | exact fcs_lt _ | exact nfs_lt _ | exact nf_lt | exact D.pl.lt (by assumption) | exact D.dp.lt (by assumption) | exact D.dps.lt (by assumption) | exact D.pls.lt (by assumption) | assumption | refine ⟨?_, ?_⟩))⟩)) | (obtain ⟨_, h, hr⟩ := h; subst h; (try (obtain ⟨_, hr⟩ := hr)); (try (obtain ⟨_, hr⟩ := hr)); (try (obtain ⟨_, hr⟩ := hr)); (try (obtain ⟨_, hr⟩ := hr)); (all_goals exact ⟨rfl, by (repeat' (first | trivial | exact webD_lt | exact mvsD_lt _ | exact ctsD_lt _ | exact dcD_lts rdD_lt | exact dcD_lts seenV_lt | exact dcD_lts ctsD_lt | exact prs_lt' _ | exact prps_lt _ | exact pr_lt _ | exact Nd.lt _ | exact dcD_lts ndsD_lt | exact dcD_lts pr_lt | exact lmD_lt | exact Ev.lt | exact evs_lt _ | exact itDs_lt _ | exact prs_lt _ | exact Wld.lt | exact rows_lt | exact deeds_lt | exact pasts_lt | exact D.lts_ints _ | exact D.lts_strs _ | exact Fc.lt | exact Dd.lt | exact fcs_lt _ | exact nfs_lt _ | exact nf_lt | exact D.pl.lt (by assumption) | exact D.dp.lt (by assumption) | exact D.dps.lt (by assumption) | exact D.pls.lt (by assumption) | assumption | refine ⟨?_, ?_⟩))⟩)) | (obtain ⟨_, _, h, hr⟩ := h; subst h; (try (obtain ⟨_, hr⟩ := hr)); (try (obtain ⟨_, hr⟩ := hr)); (try (obtain ⟨_, hr⟩ := hr)); (try (obtain ⟨_, hr⟩ := hr)); (all_goals exact ⟨rfl, by (repeat' (first | trivial | exact webD_lt | exact mvsD_lt _ | exact ctsD_lt _ | exact dcD_lts rdD_lt | exact dcD_lts seenV_lt | exact dcD_lts ctsD_lt | exact prs_lt' _ | exact prps_lt _ | exact pr_lt _ | exact Nd.lt _ | exact dcD_lts ndsD_lt | exact dcD_lts pr_lt | exact lmD_lt | exact Ev.lt | exact evs_lt _ | exact itDs_lt _ | exact prs_lt _ | exact Wld.lt | exact rows_lt | exact deeds_lt | exact pasts_lt | exact D.lts_ints _ | exact D.lts_strs _ | exact Fc.lt | exact Dd.lt | exact fcs_lt _ | exact nfs_lt _ | exact nf_lt | exact D.pl.lt (by assumption) | exact D.dp.lt (by assumption) | exact D.dps.lt (by assumption) | exact D.pls.lt (by assumption) | assumption | refine ⟨?_, ?_⟩))⟩)) | (obtain ⟨_, _, _, h, hr⟩ := h; subst h; (try (obtain ⟨_, hr⟩ := hr)); (try (obtain ⟨_, hr⟩ := hr)); (try (obtain ⟨_, hr⟩ := hr)); (try (obtain ⟨_, hr⟩ := hr)); (all_goals exact ⟨rfl, by (repeat' (first | trivial | exact webD_lt | exact mvsD_lt _ | exact ctsD_lt _ | exact dcD_lts rdD_lt | exact dcD_lts seenV_lt | exact dcD_lts ctsD_lt | exact prs_lt' _ | exact prps_lt _ | exact pr_lt _ | exact Nd.lt _ | exact dcD_lts ndsD_lt | exact dcD_lts pr_lt | exact lmD_lt | exact Ev.lt | exact evs_lt _ | exact itDs_lt _ | exact prs_lt _ | exact Wld.lt | exact rows_lt | exact deeds_lt | exact pasts_lt | exact D.lts_ints _ | exact D.lts_strs _ | exact Fc.lt | exact Dd.lt | exact fcs_lt _ | exact nfs_lt _ | exact nf_lt | exact D.pl.lt (by assumption) | exact D.dp.lt (by assumption) | exact D.dps.lt (by assumption) | exact D.pls.lt (by assumption) | assumption | refine ⟨?_, ?_⟩))⟩)) | (obtain ⟨_, _, _, _, h, hr⟩ := h; subst h; (try (obtain ⟨_, hr⟩ := hr)); (try (obtain ⟨_, hr⟩ := hr)); (try (obtain ⟨_, hr⟩ := hr)); (try (obtain ⟨_, hr⟩ := hr)); (all_goals exact ⟨rfl, by (repeat' (first | trivial | exact webD_lt | exact mvsD_lt _ | exact ctsD_lt _ | exact dcD_lts rdD_lt | exact dcD_lts seenV_lt | exact dcD_lts ctsD_lt | exact prs_lt' _ | exact prps_lt _ | exact pr_lt _ | exact Nd.lt _ | exact dcD_lts ndsD_lt | exact dcD_lts pr_lt | exact lmD_lt | exact Ev.lt | exact evs_lt _ | exact itDs_lt _ | exact prs_lt _ | exact Wld.lt | exact rows_lt | exact deeds_lt | exact pasts_lt | exact D.lts_ints _ | exact D.lts_strs _ | exact Fc.lt | exact Dd.lt | exact fcs_lt _ | exact nfs_lt _ | exact nf_lt | exact D.pl.lt (by assumption) | exact D.dp.lt (by assumption) | exact D.dps.lt (by assumption) | exact D.pls.lt (by assumption) | assumption | refine ⟨?_, ?_⟩))⟩)) | (obtain ⟨_, _, _, _, _, h, hr⟩ := h; subst h; (try (obtain ⟨_, hr⟩ := hr)); (try (obtain ⟨_, hr⟩ := hr)); (try (obtain ⟨_, hr⟩ := hr)); (try (obtain ⟨_, hr⟩ := hr)); (all_goals exact ⟨rfl, by (repeat' (first | trivial | exact webD_lt | exact mvsD_lt _ | exact ctsD_lt _ | exact dcD_lts rdD_lt | exact dcD_lts seenV_lt | exact dcD_lts ctsD_lt | exact prs_lt' _ | exact prps_lt _ | exact pr_lt _ | exact Nd.lt _ | exact dcD_lts ndsD_lt | exact dcD_lts pr_lt | exact lmD_lt | exact Ev.lt | exact evs_lt _ | exact itDs_lt _ | exact prs_lt _ | exact Wld.lt | exact rows_lt | exact deeds_lt | exact pasts_lt | exact D.lts_ints _ | exact D.lts_strs _ | exact Fc.lt | exact Dd.lt | exact fcs_lt _ | exact nfs_lt _ | exact nf_lt | exact D.pl.lt (by assumption) | exact D.dp.lt (by assumption) | exact D.dps.lt (by assumption) | exact D.pls.lt (by assumption) | assumption | refine ⟨?_, ?_⟩))⟩)) | (obtain ⟨h, _⟩ := h; exact (by simp at h)))) fun cdv A outer s H E φ T0 W' room wl => ⟨_, (lss_cons (ls_ret (le_callB cc_len rfl T.n_len (by rfl) (la_cons (le_fldC (C := a.c_Coats) T.o_Coats.is.cl T.na_Coats_seen (lv 0)) la_nil)))
    lss_nil), fun ds S R X n h hW => ?_⟩, T.o_Coats.is.cl, T.i_Coats_len, ⟨[], .nil, T.b_Coats_len⟩, RVc.nil⟩
  obtain ⟨Q, E, h, rfl, rfl, rfl, rfl⟩ := h
  subst hW
  obtain ⟨ns, rfl, q⟩ := h
  conv => whnf
  repeat (refine Need.mk ?_ ?_; exact nd; conv => whnf)
  rw [List.length_map]
  exact Rp q
def sp_Coats_shade (a : Ad) : SpP := fun ds Q E => ∃ (ns : List Int) (i : Int), ds = [cts a.c_Coats ns, .int i] ∧ (∀ z, 0 ≤ i → ns[i.toNat]? = some z → Q (.int z)) ∧ (¬ (0 ≤ i ∧ i < ns.length) → E a.c_BadCoat [("called", .str "badcoat")])
theorem ok_Coats_shade (T : Txt K w mg a) (Z_BadCoat : XcD P w K mg base "BadCoat" a.c_BadCoat a.a_BadCoat_init a.d_BadCoat_init ["self"] 0 (fl0 "badcoat") (fd0 "badcoat") [] []) : Mx P w K mg base 4 a.c_Coats "shade" a.a_Coats_shade a.d_Coats_shade ["self", "at"] (lp (sp_Coats_shade a)) [] [] := by
  refine ⟨fn_P T.F_Coats_shade sc_Coats_shade (by (intro ds Q E h; first | (obtain ⟨h, hr⟩ := h; subst h; (try (obtain ⟨_, hr⟩ := hr)); (try (obtain ⟨_, hr⟩ := hr)); (try (obtain ⟨_, hr⟩ := hr)); (try (obtain ⟨_, hr⟩ := hr)); (all_goals exact ⟨rfl, by (repeat' (first | trivial | exact webD_lt | exact mvsD_lt _ | exact ctsD_lt _ | exact dcD_lts rdD_lt | exact dcD_lts seenV_lt | exact dcD_lts ctsD_lt | exact prs_lt' _ | exact prps_lt _ | exact pr_lt _ | exact Nd.lt _ | exact dcD_lts ndsD_lt | exact dcD_lts pr_lt | exact lmD_lt | exact Ev.lt | exact evs_lt _ | exact itDs_lt _ | exact prs_lt _ | exact Wld.lt | exact rows_lt | exact deeds_lt | exact pasts_lt | exact D.lts_ints _ | exact D.lts_strs _ | exact Fc.lt | exact Dd.lt | exact fcs_lt _ | exact nfs_lt _ | exact nf_lt | exact D.pl.lt (by assumption) | exact D.dp.lt (by assumption) | exact D.dps.lt (by assumption) | exact D.pls.lt (by assumption) | assumption | refine ⟨?_, ?_⟩))⟩)) | (obtain ⟨_, h, hr⟩ := h; subst h; (try (obtain ⟨_, hr⟩ := hr)); (try (obtain ⟨_, hr⟩ := hr)); (try (obtain ⟨_, hr⟩ := hr)); (try (obtain ⟨_, hr⟩ := hr)); (all_goals exact ⟨rfl, by (repeat' (first | trivial | exact webD_lt | exact mvsD_lt _ | exact ctsD_lt _ | exact dcD_lts rdD_lt | exact dcD_lts seenV_lt | exact dcD_lts ctsD_lt | exact prs_lt' _ | exact prps_lt _ | exact pr_lt _ | exact Nd.lt _ | exact dcD_lts ndsD_lt | exact dcD_lts pr_lt | exact lmD_lt | exact Ev.lt | exact evs_lt _ | exact itDs_lt _ | exact prs_lt _ | exact Wld.lt | exact rows_lt | exact deeds_lt | exact pasts_lt | exact D.lts_ints _ | exact D.lts_strs _ | exact Fc.lt | exact Dd.lt | exact fcs_lt _ | exact nfs_lt _ | exact nf_lt | exact D.pl.lt (by assumption) | exact D.dp.lt (by assumption) | exact D.dps.lt (by assumption) | exact D.pls.lt (by assumption) | assumption | refine ⟨?_, ?_⟩))⟩)) | (obtain ⟨_, _, h, hr⟩ := h; subst h; (try (obtain ⟨_, hr⟩ := hr)); (try (obtain ⟨_, hr⟩ := hr)); (try (obtain ⟨_, hr⟩ := hr)); (try (obtain ⟨_, hr⟩ := hr)); (all_goals exact ⟨rfl, by (repeat' (first | trivial | exact webD_lt | exact mvsD_lt _ | exact ctsD_lt _ | exact dcD_lts rdD_lt | exact dcD_lts seenV_lt | exact dcD_lts ctsD_lt | exact prs_lt' _ | exact prps_lt _ | exact pr_lt _ | exact Nd.lt _ | exact dcD_lts ndsD_lt | exact dcD_lts pr_lt | exact lmD_lt | exact Ev.lt | exact evs_lt _ | exact itDs_lt _ | exact prs_lt _ | exact Wld.lt | exact rows_lt | exact deeds_lt | exact pasts_lt | exact D.lts_ints _ | exact D.lts_strs _ | exact Fc.lt | exact Dd.lt | exact fcs_lt _ | exact nfs_lt _ | exact nf_lt | exact D.pl.lt (by assumption) | exact D.dp.lt (by assumption) | exact D.dps.lt (by assumption) | exact D.pls.lt (by assumption) | assumption | refine ⟨?_, ?_⟩))⟩)) | (obtain ⟨_, _, _, h, hr⟩ := h; subst h; (try (obtain ⟨_, hr⟩ := hr)); (try (obtain ⟨_, hr⟩ := hr)); (try (obtain ⟨_, hr⟩ := hr)); (try (obtain ⟨_, hr⟩ := hr)); (all_goals exact ⟨rfl, by (repeat' (first | trivial | exact webD_lt | exact mvsD_lt _ | exact ctsD_lt _ | exact dcD_lts rdD_lt | exact dcD_lts seenV_lt | exact dcD_lts ctsD_lt | exact prs_lt' _ | exact prps_lt _ | exact pr_lt _ | exact Nd.lt _ | exact dcD_lts ndsD_lt | exact dcD_lts pr_lt | exact lmD_lt | exact Ev.lt | exact evs_lt _ | exact itDs_lt _ | exact prs_lt _ | exact Wld.lt | exact rows_lt | exact deeds_lt | exact pasts_lt | exact D.lts_ints _ | exact D.lts_strs _ | exact Fc.lt | exact Dd.lt | exact fcs_lt _ | exact nfs_lt _ | exact nf_lt | exact D.pl.lt (by assumption) | exact D.dp.lt (by assumption) | exact D.dps.lt (by assumption) | exact D.pls.lt (by assumption) | assumption | refine ⟨?_, ?_⟩))⟩)) | (obtain ⟨_, _, _, _, h, hr⟩ := h; subst h; (try (obtain ⟨_, hr⟩ := hr)); (try (obtain ⟨_, hr⟩ := hr)); (try (obtain ⟨_, hr⟩ := hr)); (try (obtain ⟨_, hr⟩ := hr)); (all_goals exact ⟨rfl, by (repeat' (first | trivial | exact webD_lt | exact mvsD_lt _ | exact ctsD_lt _ | exact dcD_lts rdD_lt | exact dcD_lts seenV_lt | exact dcD_lts ctsD_lt | exact prs_lt' _ | exact prps_lt _ | exact pr_lt _ | exact Nd.lt _ | exact dcD_lts ndsD_lt | exact dcD_lts pr_lt | exact lmD_lt | exact Ev.lt | exact evs_lt _ | exact itDs_lt _ | exact prs_lt _ | exact Wld.lt | exact rows_lt | exact deeds_lt | exact pasts_lt | exact D.lts_ints _ | exact D.lts_strs _ | exact Fc.lt | exact Dd.lt | exact fcs_lt _ | exact nfs_lt _ | exact nf_lt | exact D.pl.lt (by assumption) | exact D.dp.lt (by assumption) | exact D.dps.lt (by assumption) | exact D.pls.lt (by assumption) | assumption | refine ⟨?_, ?_⟩))⟩)) | (obtain ⟨_, _, _, _, _, h, hr⟩ := h; subst h; (try (obtain ⟨_, hr⟩ := hr)); (try (obtain ⟨_, hr⟩ := hr)); (try (obtain ⟨_, hr⟩ := hr)); (try (obtain ⟨_, hr⟩ := hr)); (all_goals exact ⟨rfl, by (repeat' (first | trivial | exact webD_lt | exact mvsD_lt _ | exact ctsD_lt _ | exact dcD_lts rdD_lt | exact dcD_lts seenV_lt | exact dcD_lts ctsD_lt | exact prs_lt' _ | exact prps_lt _ | exact pr_lt _ | exact Nd.lt _ | exact dcD_lts ndsD_lt | exact dcD_lts pr_lt | exact lmD_lt | exact Ev.lt | exact evs_lt _ | exact itDs_lt _ | exact prs_lt _ | exact Wld.lt | exact rows_lt | exact deeds_lt | exact pasts_lt | exact D.lts_ints _ | exact D.lts_strs _ | exact Fc.lt | exact Dd.lt | exact fcs_lt _ | exact nfs_lt _ | exact nf_lt | exact D.pl.lt (by assumption) | exact D.dp.lt (by assumption) | exact D.dps.lt (by assumption) | exact D.pls.lt (by assumption) | assumption | refine ⟨?_, ?_⟩))⟩)) | (obtain ⟨h, _⟩ := h; exact (by simp at h)))) fun cdv A outer s H E φ T0 W' room wl => ⟨_, (lss_cons (ls_if (LW.t (lw_or (lt_cmp oo_lt (lv 1) le_int (by rfl)) (lw_or1 (lt_cmp oo_ge (lv 1) (le_callB cc_len rfl T.n_len (by rfl) (la_cons (le_fldC (C := a.c_Coats) T.o_Coats.is.cl T.na_Coats_seen (lv 0)) la_nil)) (by rfl))))) (lss_cons (ls_rz0 Z_BadCoat rfl (room.mono (by decide)) (takes_of rfl rfl rfl rfl) wl)
    lss_nil) lss_nil)
    (lss_cons (ls_ret (le_ix ox_seq (le_fldC (C := a.c_Coats) T.o_Coats.is.cl T.na_Coats_seen (lv 0)) (lv 1)))
    lss_nil)), fun ds S R X n h hW => ?_⟩, T.o_Coats.is.cl, T.i_Coats_shade, ⟨[], .nil, T.b_Coats_shade⟩, RVc.nil⟩
  obtain ⟨Q, E, h, rfl, rfl, rfl, rfl⟩ := h
  subst hW
  obtain ⟨ns, i, rfl, h1, h2⟩ := h
  conv => whnf
  repeat (refine Need.mk ?_ ?_; exact nd; conv => whnf)
  refine brd (fun hc => ?_) (fun hc => ?_)
  · conv => whnf
    repeat (refine Need.mk ?_ ?_; exact nd; conv => whnf)
    exact Xp (h2 fun h => by (have hc : i < 0 := hc; omega))
  · conv => whnf
    repeat (refine Need.mk ?_ ?_; exact nd; conv => whnf)
    refine brd (fun hd => ?_) (fun hd => ?_)
    · conv => whnf
      repeat (refine Need.mk ?_ ?_; exact nd; conv => whnf)
      have hd : ((ns.map D.int).length : Int) ≤ i := hd
      rw [List.length_map] at hd
      exact Xp (h2 fun h => by omega)
    · conv => whnf
      repeat (refine Need.mk ?_ ?_; exact nd; conv => whnf)
      have hc : ¬ i < 0 := hc
      have hd : ¬ ((ns.map D.int).length : Int) ≤ i := hd
      rw [List.length_map] at hd
      have hl : i.toNat < ns.length := by omega
      refine optI (atI_get (by omega) (show (ns.map D.int)[i.toNat]? = some (.int ns[i.toNat]) by simp [List.getElem?_eq_getElem hl])) ?_
      conv => whnf
      repeat (refine Need.mk ?_ ?_; exact nd; conv => whnf)
      exact Rp (h1 _ (by omega) (List.getElem?_eq_getElem hl))
def sp_read_signs (a : Ad) : SpP := fun ds Q E => ∃ w : Str, ds = [.str w] ∧ w.length ≤ 100000 ∧ (∀ ns, goodN ns → 1 ≤ ns.length → w = strOf ns → Q (.tup (ns.map D.int))) ∧ (¬ isSgs w → E a.c_BadText [("row", .int 0), ("called", .str "badtext")])
theorem ok_read_signs (T : Txt K w mg a) (Z_BadText : XcD P w K mg base "BadText" a.c_BadText a.a_BadText_init a.d_BadText_init ["self", "row"] 1 (fl1 "badtext" "row") (fd1 "badtext" "row") [V.int 0] [D.int 0]) (G_read_coats : Fx P w K mg base 6 a.a_read_coats a.d_read_coats "read_coats" ["text"] (lp (sp_read_coats a))) (M_Coats_len : Mx P w K mg base 1 a.c_Coats "__len__" a.a_Coats_len a.d_Coats_len ["self"] (lp (sp_Coats_len a)) [] []) (M_Coats_shade : Mx P w K mg base 4 a.c_Coats "shade" a.a_Coats_shade a.d_Coats_shade ["self", "at"] (lp (sp_Coats_shade a)) [] []) : Fx P w K mg base 7 a.a_read_signs a.d_read_signs "read_signs" ["word"] (lp (sp_read_signs a)) := by
  refine ⟨fn_P T.F_read_signs sc_read_signs (by (intro ds Q E h; first | (obtain ⟨h, hr⟩ := h; subst h; (try (obtain ⟨_, hr⟩ := hr)); (try (obtain ⟨_, hr⟩ := hr)); (try (obtain ⟨_, hr⟩ := hr)); (try (obtain ⟨_, hr⟩ := hr)); (all_goals exact ⟨rfl, by (repeat' (first | trivial | exact webD_lt | exact mvsD_lt _ | exact ctsD_lt _ | exact dcD_lts rdD_lt | exact dcD_lts seenV_lt | exact dcD_lts ctsD_lt | exact prs_lt' _ | exact prps_lt _ | exact pr_lt _ | exact Nd.lt _ | exact dcD_lts ndsD_lt | exact dcD_lts pr_lt | exact lmD_lt | exact Ev.lt | exact evs_lt _ | exact itDs_lt _ | exact prs_lt _ | exact Wld.lt | exact rows_lt | exact deeds_lt | exact pasts_lt | exact D.lts_ints _ | exact D.lts_strs _ | exact Fc.lt | exact Dd.lt | exact fcs_lt _ | exact nfs_lt _ | exact nf_lt | exact D.pl.lt (by assumption) | exact D.dp.lt (by assumption) | exact D.dps.lt (by assumption) | exact D.pls.lt (by assumption) | assumption | refine ⟨?_, ?_⟩))⟩)) | (obtain ⟨_, h, hr⟩ := h; subst h; (try (obtain ⟨_, hr⟩ := hr)); (try (obtain ⟨_, hr⟩ := hr)); (try (obtain ⟨_, hr⟩ := hr)); (try (obtain ⟨_, hr⟩ := hr)); (all_goals exact ⟨rfl, by (repeat' (first | trivial | exact webD_lt | exact mvsD_lt _ | exact ctsD_lt _ | exact dcD_lts rdD_lt | exact dcD_lts seenV_lt | exact dcD_lts ctsD_lt | exact prs_lt' _ | exact prps_lt _ | exact pr_lt _ | exact Nd.lt _ | exact dcD_lts ndsD_lt | exact dcD_lts pr_lt | exact lmD_lt | exact Ev.lt | exact evs_lt _ | exact itDs_lt _ | exact prs_lt _ | exact Wld.lt | exact rows_lt | exact deeds_lt | exact pasts_lt | exact D.lts_ints _ | exact D.lts_strs _ | exact Fc.lt | exact Dd.lt | exact fcs_lt _ | exact nfs_lt _ | exact nf_lt | exact D.pl.lt (by assumption) | exact D.dp.lt (by assumption) | exact D.dps.lt (by assumption) | exact D.pls.lt (by assumption) | assumption | refine ⟨?_, ?_⟩))⟩)) | (obtain ⟨_, _, h, hr⟩ := h; subst h; (try (obtain ⟨_, hr⟩ := hr)); (try (obtain ⟨_, hr⟩ := hr)); (try (obtain ⟨_, hr⟩ := hr)); (try (obtain ⟨_, hr⟩ := hr)); (all_goals exact ⟨rfl, by (repeat' (first | trivial | exact webD_lt | exact mvsD_lt _ | exact ctsD_lt _ | exact dcD_lts rdD_lt | exact dcD_lts seenV_lt | exact dcD_lts ctsD_lt | exact prs_lt' _ | exact prps_lt _ | exact pr_lt _ | exact Nd.lt _ | exact dcD_lts ndsD_lt | exact dcD_lts pr_lt | exact lmD_lt | exact Ev.lt | exact evs_lt _ | exact itDs_lt _ | exact prs_lt _ | exact Wld.lt | exact rows_lt | exact deeds_lt | exact pasts_lt | exact D.lts_ints _ | exact D.lts_strs _ | exact Fc.lt | exact Dd.lt | exact fcs_lt _ | exact nfs_lt _ | exact nf_lt | exact D.pl.lt (by assumption) | exact D.dp.lt (by assumption) | exact D.dps.lt (by assumption) | exact D.pls.lt (by assumption) | assumption | refine ⟨?_, ?_⟩))⟩)) | (obtain ⟨_, _, _, h, hr⟩ := h; subst h; (try (obtain ⟨_, hr⟩ := hr)); (try (obtain ⟨_, hr⟩ := hr)); (try (obtain ⟨_, hr⟩ := hr)); (try (obtain ⟨_, hr⟩ := hr)); (all_goals exact ⟨rfl, by (repeat' (first | trivial | exact webD_lt | exact mvsD_lt _ | exact ctsD_lt _ | exact dcD_lts rdD_lt | exact dcD_lts seenV_lt | exact dcD_lts ctsD_lt | exact prs_lt' _ | exact prps_lt _ | exact pr_lt _ | exact Nd.lt _ | exact dcD_lts ndsD_lt | exact dcD_lts pr_lt | exact lmD_lt | exact Ev.lt | exact evs_lt _ | exact itDs_lt _ | exact prs_lt _ | exact Wld.lt | exact rows_lt | exact deeds_lt | exact pasts_lt | exact D.lts_ints _ | exact D.lts_strs _ | exact Fc.lt | exact Dd.lt | exact fcs_lt _ | exact nfs_lt _ | exact nf_lt | exact D.pl.lt (by assumption) | exact D.dp.lt (by assumption) | exact D.dps.lt (by assumption) | exact D.pls.lt (by assumption) | assumption | refine ⟨?_, ?_⟩))⟩)) | (obtain ⟨_, _, _, _, h, hr⟩ := h; subst h; (try (obtain ⟨_, hr⟩ := hr)); (try (obtain ⟨_, hr⟩ := hr)); (try (obtain ⟨_, hr⟩ := hr)); (try (obtain ⟨_, hr⟩ := hr)); (all_goals exact ⟨rfl, by (repeat' (first | trivial | exact webD_lt | exact mvsD_lt _ | exact ctsD_lt _ | exact dcD_lts rdD_lt | exact dcD_lts seenV_lt | exact dcD_lts ctsD_lt | exact prs_lt' _ | exact prps_lt _ | exact pr_lt _ | exact Nd.lt _ | exact dcD_lts ndsD_lt | exact dcD_lts pr_lt | exact lmD_lt | exact Ev.lt | exact evs_lt _ | exact itDs_lt _ | exact prs_lt _ | exact Wld.lt | exact rows_lt | exact deeds_lt | exact pasts_lt | exact D.lts_ints _ | exact D.lts_strs _ | exact Fc.lt | exact Dd.lt | exact fcs_lt _ | exact nfs_lt _ | exact nf_lt | exact D.pl.lt (by assumption) | exact D.dp.lt (by assumption) | exact D.dps.lt (by assumption) | exact D.pls.lt (by assumption) | assumption | refine ⟨?_, ?_⟩))⟩)) | (obtain ⟨_, _, _, _, _, h, hr⟩ := h; subst h; (try (obtain ⟨_, hr⟩ := hr)); (try (obtain ⟨_, hr⟩ := hr)); (try (obtain ⟨_, hr⟩ := hr)); (try (obtain ⟨_, hr⟩ := hr)); (all_goals exact ⟨rfl, by (repeat' (first | trivial | exact webD_lt | exact mvsD_lt _ | exact ctsD_lt _ | exact dcD_lts rdD_lt | exact dcD_lts seenV_lt | exact dcD_lts ctsD_lt | exact prs_lt' _ | exact prps_lt _ | exact pr_lt _ | exact Nd.lt _ | exact dcD_lts ndsD_lt | exact dcD_lts pr_lt | exact lmD_lt | exact Ev.lt | exact evs_lt _ | exact itDs_lt _ | exact prs_lt _ | exact Wld.lt | exact rows_lt | exact deeds_lt | exact pasts_lt | exact D.lts_ints _ | exact D.lts_strs _ | exact Fc.lt | exact Dd.lt | exact fcs_lt _ | exact nfs_lt _ | exact nf_lt | exact D.pl.lt (by assumption) | exact D.dp.lt (by assumption) | exact D.dps.lt (by assumption) | exact D.pls.lt (by assumption) | assumption | refine ⟨?_, ?_⟩))⟩)) | (obtain ⟨h, _⟩ := h; exact (by simp at h)))) fun cdv A outer s H E φ T0 W' room wl => ⟨_, (lss_cons (ls_if (lt_cmp (oo_eq room.units) (lv 0) le_str (by rfl)) (lss_cons (ls_rz0 Z_BadText rfl (room.mono (by decide)) (takes_of rfl rfl rfl rfl) wl)
    lss_nil) lss_nil)
    (lss_consW [0] (ls_set 1 (le_fx G_read_coats (room.mono (by decide)) (takes_of rfl rfl rfl rfl) wl (la_cons (lv 0) la_nil)) sc_read_signs.nd)
    (lss_cons (ls_ret (le_callTy cc_tuple rfl T.n_tuple (by rfl) (la_cons (le_lc false [("at", 2)] (.nm 2) rfl sc_read_signs.nd (li_rng1 rfl T.n_range (la_cons (le_callB (cc_lenO M_Coats_len (room.mono (by decide))) rfl T.n_len (by rfl) (la_cons (lv 1) la_nil)) la_nil)) (by (conv => { arg 1; whnf }); (conv => { arg 2; whnf }); exact ⟨rfl, by decide +kernel, by decide +kernel, by decide +kernel, by decide +kernel⟩) (fun _ _ _ _ _ => (tg_nm 2 sc_read_signs.nd)) (fun _ _ _ _ _ => lts_nil) (fun _ _ _ _ _ => (le_mx M_Coats_shade (room.mono (by decide)) LamX.takes0 WL0 (lv 1) (la_cons (lv 2) la_nil)))) la_nil)))
    lss_nil))), fun ds S R X n h hW => ?_⟩, T.m_read_signs, T.F_read_signs.kp, T.b_read_signs⟩
  obtain ⟨Q, E, h, rfl, rfl, rfl, rfl⟩ := h
  subst hW
  obtain ⟨w, rfl, hl, h1, h2⟩ := h
  have z24 : (100002 : Nat) ≤ sizeLine := by decide
  conv => whnf
  repeat (refine Need.mk ?_ ?_; exact nd; conv => whnf)
  refine brd (fun g1 => ?_) (fun g1 => ?_)
  · conv => whnf
    repeat (refine Need.mk ?_ ?_; exact nd; conv => whnf)
    exact Xp (h2 fun z => (isSgs_iff.mp z).2 g1) ⟨trivial, trivial, trivial⟩
  · conv => whnf
    repeat (refine Need.mk ?_ ?_; exact nd; conv => whnf)
    refine ⟨w, rfl, by omega, fun hg => ?_, fun hg => ?_⟩
    · have q := h1 (ixs w) (ixs_good hg) (by rw [ixs_len]; exact len_pos g1) (strOf_ixs hg).symm
      have hln : (ixs w).length ≤ 100000 := by rw [ixs_len]; exact hl
      generalize ixs w = ns at q hln
      conv => whnf
      repeat (refine Need.mk ?_ ?_; exact nd; conv => whnf)
      refine ⟨ns, rfl, ?_⟩
      conv => whnf
      refine Need.mk ⟨by omega, by omega⟩ ?_
      conv => whnf
      refine ⟨by omega, by omega, ?_⟩
      refine lc_map (ofI ns) (by rw [rngD_len]; omega) (fun _ => trivial) ?_ ?_
      · intro i d acc hi
        obtain ⟨hi, rfl⟩ := rngD_get hi
        refine ⟨_, rfl, trivial, fun R r => ?_⟩
        conv => whnf
        repeat (refine Need.mk ?_ ?_; exact nd; conv => whnf)
        refine ⟨ns, _, rfl, fun z h0 hz => ?_, fun hn => absurd ⟨by omega, by omega⟩ hn⟩
        have r : R (D.int (ns.getD (0 + (i : Int)).toNat 0)) _ := r
        rw [List.getD_eq_getElem?_getD, hz] at r
        exact r
      rw [Int.toNat_natCast, ofI_rng]
      conv => whnf
      repeat (refine Need.mk ?_ ?_; exact nd; conv => whnf)
      exact Rp q (D.lts_ints _)
    · conv => whnf
      repeat (refine Need.mk ?_ ?_; exact nd; conv => whnf)
      exact Xp (h2 fun z => hg (isSgs_iff.mp z).1) ⟨trivial, trivial, trivial⟩
def sp_read_sign (a : Ad) : SpP := fun ds Q E => ∃ w : Str, ds = [.str w] ∧ w.length ≤ 100000 ∧ (∀ n : Int, 0 ≤ n → n ≤ 6 → w = strOf [n] → Q (.int n)) ∧ (¬ isSg w → E a.c_BadText [("row", .int 0), ("called", .str "badtext")])
theorem ok_read_sign (T : Txt K w mg a) (G_read_signs : Fx P w K mg base 7 a.a_read_signs a.d_read_signs "read_signs" ["word"] (lp (sp_read_signs a))) (Z_BadText : XcD P w K mg base "BadText" a.c_BadText a.a_BadText_init a.d_BadText_init ["self", "row"] 1 (fl1 "badtext" "row") (fd1 "badtext" "row") [V.int 0] [D.int 0]) : Fx P w K mg base 8 a.a_read_sign a.d_read_sign "read_sign" ["word"] (lp (sp_read_sign a)) := by
  refine ⟨fn_P T.F_read_sign sc_read_sign (by (intro ds Q E h; first | (obtain ⟨h, hr⟩ := h; subst h; (try (obtain ⟨_, hr⟩ := hr)); (try (obtain ⟨_, hr⟩ := hr)); (try (obtain ⟨_, hr⟩ := hr)); (try (obtain ⟨_, hr⟩ := hr)); (all_goals exact ⟨rfl, by (repeat' (first | trivial | exact webD_lt | exact mvsD_lt _ | exact ctsD_lt _ | exact dcD_lts rdD_lt | exact dcD_lts seenV_lt | exact dcD_lts ctsD_lt | exact prs_lt' _ | exact prps_lt _ | exact pr_lt _ | exact Nd.lt _ | exact dcD_lts ndsD_lt | exact dcD_lts pr_lt | exact lmD_lt | exact Ev.lt | exact evs_lt _ | exact itDs_lt _ | exact prs_lt _ | exact Wld.lt | exact rows_lt | exact deeds_lt | exact pasts_lt | exact D.lts_ints _ | exact D.lts_strs _ | exact Fc.lt | exact Dd.lt | exact fcs_lt _ | exact nfs_lt _ | exact nf_lt | exact D.pl.lt (by assumption) | exact D.dp.lt (by assumption) | exact D.dps.lt (by assumption) | exact D.pls.lt (by assumption) | assumption | refine ⟨?_, ?_⟩))⟩)) | (obtain ⟨_, h, hr⟩ := h; subst h; (try (obtain ⟨_, hr⟩ := hr)); (try (obtain ⟨_, hr⟩ := hr)); (try (obtain ⟨_, hr⟩ := hr)); (try (obtain ⟨_, hr⟩ := hr)); (all_goals exact ⟨rfl, by (repeat' (first | trivial | exact webD_lt | exact mvsD_lt _ | exact ctsD_lt _ | exact dcD_lts rdD_lt | exact dcD_lts seenV_lt | exact dcD_lts ctsD_lt | exact prs_lt' _ | exact prps_lt _ | exact pr_lt _ | exact Nd.lt _ | exact dcD_lts ndsD_lt | exact dcD_lts pr_lt | exact lmD_lt | exact Ev.lt | exact evs_lt _ | exact itDs_lt _ | exact prs_lt _ | exact Wld.lt | exact rows_lt | exact deeds_lt | exact pasts_lt | exact D.lts_ints _ | exact D.lts_strs _ | exact Fc.lt | exact Dd.lt | exact fcs_lt _ | exact nfs_lt _ | exact nf_lt | exact D.pl.lt (by assumption) | exact D.dp.lt (by assumption) | exact D.dps.lt (by assumption) | exact D.pls.lt (by assumption) | assumption | refine ⟨?_, ?_⟩))⟩)) | (obtain ⟨_, _, h, hr⟩ := h; subst h; (try (obtain ⟨_, hr⟩ := hr)); (try (obtain ⟨_, hr⟩ := hr)); (try (obtain ⟨_, hr⟩ := hr)); (try (obtain ⟨_, hr⟩ := hr)); (all_goals exact ⟨rfl, by (repeat' (first | trivial | exact webD_lt | exact mvsD_lt _ | exact ctsD_lt _ | exact dcD_lts rdD_lt | exact dcD_lts seenV_lt | exact dcD_lts ctsD_lt | exact prs_lt' _ | exact prps_lt _ | exact pr_lt _ | exact Nd.lt _ | exact dcD_lts ndsD_lt | exact dcD_lts pr_lt | exact lmD_lt | exact Ev.lt | exact evs_lt _ | exact itDs_lt _ | exact prs_lt _ | exact Wld.lt | exact rows_lt | exact deeds_lt | exact pasts_lt | exact D.lts_ints _ | exact D.lts_strs _ | exact Fc.lt | exact Dd.lt | exact fcs_lt _ | exact nfs_lt _ | exact nf_lt | exact D.pl.lt (by assumption) | exact D.dp.lt (by assumption) | exact D.dps.lt (by assumption) | exact D.pls.lt (by assumption) | assumption | refine ⟨?_, ?_⟩))⟩)) | (obtain ⟨_, _, _, h, hr⟩ := h; subst h; (try (obtain ⟨_, hr⟩ := hr)); (try (obtain ⟨_, hr⟩ := hr)); (try (obtain ⟨_, hr⟩ := hr)); (try (obtain ⟨_, hr⟩ := hr)); (all_goals exact ⟨rfl, by (repeat' (first | trivial | exact webD_lt | exact mvsD_lt _ | exact ctsD_lt _ | exact dcD_lts rdD_lt | exact dcD_lts seenV_lt | exact dcD_lts ctsD_lt | exact prs_lt' _ | exact prps_lt _ | exact pr_lt _ | exact Nd.lt _ | exact dcD_lts ndsD_lt | exact dcD_lts pr_lt | exact lmD_lt | exact Ev.lt | exact evs_lt _ | exact itDs_lt _ | exact prs_lt _ | exact Wld.lt | exact rows_lt | exact deeds_lt | exact pasts_lt | exact D.lts_ints _ | exact D.lts_strs _ | exact Fc.lt | exact Dd.lt | exact fcs_lt _ | exact nfs_lt _ | exact nf_lt | exact D.pl.lt (by assumption) | exact D.dp.lt (by assumption) | exact D.dps.lt (by assumption) | exact D.pls.lt (by assumption) | assumption | refine ⟨?_, ?_⟩))⟩)) | (obtain ⟨_, _, _, _, h, hr⟩ := h; subst h; (try (obtain ⟨_, hr⟩ := hr)); (try (obtain ⟨_, hr⟩ := hr)); (try (obtain ⟨_, hr⟩ := hr)); (try (obtain ⟨_, hr⟩ := hr)); (all_goals exact ⟨rfl, by (repeat' (first | trivial | exact webD_lt | exact mvsD_lt _ | exact ctsD_lt _ | exact dcD_lts rdD_lt | exact dcD_lts seenV_lt | exact dcD_lts ctsD_lt | exact prs_lt' _ | exact prps_lt _ | exact pr_lt _ | exact Nd.lt _ | exact dcD_lts ndsD_lt | exact dcD_lts pr_lt | exact lmD_lt | exact Ev.lt | exact evs_lt _ | exact itDs_lt _ | exact prs_lt _ | exact Wld.lt | exact rows_lt | exact deeds_lt | exact pasts_lt | exact D.lts_ints _ | exact D.lts_strs _ | exact Fc.lt | exact Dd.lt | exact fcs_lt _ | exact nfs_lt _ | exact nf_lt | exact D.pl.lt (by assumption) | exact D.dp.lt (by assumption) | exact D.dps.lt (by assumption) | exact D.pls.lt (by assumption) | assumption | refine ⟨?_, ?_⟩))⟩)) | (obtain ⟨_, _, _, _, _, h, hr⟩ := h; subst h; (try (obtain ⟨_, hr⟩ := hr)); (try (obtain ⟨_, hr⟩ := hr)); (try (obtain ⟨_, hr⟩ := hr)); (try (obtain ⟨_, hr⟩ := hr)); (all_goals exact ⟨rfl, by (repeat' (first | trivial | exact webD_lt | exact mvsD_lt _ | exact ctsD_lt _ | exact dcD_lts rdD_lt | exact dcD_lts seenV_lt | exact dcD_lts ctsD_lt | exact prs_lt' _ | exact prps_lt _ | exact pr_lt _ | exact Nd.lt _ | exact dcD_lts ndsD_lt | exact dcD_lts pr_lt | exact lmD_lt | exact Ev.lt | exact evs_lt _ | exact itDs_lt _ | exact prs_lt _ | exact Wld.lt | exact rows_lt | exact deeds_lt | exact pasts_lt | exact D.lts_ints _ | exact D.lts_strs _ | exact Fc.lt | exact Dd.lt | exact fcs_lt _ | exact nfs_lt _ | exact nf_lt | exact D.pl.lt (by assumption) | exact D.dp.lt (by assumption) | exact D.dps.lt (by assumption) | exact D.pls.lt (by assumption) | assumption | refine ⟨?_, ?_⟩))⟩)) | (obtain ⟨h, _⟩ := h; exact (by simp at h)))) fun cdv A outer s H E φ T0 W' room wl => ⟨_, (lss_consW [0] (ls_set 1 (le_fx G_read_signs (room.mono (by decide)) (takes_of rfl rfl rfl rfl) wl (la_cons (lv 0) la_nil)) sc_read_sign.nd)
    (lss_cons (ls_if (lt_cmp oo_gt (le_callB cc_len rfl T.n_len (by rfl) (la_cons (lv 1) la_nil)) le_int (by rfl)) (lss_cons (ls_rz0 Z_BadText rfl (room.mono (by decide)) (takes_of rfl rfl rfl rfl) wl)
    lss_nil) lss_nil)
    (lss_cons (ls_ret (le_ix ox_seq (lv 1) le_int))
    lss_nil))), fun ds S R X n h hW => ?_⟩, T.m_read_sign, T.F_read_sign.kp, T.b_read_sign⟩
  obtain ⟨Q, E, h, rfl, rfl, rfl, rfl⟩ := h
  subst hW
  obtain ⟨w, rfl, hl, h1, h2⟩ := h
  conv => whnf
  repeat (refine Need.mk ?_ ?_; exact nd; conv => whnf)
  refine ⟨w, rfl, hl, fun ns hg h3 hw => ?_, fun z => ?_⟩
  · conv => whnf
    repeat (refine Need.mk ?_ ?_; exact nd; conv => whnf)
    refine brd (fun g1 => ?_) (fun g1 => ?_)
    · conv => whnf
      repeat (refine Need.mk ?_ ?_; exact nd; conv => whnf)
      refine Xp (h2 fun z => ?_) ⟨trivial, trivial, trivial⟩
      have := (isSg_iff.mp z).2
      rw [hw, strOf_len] at this
      rw [List.length_map] at g1
      omega
    · rw [List.length_map] at g1
      match ns, h3 with
      | [n], _ =>
        conv => whnf
        repeat (refine Need.mk ?_ ?_; exact nd; conv => whnf)
        exact Rp (h1 n (hg n (by simp)).1 (hg n (by simp)).2 hw)
      | _ :: _ :: _, _ => exact absurd (by simp; omega) g1
  · conv => whnf
    repeat (refine Need.mk ?_ ?_; exact nd; conv => whnf)
    exact Xp (h2 fun y => z (isSg_iff.mp y).1) ⟨trivial, trivial, trivial⟩
def sp_read_words (a : Ad) : SpP := fun ds Q E => ∃ ws : List Str, ds = [.lst (ws.map D.str)] ∧ ws ≠ [] ∧ ws.length ≤ 100001 ∧ (∀ w ∈ ws, w.length ≤ 100000) ∧ (∀ f : Fc, fineF f → ws = f.words → Q f.d) ∧ (¬ isFc ws → E a.c_BadText [("row", .int 0), ("called", .str "badtext")])
theorem ok_read_words (T : Txt K w mg a) (Z_BadText : XcD P w K mg base "BadText" a.c_BadText a.a_BadText_init a.d_BadText_init ["self", "row"] 1 (fl1 "badtext" "row") (fd1 "badtext" "row") [V.int 0] [D.int 0]) (H_BadText : L2H.FnH P w K mg base (L2.CX P w) 2 a.a_BadText_init a.d_BadText_init ["self", "row"] (spX a.c_BadText 1 (fl1 "badtext" "row"))) (G_read_number : Fx P w K mg base 4 a.a_read_number a.d_read_number "read_number" ["word"] (lp (sp_read_number a))) (G_read_signs : Fx P w K mg base 7 a.a_read_signs a.d_read_signs "read_signs" ["word"] (lp (sp_read_signs a))) (G_read_sign : Fx P w K mg base 8 a.a_read_sign a.d_read_sign "read_sign" ["word"] (lp (sp_read_sign a))) : Fx P w K mg base 9 a.a_read_words a.d_read_words "read_words" ["words"] (lp (sp_read_words a)) := by
  refine ⟨fn_P T.F_read_words sc_read_words (by (intro ds Q E h; first | (obtain ⟨h, hr⟩ := h; subst h; (try (obtain ⟨_, hr⟩ := hr)); (try (obtain ⟨_, hr⟩ := hr)); (try (obtain ⟨_, hr⟩ := hr)); (try (obtain ⟨_, hr⟩ := hr)); (all_goals exact ⟨rfl, by (repeat' (first | trivial | exact webD_lt | exact mvsD_lt _ | exact ctsD_lt _ | exact dcD_lts rdD_lt | exact dcD_lts seenV_lt | exact dcD_lts ctsD_lt | exact prs_lt' _ | exact prps_lt _ | exact pr_lt _ | exact Nd.lt _ | exact dcD_lts ndsD_lt | exact dcD_lts pr_lt | exact lmD_lt | exact Ev.lt | exact evs_lt _ | exact itDs_lt _ | exact prs_lt _ | exact Wld.lt | exact rows_lt | exact deeds_lt | exact pasts_lt | exact D.lts_ints _ | exact D.lts_strs _ | exact Fc.lt | exact Dd.lt | exact fcs_lt _ | exact nfs_lt _ | exact nf_lt | exact D.pl.lt (by assumption) | exact D.dp.lt (by assumption) | exact D.dps.lt (by assumption) | exact D.pls.lt (by assumption) | assumption | refine ⟨?_, ?_⟩))⟩)) | (obtain ⟨_, h, hr⟩ := h; subst h; (try (obtain ⟨_, hr⟩ := hr)); (try (obtain ⟨_, hr⟩ := hr)); (try (obtain ⟨_, hr⟩ := hr)); (try (obtain ⟨_, hr⟩ := hr)); (all_goals exact ⟨rfl, by (repeat' (first | trivial | exact webD_lt | exact mvsD_lt _ | exact ctsD_lt _ | exact dcD_lts rdD_lt | exact dcD_lts seenV_lt | exact dcD_lts ctsD_lt | exact prs_lt' _ | exact prps_lt _ | exact pr_lt _ | exact Nd.lt _ | exact dcD_lts ndsD_lt | exact dcD_lts pr_lt | exact lmD_lt | exact Ev.lt | exact evs_lt _ | exact itDs_lt _ | exact prs_lt _ | exact Wld.lt | exact rows_lt | exact deeds_lt | exact pasts_lt | exact D.lts_ints _ | exact D.lts_strs _ | exact Fc.lt | exact Dd.lt | exact fcs_lt _ | exact nfs_lt _ | exact nf_lt | exact D.pl.lt (by assumption) | exact D.dp.lt (by assumption) | exact D.dps.lt (by assumption) | exact D.pls.lt (by assumption) | assumption | refine ⟨?_, ?_⟩))⟩)) | (obtain ⟨_, _, h, hr⟩ := h; subst h; (try (obtain ⟨_, hr⟩ := hr)); (try (obtain ⟨_, hr⟩ := hr)); (try (obtain ⟨_, hr⟩ := hr)); (try (obtain ⟨_, hr⟩ := hr)); (all_goals exact ⟨rfl, by (repeat' (first | trivial | exact webD_lt | exact mvsD_lt _ | exact ctsD_lt _ | exact dcD_lts rdD_lt | exact dcD_lts seenV_lt | exact dcD_lts ctsD_lt | exact prs_lt' _ | exact prps_lt _ | exact pr_lt _ | exact Nd.lt _ | exact dcD_lts ndsD_lt | exact dcD_lts pr_lt | exact lmD_lt | exact Ev.lt | exact evs_lt _ | exact itDs_lt _ | exact prs_lt _ | exact Wld.lt | exact rows_lt | exact deeds_lt | exact pasts_lt | exact D.lts_ints _ | exact D.lts_strs _ | exact Fc.lt | exact Dd.lt | exact fcs_lt _ | exact nfs_lt _ | exact nf_lt | exact D.pl.lt (by assumption) | exact D.dp.lt (by assumption) | exact D.dps.lt (by assumption) | exact D.pls.lt (by assumption) | assumption | refine ⟨?_, ?_⟩))⟩)) | (obtain ⟨_, _, _, h, hr⟩ := h; subst h; (try (obtain ⟨_, hr⟩ := hr)); (try (obtain ⟨_, hr⟩ := hr)); (try (obtain ⟨_, hr⟩ := hr)); (try (obtain ⟨_, hr⟩ := hr)); (all_goals exact ⟨rfl, by (repeat' (first | trivial | exact webD_lt | exact mvsD_lt _ | exact ctsD_lt _ | exact dcD_lts rdD_lt | exact dcD_lts seenV_lt | exact dcD_lts ctsD_lt | exact prs_lt' _ | exact prps_lt _ | exact pr_lt _ | exact Nd.lt _ | exact dcD_lts ndsD_lt | exact dcD_lts pr_lt | exact lmD_lt | exact Ev.lt | exact evs_lt _ | exact itDs_lt _ | exact prs_lt _ | exact Wld.lt | exact rows_lt | exact deeds_lt | exact pasts_lt | exact D.lts_ints _ | exact D.lts_strs _ | exact Fc.lt | exact Dd.lt | exact fcs_lt _ | exact nfs_lt _ | exact nf_lt | exact D.pl.lt (by assumption) | exact D.dp.lt (by assumption) | exact D.dps.lt (by assumption) | exact D.pls.lt (by assumption) | assumption | refine ⟨?_, ?_⟩))⟩)) | (obtain ⟨_, _, _, _, h, hr⟩ := h; subst h; (try (obtain ⟨_, hr⟩ := hr)); (try (obtain ⟨_, hr⟩ := hr)); (try (obtain ⟨_, hr⟩ := hr)); (try (obtain ⟨_, hr⟩ := hr)); (all_goals exact ⟨rfl, by (repeat' (first | trivial | exact webD_lt | exact mvsD_lt _ | exact ctsD_lt _ | exact dcD_lts rdD_lt | exact dcD_lts seenV_lt | exact dcD_lts ctsD_lt | exact prs_lt' _ | exact prps_lt _ | exact pr_lt _ | exact Nd.lt _ | exact dcD_lts ndsD_lt | exact dcD_lts pr_lt | exact lmD_lt | exact Ev.lt | exact evs_lt _ | exact itDs_lt _ | exact prs_lt _ | exact Wld.lt | exact rows_lt | exact deeds_lt | exact pasts_lt | exact D.lts_ints _ | exact D.lts_strs _ | exact Fc.lt | exact Dd.lt | exact fcs_lt _ | exact nfs_lt _ | exact nf_lt | exact D.pl.lt (by assumption) | exact D.dp.lt (by assumption) | exact D.dps.lt (by assumption) | exact D.pls.lt (by assumption) | assumption | refine ⟨?_, ?_⟩))⟩)) | (obtain ⟨_, _, _, _, _, h, hr⟩ := h; subst h; (try (obtain ⟨_, hr⟩ := hr)); (try (obtain ⟨_, hr⟩ := hr)); (try (obtain ⟨_, hr⟩ := hr)); (try (obtain ⟨_, hr⟩ := hr)); (all_goals exact ⟨rfl, by (repeat' (first | trivial | exact webD_lt | exact mvsD_lt _ | exact ctsD_lt _ | exact dcD_lts rdD_lt | exact dcD_lts seenV_lt | exact dcD_lts ctsD_lt | exact prs_lt' _ | exact prps_lt _ | exact pr_lt _ | exact Nd.lt _ | exact dcD_lts ndsD_lt | exact dcD_lts pr_lt | exact lmD_lt | exact Ev.lt | exact evs_lt _ | exact itDs_lt _ | exact prs_lt _ | exact Wld.lt | exact rows_lt | exact deeds_lt | exact pasts_lt | exact D.lts_ints _ | exact D.lts_strs _ | exact Fc.lt | exact Dd.lt | exact fcs_lt _ | exact nfs_lt _ | exact nf_lt | exact D.pl.lt (by assumption) | exact D.dp.lt (by assumption) | exact D.dps.lt (by assumption) | exact D.pls.lt (by assumption) | assumption | refine ⟨?_, ?_⟩))⟩)) | (obtain ⟨h, _⟩ := h; exact (by simp at h)))) fun cdv A outer s H E φ T0 W' room wl => ⟨_, (lss_consM (ls_tryKeyAsZ (i := 1) (i2 := 2) Z_BadText H_BadText T.kd_FORMS T.gm_FORMS rfl rfl rfl sc_read_words.nd rfl (.inl rfl) (.inr rfl) rfl rfl (.inl rfl) ⟨rfl, by decide, .inr ⟨T.n_KeyError, rfl, by decide⟩⟩ rfl rfl (fun hd => L2H.passesAt_of rfl hd) (takes_of rfl rfl rfl rfl) wl (room.mono (by decide)) rfl rfl (fun _ _ _ => (le_ix ox_seq (lv 0) le_int)) (by decide) (by decide) (by decide) (by decide) (by intro _ _; rfl) (by intros; rfl))
    (lss_w [2] (lss_cons (ls_if (lt_cmp (oo_ne room.units) (le_callB cc_len rfl T.n_len (by rfl) (la_cons (lv 0) la_nil)) (le_op oo_add (le_callB cc_len rfl T.n_len (by rfl) (la_cons (lv 1) la_nil)) le_int) (by rfl)) (lss_cons (ls_rz0 Z_BadText rfl (room.mono (by decide)) (takes_of rfl rfl rfl rfl) wl)
    lss_nil) lss_nil)
    (lss_cons (ls_set 3 (le_lstM (la_cons (le_ix ox_seq (lv 0) le_int) la_nil)) sc_read_words.nd)
    (lss_consW [0, 1, 4, 5, 6] (ls_for (passes_of rfl) rfl (li_zipS rfl T.n_zip (la_cons (lv 1) (la_cons (le_slice (lv 0) (lp_some le_int) lp_none) la_nil))) (lg_T (t := (.tp [(.nm 4), (.nm 5)])) (tg_tp rfl (tg_cons (tg_nm 4 sc_read_words.nd) (tg_cons (tg_nm 5 sc_read_words.nd) tg_nil))))
    (lss_consW [4] (ls_set 6 (le_ix (ox_kd T.kd_READERS) (le_glob (v := .ref a.v_READERS) (d := .adr a.v_READERS) rfl T.gm_READERS rfl (fun _ _ => rfl)) (lv 4)) sc_read_words.nd)
    (lss_consW [5, 6] (ls_expr (le_bm PySem.F.plainAttrs_list PySem.F.slot_list_append PySem.F.type_list_append mm_append (lv 3) (la_cons (le_callA (k := 8) (i := 6) (L := [(a.a_read_number, (lp (sp_read_number a))), (a.a_read_signs, (lp (sp_read_signs a))), (a.a_read_sign, (lp (sp_read_sign a)))]) (fun z hz => by simp only [List.mem_cons, List.not_mem_nil, or_false] at hz; rcases hz with rfl | rfl | rfl; exact G_read_number.held (by decide); exact G_read_signs.held (by decide); exact G_read_sign.held (by decide)) (room.mono (by decide)) rfl (.inl rfl) (takes_of rfl rfl rfl rfl) wl (la_cons (lv 5) la_nil)) la_nil)))
    lss_nil)))
    (lss_cons (ls_ret (le_callTy cc_tuple rfl T.n_tuple (by rfl) (la_cons (lv 3) la_nil)))
    lss_nil)))))), fun ds S R X n h hW => ?_⟩, T.m_read_words, T.F_read_words.kp, T.b_read_words⟩
  obtain ⟨Q, E, h, rfl, rfl, rfl, rfl⟩ := h
  subst hW
  obtain ⟨ws, rfl, hne, hwl, hw, h1, h2⟩ := h
  obtain ⟨w0, wr, rfl⟩ : ∃ w0 wr, ws = w0 :: wr := by cases ws with | nil => exact absurd rfl hne | cons x y => exact ⟨x, y, rfl⟩
  rw [List.length_cons] at hwl
  have z24 : (100009 : Nat) ≤ sizeLine := by decide
  have e := forms_look w0
  unfold formsL at e
  conv => whnf
  repeat (refine Need.mk ?_ ?_; exact nd; conv => whnf)
  refine sD ?_
  conv => whnf
  repeat (refine Need.mk ?_ ?_; exact nd; conv => whnf)
  refine optI atI0 ?_
  dsimp only
  rw [e]
  cases hk : formK w0 with
  | none =>
    conv => whnf
    repeat (refine Need.mk ?_ ?_; exact nd; conv => whnf)
    exact Xp (h2 fun z => by obtain ⟨l, e, _⟩ := isFc_at z; rw [hk] at e; cases e) ⟨trivial, trivial, trivial⟩
  | some l =>
    have hl4 := formK_len hk
    have hkk := formK_kinds hk
    conv => whnf
    repeat (refine Need.mk ?_ ?_; exact nd; conv => whnf)
    refine bnd (fun g1 => ?_) (fun g1 => ?_)
    · conv => whnf
      repeat (refine Need.mk ?_ ?_; exact nd; conv => whnf)
      refine optI atI0 ?_
      conv => whnf
      repeat (refine Need.mk ?_ ?_; exact nd; conv => whnf)
      have hll : l.length = wr.length := by simp at g1; omega
      rw [show LC.cutD ((w0 :: wr).map D.str) (some 1) none = wr.map D.str by rw [List.map_cons]; exact cutD_from1]
      refine Need.mk (by simp [hll]) ?_
      conv => whnf
      repeat (refine Need.mk ?_ ?_; exact nd; conv => whnf)
      have hzl : (zipD (l.map D.str) (wr.map D.str)).length = l.length := by rw [zipD_len (by simp [hll]), List.length_map]
      refine ⟨fun i s' S' => ∃ (ts : List Th) (t4 t5 t6 : Option D), ts.map Th.k = l.take i ∧ ts.map Th.w = wr.take i ∧ (∀ t ∈ ts, t.fine) ∧ S' = [.lst (.str w0 :: ts.map Th.d)] ∧ s' = [some (.lst ((w0 :: wr).map D.str)), some (.kt (l.map D.str)), none, some (.ref 0), t4, t5, t6], ⟨[], _, _, _, rfl, rfl, fun _ h => absurd h List.not_mem_nil, rfl, rfl⟩, fun _ _ _ _ _ => ⟨rfl, rfl⟩, ?_, ?_⟩
      · rintro i x s' S' hi ⟨ts, t4, t5, t6, hk1, hk2, hk3, rfl, rfl⟩
        obtain ⟨d1, d2, e1, e2, rfl⟩ := zipD_get hi
        obtain ⟨k, hkl, rfl⟩ := map_at e1
        obtain ⟨w, hwr, rfl⟩ := map_at e2
        have hwl1 : w.length ≤ 100000 := hw w (List.mem_cons_of_mem _ (List.mem_of_getElem? hwr))
        have htl : ts.length = min i l.length := by rw [← List.length_map (f := Th.k), hk1, List.length_take]
        have hil : i < l.length := (List.getElem?_eq_some_iff.mp hkl).1
        have snoc : ∀ t : Th, thAs k w t → (ts ++ [t]).map Th.k = l.take (i + 1) ∧ (ts ++ [t]).map Th.w = wr.take (i + 1) ∧ (∀ u ∈ ts ++ [t], u.fine) := fun t ⟨q1, q2, q3⟩ =>
          ⟨by rw [take_snoc hkl, List.map_append, hk1, ← q1]; rfl, by rw [take_snoc hwr, List.map_append, hk2, ← q3]; rfl, fun u hu => by
            rcases List.mem_append.mp hu with hu | hu
            · exact hk3 u hu
            · rw [List.mem_singleton.mp hu]; exact q2⟩
        have no : ¬ isTh k w → ¬ isFc (w0 :: wr) := fun z y => by
          obtain ⟨l', y1, y2, y3⟩ := isFc_at y
          rw [hk] at y1
          cases y1
          exact z (y3 i k w hkl hwr)
        have hlen : ((.str w0 :: ts.map Th.d) : List D).length < sizeLine := by
          rw [List.length_cons, List.length_map]
          exact ltN (by omega)
        conv => whnf
        repeat (refine Need.mk ?_ ?_; exact nd; conv => whnf)
        refine ⟨_, rfl, ?_⟩
        rcases hkk k (List.mem_of_getElem? hkl) with rfl | rfl | rfl
        · conv => whnf
          repeat (refine Need.mk ?_ ?_; exact nd; conv => whnf)
          refine ⟨_, _, 0, rfl, rfl, ?_⟩
          conv => whnf
          repeat (refine Need.mk ?_ ?_; exact nd; conv => whnf)
          refine ⟨w, rfl, hwl1, fun n hn hw1 => ?_, fun z => ?_⟩
          · conv => whnf
            repeat (refine Need.mk ?_ ?_; exact nd; conv => whnf)
            obtain ⟨q1, q2, q3⟩ := snoc (.num n) ⟨rfl, hn, hw1.symm⟩
            exact .inl ⟨ts ++ [.num n], _, _, _, q1, q2, q3, by rw [List.map_append]; rfl, rfl⟩
          · conv => whnf
            repeat (refine Need.mk ?_ ?_; exact nd; conv => whnf)
            exact Xp (h2 (no fun y => z (isTh_num.mp y))) ⟨trivial, trivial, trivial⟩
        · conv => whnf
          repeat (refine Need.mk ?_ ?_; exact nd; conv => whnf)
          refine ⟨_, _, 1, rfl, rfl, ?_⟩
          conv => whnf
          repeat (refine Need.mk ?_ ?_; exact nd; conv => whnf)
          refine ⟨w, rfl, hwl1, fun ns hg hn hw1 => ?_, fun z => ?_⟩
          · conv => whnf
            repeat (refine Need.mk ?_ ?_; exact nd; conv => whnf)
            obtain ⟨q1, q2, q3⟩ := snoc (.sgs ns) ⟨rfl, ⟨hg, hn⟩, hw1.symm⟩
            exact .inl ⟨ts ++ [.sgs ns], _, _, _, q1, q2, q3, by rw [List.map_append]; rfl, rfl⟩
          · conv => whnf
            repeat (refine Need.mk ?_ ?_; exact nd; conv => whnf)
            exact Xp (h2 (no fun y => z (isTh_sgs.mp y))) ⟨trivial, trivial, trivial⟩
        · conv => whnf
          repeat (refine Need.mk ?_ ?_; exact nd; conv => whnf)
          refine ⟨_, _, 2, rfl, rfl, ?_⟩
          conv => whnf
          repeat (refine Need.mk ?_ ?_; exact nd; conv => whnf)
          refine ⟨w, rfl, hwl1, fun n hn0 hn6 hw1 => ?_, fun z => ?_⟩
          · conv => whnf
            repeat (refine Need.mk ?_ ?_; exact nd; conv => whnf)
            obtain ⟨q1, q2, q3⟩ := snoc (.sg n) ⟨rfl, ⟨hn0, hn6⟩, hw1.symm⟩
            exact .inl ⟨ts ++ [.sg n], _, _, _, q1, q2, q3, by rw [List.map_append]; rfl, rfl⟩
          · conv => whnf
            repeat (refine Need.mk ?_ ?_; exact nd; conv => whnf)
            exact Xp (h2 (no fun y => z (isTh_sg.mp y))) ⟨trivial, trivial, trivial⟩
      · rintro s' S' ⟨ts, t4, t5, t6, hk1, hk2, hk3, rfl, rfl⟩
        rw [hzl, List.take_length] at hk1
        rw [hzl, hll, List.take_length] at hk2
        obtain ⟨f, hf, hfw, hfd⟩ := isFc_of hk hk1 hk2 hk3
        have q := h1 f hf hfw
        rw [hfd] at q
        conv => whnf
        repeat (refine Need.mk ?_ ?_; exact nd; conv => whnf)
        exact Rp q (by rw [← hfd]; exact Fc.lt)
    · conv => whnf
      repeat (refine Need.mk ?_ ?_; exact nd; conv => whnf)
      refine Xp (h2 fun z => ?_) ⟨trivial, trivial, trivial⟩
      obtain ⟨l', e1, e2, _⟩ := isFc_at z
      rw [hk] at e1
      cases e1
      apply g1
      simp
      omega
def sp_read_fact (a : Ad) : SpP := fun ds Q E => ∃ x : Str, ds = [.str x] ∧ x.length ≤ 100000 ∧ (∀ f : Fc, fineF f → Txt.split x " " = f.words → Q f.d) ∧ (¬ isFc (Txt.split x " ") → E a.c_BadText [("row", .int 0), ("called", .str "badtext")])
theorem ok_read_fact (T : Txt K w mg a) (G_read_words : Fx P w K mg base 9 a.a_read_words a.d_read_words "read_words" ["words"] (lp (sp_read_words a))) : Fx P w K mg base 10 a.a_read_fact a.d_read_fact "read_fact" ["text"] (lp (sp_read_fact a)) := by
  refine ⟨fn_P T.F_read_fact sc_read_fact (by (intro ds Q E h; first | (obtain ⟨h, hr⟩ := h; subst h; (try (obtain ⟨_, hr⟩ := hr)); (try (obtain ⟨_, hr⟩ := hr)); (try (obtain ⟨_, hr⟩ := hr)); (try (obtain ⟨_, hr⟩ := hr)); (all_goals exact ⟨rfl, by (repeat' (first | trivial | exact webD_lt | exact mvsD_lt _ | exact ctsD_lt _ | exact dcD_lts rdD_lt | exact dcD_lts seenV_lt | exact dcD_lts ctsD_lt | exact prs_lt' _ | exact prps_lt _ | exact pr_lt _ | exact Nd.lt _ | exact dcD_lts ndsD_lt | exact dcD_lts pr_lt | exact lmD_lt | exact Ev.lt | exact evs_lt _ | exact itDs_lt _ | exact prs_lt _ | exact Wld.lt | exact rows_lt | exact deeds_lt | exact pasts_lt | exact D.lts_ints _ | exact D.lts_strs _ | exact Fc.lt | exact Dd.lt | exact fcs_lt _ | exact nfs_lt _ | exact nf_lt | exact D.pl.lt (by assumption) | exact D.dp.lt (by assumption) | exact D.dps.lt (by assumption) | exact D.pls.lt (by assumption) | assumption | refine ⟨?_, ?_⟩))⟩)) | (obtain ⟨_, h, hr⟩ := h; subst h; (try (obtain ⟨_, hr⟩ := hr)); (try (obtain ⟨_, hr⟩ := hr)); (try (obtain ⟨_, hr⟩ := hr)); (try (obtain ⟨_, hr⟩ := hr)); (all_goals exact ⟨rfl, by (repeat' (first | trivial | exact webD_lt | exact mvsD_lt _ | exact ctsD_lt _ | exact dcD_lts rdD_lt | exact dcD_lts seenV_lt | exact dcD_lts ctsD_lt | exact prs_lt' _ | exact prps_lt _ | exact pr_lt _ | exact Nd.lt _ | exact dcD_lts ndsD_lt | exact dcD_lts pr_lt | exact lmD_lt | exact Ev.lt | exact evs_lt _ | exact itDs_lt _ | exact prs_lt _ | exact Wld.lt | exact rows_lt | exact deeds_lt | exact pasts_lt | exact D.lts_ints _ | exact D.lts_strs _ | exact Fc.lt | exact Dd.lt | exact fcs_lt _ | exact nfs_lt _ | exact nf_lt | exact D.pl.lt (by assumption) | exact D.dp.lt (by assumption) | exact D.dps.lt (by assumption) | exact D.pls.lt (by assumption) | assumption | refine ⟨?_, ?_⟩))⟩)) | (obtain ⟨_, _, h, hr⟩ := h; subst h; (try (obtain ⟨_, hr⟩ := hr)); (try (obtain ⟨_, hr⟩ := hr)); (try (obtain ⟨_, hr⟩ := hr)); (try (obtain ⟨_, hr⟩ := hr)); (all_goals exact ⟨rfl, by (repeat' (first | trivial | exact webD_lt | exact mvsD_lt _ | exact ctsD_lt _ | exact dcD_lts rdD_lt | exact dcD_lts seenV_lt | exact dcD_lts ctsD_lt | exact prs_lt' _ | exact prps_lt _ | exact pr_lt _ | exact Nd.lt _ | exact dcD_lts ndsD_lt | exact dcD_lts pr_lt | exact lmD_lt | exact Ev.lt | exact evs_lt _ | exact itDs_lt _ | exact prs_lt _ | exact Wld.lt | exact rows_lt | exact deeds_lt | exact pasts_lt | exact D.lts_ints _ | exact D.lts_strs _ | exact Fc.lt | exact Dd.lt | exact fcs_lt _ | exact nfs_lt _ | exact nf_lt | exact D.pl.lt (by assumption) | exact D.dp.lt (by assumption) | exact D.dps.lt (by assumption) | exact D.pls.lt (by assumption) | assumption | refine ⟨?_, ?_⟩))⟩)) | (obtain ⟨_, _, _, h, hr⟩ := h; subst h; (try (obtain ⟨_, hr⟩ := hr)); (try (obtain ⟨_, hr⟩ := hr)); (try (obtain ⟨_, hr⟩ := hr)); (try (obtain ⟨_, hr⟩ := hr)); (all_goals exact ⟨rfl, by (repeat' (first | trivial | exact webD_lt | exact mvsD_lt _ | exact ctsD_lt _ | exact dcD_lts rdD_lt | exact dcD_lts seenV_lt | exact dcD_lts ctsD_lt | exact prs_lt' _ | exact prps_lt _ | exact pr_lt _ | exact Nd.lt _ | exact dcD_lts ndsD_lt | exact dcD_lts pr_lt | exact lmD_lt | exact Ev.lt | exact evs_lt _ | exact itDs_lt _ | exact prs_lt _ | exact Wld.lt | exact rows_lt | exact deeds_lt | exact pasts_lt | exact D.lts_ints _ | exact D.lts_strs _ | exact Fc.lt | exact Dd.lt | exact fcs_lt _ | exact nfs_lt _ | exact nf_lt | exact D.pl.lt (by assumption) | exact D.dp.lt (by assumption) | exact D.dps.lt (by assumption) | exact D.pls.lt (by assumption) | assumption | refine ⟨?_, ?_⟩))⟩)) | (obtain ⟨_, _, _, _, h, hr⟩ := h; subst h; (try (obtain ⟨_, hr⟩ := hr)); (try (obtain ⟨_, hr⟩ := hr)); (try (obtain ⟨_, hr⟩ := hr)); (try (obtain ⟨_, hr⟩ := hr)); (all_goals exact ⟨rfl, by (repeat' (first | trivial | exact webD_lt | exact mvsD_lt _ | exact ctsD_lt _ | exact dcD_lts rdD_lt | exact dcD_lts seenV_lt | exact dcD_lts ctsD_lt | exact prs_lt' _ | exact prps_lt _ | exact pr_lt _ | exact Nd.lt _ | exact dcD_lts ndsD_lt | exact dcD_lts pr_lt | exact lmD_lt | exact Ev.lt | exact evs_lt _ | exact itDs_lt _ | exact prs_lt _ | exact Wld.lt | exact rows_lt | exact deeds_lt | exact pasts_lt | exact D.lts_ints _ | exact D.lts_strs _ | exact Fc.lt | exact Dd.lt | exact fcs_lt _ | exact nfs_lt _ | exact nf_lt | exact D.pl.lt (by assumption) | exact D.dp.lt (by assumption) | exact D.dps.lt (by assumption) | exact D.pls.lt (by assumption) | assumption | refine ⟨?_, ?_⟩))⟩)) | (obtain ⟨_, _, _, _, _, h, hr⟩ := h; subst h; (try (obtain ⟨_, hr⟩ := hr)); (try (obtain ⟨_, hr⟩ := hr)); (try (obtain ⟨_, hr⟩ := hr)); (try (obtain ⟨_, hr⟩ := hr)); (all_goals exact ⟨rfl, by (repeat' (first | trivial | exact webD_lt | exact mvsD_lt _ | exact ctsD_lt _ | exact dcD_lts rdD_lt | exact dcD_lts seenV_lt | exact dcD_lts ctsD_lt | exact prs_lt' _ | exact prps_lt _ | exact pr_lt _ | exact Nd.lt _ | exact dcD_lts ndsD_lt | exact dcD_lts pr_lt | exact lmD_lt | exact Ev.lt | exact evs_lt _ | exact itDs_lt _ | exact prs_lt _ | exact Wld.lt | exact rows_lt | exact deeds_lt | exact pasts_lt | exact D.lts_ints _ | exact D.lts_strs _ | exact Fc.lt | exact Dd.lt | exact fcs_lt _ | exact nfs_lt _ | exact nf_lt | exact D.pl.lt (by assumption) | exact D.dp.lt (by assumption) | exact D.dps.lt (by assumption) | exact D.pls.lt (by assumption) | assumption | refine ⟨?_, ?_⟩))⟩)) | (obtain ⟨h, _⟩ := h; exact (by simp at h)))) fun cdv A outer s H E φ T0 W' room wl => ⟨_, (lss_cons (ls_ret (le_fx G_read_words (room.mono (by decide)) (takes_of rfl rfl rfl rfl) wl (la_cons (le_bm PySem.F.plainAttrs_str PySem.F.slot_str_split PySem.F.type_str_split mm_split (lv 0) (la_cons le_str la_nil)) la_nil)))
    lss_nil), fun ds S R X n h hW => ?_⟩, T.m_read_fact, T.F_read_fact.kp, T.b_read_fact⟩
  obtain ⟨Q, E, h, rfl, rfl, rfl, rfl⟩ := h
  subst hW
  obtain ⟨x, rfl, hx, h1, h2⟩ := h
  have z24 : (100002 : Nat) ≤ sizeLine := by decide
  have hb := split_bd x blank_tl blank_kind
  conv => whnf
  repeat (refine Need.mk ?_ ?_; exact nd; conv => whnf)
  refine ⟨Txt.split x " ", rfl, split_ne x blank_tl blank_kind, by have := hb.2; omega, fun w hw => Nat.le_trans (hb.1 w hw) hx, fun f hf e => ?_, fun z => ?_⟩
  · conv => whnf
    repeat (refine Need.mk ?_ ?_; exact nd; conv => whnf)
    exact Rp (h1 f hf e) Fc.lt
  · conv => whnf
    repeat (refine Need.mk ?_ ?_; exact nd; conv => whnf)
    exact Xp (h2 z) ⟨trivial, trivial, trivial⟩
def sp_read_deed (a : Ad) : SpP := fun ds Q E => ∃ x : Str, ds = [.str x] ∧ x.length ≤ 100000 ∧ (∀ d : Dd, d.fine → Txt.split x " " = d.words → Q d.d) ∧ (¬ isDd (Txt.split x " ") → E a.c_BadText [("row", .int 0), ("called", .str "badtext")])
theorem ok_read_deed (T : Txt K w mg a) (Z_BadText : XcD P w K mg base "BadText" a.c_BadText a.a_BadText_init a.d_BadText_init ["self", "row"] 1 (fl1 "badtext" "row") (fd1 "badtext" "row") [V.int 0] [D.int 0]) (G_read_number : Fx P w K mg base 4 a.a_read_number a.d_read_number "read_number" ["word"] (lp (sp_read_number a))) (G_read_words : Fx P w K mg base 9 a.a_read_words a.d_read_words "read_words" ["words"] (lp (sp_read_words a))) : Fx P w K mg base 10 a.a_read_deed a.d_read_deed "read_deed" ["text"] (lp (sp_read_deed a)) := by
  refine ⟨fn_P T.F_read_deed sc_read_deed (by (intro ds Q E h; first | (obtain ⟨h, hr⟩ := h; subst h; (try (obtain ⟨_, hr⟩ := hr)); (try (obtain ⟨_, hr⟩ := hr)); (try (obtain ⟨_, hr⟩ := hr)); (try (obtain ⟨_, hr⟩ := hr)); (all_goals exact ⟨rfl, by (repeat' (first | trivial | exact webD_lt | exact mvsD_lt _ | exact ctsD_lt _ | exact dcD_lts rdD_lt | exact dcD_lts seenV_lt | exact dcD_lts ctsD_lt | exact prs_lt' _ | exact prps_lt _ | exact pr_lt _ | exact Nd.lt _ | exact dcD_lts ndsD_lt | exact dcD_lts pr_lt | exact lmD_lt | exact Ev.lt | exact evs_lt _ | exact itDs_lt _ | exact prs_lt _ | exact Wld.lt | exact rows_lt | exact deeds_lt | exact pasts_lt | exact D.lts_ints _ | exact D.lts_strs _ | exact Fc.lt | exact Dd.lt | exact fcs_lt _ | exact nfs_lt _ | exact nf_lt | exact D.pl.lt (by assumption) | exact D.dp.lt (by assumption) | exact D.dps.lt (by assumption) | exact D.pls.lt (by assumption) | assumption | refine ⟨?_, ?_⟩))⟩)) | (obtain ⟨_, h, hr⟩ := h; subst h; (try (obtain ⟨_, hr⟩ := hr)); (try (obtain ⟨_, hr⟩ := hr)); (try (obtain ⟨_, hr⟩ := hr)); (try (obtain ⟨_, hr⟩ := hr)); (all_goals exact ⟨rfl, by (repeat' (first | trivial | exact webD_lt | exact mvsD_lt _ | exact ctsD_lt _ | exact dcD_lts rdD_lt | exact dcD_lts seenV_lt | exact dcD_lts ctsD_lt | exact prs_lt' _ | exact prps_lt _ | exact pr_lt _ | exact Nd.lt _ | exact dcD_lts ndsD_lt | exact dcD_lts pr_lt | exact lmD_lt | exact Ev.lt | exact evs_lt _ | exact itDs_lt _ | exact prs_lt _ | exact Wld.lt | exact rows_lt | exact deeds_lt | exact pasts_lt | exact D.lts_ints _ | exact D.lts_strs _ | exact Fc.lt | exact Dd.lt | exact fcs_lt _ | exact nfs_lt _ | exact nf_lt | exact D.pl.lt (by assumption) | exact D.dp.lt (by assumption) | exact D.dps.lt (by assumption) | exact D.pls.lt (by assumption) | assumption | refine ⟨?_, ?_⟩))⟩)) | (obtain ⟨_, _, h, hr⟩ := h; subst h; (try (obtain ⟨_, hr⟩ := hr)); (try (obtain ⟨_, hr⟩ := hr)); (try (obtain ⟨_, hr⟩ := hr)); (try (obtain ⟨_, hr⟩ := hr)); (all_goals exact ⟨rfl, by (repeat' (first | trivial | exact webD_lt | exact mvsD_lt _ | exact ctsD_lt _ | exact dcD_lts rdD_lt | exact dcD_lts seenV_lt | exact dcD_lts ctsD_lt | exact prs_lt' _ | exact prps_lt _ | exact pr_lt _ | exact Nd.lt _ | exact dcD_lts ndsD_lt | exact dcD_lts pr_lt | exact lmD_lt | exact Ev.lt | exact evs_lt _ | exact itDs_lt _ | exact prs_lt _ | exact Wld.lt | exact rows_lt | exact deeds_lt | exact pasts_lt | exact D.lts_ints _ | exact D.lts_strs _ | exact Fc.lt | exact Dd.lt | exact fcs_lt _ | exact nfs_lt _ | exact nf_lt | exact D.pl.lt (by assumption) | exact D.dp.lt (by assumption) | exact D.dps.lt (by assumption) | exact D.pls.lt (by assumption) | assumption | refine ⟨?_, ?_⟩))⟩)) | (obtain ⟨_, _, _, h, hr⟩ := h; subst h; (try (obtain ⟨_, hr⟩ := hr)); (try (obtain ⟨_, hr⟩ := hr)); (try (obtain ⟨_, hr⟩ := hr)); (try (obtain ⟨_, hr⟩ := hr)); (all_goals exact ⟨rfl, by (repeat' (first | trivial | exact webD_lt | exact mvsD_lt _ | exact ctsD_lt _ | exact dcD_lts rdD_lt | exact dcD_lts seenV_lt | exact dcD_lts ctsD_lt | exact prs_lt' _ | exact prps_lt _ | exact pr_lt _ | exact Nd.lt _ | exact dcD_lts ndsD_lt | exact dcD_lts pr_lt | exact lmD_lt | exact Ev.lt | exact evs_lt _ | exact itDs_lt _ | exact prs_lt _ | exact Wld.lt | exact rows_lt | exact deeds_lt | exact pasts_lt | exact D.lts_ints _ | exact D.lts_strs _ | exact Fc.lt | exact Dd.lt | exact fcs_lt _ | exact nfs_lt _ | exact nf_lt | exact D.pl.lt (by assumption) | exact D.dp.lt (by assumption) | exact D.dps.lt (by assumption) | exact D.pls.lt (by assumption) | assumption | refine ⟨?_, ?_⟩))⟩)) | (obtain ⟨_, _, _, _, h, hr⟩ := h; subst h; (try (obtain ⟨_, hr⟩ := hr)); (try (obtain ⟨_, hr⟩ := hr)); (try (obtain ⟨_, hr⟩ := hr)); (try (obtain ⟨_, hr⟩ := hr)); (all_goals exact ⟨rfl, by (repeat' (first | trivial | exact webD_lt | exact mvsD_lt _ | exact ctsD_lt _ | exact dcD_lts rdD_lt | exact dcD_lts seenV_lt | exact dcD_lts ctsD_lt | exact prs_lt' _ | exact prps_lt _ | exact pr_lt _ | exact Nd.lt _ | exact dcD_lts ndsD_lt | exact dcD_lts pr_lt | exact lmD_lt | exact Ev.lt | exact evs_lt _ | exact itDs_lt _ | exact prs_lt _ | exact Wld.lt | exact rows_lt | exact deeds_lt | exact pasts_lt | exact D.lts_ints _ | exact D.lts_strs _ | exact Fc.lt | exact Dd.lt | exact fcs_lt _ | exact nfs_lt _ | exact nf_lt | exact D.pl.lt (by assumption) | exact D.dp.lt (by assumption) | exact D.dps.lt (by assumption) | exact D.pls.lt (by assumption) | assumption | refine ⟨?_, ?_⟩))⟩)) | (obtain ⟨_, _, _, _, _, h, hr⟩ := h; subst h; (try (obtain ⟨_, hr⟩ := hr)); (try (obtain ⟨_, hr⟩ := hr)); (try (obtain ⟨_, hr⟩ := hr)); (try (obtain ⟨_, hr⟩ := hr)); (all_goals exact ⟨rfl, by (repeat' (first | trivial | exact webD_lt | exact mvsD_lt _ | exact ctsD_lt _ | exact dcD_lts rdD_lt | exact dcD_lts seenV_lt | exact dcD_lts ctsD_lt | exact prs_lt' _ | exact prps_lt _ | exact pr_lt _ | exact Nd.lt _ | exact dcD_lts ndsD_lt | exact dcD_lts pr_lt | exact lmD_lt | exact Ev.lt | exact evs_lt _ | exact itDs_lt _ | exact prs_lt _ | exact Wld.lt | exact rows_lt | exact deeds_lt | exact pasts_lt | exact D.lts_ints _ | exact D.lts_strs _ | exact Fc.lt | exact Dd.lt | exact fcs_lt _ | exact nfs_lt _ | exact nf_lt | exact D.pl.lt (by assumption) | exact D.dp.lt (by assumption) | exact D.dps.lt (by assumption) | exact D.pls.lt (by assumption) | assumption | refine ⟨?_, ?_⟩))⟩)) | (obtain ⟨h, _⟩ := h; exact (by simp at h)))) fun cdv A outer s H E φ T0 W' room wl => ⟨_, (lss_consW [0] (ls_set 1 (le_bm PySem.F.plainAttrs_str PySem.F.slot_str_split PySem.F.type_str_split mm_split (lv 0) (la_cons le_str la_nil)) sc_read_deed.nd)
    (lss_cons (ls_if (lt_cmp oo_in (le_ix ox_seq (lv 1) le_int) (le_tup (la_cons le_str (la_cons le_str la_nil))) (by rfl)) (lss_cons (ls_if (lt_cmp (oo_ne room.units) (le_callB cc_len rfl T.n_len (by rfl) (la_cons (lv 1) la_nil)) le_int (by rfl)) (lss_cons (ls_rz0 Z_BadText rfl (room.mono (by decide)) (takes_of rfl rfl rfl rfl) wl)
    lss_nil) lss_nil)
    (lss_cons (ls_ret (le_tup (la_cons (le_ix ox_seq (lv 1) le_int) (la_cons (le_fx G_read_number (room.mono (by decide)) (takes_of rfl rfl rfl rfl) wl (la_cons (le_ix ox_seq (lv 1) le_int) la_nil)) la_nil))))
    lss_nil)) lss_nil)
    (lss_cons (ls_if (LW.t (lw_and (lt_cmp (oo_eq room.units) (le_ix ox_seq (lv 1) le_int) le_str (by rfl)) (lw_and1 (lt_cmp oo_gt (le_callB cc_len rfl T.n_len (by rfl) (la_cons (lv 1) la_nil)) le_int (by rfl))))) (lss_cons (ls_ret (le_tup (la_cons le_str (la_cons (le_fx G_read_number (room.mono (by decide)) (takes_of rfl rfl rfl rfl) wl (la_cons (le_ix ox_seq (lv 1) le_int) la_nil)) (la_cons (le_fx G_read_words (room.mono (by decide)) (takes_of rfl rfl rfl rfl) wl (la_cons (le_slice (lv 1) (lp_some le_int) lp_none) la_nil)) la_nil)))))
    lss_nil) lss_nil)
    (lss_cons (ls_ret (le_tup (la_cons le_str (la_cons (le_fx G_read_words (room.mono (by decide)) (takes_of rfl rfl rfl rfl) wl (la_cons (lv 1) la_nil)) la_nil))))
    lss_nil)))), fun ds S R X n h hW => ?_⟩, T.m_read_deed, T.F_read_deed.kp, T.b_read_deed⟩
  obtain ⟨Q, E, h, rfl, rfl, rfl, rfl⟩ := h
  subst hW
  obtain ⟨x, rfl, hx, h1, h2⟩ := h
  have z24 : (100002 : Nat) ≤ sizeLine := by decide
  have hb := split_bd x blank_tl blank_kind
  have hn := split_ne x blank_tl blank_kind
  conv => whnf
  repeat (refine Need.mk ?_ ?_; exact nd; conv => whnf)
  generalize Txt.split x " " = ws at h1 h2 hb hn
  obtain ⟨w0, wr, rfl⟩ : ∃ w0 wr, ws = w0 :: wr := by cases ws with | nil => exact absurd rfl hn | cons x y => exact ⟨x, y, rfl⟩
  conv => whnf
  repeat (refine Need.mk ?_ ?_; exact nd; conv => whnf)
  refine optI atI0 ?_
  conv => whnf
  repeat (refine Need.mk ?_ ?_; exact nd; conv => whnf)
  rw [List.length_cons] at hb
  have hw0 := hb.1
  have hwl : wr.length ≤ 100000 := by omega
  have hwr : ∀ w ∈ wr, w.length ≤ 100000 := fun w hw => Nat.le_trans (hb.1 w (List.mem_cons_of_mem _ hw)) hx
  by_cases g1 : w0 = "strike" ∨ w0 = "keep"
  · have two : ∀ n, num4 n → wr = [numW n] → Q (.tup [.str w0, .int n]) := fun n hnu e => by
      rcases g1 with rfl | rfl
      · exact h1 (.strike n) hnu (by rw [e]; rfl)
      · exact h1 (.keep n) hnu (by rw [e]; rfl)
    refine lifT (by rcases g1 with rfl | rfl <;> decide +kernel) ?_
    conv => whnf
    repeat (refine Need.mk ?_ ?_; exact nd; conv => whnf)
    refine bnd (fun g2 => ?_) (fun g2 => ?_)
    · match wr, g2 with
      | [v], _ =>
        have hv := hwr v (by simp)
        conv => whnf
        repeat (refine Need.mk ?_ ?_; exact nd; conv => whnf)
        refine ⟨v, rfl, hv, fun n hn e => ?_, fun z => ?_⟩
        · conv => whnf
          repeat (refine Need.mk ?_ ?_; exact nd; conv => whnf)
          exact Rp (two n hn (by rw [e]))
        · conv => whnf
          repeat (refine Need.mk ?_ ?_; exact nd; conv => whnf)
          refine Xp (h2 fun y => z ?_) ⟨trivial, trivial, trivial⟩
          obtain ⟨u, e, hu⟩ := isDd_sk g1 y
          cases e
          exact hu
      | [], g2 => exact absurd g2 (by simp)
      | _ :: _ :: _, g2 => exact absurd g2 (by simp; omega)
    · conv => whnf
      repeat (refine Need.mk ?_ ?_; exact nd; conv => whnf)
      refine Xp (h2 fun y => g2 ?_) ⟨trivial, trivial, trivial⟩
      obtain ⟨u, e, hu⟩ := isDd_sk g1 y
      rw [e]
      rfl
  · refine lifF (feq_two g1) ?_
    conv => whnf
    repeat (refine Need.mk ?_ ?_; exact nd; conv => whnf)
    refine optI atI0 ?_
    conv => whnf
    repeat (refine Need.mk ?_ ?_; exact nd; conv => whnf)
    have tell : w0 ≠ "amend" ∨ wr.length ≤ 1 → (isFc (w0 :: wr) ∨ ¬ isFc (w0 :: wr)) → (isDd (w0 :: wr) → isFc (w0 :: wr)) := fun z _ y => by
      by_cases hz : w0 = "amend"
      · subst hz
        obtain ⟨v, r, e, hr, _, _⟩ := isDd_am y
        rcases z with z | z
        · exact absurd rfl z
        · rw [e, List.length_cons] at z
          exact absurd (List.eq_nil_of_length_eq_zero (by omega)) hr
      · exact isDd_tell g1 hz y
    refine brd (p := w0 = "amend") (fun g2 => ?_) (fun g2 => ?_)
    · conv => whnf
      repeat (refine Need.mk ?_ ?_; exact nd; conv => whnf)
      subst g2
      refine brd (fun g3 => ?_) (fun g3 => ?_)
      · match wr, g3 with
        | v :: u :: r, _ =>
          have hv := hwr v (by simp)
          conv => whnf
          repeat (refine Need.mk ?_ ?_; exact nd; conv => whnf)
          refine optI (atI_get (by decide) rfl) ?_
          conv => whnf
          repeat (refine Need.mk ?_ ?_; exact nd; conv => whnf)
          refine ⟨v, rfl, hv, fun n hn e => ?_, fun z => ?_⟩
          · conv => whnf
            repeat (refine Need.mk ?_ ?_; exact nd; conv => whnf)
            rw [show LC.cutD (List.map D.str ("amend" :: v :: u :: r)) (some 2) none = (u :: r).map D.str from cutD_from2]
            refine ⟨u :: r, rfl, by simp, by rw [List.length_cons] at hwl; omega, fun w hw => hwr w (List.mem_cons_of_mem _ hw), fun f hf e2 => ?_, fun z => ?_⟩
            · conv => whnf
              repeat (refine Need.mk ?_ ?_; exact nd; conv => whnf)
              exact Rp (h1 (.amend n f) ⟨hn, hf⟩ (by rw [e, e2]; rfl)) ⟨trivial, trivial, Fc.lt, trivial⟩
            · conv => whnf
              repeat (refine Need.mk ?_ ?_; exact nd; conv => whnf)
              refine Xp (h2 fun y => z ?_) ⟨trivial, trivial, trivial⟩
              obtain ⟨v', r', e3, _, _, h4⟩ := isDd_am y
              cases e3
              exact h4
          · conv => whnf
            repeat (refine Need.mk ?_ ?_; exact nd; conv => whnf)
            refine Xp (h2 fun y => z ?_) ⟨trivial, trivial, trivial⟩
            obtain ⟨v', r', e3, _, h3, _⟩ := isDd_am y
            cases e3
            exact h3
        | [], g3 => exact absurd g3 (by simp)
        | [_], g3 => exact absurd g3 (by simp)
      · conv => whnf
        repeat (refine Need.mk ?_ ?_; exact nd; conv => whnf)
        refine ⟨_, rfl, by simp, by rw [List.length_cons]; omega, fun w hw => Nat.le_trans (hw0 w hw) hx, fun f hf e => absurd ⟨f, hf, e⟩ no_am, fun z => ?_⟩
        conv => whnf
        repeat (refine Need.mk ?_ ?_; exact nd; conv => whnf)
        refine Xp (h2 fun y => z (tell (.inr (by simp at g3; omega)) (.inr z) y)) ⟨trivial, trivial, trivial⟩
    · conv => whnf
      repeat (refine Need.mk ?_ ?_; exact nd; conv => whnf)
      refine ⟨_, rfl, by simp, by rw [List.length_cons]; omega, fun w hw => Nat.le_trans (hw0 w hw) hx, fun f hf e => ?_, fun z => ?_⟩
      · conv => whnf
        repeat (refine Need.mk ?_ ?_; exact nd; conv => whnf)
        exact Rp (h1 (.tell f) hf e) ⟨trivial, Fc.lt, trivial⟩
      · conv => whnf
        repeat (refine Need.mk ?_ ?_; exact nd; conv => whnf)
        exact Xp (h2 fun y => z (isDd_tell g1 g2 y)) ⟨trivial, trivial, trivial⟩
def sp__law_open (_ : Ad) : SpD := fun ds S Q _ => ∃ (ns : List Int), ds = [.scr ns] ∧ ns.length ≤ 63 ∧ S = [] ∧ Q (.ref 0) [.drw]
theorem ok__law_open (T : Txt K w mg a)  : Fx P w K mg base 1 a.a__law_open a.d__law_open "_law_open" ["_law_script"] (sp__law_open a) := by
  refine ⟨fn_S T.F__law_open sc__law_open (by (intro ds S Q E h; first | (obtain ⟨h, _⟩ := h; subst h; rfl) | (obtain ⟨_, h, _⟩ := h; subst h; rfl) | (obtain ⟨_, _, h, _⟩ := h; subst h; rfl) | (obtain ⟨_, _, _, h, _⟩ := h; subst h; rfl) | (obtain ⟨_, _, _, _, h, _⟩ := h; subst h; rfl) | (obtain ⟨_, _, _, _, _, h, _⟩ := h; subst h; rfl) | (obtain ⟨_, _, _, _, _, _, h, _⟩ := h; subst h; rfl) | (obtain ⟨_, _, _, _, _, _, _, h, _⟩ := h; subst h; rfl) | (obtain ⟨_, _, _, _, _, _, _, _, h, _⟩ := h; subst h; rfl) | (obtain ⟨_, _, _, _, _, _, _, _, _, h, _⟩ := h; subst h; rfl) | (obtain ⟨_, _, _, _, _, _, _, _, _, _, h, _⟩ := h; subst h; rfl))) fun cdv A outer s H E φ T0 W' room wl => ⟨_, (lss_cons (ls_ret (le_lstM (la_cons (le_callTy cc_list rfl T.n_list (by rfl) (la_cons (le_slice (lv 0) lp_none (lp_some le_int)) la_nil)) (la_cons le_int (la_cons le_int (la_cons le_int la_nil))))))
    lss_nil), fun ds S R X n h hW => ?_⟩, T.m__law_open, T.F__law_open.kp, T.b__law_open⟩
  obtain ⟨Q, E, h, hlt, rfl, rfl, rfl⟩ := h
  subst hW
  obtain ⟨ns, rfl, hn, rfl, q⟩ := h
  conv => whnf
  rw [show (63 : Int) = ((63 : Nat) : Int) from rfl, cutD_to (by simpa using hn)]
  exact ⟨1, .ref 0, [.drw], Nat.zero_le _, by simp, ⟨_, _, rfl, ⟨_, RsL.same ⟨D.lts_ints ns, trivial, trivial, trivial, trivial⟩, ns, 0, 0, 31, rfl, by decide, by decide, by decide, by decide⟩, rfl⟩, Rs.same (show 0 < 1 by decide), q⟩
abbrev sp__law_pull (_ : Ad) : SpP := spPull
theorem ok__law_pull (T : Txt K w mg a)  : Fx P w K mg base 1 a.a__law_pull a.d__law_pull "_law_pull" ["_law_draw", "_law_many"] (ld (sp__law_pull a)) := by
  refine ⟨fn_L T.F__law_pull sc__law_pull (by (intro ds Q E h; first | (obtain ⟨h, hr⟩ := h; subst h; (try (obtain ⟨_, hr⟩ := hr)); (try (obtain ⟨_, hr⟩ := hr)); (try (obtain ⟨_, hr⟩ := hr)); (try (obtain ⟨_, hr⟩ := hr)); (all_goals exact ⟨rfl, by (repeat' (first | trivial | exact webD_lt | exact mvsD_lt _ | exact ctsD_lt _ | exact dcD_lts rdD_lt | exact dcD_lts seenV_lt | exact dcD_lts ctsD_lt | exact prs_lt' _ | exact prps_lt _ | exact pr_lt _ | exact Nd.lt _ | exact dcD_lts ndsD_lt | exact dcD_lts pr_lt | exact lmD_lt | exact Ev.lt | exact evs_lt _ | exact itDs_lt _ | exact prs_lt _ | exact Wld.lt | exact rows_lt | exact deeds_lt | exact pasts_lt | exact D.lts_ints _ | exact D.lts_strs _ | exact Fc.lt | exact Dd.lt | exact fcs_lt _ | exact nfs_lt _ | exact nf_lt | exact D.pl.lt (by assumption) | exact D.dp.lt (by assumption) | exact D.dps.lt (by assumption) | exact D.pls.lt (by assumption) | assumption | refine ⟨?_, ?_⟩))⟩)) | (obtain ⟨_, h, hr⟩ := h; subst h; (try (obtain ⟨_, hr⟩ := hr)); (try (obtain ⟨_, hr⟩ := hr)); (try (obtain ⟨_, hr⟩ := hr)); (try (obtain ⟨_, hr⟩ := hr)); (all_goals exact ⟨rfl, by (repeat' (first | trivial | exact webD_lt | exact mvsD_lt _ | exact ctsD_lt _ | exact dcD_lts rdD_lt | exact dcD_lts seenV_lt | exact dcD_lts ctsD_lt | exact prs_lt' _ | exact prps_lt _ | exact pr_lt _ | exact Nd.lt _ | exact dcD_lts ndsD_lt | exact dcD_lts pr_lt | exact lmD_lt | exact Ev.lt | exact evs_lt _ | exact itDs_lt _ | exact prs_lt _ | exact Wld.lt | exact rows_lt | exact deeds_lt | exact pasts_lt | exact D.lts_ints _ | exact D.lts_strs _ | exact Fc.lt | exact Dd.lt | exact fcs_lt _ | exact nfs_lt _ | exact nf_lt | exact D.pl.lt (by assumption) | exact D.dp.lt (by assumption) | exact D.dps.lt (by assumption) | exact D.pls.lt (by assumption) | assumption | refine ⟨?_, ?_⟩))⟩)) | (obtain ⟨_, _, h, hr⟩ := h; subst h; (try (obtain ⟨_, hr⟩ := hr)); (try (obtain ⟨_, hr⟩ := hr)); (try (obtain ⟨_, hr⟩ := hr)); (try (obtain ⟨_, hr⟩ := hr)); (all_goals exact ⟨rfl, by (repeat' (first | trivial | exact webD_lt | exact mvsD_lt _ | exact ctsD_lt _ | exact dcD_lts rdD_lt | exact dcD_lts seenV_lt | exact dcD_lts ctsD_lt | exact prs_lt' _ | exact prps_lt _ | exact pr_lt _ | exact Nd.lt _ | exact dcD_lts ndsD_lt | exact dcD_lts pr_lt | exact lmD_lt | exact Ev.lt | exact evs_lt _ | exact itDs_lt _ | exact prs_lt _ | exact Wld.lt | exact rows_lt | exact deeds_lt | exact pasts_lt | exact D.lts_ints _ | exact D.lts_strs _ | exact Fc.lt | exact Dd.lt | exact fcs_lt _ | exact nfs_lt _ | exact nf_lt | exact D.pl.lt (by assumption) | exact D.dp.lt (by assumption) | exact D.dps.lt (by assumption) | exact D.pls.lt (by assumption) | assumption | refine ⟨?_, ?_⟩))⟩)) | (obtain ⟨_, _, _, h, hr⟩ := h; subst h; (try (obtain ⟨_, hr⟩ := hr)); (try (obtain ⟨_, hr⟩ := hr)); (try (obtain ⟨_, hr⟩ := hr)); (try (obtain ⟨_, hr⟩ := hr)); (all_goals exact ⟨rfl, by (repeat' (first | trivial | exact webD_lt | exact mvsD_lt _ | exact ctsD_lt _ | exact dcD_lts rdD_lt | exact dcD_lts seenV_lt | exact dcD_lts ctsD_lt | exact prs_lt' _ | exact prps_lt _ | exact pr_lt _ | exact Nd.lt _ | exact dcD_lts ndsD_lt | exact dcD_lts pr_lt | exact lmD_lt | exact Ev.lt | exact evs_lt _ | exact itDs_lt _ | exact prs_lt _ | exact Wld.lt | exact rows_lt | exact deeds_lt | exact pasts_lt | exact D.lts_ints _ | exact D.lts_strs _ | exact Fc.lt | exact Dd.lt | exact fcs_lt _ | exact nfs_lt _ | exact nf_lt | exact D.pl.lt (by assumption) | exact D.dp.lt (by assumption) | exact D.dps.lt (by assumption) | exact D.pls.lt (by assumption) | assumption | refine ⟨?_, ?_⟩))⟩)) | (obtain ⟨_, _, _, _, h, hr⟩ := h; subst h; (try (obtain ⟨_, hr⟩ := hr)); (try (obtain ⟨_, hr⟩ := hr)); (try (obtain ⟨_, hr⟩ := hr)); (try (obtain ⟨_, hr⟩ := hr)); (all_goals exact ⟨rfl, by (repeat' (first | trivial | exact webD_lt | exact mvsD_lt _ | exact ctsD_lt _ | exact dcD_lts rdD_lt | exact dcD_lts seenV_lt | exact dcD_lts ctsD_lt | exact prs_lt' _ | exact prps_lt _ | exact pr_lt _ | exact Nd.lt _ | exact dcD_lts ndsD_lt | exact dcD_lts pr_lt | exact lmD_lt | exact Ev.lt | exact evs_lt _ | exact itDs_lt _ | exact prs_lt _ | exact Wld.lt | exact rows_lt | exact deeds_lt | exact pasts_lt | exact D.lts_ints _ | exact D.lts_strs _ | exact Fc.lt | exact Dd.lt | exact fcs_lt _ | exact nfs_lt _ | exact nf_lt | exact D.pl.lt (by assumption) | exact D.dp.lt (by assumption) | exact D.dps.lt (by assumption) | exact D.pls.lt (by assumption) | assumption | refine ⟨?_, ?_⟩))⟩)) | (obtain ⟨_, _, _, _, _, h, hr⟩ := h; subst h; (try (obtain ⟨_, hr⟩ := hr)); (try (obtain ⟨_, hr⟩ := hr)); (try (obtain ⟨_, hr⟩ := hr)); (try (obtain ⟨_, hr⟩ := hr)); (all_goals exact ⟨rfl, by (repeat' (first | trivial | exact webD_lt | exact mvsD_lt _ | exact ctsD_lt _ | exact dcD_lts rdD_lt | exact dcD_lts seenV_lt | exact dcD_lts ctsD_lt | exact prs_lt' _ | exact prps_lt _ | exact pr_lt _ | exact Nd.lt _ | exact dcD_lts ndsD_lt | exact dcD_lts pr_lt | exact lmD_lt | exact Ev.lt | exact evs_lt _ | exact itDs_lt _ | exact prs_lt _ | exact Wld.lt | exact rows_lt | exact deeds_lt | exact pasts_lt | exact D.lts_ints _ | exact D.lts_strs _ | exact Fc.lt | exact Dd.lt | exact fcs_lt _ | exact nfs_lt _ | exact nf_lt | exact D.pl.lt (by assumption) | exact D.dp.lt (by assumption) | exact D.dps.lt (by assumption) | exact D.pls.lt (by assumption) | assumption | refine ⟨?_, ?_⟩))⟩)) | (obtain ⟨h, _⟩ := h; exact (by simp at h)))) (fun _ _ _ h => h) fun cdv A outer s H E φ T0 W' room wl => ⟨_, (lss_consM (ls_if (LW.t (lw_and (lt_cmp oo_lt (le_ix ox_seq (lv 0) le_int) (lv 1) (by rfl)) (lw_and1 (lt_cmp oo_lt (le_ix ox_seq (lv 0) le_int) (le_callB cc_len rfl T.n_len (by rfl) (la_cons (le_ix ox_seq (lv 0) le_int) la_nil)) (by rfl))))) (lss_cons (ls_set 2 (le_ix ox_seq (le_ix ox_seq (lv 0) le_int) (le_ix ox_seq (lv 0) le_int)) sc__law_pull.nd)
    (lss_cons (ls_asg (le_op oo_add (le_ix ox_seq (lv 0) le_int) le_int) (lg_sub (lv 0) le_int st_list))
    (lss_cons (ls_asg le_int (lg_sub (lv 0) le_int st_list))
    (lss_consW [2] (ls_if (lt_cmp oo_ge (lv 2) (le_op oo_pow le_int le_int) (by rfl)) (lss_consW [2] (ls_asg (lv 2) (lg_sub (lv 0) le_int st_list))
    lss_nil) (lss_consW [2] (ls_asg (le_op oo_mod (le_op oo_add (le_op oo_add (le_op oo_mulX (le_ix ox_seq (lv 0) le_int) le_int) (le_op oo_mulX (le_op oo_mod (lv 2) le_int) le_int)) le_int) le_int) (lg_sub (lv 0) le_int st_list))
    lss_nil))
    lss_nil)))) lss_nil)
    (lss_w [2] (lss_consW [3] (ls_if (lt_cmp oo_ge (le_ix ox_seq (lv 0) le_int) (lv 1) (by rfl)) (lss_cons (ls_set 3 (le_op oo_mod (le_ix ox_seq (lv 0) le_int) (lv 1)) sc__law_pull.nd)
    (lss_consW [0, 1] (ls_asg (le_op oo_fdiv (le_ix ox_seq (lv 0) le_int) (lv 1)) (lg_sub (lv 0) le_int st_list))
    (lss_cons (ls_ret (lv 3))
    lss_nil))) lss_nil)
    (lss_cons (ls_asg (le_op oo_mod (le_op oo_add (le_op oo_add (le_op oo_pow (le_ix ox_seq (lv 0) le_int) le_int) (le_op oo_mulX (le_ix ox_seq (lv 0) le_int) le_int)) le_int) le_int) (lg_sub (lv 0) le_int st_list))
    (lss_cons (ls_ret (le_op oo_mod (le_op oo_add (le_op oo_fdiv (le_ix ox_seq (lv 0) le_int) le_int) (le_op oo_mulX (le_op oo_mod (le_ix ox_seq (lv 0) le_int) le_int) le_int)) (lv 1)))
    lss_nil))))), fun ds S R X n h hW => ?_⟩, T.m__law_pull, T.F__law_pull.kp, T.b__law_pull⟩
  obtain ⟨r, Q, E, l, h, rfl, rfl, hl, rfl, rfl, rfl⟩ := h
  subst hW
  obtain ⟨many, rfl, ⟨h1, h2⟩, q⟩ := h
  obtain ⟨ns, i, z, t, rfl, hi, hz, ht, ht2⟩ := hl
  conv => whnf
  repeat (refine Need.mk ?_ ?_; exact nd; conv => whnf)
  refine sM (fun s' S' => ∃ l', DrawL l' ∧ s' = [some (.ref 0), some (.int many), none, none] ∧ S' = [.lst l']) ?_ ?_
  · conv => whnf
    repeat (refine Need.mk ?_ ?_; exact nd; conv => whnf)
    refine brd (fun hc => ?_) (fun hc => ?_)
    · conv => whnf
      repeat (refine Need.mk ?_ ?_; exact nd; conv => whnf)
      refine brd (fun hc => ?_) (fun hc => ?_)
      · have hc : i < ((ns.map D.int).length : Int) := hc
        rw [List.length_map] at hc
        obtain ⟨c, hc1, ha⟩ := atI_ints hi hc
        conv => whnf
        repeat (refine Need.mk ?_ ?_; exact nd; conv => whnf)
        refine optI ha ?_
        conv => whnf
        repeat (refine Need.mk ?_ ?_; exact nd; conv => whnf)
        refine brd (fun hc => ?_) (fun hc => ?_)
        · conv => whnf
          repeat (refine Need.mk ?_ ?_; exact nd; conv => whnf)
          exact ⟨_, ⟨ns, _, _, _, rfl, by omega, Int.le_trans (by decide) hc, ht, ht2⟩, rfl, rfl⟩
        · conv => whnf
          repeat (refine Need.mk ?_ ?_; exact nd; conv => whnf)
          exact ⟨_, ⟨ns, _, _, _, rfl, by omega, by omega, Int.emod_nonneg _ (by decide), Int.emod_lt_of_pos _ (by decide)⟩, rfl, rfl⟩
      · conv => whnf
        repeat (refine Need.mk ?_ ?_; exact nd; conv => whnf)
        exact ⟨_, ⟨ns, _, _, _, rfl, hi, hz, ht, ht2⟩, rfl, rfl⟩
    · conv => whnf
      repeat (refine Need.mk ?_ ?_; exact nd; conv => whnf)
      exact ⟨_, ⟨ns, _, _, _, rfl, hi, hz, ht, ht2⟩, rfl, rfl⟩
  · rintro s' S' ⟨l', ⟨ns, i, z, t, rfl, hi, hz, ht, ht2⟩, rfl, rfl⟩
    conv => whnf
    repeat (refine Need.mk ?_ ?_; exact nd; conv => whnf)
    refine brd (fun hc => ?_) (fun hc => ?_)
    · conv => whnf
      repeat (refine Need.mk ?_ ?_; exact nd; conv => whnf)
      exact ⟨⟨ns, _, _, _, rfl, hi, Int.ediv_nonneg hz (by omega), ht, ht2⟩, trivial, q _ (Int.emod_nonneg _ (by omega)) (Int.emod_lt_of_pos _ (by omega))⟩
    · conv => whnf
      repeat (refine Need.mk ?_ ?_; exact nd; conv => whnf)
      exact ⟨⟨ns, _, _, _, rfl, hi, hz, Int.emod_nonneg _ (by decide), Int.emod_lt_of_pos _ (by decide)⟩, trivial, q _ (Int.emod_nonneg _ (by omega)) (Int.emod_lt_of_pos _ (by omega))⟩
def sp__law_num (_ : Ad) : SpP := fun ds Q _ => ∃ i : Int, ds = [.int i] ∧ Q (.bl true)
theorem ok__law_num (T : Txt K w mg a)  : Fx P w K mg base 1 a.a__law_num a.d__law_num "_law_num" ["_law_found"] (lp (sp__law_num a)) := by
  refine ⟨fn_P T.F__law_num sc__law_num (by (intro ds Q E h; first | (obtain ⟨h, hr⟩ := h; subst h; (try (obtain ⟨_, hr⟩ := hr)); (try (obtain ⟨_, hr⟩ := hr)); (try (obtain ⟨_, hr⟩ := hr)); (try (obtain ⟨_, hr⟩ := hr)); (all_goals exact ⟨rfl, by (repeat' (first | trivial | exact webD_lt | exact mvsD_lt _ | exact ctsD_lt _ | exact dcD_lts rdD_lt | exact dcD_lts seenV_lt | exact dcD_lts ctsD_lt | exact prs_lt' _ | exact prps_lt _ | exact pr_lt _ | exact Nd.lt _ | exact dcD_lts ndsD_lt | exact dcD_lts pr_lt | exact lmD_lt | exact Ev.lt | exact evs_lt _ | exact itDs_lt _ | exact prs_lt _ | exact Wld.lt | exact rows_lt | exact deeds_lt | exact pasts_lt | exact D.lts_ints _ | exact D.lts_strs _ | exact Fc.lt | exact Dd.lt | exact fcs_lt _ | exact nfs_lt _ | exact nf_lt | exact D.pl.lt (by assumption) | exact D.dp.lt (by assumption) | exact D.dps.lt (by assumption) | exact D.pls.lt (by assumption) | assumption | refine ⟨?_, ?_⟩))⟩)) | (obtain ⟨_, h, hr⟩ := h; subst h; (try (obtain ⟨_, hr⟩ := hr)); (try (obtain ⟨_, hr⟩ := hr)); (try (obtain ⟨_, hr⟩ := hr)); (try (obtain ⟨_, hr⟩ := hr)); (all_goals exact ⟨rfl, by (repeat' (first | trivial | exact webD_lt | exact mvsD_lt _ | exact ctsD_lt _ | exact dcD_lts rdD_lt | exact dcD_lts seenV_lt | exact dcD_lts ctsD_lt | exact prs_lt' _ | exact prps_lt _ | exact pr_lt _ | exact Nd.lt _ | exact dcD_lts ndsD_lt | exact dcD_lts pr_lt | exact lmD_lt | exact Ev.lt | exact evs_lt _ | exact itDs_lt _ | exact prs_lt _ | exact Wld.lt | exact rows_lt | exact deeds_lt | exact pasts_lt | exact D.lts_ints _ | exact D.lts_strs _ | exact Fc.lt | exact Dd.lt | exact fcs_lt _ | exact nfs_lt _ | exact nf_lt | exact D.pl.lt (by assumption) | exact D.dp.lt (by assumption) | exact D.dps.lt (by assumption) | exact D.pls.lt (by assumption) | assumption | refine ⟨?_, ?_⟩))⟩)) | (obtain ⟨_, _, h, hr⟩ := h; subst h; (try (obtain ⟨_, hr⟩ := hr)); (try (obtain ⟨_, hr⟩ := hr)); (try (obtain ⟨_, hr⟩ := hr)); (try (obtain ⟨_, hr⟩ := hr)); (all_goals exact ⟨rfl, by (repeat' (first | trivial | exact webD_lt | exact mvsD_lt _ | exact ctsD_lt _ | exact dcD_lts rdD_lt | exact dcD_lts seenV_lt | exact dcD_lts ctsD_lt | exact prs_lt' _ | exact prps_lt _ | exact pr_lt _ | exact Nd.lt _ | exact dcD_lts ndsD_lt | exact dcD_lts pr_lt | exact lmD_lt | exact Ev.lt | exact evs_lt _ | exact itDs_lt _ | exact prs_lt _ | exact Wld.lt | exact rows_lt | exact deeds_lt | exact pasts_lt | exact D.lts_ints _ | exact D.lts_strs _ | exact Fc.lt | exact Dd.lt | exact fcs_lt _ | exact nfs_lt _ | exact nf_lt | exact D.pl.lt (by assumption) | exact D.dp.lt (by assumption) | exact D.dps.lt (by assumption) | exact D.pls.lt (by assumption) | assumption | refine ⟨?_, ?_⟩))⟩)) | (obtain ⟨_, _, _, h, hr⟩ := h; subst h; (try (obtain ⟨_, hr⟩ := hr)); (try (obtain ⟨_, hr⟩ := hr)); (try (obtain ⟨_, hr⟩ := hr)); (try (obtain ⟨_, hr⟩ := hr)); (all_goals exact ⟨rfl, by (repeat' (first | trivial | exact webD_lt | exact mvsD_lt _ | exact ctsD_lt _ | exact dcD_lts rdD_lt | exact dcD_lts seenV_lt | exact dcD_lts ctsD_lt | exact prs_lt' _ | exact prps_lt _ | exact pr_lt _ | exact Nd.lt _ | exact dcD_lts ndsD_lt | exact dcD_lts pr_lt | exact lmD_lt | exact Ev.lt | exact evs_lt _ | exact itDs_lt _ | exact prs_lt _ | exact Wld.lt | exact rows_lt | exact deeds_lt | exact pasts_lt | exact D.lts_ints _ | exact D.lts_strs _ | exact Fc.lt | exact Dd.lt | exact fcs_lt _ | exact nfs_lt _ | exact nf_lt | exact D.pl.lt (by assumption) | exact D.dp.lt (by assumption) | exact D.dps.lt (by assumption) | exact D.pls.lt (by assumption) | assumption | refine ⟨?_, ?_⟩))⟩)) | (obtain ⟨_, _, _, _, h, hr⟩ := h; subst h; (try (obtain ⟨_, hr⟩ := hr)); (try (obtain ⟨_, hr⟩ := hr)); (try (obtain ⟨_, hr⟩ := hr)); (try (obtain ⟨_, hr⟩ := hr)); (all_goals exact ⟨rfl, by (repeat' (first | trivial | exact webD_lt | exact mvsD_lt _ | exact ctsD_lt _ | exact dcD_lts rdD_lt | exact dcD_lts seenV_lt | exact dcD_lts ctsD_lt | exact prs_lt' _ | exact prps_lt _ | exact pr_lt _ | exact Nd.lt _ | exact dcD_lts ndsD_lt | exact dcD_lts pr_lt | exact lmD_lt | exact Ev.lt | exact evs_lt _ | exact itDs_lt _ | exact prs_lt _ | exact Wld.lt | exact rows_lt | exact deeds_lt | exact pasts_lt | exact D.lts_ints _ | exact D.lts_strs _ | exact Fc.lt | exact Dd.lt | exact fcs_lt _ | exact nfs_lt _ | exact nf_lt | exact D.pl.lt (by assumption) | exact D.dp.lt (by assumption) | exact D.dps.lt (by assumption) | exact D.pls.lt (by assumption) | assumption | refine ⟨?_, ?_⟩))⟩)) | (obtain ⟨_, _, _, _, _, h, hr⟩ := h; subst h; (try (obtain ⟨_, hr⟩ := hr)); (try (obtain ⟨_, hr⟩ := hr)); (try (obtain ⟨_, hr⟩ := hr)); (try (obtain ⟨_, hr⟩ := hr)); (all_goals exact ⟨rfl, by (repeat' (first | trivial | exact webD_lt | exact mvsD_lt _ | exact ctsD_lt _ | exact dcD_lts rdD_lt | exact dcD_lts seenV_lt | exact dcD_lts ctsD_lt | exact prs_lt' _ | exact prps_lt _ | exact pr_lt _ | exact Nd.lt _ | exact dcD_lts ndsD_lt | exact dcD_lts pr_lt | exact lmD_lt | exact Ev.lt | exact evs_lt _ | exact itDs_lt _ | exact prs_lt _ | exact Wld.lt | exact rows_lt | exact deeds_lt | exact pasts_lt | exact D.lts_ints _ | exact D.lts_strs _ | exact Fc.lt | exact Dd.lt | exact fcs_lt _ | exact nfs_lt _ | exact nf_lt | exact D.pl.lt (by assumption) | exact D.dp.lt (by assumption) | exact D.dps.lt (by assumption) | exact D.pls.lt (by assumption) | assumption | refine ⟨?_, ?_⟩))⟩)) | (obtain ⟨h, _⟩ := h; exact (by simp at h)))) fun cdv A outer s H E φ T0 W' room wl => ⟨_, (lss_cons (ls_ret (le_and (le_callB cc_isiB rfl T.n_isinstance (by rfl) (la_cons (lv 0) (la_cons (le_ty rfl T.n_int (by rfl)) la_nil))) (le_one (le_not (le_callB cc_isiB rfl T.n_isinstance (by rfl) (la_cons (lv 0) (la_cons (le_ty rfl T.n_bool (by rfl)) la_nil)))))))
    lss_nil), fun ds S R X n h hW => ?_⟩, T.m__law_num, T.F__law_num.kp, T.b__law_num⟩
  obtain ⟨Q, E, h, rfl, rfl, rfl, rfl⟩ := h
  subst hW
  obtain ⟨i, rfl, q⟩ := h
  conv => whnf
  repeat (refine Need.mk ?_ ?_; exact nd; conv => whnf)
  exact Rp q
def sn__law_like : Nat → Ad → SpP
  | 0, _ => fun _ _ _ => False
  | n + 1, _ => fun ds Q _ => ∃ d : D, ds = [d, d] ∧ D.dp d n ∧ Q (.bl true)
abbrev sp__law_like (a : Ad) : SpP := sn__law_like 11 a
theorem like_all {n : Nat} : ((List.replicate n (D.bl true)) : List D) = (List.replicate n true).map D.bl := by rw [List.map_replicate]
theorem st__law_like (T : Txt K w mg a) (G__law_num : Fx P w K mg base 1 a.a__law_num a.d__law_num "_law_num" ["_law_found"] (lp (sp__law_num a))) {n : Nat} (G__law_like : Fx P w K mg base (n + 1) a.a__law_like a.d__law_like "_law_like" ["_law_found", "_law_due"] (lp (sn__law_like n a))) : Fx P w K mg base (n + 2) a.a__law_like a.d__law_like "_law_like" ["_law_found", "_law_due"] (lp (sn__law_like (n + 1) a)) := by
  refine ⟨fn_P T.F__law_like sc__law_like (by (intro ds Q E h; first | (obtain ⟨h, hr⟩ := h; subst h; (try (obtain ⟨_, hr⟩ := hr)); (try (obtain ⟨_, hr⟩ := hr)); (try (obtain ⟨_, hr⟩ := hr)); (try (obtain ⟨_, hr⟩ := hr)); (all_goals exact ⟨rfl, by (repeat' (first | trivial | exact webD_lt | exact mvsD_lt _ | exact ctsD_lt _ | exact dcD_lts rdD_lt | exact dcD_lts seenV_lt | exact dcD_lts ctsD_lt | exact prs_lt' _ | exact prps_lt _ | exact pr_lt _ | exact Nd.lt _ | exact dcD_lts ndsD_lt | exact dcD_lts pr_lt | exact lmD_lt | exact Ev.lt | exact evs_lt _ | exact itDs_lt _ | exact prs_lt _ | exact Wld.lt | exact rows_lt | exact deeds_lt | exact pasts_lt | exact D.lts_ints _ | exact D.lts_strs _ | exact Fc.lt | exact Dd.lt | exact fcs_lt _ | exact nfs_lt _ | exact nf_lt | exact D.pl.lt (by assumption) | exact D.dp.lt (by assumption) | exact D.dps.lt (by assumption) | exact D.pls.lt (by assumption) | assumption | refine ⟨?_, ?_⟩))⟩)) | (obtain ⟨_, h, hr⟩ := h; subst h; (try (obtain ⟨_, hr⟩ := hr)); (try (obtain ⟨_, hr⟩ := hr)); (try (obtain ⟨_, hr⟩ := hr)); (try (obtain ⟨_, hr⟩ := hr)); (all_goals exact ⟨rfl, by (repeat' (first | trivial | exact webD_lt | exact mvsD_lt _ | exact ctsD_lt _ | exact dcD_lts rdD_lt | exact dcD_lts seenV_lt | exact dcD_lts ctsD_lt | exact prs_lt' _ | exact prps_lt _ | exact pr_lt _ | exact Nd.lt _ | exact dcD_lts ndsD_lt | exact dcD_lts pr_lt | exact lmD_lt | exact Ev.lt | exact evs_lt _ | exact itDs_lt _ | exact prs_lt _ | exact Wld.lt | exact rows_lt | exact deeds_lt | exact pasts_lt | exact D.lts_ints _ | exact D.lts_strs _ | exact Fc.lt | exact Dd.lt | exact fcs_lt _ | exact nfs_lt _ | exact nf_lt | exact D.pl.lt (by assumption) | exact D.dp.lt (by assumption) | exact D.dps.lt (by assumption) | exact D.pls.lt (by assumption) | assumption | refine ⟨?_, ?_⟩))⟩)) | (obtain ⟨_, _, h, hr⟩ := h; subst h; (try (obtain ⟨_, hr⟩ := hr)); (try (obtain ⟨_, hr⟩ := hr)); (try (obtain ⟨_, hr⟩ := hr)); (try (obtain ⟨_, hr⟩ := hr)); (all_goals exact ⟨rfl, by (repeat' (first | trivial | exact webD_lt | exact mvsD_lt _ | exact ctsD_lt _ | exact dcD_lts rdD_lt | exact dcD_lts seenV_lt | exact dcD_lts ctsD_lt | exact prs_lt' _ | exact prps_lt _ | exact pr_lt _ | exact Nd.lt _ | exact dcD_lts ndsD_lt | exact dcD_lts pr_lt | exact lmD_lt | exact Ev.lt | exact evs_lt _ | exact itDs_lt _ | exact prs_lt _ | exact Wld.lt | exact rows_lt | exact deeds_lt | exact pasts_lt | exact D.lts_ints _ | exact D.lts_strs _ | exact Fc.lt | exact Dd.lt | exact fcs_lt _ | exact nfs_lt _ | exact nf_lt | exact D.pl.lt (by assumption) | exact D.dp.lt (by assumption) | exact D.dps.lt (by assumption) | exact D.pls.lt (by assumption) | assumption | refine ⟨?_, ?_⟩))⟩)) | (obtain ⟨_, _, _, h, hr⟩ := h; subst h; (try (obtain ⟨_, hr⟩ := hr)); (try (obtain ⟨_, hr⟩ := hr)); (try (obtain ⟨_, hr⟩ := hr)); (try (obtain ⟨_, hr⟩ := hr)); (all_goals exact ⟨rfl, by (repeat' (first | trivial | exact webD_lt | exact mvsD_lt _ | exact ctsD_lt _ | exact dcD_lts rdD_lt | exact dcD_lts seenV_lt | exact dcD_lts ctsD_lt | exact prs_lt' _ | exact prps_lt _ | exact pr_lt _ | exact Nd.lt _ | exact dcD_lts ndsD_lt | exact dcD_lts pr_lt | exact lmD_lt | exact Ev.lt | exact evs_lt _ | exact itDs_lt _ | exact prs_lt _ | exact Wld.lt | exact rows_lt | exact deeds_lt | exact pasts_lt | exact D.lts_ints _ | exact D.lts_strs _ | exact Fc.lt | exact Dd.lt | exact fcs_lt _ | exact nfs_lt _ | exact nf_lt | exact D.pl.lt (by assumption) | exact D.dp.lt (by assumption) | exact D.dps.lt (by assumption) | exact D.pls.lt (by assumption) | assumption | refine ⟨?_, ?_⟩))⟩)) | (obtain ⟨_, _, _, _, h, hr⟩ := h; subst h; (try (obtain ⟨_, hr⟩ := hr)); (try (obtain ⟨_, hr⟩ := hr)); (try (obtain ⟨_, hr⟩ := hr)); (try (obtain ⟨_, hr⟩ := hr)); (all_goals exact ⟨rfl, by (repeat' (first | trivial | exact webD_lt | exact mvsD_lt _ | exact ctsD_lt _ | exact dcD_lts rdD_lt | exact dcD_lts seenV_lt | exact dcD_lts ctsD_lt | exact prs_lt' _ | exact prps_lt _ | exact pr_lt _ | exact Nd.lt _ | exact dcD_lts ndsD_lt | exact dcD_lts pr_lt | exact lmD_lt | exact Ev.lt | exact evs_lt _ | exact itDs_lt _ | exact prs_lt _ | exact Wld.lt | exact rows_lt | exact deeds_lt | exact pasts_lt | exact D.lts_ints _ | exact D.lts_strs _ | exact Fc.lt | exact Dd.lt | exact fcs_lt _ | exact nfs_lt _ | exact nf_lt | exact D.pl.lt (by assumption) | exact D.dp.lt (by assumption) | exact D.dps.lt (by assumption) | exact D.pls.lt (by assumption) | assumption | refine ⟨?_, ?_⟩))⟩)) | (obtain ⟨_, _, _, _, _, h, hr⟩ := h; subst h; (try (obtain ⟨_, hr⟩ := hr)); (try (obtain ⟨_, hr⟩ := hr)); (try (obtain ⟨_, hr⟩ := hr)); (try (obtain ⟨_, hr⟩ := hr)); (all_goals exact ⟨rfl, by (repeat' (first | trivial | exact webD_lt | exact mvsD_lt _ | exact ctsD_lt _ | exact dcD_lts rdD_lt | exact dcD_lts seenV_lt | exact dcD_lts ctsD_lt | exact prs_lt' _ | exact prps_lt _ | exact pr_lt _ | exact Nd.lt _ | exact dcD_lts ndsD_lt | exact dcD_lts pr_lt | exact lmD_lt | exact Ev.lt | exact evs_lt _ | exact itDs_lt _ | exact prs_lt _ | exact Wld.lt | exact rows_lt | exact deeds_lt | exact pasts_lt | exact D.lts_ints _ | exact D.lts_strs _ | exact Fc.lt | exact Dd.lt | exact fcs_lt _ | exact nfs_lt _ | exact nf_lt | exact D.pl.lt (by assumption) | exact D.dp.lt (by assumption) | exact D.dps.lt (by assumption) | exact D.pls.lt (by assumption) | assumption | refine ⟨?_, ?_⟩))⟩)) | (obtain ⟨h, _⟩ := h; exact (by simp at h)))) fun cdv A outer s H E φ T0 W' room wl => ⟨_, (lss_cons (ls_if (lt_cmp oo_is (lv 1) le_non (by rfl)) (lss_cons (ls_ret (le_cmp oo_is (lv 0) le_non (by rfl)))
    lss_nil) lss_nil)
    (lss_cons (ls_if (lt_truth (le_callB cc_isiB rfl T.n_isinstance (by rfl) (la_cons (lv 1) (la_cons (le_ty rfl T.n_bool (by rfl)) la_nil)))) (lss_cons (ls_ret (le_and (le_callB cc_isiB rfl T.n_isinstance (by rfl) (la_cons (lv 0) (la_cons (le_ty rfl T.n_bool (by rfl)) la_nil))) (le_one (le_cmp (oo_eq room.units) (lv 0) (lv 1) (by rfl)))))
    lss_nil) lss_nil)
    (lss_cons (ls_if (lt_truth (le_callB cc_isiB rfl T.n_isinstance (by rfl) (la_cons (lv 1) (la_cons (le_ty rfl T.n_int (by rfl)) la_nil)))) (lss_cons (ls_ret (le_and (le_fx G__law_num (room.mono (by omega)) (takes_of rfl rfl rfl rfl) wl (la_cons (lv 0) la_nil)) (le_one (le_cmp (oo_eq room.units) (lv 0) (lv 1) (by rfl)))))
    lss_nil) lss_nil)
    (lss_cons (ls_if (lt_truth (le_callB cc_isiB rfl T.n_isinstance (by rfl) (la_cons (lv 1) (la_cons (le_ty rfl T.n_str (by rfl)) la_nil)))) (lss_cons (ls_ret (le_and (le_callB cc_isiB rfl T.n_isinstance (by rfl) (la_cons (lv 0) (la_cons (le_ty rfl T.n_str (by rfl)) la_nil))) (le_one (le_cmp (oo_eq room.units) (lv 0) (lv 1) (by rfl)))))
    lss_nil) lss_nil)
    (lss_cons (ls_if (LW.t (lw_or (lt_cmp (oo_ne room.units) (le_callB cc_isiB rfl T.n_isinstance (by rfl) (la_cons (lv 1) (la_cons (le_ty rfl T.n_tuple (by rfl)) la_nil))) (le_callB cc_isiB rfl T.n_isinstance (by rfl) (la_cons (lv 0) (la_cons (le_ty rfl T.n_tuple (by rfl)) la_nil))) (by rfl)) (lw_or1 (lt_cmp (oo_ne room.units) (le_callB cc_isiB rfl T.n_isinstance (by rfl) (la_cons (lv 1) (la_cons (le_ty rfl T.n_list (by rfl)) la_nil))) (le_callB cc_isiB rfl T.n_isinstance (by rfl) (la_cons (lv 0) (la_cons (le_ty rfl T.n_list (by rfl)) la_nil))) (by rfl))))) (lss_cons (ls_ret le_bl)
    lss_nil) lss_nil)
    (lss_cons (ls_ret (le_and (le_cmp (oo_eq room.units) (le_callB cc_len rfl T.n_len (by rfl) (la_cons (lv 0) la_nil)) (le_callB cc_len rfl T.n_len (by rfl) (la_cons (lv 1) la_nil)) (by rfl)) (le_one (le_callB (cc_all rfl) rfl T.n_all (by rfl) (la_cons (le_lc false [("_law_k", 2)] (.nm 2) rfl sc__law_like.nd (li_rng1 rfl T.n_range (la_cons (le_callB cc_len rfl T.n_len (by rfl) (la_cons (lv 1) la_nil)) la_nil)) (by (conv => { arg 1; whnf }); (conv => { arg 2; whnf }); exact ⟨rfl, by decide +kernel, by decide +kernel, by decide +kernel, by decide +kernel⟩) (fun _ _ _ _ _ => (tg_nm 2 sc__law_like.nd)) (fun _ _ _ _ _ => lts_nil) (fun _ _ _ _ _ => (le_fx G__law_like (room.mono (by omega)) LamX.takes0 WL0 (la_cons (le_ix ox_seq (lv 0) (lv 2)) (la_cons (le_ix ox_seq (lv 1) (lv 2)) la_nil))))) la_nil)))))
    lss_nil)))))), fun ds S R X n h hW => ?_⟩, T.m__law_like, T.F__law_like.kp, T.b__law_like⟩
  obtain ⟨Q, E, h, rfl, rfl, rfl, rfl⟩ := h
  subst hW
  obtain ⟨x, rfl, hd, q⟩ := h
  have fin : ∀ b, b = true → RtP Q (.bl b) [] := fun b e => by subst e; exact Rp q
  cases x with
  | non =>
    conv => whnf
    exact fin _ rfl
  | bl b =>
    conv => whnf
    exact fin _ (by simp [D.seq])
  | int i =>
    conv => whnf
    refine ⟨_, rfl, ?_⟩
    conv => whnf
    exact fin _ (by simp [D.seq])
  | str x =>
    conv => whnf
    exact fin _ (by simp [D.seq])
  | tup xs =>
    cases n with
    | zero => exact hd.elim
    | succ n =>
    conv => whnf
    refine brT rfl ?_
    conv => whnf
    refine ⟨by (have := hd.1; omega), by (have := hd.1; omega), ?_⟩
    refine lc_map (fun _ => .bl true) (by rw [rngD_len]; exact Nat.lt_of_le_of_lt (show _ ≤ 1000000 by (have := hd.1; omega)) (by decide)) (fun _ => trivial) ?_ ?_
    · intro i x acc hi
      obtain ⟨hi2, rfl⟩ := rngD_get hi
      obtain ⟨x, hx⟩ : ∃ x, xs[i]? = some x := ⟨_, List.getElem?_eq_getElem (by omega)⟩
      refine ⟨_, rfl, trivial, fun R r => ?_⟩
      conv => whnf
      refine optI (atI_nat hx) ?_
      conv => whnf
      refine optI (atI_nat hx) ?_
      conv => whnf
      exact ⟨x, rfl, D.dps_mem.mp hd.2 x (List.mem_of_getElem? hx), r⟩
    · conv => whnf
      refine optI (asBs_map (fun _ => true) _) ?_
      exact fin _ (by simp)
  | lst xs =>
    cases n with
    | zero => exact hd.elim
    | succ n =>
    conv => whnf
    refine brT rfl ?_
    conv => whnf
    refine ⟨by (have := hd.1; omega), by (have := hd.1; omega), ?_⟩
    refine lc_map (fun _ => .bl true) (by rw [rngD_len]; exact Nat.lt_of_le_of_lt (show _ ≤ 1000000 by (have := hd.1; omega)) (by decide)) (fun _ => trivial) ?_ ?_
    · intro i x acc hi
      obtain ⟨hi2, rfl⟩ := rngD_get hi
      obtain ⟨x, hx⟩ : ∃ x, xs[i]? = some x := ⟨_, List.getElem?_eq_getElem (by omega)⟩
      refine ⟨_, rfl, trivial, fun R r => ?_⟩
      conv => whnf
      refine optI (atI_nat hx) ?_
      conv => whnf
      refine optI (atI_nat hx) ?_
      conv => whnf
      exact ⟨x, rfl, D.dps_mem.mp hd.2 x (List.mem_of_getElem? hx), r⟩
    · conv => whnf
      refine optI (asBs_map (fun _ => true) _) ?_
      exact fin _ (by simp)
  | _ => exact hd.elim
theorem al__law_like (T : Txt K w mg a) (G__law_num : Fx P w K mg base 1 a.a__law_num a.d__law_num "_law_num" ["_law_found"] (lp (sp__law_num a))) : ∀ n, Fx P w K mg base (n + 1) a.a__law_like a.d__law_like "_law_like" ["_law_found", "_law_due"] (lp (sn__law_like n a))
  | 0 => ⟨fn_no fun _ _ _ _ h => h, T.m__law_like, T.F__law_like.kp, T.b__law_like⟩
  | n + 1 => st__law_like T G__law_num (al__law_like T G__law_num n)
theorem ok__law_like (T : Txt K w mg a) (G__law_num : Fx P w K mg base 1 a.a__law_num a.d__law_num "_law_num" ["_law_found"] (lp (sp__law_num a))) : Fx P w K mg base 12 a.a__law_like a.d__law_like "_law_like" ["_law_found", "_law_due"] (lp (sp__law_like a)) := al__law_like T G__law_num 11
def sp__law_shades (a : Ad) : SpP := fun ds Q _ => ∃ m : Int, ds = [.int m] ∧ 0 ≤ m ∧ m ≤ 40 ∧ ∀ ns : List Int, ns.length = m.toNat → goodN ns → Q (.tup (ns.map D.int))
theorem ok__law_shades (T : Txt K w mg a) (G__law_pull : Fx P w K mg base 1 a.a__law_pull a.d__law_pull "_law_pull" ["_law_draw", "_law_many"] (ld (sp__law_pull a))) : Fx P w K mg base 2 a.a__law_shades a.d__law_shades "_law_shades" ["_law_draw", "_law_many"] (ld (sp__law_shades a)) := by
  refine ⟨fn_W T.F__law_shades sc__law_shades (by (intro ds Q E h; first | (obtain ⟨h, hr⟩ := h; subst h; (try (obtain ⟨_, hr⟩ := hr)); (try (obtain ⟨_, hr⟩ := hr)); (try (obtain ⟨_, hr⟩ := hr)); (try (obtain ⟨_, hr⟩ := hr)); (all_goals exact ⟨rfl, by (repeat' (first | trivial | exact webD_lt | exact mvsD_lt _ | exact ctsD_lt _ | exact dcD_lts rdD_lt | exact dcD_lts seenV_lt | exact dcD_lts ctsD_lt | exact prs_lt' _ | exact prps_lt _ | exact pr_lt _ | exact Nd.lt _ | exact dcD_lts ndsD_lt | exact dcD_lts pr_lt | exact lmD_lt | exact Ev.lt | exact evs_lt _ | exact itDs_lt _ | exact prs_lt _ | exact Wld.lt | exact rows_lt | exact deeds_lt | exact pasts_lt | exact D.lts_ints _ | exact D.lts_strs _ | exact Fc.lt | exact Dd.lt | exact fcs_lt _ | exact nfs_lt _ | exact nf_lt | exact D.pl.lt (by assumption) | exact D.dp.lt (by assumption) | exact D.dps.lt (by assumption) | exact D.pls.lt (by assumption) | assumption | refine ⟨?_, ?_⟩))⟩)) | (obtain ⟨_, h, hr⟩ := h; subst h; (try (obtain ⟨_, hr⟩ := hr)); (try (obtain ⟨_, hr⟩ := hr)); (try (obtain ⟨_, hr⟩ := hr)); (try (obtain ⟨_, hr⟩ := hr)); (all_goals exact ⟨rfl, by (repeat' (first | trivial | exact webD_lt | exact mvsD_lt _ | exact ctsD_lt _ | exact dcD_lts rdD_lt | exact dcD_lts seenV_lt | exact dcD_lts ctsD_lt | exact prs_lt' _ | exact prps_lt _ | exact pr_lt _ | exact Nd.lt _ | exact dcD_lts ndsD_lt | exact dcD_lts pr_lt | exact lmD_lt | exact Ev.lt | exact evs_lt _ | exact itDs_lt _ | exact prs_lt _ | exact Wld.lt | exact rows_lt | exact deeds_lt | exact pasts_lt | exact D.lts_ints _ | exact D.lts_strs _ | exact Fc.lt | exact Dd.lt | exact fcs_lt _ | exact nfs_lt _ | exact nf_lt | exact D.pl.lt (by assumption) | exact D.dp.lt (by assumption) | exact D.dps.lt (by assumption) | exact D.pls.lt (by assumption) | assumption | refine ⟨?_, ?_⟩))⟩)) | (obtain ⟨_, _, h, hr⟩ := h; subst h; (try (obtain ⟨_, hr⟩ := hr)); (try (obtain ⟨_, hr⟩ := hr)); (try (obtain ⟨_, hr⟩ := hr)); (try (obtain ⟨_, hr⟩ := hr)); (all_goals exact ⟨rfl, by (repeat' (first | trivial | exact webD_lt | exact mvsD_lt _ | exact ctsD_lt _ | exact dcD_lts rdD_lt | exact dcD_lts seenV_lt | exact dcD_lts ctsD_lt | exact prs_lt' _ | exact prps_lt _ | exact pr_lt _ | exact Nd.lt _ | exact dcD_lts ndsD_lt | exact dcD_lts pr_lt | exact lmD_lt | exact Ev.lt | exact evs_lt _ | exact itDs_lt _ | exact prs_lt _ | exact Wld.lt | exact rows_lt | exact deeds_lt | exact pasts_lt | exact D.lts_ints _ | exact D.lts_strs _ | exact Fc.lt | exact Dd.lt | exact fcs_lt _ | exact nfs_lt _ | exact nf_lt | exact D.pl.lt (by assumption) | exact D.dp.lt (by assumption) | exact D.dps.lt (by assumption) | exact D.pls.lt (by assumption) | assumption | refine ⟨?_, ?_⟩))⟩)) | (obtain ⟨_, _, _, h, hr⟩ := h; subst h; (try (obtain ⟨_, hr⟩ := hr)); (try (obtain ⟨_, hr⟩ := hr)); (try (obtain ⟨_, hr⟩ := hr)); (try (obtain ⟨_, hr⟩ := hr)); (all_goals exact ⟨rfl, by (repeat' (first | trivial | exact webD_lt | exact mvsD_lt _ | exact ctsD_lt _ | exact dcD_lts rdD_lt | exact dcD_lts seenV_lt | exact dcD_lts ctsD_lt | exact prs_lt' _ | exact prps_lt _ | exact pr_lt _ | exact Nd.lt _ | exact dcD_lts ndsD_lt | exact dcD_lts pr_lt | exact lmD_lt | exact Ev.lt | exact evs_lt _ | exact itDs_lt _ | exact prs_lt _ | exact Wld.lt | exact rows_lt | exact deeds_lt | exact pasts_lt | exact D.lts_ints _ | exact D.lts_strs _ | exact Fc.lt | exact Dd.lt | exact fcs_lt _ | exact nfs_lt _ | exact nf_lt | exact D.pl.lt (by assumption) | exact D.dp.lt (by assumption) | exact D.dps.lt (by assumption) | exact D.pls.lt (by assumption) | assumption | refine ⟨?_, ?_⟩))⟩)) | (obtain ⟨_, _, _, _, h, hr⟩ := h; subst h; (try (obtain ⟨_, hr⟩ := hr)); (try (obtain ⟨_, hr⟩ := hr)); (try (obtain ⟨_, hr⟩ := hr)); (try (obtain ⟨_, hr⟩ := hr)); (all_goals exact ⟨rfl, by (repeat' (first | trivial | exact webD_lt | exact mvsD_lt _ | exact ctsD_lt _ | exact dcD_lts rdD_lt | exact dcD_lts seenV_lt | exact dcD_lts ctsD_lt | exact prs_lt' _ | exact prps_lt _ | exact pr_lt _ | exact Nd.lt _ | exact dcD_lts ndsD_lt | exact dcD_lts pr_lt | exact lmD_lt | exact Ev.lt | exact evs_lt _ | exact itDs_lt _ | exact prs_lt _ | exact Wld.lt | exact rows_lt | exact deeds_lt | exact pasts_lt | exact D.lts_ints _ | exact D.lts_strs _ | exact Fc.lt | exact Dd.lt | exact fcs_lt _ | exact nfs_lt _ | exact nf_lt | exact D.pl.lt (by assumption) | exact D.dp.lt (by assumption) | exact D.dps.lt (by assumption) | exact D.pls.lt (by assumption) | assumption | refine ⟨?_, ?_⟩))⟩)) | (obtain ⟨_, _, _, _, _, h, hr⟩ := h; subst h; (try (obtain ⟨_, hr⟩ := hr)); (try (obtain ⟨_, hr⟩ := hr)); (try (obtain ⟨_, hr⟩ := hr)); (try (obtain ⟨_, hr⟩ := hr)); (all_goals exact ⟨rfl, by (repeat' (first | trivial | exact webD_lt | exact mvsD_lt _ | exact ctsD_lt _ | exact dcD_lts rdD_lt | exact dcD_lts seenV_lt | exact dcD_lts ctsD_lt | exact prs_lt' _ | exact prps_lt _ | exact pr_lt _ | exact Nd.lt _ | exact dcD_lts ndsD_lt | exact dcD_lts pr_lt | exact lmD_lt | exact Ev.lt | exact evs_lt _ | exact itDs_lt _ | exact prs_lt _ | exact Wld.lt | exact rows_lt | exact deeds_lt | exact pasts_lt | exact D.lts_ints _ | exact D.lts_strs _ | exact Fc.lt | exact Dd.lt | exact fcs_lt _ | exact nfs_lt _ | exact nf_lt | exact D.pl.lt (by assumption) | exact D.dp.lt (by assumption) | exact D.dps.lt (by assumption) | exact D.pls.lt (by assumption) | assumption | refine ⟨?_, ?_⟩))⟩)) | (obtain ⟨h, _⟩ := h; exact (by simp at h)))) fun cdv A outer s H E φ T0 W' room wl => ⟨_, (lss_cons (ls_set 2 (le_ix ox_seq (le_tup (la_cons le_int (la_cons le_int la_nil))) (le_fx G__law_pull (room.mono (by decide)) (takes_of rfl rfl rfl rfl) wl (la_cons (lv 0) (la_cons le_int la_nil)))) sc__law_shades.nd)
    (lss_cons (ls_ret (le_callTy cc_tuple rfl T.n_tuple (by rfl) (la_cons (le_lc false [("_law_k", 3)] (.nm 3) rfl sc__law_shades.nd (li_rng1 rfl T.n_range (la_cons (lv 1) la_nil)) (by (conv => { arg 1; whnf }); (conv => { arg 2; whnf }); exact ⟨rfl, by decide +kernel, by decide +kernel, by decide +kernel, by decide +kernel⟩) (fun _ _ _ _ _ => (tg_nm 3 sc__law_shades.nd)) (fun _ _ _ _ _ => lts_nil) (fun _ _ _ _ _ => (le_fx G__law_pull (room.mono (by decide)) LamX.takes0 WL0 (la_cons (lv 0) (la_cons (lv 2) la_nil))))) la_nil)))
    lss_nil)), fun ds S R X n h hW => ?_⟩, T.m__law_shades, T.F__law_shades.kp, T.b__law_shades⟩
  obtain ⟨r, Q, E, h, rfl, rfl, rfl, rfl, rfl⟩ := h
  subst hW
  obtain ⟨m, rfl, h0, h1, q⟩ := h
  conv => whnf
  refine ⟨_, rfl, ⟨by first | decide | omega, by first | decide | omega⟩, fun n h2 h3 => ?_⟩
  conv => whnf
  obtain ⟨k, hk, ha⟩ : ∃ k : Int, (1 ≤ k ∧ k ≤ 7) ∧ L2.atI [D.int 3, D.int 7] n = some (.int k) := by
    have : n = 0 ∨ n = 1 := by omega
    rcases this with rfl | rfl
    · exact ⟨3, by decide, rfl⟩
    · exact ⟨7, by decide, rfl⟩
  refine optI ha ?_
  conv => whnf
  refine ⟨by omega, by omega, ?_⟩
  refine lc_inv (fun i acc => ∃ zs : List Int, acc = zs.map D.int ∧ zs.length = i ∧ goodN zs) ⟨[], rfl, rfl, fun _ h => nomatch h⟩ (by rw [rngD_len]; exact Nat.lt_of_le_of_lt (show m.toNat ≤ 40 by omega) (by decide)) (fun _ => trivial) ?_ ?_
  · rintro i x acc hi ⟨zs, rfl, hz, hg⟩
    obtain ⟨_, rfl⟩ := rngD_get hi
    refine ⟨_, rfl, ?_⟩
    conv => whnf
    refine ⟨_, rfl, ⟨by first | decide | omega, by first | decide | omega⟩, fun z h4 h5 => ?_⟩
    refine ⟨rfl, trivial, zs ++ [z], by simp, by simp [hz], ?_⟩
    intro y hy
    rcases List.mem_append.mp hy with hy | hy
    · exact hg y hy
    · rw [List.mem_singleton.mp hy]; omega
  · rintro acc ⟨zs, rfl, hz, hg⟩
    conv => whnf
    exact Rw (q zs (by rw [hz, rngD_len]) hg) (D.lts_ints _)
theorem words_fact : Txt.split "scrape cover moved year sold ahead same apart scrape scrape" " " = (["scrape", "cover", "moved", "year", "sold", "ahead", "same", "apart", "scrape", "scrape"] : List Str) := by decide +kernel
def sp__law_fact (a : Ad) : SpP := fun ds Q _ => ∃ (ps : List Int) (m : Int), ds = [.lst (ps.map D.int), .int m] ∧ ps ≠ [] ∧ ps.Nodup ∧ ps.length ≤ 60 ∧ 1 ≤ m ∧ m ≤ 40 ∧ ∀ f : Fc, f.good ps m → Q f.d
theorem ok__law_fact (T : Txt K w mg a) (G__law_pull : Fx P w K mg base 1 a.a__law_pull a.d__law_pull "_law_pull" ["_law_draw", "_law_many"] (ld (sp__law_pull a))) (G__law_shades : Fx P w K mg base 2 a.a__law_shades a.d__law_shades "_law_shades" ["_law_draw", "_law_many"] (ld (sp__law_shades a))) : Fx P w K mg base 3 a.a__law_fact a.d__law_fact "_law_fact" ["_law_draw", "_law_parts", "_law_most"] (ld (sp__law_fact a)) := by
  refine ⟨fn_W T.F__law_fact sc__law_fact (by (intro ds Q E h; first | (obtain ⟨h, hr⟩ := h; subst h; (try (obtain ⟨_, hr⟩ := hr)); (try (obtain ⟨_, hr⟩ := hr)); (try (obtain ⟨_, hr⟩ := hr)); (try (obtain ⟨_, hr⟩ := hr)); (all_goals exact ⟨rfl, by (repeat' (first | trivial | exact webD_lt | exact mvsD_lt _ | exact ctsD_lt _ | exact dcD_lts rdD_lt | exact dcD_lts seenV_lt | exact dcD_lts ctsD_lt | exact prs_lt' _ | exact prps_lt _ | exact pr_lt _ | exact Nd.lt _ | exact dcD_lts ndsD_lt | exact dcD_lts pr_lt | exact lmD_lt | exact Ev.lt | exact evs_lt _ | exact itDs_lt _ | exact prs_lt _ | exact Wld.lt | exact rows_lt | exact deeds_lt | exact pasts_lt | exact D.lts_ints _ | exact D.lts_strs _ | exact Fc.lt | exact Dd.lt | exact fcs_lt _ | exact nfs_lt _ | exact nf_lt | exact D.pl.lt (by assumption) | exact D.dp.lt (by assumption) | exact D.dps.lt (by assumption) | exact D.pls.lt (by assumption) | assumption | refine ⟨?_, ?_⟩))⟩)) | (obtain ⟨_, h, hr⟩ := h; subst h; (try (obtain ⟨_, hr⟩ := hr)); (try (obtain ⟨_, hr⟩ := hr)); (try (obtain ⟨_, hr⟩ := hr)); (try (obtain ⟨_, hr⟩ := hr)); (all_goals exact ⟨rfl, by (repeat' (first | trivial | exact webD_lt | exact mvsD_lt _ | exact ctsD_lt _ | exact dcD_lts rdD_lt | exact dcD_lts seenV_lt | exact dcD_lts ctsD_lt | exact prs_lt' _ | exact prps_lt _ | exact pr_lt _ | exact Nd.lt _ | exact dcD_lts ndsD_lt | exact dcD_lts pr_lt | exact lmD_lt | exact Ev.lt | exact evs_lt _ | exact itDs_lt _ | exact prs_lt _ | exact Wld.lt | exact rows_lt | exact deeds_lt | exact pasts_lt | exact D.lts_ints _ | exact D.lts_strs _ | exact Fc.lt | exact Dd.lt | exact fcs_lt _ | exact nfs_lt _ | exact nf_lt | exact D.pl.lt (by assumption) | exact D.dp.lt (by assumption) | exact D.dps.lt (by assumption) | exact D.pls.lt (by assumption) | assumption | refine ⟨?_, ?_⟩))⟩)) | (obtain ⟨_, _, h, hr⟩ := h; subst h; (try (obtain ⟨_, hr⟩ := hr)); (try (obtain ⟨_, hr⟩ := hr)); (try (obtain ⟨_, hr⟩ := hr)); (try (obtain ⟨_, hr⟩ := hr)); (all_goals exact ⟨rfl, by (repeat' (first | trivial | exact webD_lt | exact mvsD_lt _ | exact ctsD_lt _ | exact dcD_lts rdD_lt | exact dcD_lts seenV_lt | exact dcD_lts ctsD_lt | exact prs_lt' _ | exact prps_lt _ | exact pr_lt _ | exact Nd.lt _ | exact dcD_lts ndsD_lt | exact dcD_lts pr_lt | exact lmD_lt | exact Ev.lt | exact evs_lt _ | exact itDs_lt _ | exact prs_lt _ | exact Wld.lt | exact rows_lt | exact deeds_lt | exact pasts_lt | exact D.lts_ints _ | exact D.lts_strs _ | exact Fc.lt | exact Dd.lt | exact fcs_lt _ | exact nfs_lt _ | exact nf_lt | exact D.pl.lt (by assumption) | exact D.dp.lt (by assumption) | exact D.dps.lt (by assumption) | exact D.pls.lt (by assumption) | assumption | refine ⟨?_, ?_⟩))⟩)) | (obtain ⟨_, _, _, h, hr⟩ := h; subst h; (try (obtain ⟨_, hr⟩ := hr)); (try (obtain ⟨_, hr⟩ := hr)); (try (obtain ⟨_, hr⟩ := hr)); (try (obtain ⟨_, hr⟩ := hr)); (all_goals exact ⟨rfl, by (repeat' (first | trivial | exact webD_lt | exact mvsD_lt _ | exact ctsD_lt _ | exact dcD_lts rdD_lt | exact dcD_lts seenV_lt | exact dcD_lts ctsD_lt | exact prs_lt' _ | exact prps_lt _ | exact pr_lt _ | exact Nd.lt _ | exact dcD_lts ndsD_lt | exact dcD_lts pr_lt | exact lmD_lt | exact Ev.lt | exact evs_lt _ | exact itDs_lt _ | exact prs_lt _ | exact Wld.lt | exact rows_lt | exact deeds_lt | exact pasts_lt | exact D.lts_ints _ | exact D.lts_strs _ | exact Fc.lt | exact Dd.lt | exact fcs_lt _ | exact nfs_lt _ | exact nf_lt | exact D.pl.lt (by assumption) | exact D.dp.lt (by assumption) | exact D.dps.lt (by assumption) | exact D.pls.lt (by assumption) | assumption | refine ⟨?_, ?_⟩))⟩)) | (obtain ⟨_, _, _, _, h, hr⟩ := h; subst h; (try (obtain ⟨_, hr⟩ := hr)); (try (obtain ⟨_, hr⟩ := hr)); (try (obtain ⟨_, hr⟩ := hr)); (try (obtain ⟨_, hr⟩ := hr)); (all_goals exact ⟨rfl, by (repeat' (first | trivial | exact webD_lt | exact mvsD_lt _ | exact ctsD_lt _ | exact dcD_lts rdD_lt | exact dcD_lts seenV_lt | exact dcD_lts ctsD_lt | exact prs_lt' _ | exact prps_lt _ | exact pr_lt _ | exact Nd.lt _ | exact dcD_lts ndsD_lt | exact dcD_lts pr_lt | exact lmD_lt | exact Ev.lt | exact evs_lt _ | exact itDs_lt _ | exact prs_lt _ | exact Wld.lt | exact rows_lt | exact deeds_lt | exact pasts_lt | exact D.lts_ints _ | exact D.lts_strs _ | exact Fc.lt | exact Dd.lt | exact fcs_lt _ | exact nfs_lt _ | exact nf_lt | exact D.pl.lt (by assumption) | exact D.dp.lt (by assumption) | exact D.dps.lt (by assumption) | exact D.pls.lt (by assumption) | assumption | refine ⟨?_, ?_⟩))⟩)) | (obtain ⟨_, _, _, _, _, h, hr⟩ := h; subst h; (try (obtain ⟨_, hr⟩ := hr)); (try (obtain ⟨_, hr⟩ := hr)); (try (obtain ⟨_, hr⟩ := hr)); (try (obtain ⟨_, hr⟩ := hr)); (all_goals exact ⟨rfl, by (repeat' (first | trivial | exact webD_lt | exact mvsD_lt _ | exact ctsD_lt _ | exact dcD_lts rdD_lt | exact dcD_lts seenV_lt | exact dcD_lts ctsD_lt | exact prs_lt' _ | exact prps_lt _ | exact pr_lt _ | exact Nd.lt _ | exact dcD_lts ndsD_lt | exact dcD_lts pr_lt | exact lmD_lt | exact Ev.lt | exact evs_lt _ | exact itDs_lt _ | exact prs_lt _ | exact Wld.lt | exact rows_lt | exact deeds_lt | exact pasts_lt | exact D.lts_ints _ | exact D.lts_strs _ | exact Fc.lt | exact Dd.lt | exact fcs_lt _ | exact nfs_lt _ | exact nf_lt | exact D.pl.lt (by assumption) | exact D.dp.lt (by assumption) | exact D.dps.lt (by assumption) | exact D.pls.lt (by assumption) | assumption | refine ⟨?_, ?_⟩))⟩)) | (obtain ⟨h, _⟩ := h; exact (by simp at h)))) fun cdv A outer s H E φ T0 W' room wl => ⟨_, (lss_cons (ls_set 3 (le_ix ox_seq (le_bm PySem.F.plainAttrs_str PySem.F.slot_str_split PySem.F.type_str_split mm_split le_str (la_cons le_str la_nil)) (le_fx G__law_pull (room.mono (by decide)) (takes_of rfl rfl rfl rfl) wl (la_cons (lv 0) (la_cons le_int la_nil)))) sc__law_fact.nd)
    (lss_cons (ls_set 4 (le_ix ox_seq (lv 1) (le_fx G__law_pull (room.mono (by decide)) (takes_of rfl rfl rfl rfl) wl (la_cons (lv 0) (la_cons (le_callB cc_len rfl T.n_len (by rfl) (la_cons (lv 1) la_nil)) la_nil)))) sc__law_fact.nd)
    (lss_cons (ls_set 5 (le_fx G__law_pull (room.mono (by decide)) (takes_of rfl rfl rfl rfl) wl (la_cons (lv 0) (la_cons (lv 2) la_nil))) sc__law_fact.nd)
    (lss_cons (ls_if (LW.t (lw_or (lt_cmp (oo_eq room.units) (lv 3) le_str (by rfl)) (lw_or1 (LW.t (lw_and (lt_cmp oo_lt (le_callB cc_len rfl T.n_len (by rfl) (la_cons (lv 1) la_nil)) le_int (by rfl)) (lw_and1 (lt_cmp oo_in (lv 3) (le_lst (la_cons le_str (la_cons le_str (la_cons le_str (la_cons le_str la_nil))))) (by rfl)))))))) (lss_cons (ls_ret (le_tup (la_cons le_str (la_cons (lv 4) (la_cons (lv 5) (la_cons (le_fx G__law_shades (room.mono (by decide)) (takes_of rfl rfl rfl rfl) wl (la_cons (lv 0) (la_cons (le_op oo_add le_int (le_fx G__law_pull (room.mono (by decide)) (takes_of rfl rfl rfl rfl) wl (la_cons (lv 0) (la_cons (le_op oo_sub (lv 2) (lv 5)) la_nil)))) la_nil))) la_nil))))))
    lss_nil) lss_nil)
    (lss_consW [6] (ls_if (lt_cmp (oo_eq room.units) (lv 3) le_str (by rfl)) (lss_consW [1, 2, 3] (ls_set 6 (le_fx G__law_pull (room.mono (by decide)) (takes_of rfl rfl rfl rfl) wl (la_cons (lv 0) (la_cons (le_ix ox_seq (le_tup (la_cons le_int (la_cons le_int la_nil))) (le_fx G__law_pull (room.mono (by decide)) (takes_of rfl rfl rfl rfl) wl (la_cons (lv 0) (la_cons le_int la_nil)))) la_nil))) sc__law_fact.nd)
    (lss_cons (ls_ret (le_tup (la_cons le_str (la_cons (lv 4) (la_cons (lv 5) (la_cons (lv 6) (la_cons (le_callB (cc_min2 rfl) rfl T.n_min (by rfl) (la_cons le_int (la_cons (le_op oo_add (lv 6) (le_fx G__law_pull (room.mono (by decide)) (takes_of rfl rfl rfl rfl) wl (la_cons (lv 0) (la_cons (le_ix ox_seq (le_tup (la_cons le_int (la_cons le_int la_nil))) (le_fx G__law_pull (room.mono (by decide)) (takes_of rfl rfl rfl rfl) wl (la_cons (lv 0) (la_cons le_int la_nil)))) la_nil)))) la_nil))) la_nil)))))))
    lss_nil)) lss_nil)
    (lss_cons (ls_if (lt_cmp (oo_eq room.units) (lv 3) le_str (by rfl)) (lss_cons (ls_ret (le_tup (la_cons le_str (la_cons (le_op oo_add le_int (le_fx G__law_pull (room.mono (by decide)) (takes_of rfl rfl rfl rfl) wl (la_cons (lv 0) (la_cons le_int la_nil)))) (la_cons (le_fx G__law_pull (room.mono (by decide)) (takes_of rfl rfl rfl rfl) wl (la_cons (lv 0) (la_cons (le_ix ox_seq (le_tup (la_cons le_int (la_cons le_int la_nil))) (le_fx G__law_pull (room.mono (by decide)) (takes_of rfl rfl rfl rfl) wl (la_cons (lv 0) (la_cons le_int la_nil)))) la_nil))) la_nil)))))
    lss_nil) lss_nil)
    (lss_cons (ls_set 7 (le_ix ox_seq (lv 1) (le_fx G__law_pull (room.mono (by decide)) (takes_of rfl rfl rfl rfl) wl (la_cons (lv 0) (la_cons (le_callB cc_len rfl T.n_len (by rfl) (la_cons (lv 1) la_nil)) la_nil)))) sc__law_fact.nd)
    (lss_cons (ls_set 8 (le_fx G__law_pull (room.mono (by decide)) (takes_of rfl rfl rfl rfl) wl (la_cons (lv 0) (la_cons (lv 2) la_nil))) sc__law_fact.nd)
    (lss_cons (ls_if (lt_cmp (oo_eq room.units) (lv 3) le_str (by rfl)) (lss_consW [0, 1, 2, 3] (ls_if (lt_cmp (oo_eq room.units) (le_tup (la_cons (lv 4) (la_cons (lv 5) la_nil))) (le_tup (la_cons (lv 7) (la_cons (lv 8) la_nil))) (by rfl)) (lss_cons (ls_ret (le_tup (la_cons le_str (la_cons (lv 4) (la_cons (lv 5) (la_cons le_int (la_cons le_int la_nil)))))))
    lss_nil) lss_nil)
    (lss_cons (ls_ret (le_tup (la_cons le_str (la_cons (lv 4) (la_cons (lv 5) (la_cons (lv 7) (la_cons (lv 8) la_nil)))))))
    lss_nil)) lss_nil)
    (lss_consM (ls_if (lt_cmp (oo_eq room.units) (lv 4) (lv 7) (by rfl)) (lss_consW [1] (ls_set 7 (le_ix ox_seq (lv 1) (le_op oo_mod (le_op oo_add (le_bm PySem.F.plainAttrs_list PySem.F.slot_list_index PySem.F.type_list_index mm_index (lv 1) (la_cons (lv 4) la_nil)) le_int) (le_callB cc_len rfl T.n_len (by rfl) (la_cons (lv 1) la_nil)))) sc__law_fact.nd)
    lss_nil) lss_nil)
    (lss_w [1] (lss_cons (ls_if (lt_cmp (oo_eq room.units) (lv 3) le_str (by rfl)) (lss_cons (ls_ret (le_tup (la_cons le_str (la_cons (lv 4) (la_cons (lv 7) (la_cons (le_fx G__law_pull (room.mono (by decide)) (takes_of rfl rfl rfl rfl) wl (la_cons (lv 0) (la_cons (le_op oo_add (lv 2) le_int) la_nil))) la_nil))))))
    lss_nil) lss_nil)
    (lss_consW [0, 2] (ls_if (lt_cmp (oo_eq room.units) (lv 3) le_str (by rfl)) (lss_cons (ls_ret (le_tup (la_cons le_str (la_cons (lv 4) (la_cons (le_op oo_add le_int (lv 5)) (la_cons (lv 7) (la_cons (le_fx G__law_pull (room.mono (by decide)) (takes_of rfl rfl rfl rfl) wl (la_cons (lv 0) (la_cons (le_op oo_add (lv 2) le_int) la_nil))) la_nil)))))))
    lss_nil) lss_nil)
    (lss_cons (ls_ret (le_tup (la_cons (lv 3) (la_cons (lv 4) (la_cons (lv 5) (la_cons (lv 7) (la_cons (lv 8) la_nil)))))))
    lss_nil)))))))))))))), fun ds S R X n h hW => ?_⟩, T.m__law_fact, T.F__law_fact.kp, T.b__law_fact⟩
  obtain ⟨r, Q, E, h, rfl, rfl, rfl, rfl, rfl⟩ := h
  subst hW
  obtain ⟨ps, m, rfl, hne, hnd, hl, h1, h2, q⟩ := h
  have hl1 : 1 ≤ ps.length := by cases ps with | nil => exact absurd rfl hne | cons _ _ => simp
  conv => whnf
  repeat (refine Need.mk ?_ ?_; exact nd; conv => whnf)
  rw [words_fact]
  refine ⟨_, rfl, ⟨by decide, by decide⟩, fun n n0 n1 => ?_⟩
  have hn : n = 0 ∨ n = 1 ∨ n = 2 ∨ n = 3 ∨ n = 4 ∨ n = 5 ∨ n = 6 ∨ n = 7 ∨ n = 8 ∨ n = 9 := by omega
  have key : ∀ w : Str, w ∈ (["scrape", "cover", "moved", "year", "sold", "ahead", "same", "apart"] : List Str) → True := fun _ _ => trivial
  rcases hn with rfl | rfl | rfl | rfl | rfl | rfl | rfl | rfl | rfl | rfl
  · conv => whnf
    repeat (refine Need.mk ?_ ?_; exact nd; conv => whnf)
    rw [List.length_map]
    refine ⟨_, rfl, ⟨by omega, by omega⟩, fun i i0 i1 => ?_⟩
    obtain ⟨p, hp, hpa⟩ := atI_ints (ns := ps) i0 (by omega)
    conv => whnf
    repeat (refine Need.mk ?_ ?_; exact nd; conv => whnf)
    refine optI hpa ?_
    conv => whnf
    repeat (refine Need.mk ?_ ?_; exact nd; conv => whnf)
    refine ⟨_, rfl, ⟨by omega, by omega⟩, fun c c0 c1 => ?_⟩
    conv => whnf
    repeat (refine Need.mk ?_ ?_; exact nd; conv => whnf)
    refine ⟨_, rfl, ⟨by (show 1 ≤ m - c; omega), by (show m - c < _; omega)⟩, fun k k0 k1 => ?_⟩
    have k1 : k < m - c := k1
    conv => whnf
    repeat (refine Need.mk ?_ ?_; exact nd; conv => whnf)
    refine ⟨1 + k, rfl, by omega, by omega, fun sh hs hg => ?_⟩
    conv => whnf
    repeat (refine Need.mk ?_ ?_; exact nd; conv => whnf)
    exact Rw (q (.scrape p c sh) ⟨hp, c0, by omega, by omega, hg⟩) (Fc.lt (f := .scrape p c sh))
  · conv => whnf
    repeat (refine Need.mk ?_ ?_; exact nd; conv => whnf)
    rw [List.length_map]
    refine ⟨_, rfl, ⟨by omega, by omega⟩, fun i i0 i1 => ?_⟩
    obtain ⟨p, hp, hpa⟩ := atI_ints (ns := ps) i0 (by omega)
    conv => whnf
    repeat (refine Need.mk ?_ ?_; exact nd; conv => whnf)
    refine optI hpa ?_
    conv => whnf
    repeat (refine Need.mk ?_ ?_; exact nd; conv => whnf)
    refine ⟨_, rfl, ⟨by omega, by omega⟩, fun c c0 c1 => ?_⟩
    conv => whnf
    repeat (refine Need.mk ?_ ?_; exact nd; conv => whnf)
    refine brd (fun hb => ?_) (fun hb => ?_)
    · have hb : ((ps.map D.int).length : Int) < 2 := hb
      rw [List.length_map] at hb
      conv => whnf
      repeat (refine Need.mk ?_ ?_; exact nd; conv => whnf)
      refine ⟨_, rfl, ⟨by (show 1 ≤ m - c; omega), by (show m - c < _; omega)⟩, fun k k0 k1 => ?_⟩
      have k1 : k < m - c := k1
      conv => whnf
      repeat (refine Need.mk ?_ ?_; exact nd; conv => whnf)
      refine ⟨1 + k, rfl, by omega, by omega, fun sh hs hg => ?_⟩
      conv => whnf
      repeat (refine Need.mk ?_ ?_; exact nd; conv => whnf)
      exact Rw (q (.scrape p c sh) ⟨hp, c0, by omega, by omega, hg⟩) (Fc.lt (f := .scrape p c sh))
    · have hb : ¬ ((ps.map D.int).length : Int) < 2 := hb
      rw [List.length_map] at hb
      conv => whnf
      repeat (refine Need.mk ?_ ?_; exact nd; conv => whnf)
      rw [List.length_map]
      refine ⟨_, rfl, ⟨by omega, by omega⟩, fun j j0 j1 => ?_⟩
      obtain ⟨o, ho, hoa⟩ := atI_ints (ns := ps) j0 (by omega)
      conv => whnf
      repeat (refine Need.mk ?_ ?_; exact nd; conv => whnf)
      refine optI hoa ?_
      conv => whnf
      repeat (refine Need.mk ?_ ?_; exact nd; conv => whnf)
      refine ⟨_, rfl, ⟨by omega, by omega⟩, fun d d0 d1 => ?_⟩
      conv => whnf
      repeat (refine Need.mk ?_ ?_; exact nd; conv => whnf)
      refine sM (fun s' S' => S' = [.drw] ∧ ∃ (o : Int) (z : Option D), o ∈ ps ∧ p ≠ o ∧ s' = [some (.ref 0), z, some (.int m), some (.str "cover"), some (.int p), some (.int c), none, some (.int o), some (.int d)]) ?_ ?_
      · conv => whnf
        repeat (refine Need.mk ?_ ?_; exact nd; conv => whnf)
        refine brd (fun hc => ?_) (fun hc => ?_)
        · obtain ⟨j, hj, hj1, o2, ho2, hne2, ha2⟩ := next_part hnd (by omega) hp
          conv => whnf
          repeat (refine Need.mk ?_ ?_; exact nd; conv => whnf)
          refine optI (asIs_ints ps) ?_
          refine optI hj1 ?_
          conv => whnf
          repeat (refine Need.mk ?_ ?_; exact nd; conv => whnf)
          rw [List.length_map]
          refine optI ha2 ?_
          conv => whnf
          repeat (refine Need.mk ?_ ?_; exact nd; conv => whnf)
          exact ⟨rfl, o2, _, ho2, fun z => hne2 z.symm, rfl⟩
        · conv => whnf
          repeat (refine Need.mk ?_ ?_; exact nd; conv => whnf)
          exact ⟨rfl, o, _, ho, hc, rfl⟩
      rintro s' S' ⟨rfl, o, z, ho, hne, rfl⟩
      conv => whnf
      repeat (refine Need.mk ?_ ?_; exact nd; conv => whnf)
      refine ⟨_, rfl, ⟨by omega, by omega⟩, fun e e0 e1 => ?_⟩
      conv => whnf
      repeat (refine Need.mk ?_ ?_; exact nd; conv => whnf)
      exact Rw (q (.cover p o e) ⟨hp, ho, hne, e0, by omega⟩) ⟨trivial, trivial, trivial, trivial, trivial⟩
  · conv => whnf
    repeat (refine Need.mk ?_ ?_; exact nd; conv => whnf)
    rw [List.length_map]
    refine ⟨_, rfl, ⟨by omega, by omega⟩, fun i i0 i1 => ?_⟩
    obtain ⟨p, hp, hpa⟩ := atI_ints (ns := ps) i0 (by omega)
    conv => whnf
    repeat (refine Need.mk ?_ ?_; exact nd; conv => whnf)
    refine optI hpa ?_
    conv => whnf
    repeat (refine Need.mk ?_ ?_; exact nd; conv => whnf)
    refine ⟨_, rfl, ⟨by omega, by omega⟩, fun c c0 c1 => ?_⟩
    conv => whnf
    repeat (refine Need.mk ?_ ?_; exact nd; conv => whnf)
    refine brd (fun hb => ?_) (fun hb => ?_)
    · have hb : ((ps.map D.int).length : Int) < 2 := hb
      rw [List.length_map] at hb
      conv => whnf
      repeat (refine Need.mk ?_ ?_; exact nd; conv => whnf)
      refine ⟨_, rfl, ⟨by (show 1 ≤ m - c; omega), by (show m - c < _; omega)⟩, fun k k0 k1 => ?_⟩
      have k1 : k < m - c := k1
      conv => whnf
      repeat (refine Need.mk ?_ ?_; exact nd; conv => whnf)
      refine ⟨1 + k, rfl, by omega, by omega, fun sh hs hg => ?_⟩
      conv => whnf
      repeat (refine Need.mk ?_ ?_; exact nd; conv => whnf)
      exact Rw (q (.scrape p c sh) ⟨hp, c0, by omega, by omega, hg⟩) (Fc.lt (f := .scrape p c sh))
    · have hb : ¬ ((ps.map D.int).length : Int) < 2 := hb
      rw [List.length_map] at hb
      conv => whnf
      repeat (refine Need.mk ?_ ?_; exact nd; conv => whnf)
      rw [List.length_map]
      refine ⟨_, rfl, ⟨by omega, by omega⟩, fun j j0 j1 => ?_⟩
      obtain ⟨o, ho, hoa⟩ := atI_ints (ns := ps) j0 (by omega)
      conv => whnf
      repeat (refine Need.mk ?_ ?_; exact nd; conv => whnf)
      refine optI hoa ?_
      conv => whnf
      repeat (refine Need.mk ?_ ?_; exact nd; conv => whnf)
      refine ⟨_, rfl, ⟨by omega, by omega⟩, fun d d0 d1 => ?_⟩
      conv => whnf
      repeat (refine Need.mk ?_ ?_; exact nd; conv => whnf)
      refine sM (fun s' S' => S' = [.drw] ∧ ∃ (o : Int) (z : Option D), o ∈ ps ∧ p ≠ o ∧ s' = [some (.ref 0), z, some (.int m), some (.str "moved"), some (.int p), some (.int c), none, some (.int o), some (.int d)]) ?_ ?_
      · conv => whnf
        repeat (refine Need.mk ?_ ?_; exact nd; conv => whnf)
        refine brd (fun hc => ?_) (fun hc => ?_)
        · obtain ⟨j, hj, hj1, o2, ho2, hne2, ha2⟩ := next_part hnd (by omega) hp
          conv => whnf
          repeat (refine Need.mk ?_ ?_; exact nd; conv => whnf)
          refine optI (asIs_ints ps) ?_
          refine optI hj1 ?_
          conv => whnf
          repeat (refine Need.mk ?_ ?_; exact nd; conv => whnf)
          rw [List.length_map]
          refine optI ha2 ?_
          conv => whnf
          repeat (refine Need.mk ?_ ?_; exact nd; conv => whnf)
          exact ⟨rfl, o2, _, ho2, fun z => hne2 z.symm, rfl⟩
        · conv => whnf
          repeat (refine Need.mk ?_ ?_; exact nd; conv => whnf)
          exact ⟨rfl, o, _, ho, hc, rfl⟩
      rintro s' S' ⟨rfl, o, z, ho, hne, rfl⟩
      conv => whnf
      repeat (refine Need.mk ?_ ?_; exact nd; conv => whnf)
      refine ⟨_, rfl, ⟨by omega, by omega⟩, fun e e0 e1 => ?_⟩
      conv => whnf
      repeat (refine Need.mk ?_ ?_; exact nd; conv => whnf)
      exact Rw (q (.moved p (1 + c) o e) ⟨hp, by omega, by omega, ho, hne, e0, by omega⟩) ⟨trivial, trivial, trivial, trivial, trivial, trivial⟩
  · conv => whnf
    repeat (refine Need.mk ?_ ?_; exact nd; conv => whnf)
    rw [List.length_map]
    refine ⟨_, rfl, ⟨by omega, by omega⟩, fun i i0 i1 => ?_⟩
    obtain ⟨p, hp, hpa⟩ := atI_ints (ns := ps) i0 (by omega)
    conv => whnf
    repeat (refine Need.mk ?_ ?_; exact nd; conv => whnf)
    refine optI hpa ?_
    conv => whnf
    repeat (refine Need.mk ?_ ?_; exact nd; conv => whnf)
    refine ⟨_, rfl, ⟨by omega, by omega⟩, fun c c0 c1 => ?_⟩
    conv => whnf
    repeat (refine Need.mk ?_ ?_; exact nd; conv => whnf)
    refine brd (fun hb => ?_) (fun hb => ?_)
    · have hb : ((ps.map D.int).length : Int) < 2 := hb
      rw [List.length_map] at hb
      conv => whnf
      repeat (refine Need.mk ?_ ?_; exact nd; conv => whnf)
      refine ⟨_, rfl, ⟨by omega, by omega⟩, fun b b0 b1 => ?_⟩
      obtain ⟨k, hk, hka⟩ := atI_two (lo := 1) (hi := 1000) b0 b1 (show (1 : Int) ≤ 9 ∧ (9 : Int) ≤ 1000 by decide) (show (1 : Int) ≤ 1000 ∧ (1000 : Int) ≤ 1000 by decide)
      conv => whnf
      repeat (refine Need.mk ?_ ?_; exact nd; conv => whnf)
      refine optI hka ?_
      conv => whnf
      repeat (refine Need.mk ?_ ?_; exact nd; conv => whnf)
      refine ⟨_, rfl, ⟨by omega, by omega⟩, fun f f0 f1 => ?_⟩
      conv => whnf
      repeat (refine Need.mk ?_ ?_; exact nd; conv => whnf)
      refine ⟨_, rfl, ⟨by omega, by omega⟩, fun b b0 b1 => ?_⟩
      obtain ⟨k2, hk2, hka2⟩ := atI_two (lo := 1) (hi := 1000) b0 b1 (show (1 : Int) ≤ 3 ∧ (3 : Int) ≤ 1000 by decide) (show (1 : Int) ≤ 400 ∧ (400 : Int) ≤ 1000 by decide)
      conv => whnf
      repeat (refine Need.mk ?_ ?_; exact nd; conv => whnf)
      refine optI hka2 ?_
      conv => whnf
      repeat (refine Need.mk ?_ ?_; exact nd; conv => whnf)
      refine ⟨_, rfl, ⟨by omega, by omega⟩, fun z z0 z1 => ?_⟩
      conv => whnf
      repeat (refine Need.mk ?_ ?_; exact nd; conv => whnf)
      exact Rw (q (.year p c f (if f + z < 999 then f + z else 999)) ⟨hp, c0, c1, f0, by split <;> omega, by split <;> omega⟩) ⟨trivial, trivial, trivial, trivial, trivial, trivial⟩
    · have hb : ¬ ((ps.map D.int).length : Int) < 2 := hb
      rw [List.length_map] at hb
      conv => whnf
      repeat (refine Need.mk ?_ ?_; exact nd; conv => whnf)
      refine ⟨_, rfl, ⟨by omega, by omega⟩, fun b b0 b1 => ?_⟩
      obtain ⟨k, hk, hka⟩ := atI_two (lo := 1) (hi := 1000) b0 b1 (show (1 : Int) ≤ 9 ∧ (9 : Int) ≤ 1000 by decide) (show (1 : Int) ≤ 1000 ∧ (1000 : Int) ≤ 1000 by decide)
      conv => whnf
      repeat (refine Need.mk ?_ ?_; exact nd; conv => whnf)
      refine optI hka ?_
      conv => whnf
      repeat (refine Need.mk ?_ ?_; exact nd; conv => whnf)
      refine ⟨_, rfl, ⟨by omega, by omega⟩, fun f f0 f1 => ?_⟩
      conv => whnf
      repeat (refine Need.mk ?_ ?_; exact nd; conv => whnf)
      refine ⟨_, rfl, ⟨by omega, by omega⟩, fun b b0 b1 => ?_⟩
      obtain ⟨k2, hk2, hka2⟩ := atI_two (lo := 1) (hi := 1000) b0 b1 (show (1 : Int) ≤ 3 ∧ (3 : Int) ≤ 1000 by decide) (show (1 : Int) ≤ 400 ∧ (400 : Int) ≤ 1000 by decide)
      conv => whnf
      repeat (refine Need.mk ?_ ?_; exact nd; conv => whnf)
      refine optI hka2 ?_
      conv => whnf
      repeat (refine Need.mk ?_ ?_; exact nd; conv => whnf)
      refine ⟨_, rfl, ⟨by omega, by omega⟩, fun z z0 z1 => ?_⟩
      conv => whnf
      repeat (refine Need.mk ?_ ?_; exact nd; conv => whnf)
      exact Rw (q (.year p c f (if f + z < 999 then f + z else 999)) ⟨hp, c0, c1, f0, by split <;> omega, by split <;> omega⟩) ⟨trivial, trivial, trivial, trivial, trivial, trivial⟩
  · conv => whnf
    repeat (refine Need.mk ?_ ?_; exact nd; conv => whnf)
    rw [List.length_map]
    refine ⟨_, rfl, ⟨by omega, by omega⟩, fun i i0 i1 => ?_⟩
    obtain ⟨p, hp, hpa⟩ := atI_ints (ns := ps) i0 (by omega)
    conv => whnf
    repeat (refine Need.mk ?_ ?_; exact nd; conv => whnf)
    refine optI hpa ?_
    conv => whnf
    repeat (refine Need.mk ?_ ?_; exact nd; conv => whnf)
    refine ⟨_, rfl, ⟨by omega, by omega⟩, fun c c0 c1 => ?_⟩
    conv => whnf
    repeat (refine Need.mk ?_ ?_; exact nd; conv => whnf)
    refine brd (fun hb => ?_) (fun hb => ?_)
    · have hb : ((ps.map D.int).length : Int) < 2 := hb
      rw [List.length_map] at hb
      conv => whnf
      repeat (refine Need.mk ?_ ?_; exact nd; conv => whnf)
      refine ⟨_, rfl, ⟨by omega, by omega⟩, fun b b0 b1 => ?_⟩
      conv => whnf
      repeat (refine Need.mk ?_ ?_; exact nd; conv => whnf)
      refine ⟨_, rfl, ⟨by omega, by omega⟩, fun b2 b20 b21 => ?_⟩
      obtain ⟨k, hk, hka⟩ := atI_two (lo := 1) (hi := 1000) b20 b21 (show (1 : Int) ≤ 9 ∧ (9 : Int) ≤ 1000 by decide) (show (1 : Int) ≤ 1000 ∧ (1000 : Int) ≤ 1000 by decide)
      conv => whnf
      repeat (refine Need.mk ?_ ?_; exact nd; conv => whnf)
      refine optI hka ?_
      conv => whnf
      repeat (refine Need.mk ?_ ?_; exact nd; conv => whnf)
      refine ⟨_, rfl, ⟨by omega, by omega⟩, fun y y0 y1 => ?_⟩
      conv => whnf
      repeat (refine Need.mk ?_ ?_; exact nd; conv => whnf)
      exact Rw (q (.sold (1 + b) y) ⟨by omega, by omega, y0, by omega⟩) ⟨trivial, trivial, trivial, trivial⟩
    · have hb : ¬ ((ps.map D.int).length : Int) < 2 := hb
      rw [List.length_map] at hb
      conv => whnf
      repeat (refine Need.mk ?_ ?_; exact nd; conv => whnf)
      refine ⟨_, rfl, ⟨by omega, by omega⟩, fun b b0 b1 => ?_⟩
      conv => whnf
      repeat (refine Need.mk ?_ ?_; exact nd; conv => whnf)
      refine ⟨_, rfl, ⟨by omega, by omega⟩, fun b2 b20 b21 => ?_⟩
      obtain ⟨k, hk, hka⟩ := atI_two (lo := 1) (hi := 1000) b20 b21 (show (1 : Int) ≤ 9 ∧ (9 : Int) ≤ 1000 by decide) (show (1 : Int) ≤ 1000 ∧ (1000 : Int) ≤ 1000 by decide)
      conv => whnf
      repeat (refine Need.mk ?_ ?_; exact nd; conv => whnf)
      refine optI hka ?_
      conv => whnf
      repeat (refine Need.mk ?_ ?_; exact nd; conv => whnf)
      refine ⟨_, rfl, ⟨by omega, by omega⟩, fun y y0 y1 => ?_⟩
      conv => whnf
      repeat (refine Need.mk ?_ ?_; exact nd; conv => whnf)
      exact Rw (q (.sold (1 + b) y) ⟨by omega, by omega, y0, by omega⟩) ⟨trivial, trivial, trivial, trivial⟩
  · conv => whnf
    repeat (refine Need.mk ?_ ?_; exact nd; conv => whnf)
    rw [List.length_map]
    refine ⟨_, rfl, ⟨by omega, by omega⟩, fun i i0 i1 => ?_⟩
    obtain ⟨p, hp, hpa⟩ := atI_ints (ns := ps) i0 (by omega)
    conv => whnf
    repeat (refine Need.mk ?_ ?_; exact nd; conv => whnf)
    refine optI hpa ?_
    conv => whnf
    repeat (refine Need.mk ?_ ?_; exact nd; conv => whnf)
    refine ⟨_, rfl, ⟨by omega, by omega⟩, fun c c0 c1 => ?_⟩
    conv => whnf
    repeat (refine Need.mk ?_ ?_; exact nd; conv => whnf)
    refine brd (fun hb => ?_) (fun hb => ?_)
    · have hb : ((ps.map D.int).length : Int) < 2 := hb
      rw [List.length_map] at hb
      conv => whnf
      repeat (refine Need.mk ?_ ?_; exact nd; conv => whnf)
      rw [List.length_map]
      refine ⟨_, rfl, ⟨by omega, by omega⟩, fun j j0 j1 => ?_⟩
      obtain ⟨o, ho, hoa⟩ := atI_ints (ns := ps) j0 (by omega)
      conv => whnf
      repeat (refine Need.mk ?_ ?_; exact nd; conv => whnf)
      refine optI hoa ?_
      conv => whnf
      repeat (refine Need.mk ?_ ?_; exact nd; conv => whnf)
      refine ⟨_, rfl, ⟨by omega, by omega⟩, fun d d0 d1 => ?_⟩
      conv => whnf
      repeat (refine Need.mk ?_ ?_; exact nd; conv => whnf)
      by_cases he : p = o ∧ c = d
      · refine lifT (by show D.eqd (.tup [.int p, .int c]) (.tup [.int o, .int d]) = true; rw [eqd_pair]; exact decide_eq_true he) ?_
        conv => whnf
        repeat (refine Need.mk ?_ ?_; exact nd; conv => whnf)
        exact Rw (q (.year p c 0 999) ⟨hp, c0, c1, by decide, by decide, by decide⟩) ⟨trivial, trivial, trivial, trivial, trivial, trivial⟩
      · refine lifF (by show D.eqd (.tup [.int p, .int c]) (.tup [.int o, .int d]) = false; rw [eqd_pair]; exact decide_eq_false he) ?_
        conv => whnf
        repeat (refine Need.mk ?_ ?_; exact nd; conv => whnf)
        exact Rw (q (.ahead p c o d) ⟨hp, c0, c1, ho, d0, d1, he⟩) ⟨trivial, trivial, trivial, trivial, trivial, trivial⟩
    · have hb : ¬ ((ps.map D.int).length : Int) < 2 := hb
      rw [List.length_map] at hb
      conv => whnf
      repeat (refine Need.mk ?_ ?_; exact nd; conv => whnf)
      rw [List.length_map]
      refine ⟨_, rfl, ⟨by omega, by omega⟩, fun j j0 j1 => ?_⟩
      obtain ⟨o, ho, hoa⟩ := atI_ints (ns := ps) j0 (by omega)
      conv => whnf
      repeat (refine Need.mk ?_ ?_; exact nd; conv => whnf)
      refine optI hoa ?_
      conv => whnf
      repeat (refine Need.mk ?_ ?_; exact nd; conv => whnf)
      refine ⟨_, rfl, ⟨by omega, by omega⟩, fun d d0 d1 => ?_⟩
      conv => whnf
      repeat (refine Need.mk ?_ ?_; exact nd; conv => whnf)
      by_cases he : p = o ∧ c = d
      · refine lifT (by show D.eqd (.tup [.int p, .int c]) (.tup [.int o, .int d]) = true; rw [eqd_pair]; exact decide_eq_true he) ?_
        conv => whnf
        repeat (refine Need.mk ?_ ?_; exact nd; conv => whnf)
        exact Rw (q (.year p c 0 999) ⟨hp, c0, c1, by decide, by decide, by decide⟩) ⟨trivial, trivial, trivial, trivial, trivial, trivial⟩
      · refine lifF (by show D.eqd (.tup [.int p, .int c]) (.tup [.int o, .int d]) = false; rw [eqd_pair]; exact decide_eq_false he) ?_
        conv => whnf
        repeat (refine Need.mk ?_ ?_; exact nd; conv => whnf)
        exact Rw (q (.ahead p c o d) ⟨hp, c0, c1, ho, d0, d1, he⟩) ⟨trivial, trivial, trivial, trivial, trivial, trivial⟩
  · conv => whnf
    repeat (refine Need.mk ?_ ?_; exact nd; conv => whnf)
    rw [List.length_map]
    refine ⟨_, rfl, ⟨by omega, by omega⟩, fun i i0 i1 => ?_⟩
    obtain ⟨p, hp, hpa⟩ := atI_ints (ns := ps) i0 (by omega)
    conv => whnf
    repeat (refine Need.mk ?_ ?_; exact nd; conv => whnf)
    refine optI hpa ?_
    conv => whnf
    repeat (refine Need.mk ?_ ?_; exact nd; conv => whnf)
    refine ⟨_, rfl, ⟨by omega, by omega⟩, fun c c0 c1 => ?_⟩
    conv => whnf
    repeat (refine Need.mk ?_ ?_; exact nd; conv => whnf)
    refine brd (fun hb => ?_) (fun hb => ?_)
    · have hb : ((ps.map D.int).length : Int) < 2 := hb
      rw [List.length_map] at hb
      conv => whnf
      repeat (refine Need.mk ?_ ?_; exact nd; conv => whnf)
      refine ⟨_, rfl, ⟨by (show 1 ≤ m - c; omega), by (show m - c < _; omega)⟩, fun k k0 k1 => ?_⟩
      have k1 : k < m - c := k1
      conv => whnf
      repeat (refine Need.mk ?_ ?_; exact nd; conv => whnf)
      refine ⟨1 + k, rfl, by omega, by omega, fun sh hs hg => ?_⟩
      conv => whnf
      repeat (refine Need.mk ?_ ?_; exact nd; conv => whnf)
      exact Rw (q (.scrape p c sh) ⟨hp, c0, by omega, by omega, hg⟩) (Fc.lt (f := .scrape p c sh))
    · have hb : ¬ ((ps.map D.int).length : Int) < 2 := hb
      rw [List.length_map] at hb
      conv => whnf
      repeat (refine Need.mk ?_ ?_; exact nd; conv => whnf)
      rw [List.length_map]
      refine ⟨_, rfl, ⟨by omega, by omega⟩, fun j j0 j1 => ?_⟩
      obtain ⟨o, ho, hoa⟩ := atI_ints (ns := ps) j0 (by omega)
      conv => whnf
      repeat (refine Need.mk ?_ ?_; exact nd; conv => whnf)
      refine optI hoa ?_
      conv => whnf
      repeat (refine Need.mk ?_ ?_; exact nd; conv => whnf)
      refine ⟨_, rfl, ⟨by omega, by omega⟩, fun d d0 d1 => ?_⟩
      conv => whnf
      repeat (refine Need.mk ?_ ?_; exact nd; conv => whnf)
      refine sM (fun s' S' => S' = [.drw] ∧ ∃ (o : Int) (z : Option D), o ∈ ps ∧ p ≠ o ∧ s' = [some (.ref 0), z, some (.int m), some (.str "same"), some (.int p), some (.int c), none, some (.int o), some (.int d)]) ?_ ?_
      · conv => whnf
        repeat (refine Need.mk ?_ ?_; exact nd; conv => whnf)
        refine brd (fun hc => ?_) (fun hc => ?_)
        · obtain ⟨j, hj, hj1, o2, ho2, hne2, ha2⟩ := next_part hnd (by omega) hp
          conv => whnf
          repeat (refine Need.mk ?_ ?_; exact nd; conv => whnf)
          refine optI (asIs_ints ps) ?_
          refine optI hj1 ?_
          conv => whnf
          repeat (refine Need.mk ?_ ?_; exact nd; conv => whnf)
          rw [List.length_map]
          refine optI ha2 ?_
          conv => whnf
          repeat (refine Need.mk ?_ ?_; exact nd; conv => whnf)
          exact ⟨rfl, o2, _, ho2, fun z => hne2 z.symm, rfl⟩
        · conv => whnf
          repeat (refine Need.mk ?_ ?_; exact nd; conv => whnf)
          exact ⟨rfl, o, _, ho, hc, rfl⟩
      rintro s' S' ⟨rfl, o, z, ho, hne, rfl⟩
      conv => whnf
      repeat (refine Need.mk ?_ ?_; exact nd; conv => whnf)
      exact Rw (q (.same p c o d) ⟨hp, c0, c1, ho, d0, d1, hne⟩) ⟨trivial, trivial, trivial, trivial, trivial, trivial⟩
  · conv => whnf
    repeat (refine Need.mk ?_ ?_; exact nd; conv => whnf)
    rw [List.length_map]
    refine ⟨_, rfl, ⟨by omega, by omega⟩, fun i i0 i1 => ?_⟩
    obtain ⟨p, hp, hpa⟩ := atI_ints (ns := ps) i0 (by omega)
    conv => whnf
    repeat (refine Need.mk ?_ ?_; exact nd; conv => whnf)
    refine optI hpa ?_
    conv => whnf
    repeat (refine Need.mk ?_ ?_; exact nd; conv => whnf)
    refine ⟨_, rfl, ⟨by omega, by omega⟩, fun c c0 c1 => ?_⟩
    conv => whnf
    repeat (refine Need.mk ?_ ?_; exact nd; conv => whnf)
    refine brd (fun hb => ?_) (fun hb => ?_)
    · have hb : ((ps.map D.int).length : Int) < 2 := hb
      rw [List.length_map] at hb
      conv => whnf
      repeat (refine Need.mk ?_ ?_; exact nd; conv => whnf)
      refine ⟨_, rfl, ⟨by (show 1 ≤ m - c; omega), by (show m - c < _; omega)⟩, fun k k0 k1 => ?_⟩
      have k1 : k < m - c := k1
      conv => whnf
      repeat (refine Need.mk ?_ ?_; exact nd; conv => whnf)
      refine ⟨1 + k, rfl, by omega, by omega, fun sh hs hg => ?_⟩
      conv => whnf
      repeat (refine Need.mk ?_ ?_; exact nd; conv => whnf)
      exact Rw (q (.scrape p c sh) ⟨hp, c0, by omega, by omega, hg⟩) (Fc.lt (f := .scrape p c sh))
    · have hb : ¬ ((ps.map D.int).length : Int) < 2 := hb
      rw [List.length_map] at hb
      conv => whnf
      repeat (refine Need.mk ?_ ?_; exact nd; conv => whnf)
      rw [List.length_map]
      refine ⟨_, rfl, ⟨by omega, by omega⟩, fun j j0 j1 => ?_⟩
      obtain ⟨o, ho, hoa⟩ := atI_ints (ns := ps) j0 (by omega)
      conv => whnf
      repeat (refine Need.mk ?_ ?_; exact nd; conv => whnf)
      refine optI hoa ?_
      conv => whnf
      repeat (refine Need.mk ?_ ?_; exact nd; conv => whnf)
      refine ⟨_, rfl, ⟨by omega, by omega⟩, fun d d0 d1 => ?_⟩
      conv => whnf
      repeat (refine Need.mk ?_ ?_; exact nd; conv => whnf)
      refine sM (fun s' S' => S' = [.drw] ∧ ∃ (o : Int) (z : Option D), o ∈ ps ∧ p ≠ o ∧ s' = [some (.ref 0), z, some (.int m), some (.str "apart"), some (.int p), some (.int c), none, some (.int o), some (.int d)]) ?_ ?_
      · conv => whnf
        repeat (refine Need.mk ?_ ?_; exact nd; conv => whnf)
        refine brd (fun hc => ?_) (fun hc => ?_)
        · obtain ⟨j, hj, hj1, o2, ho2, hne2, ha2⟩ := next_part hnd (by omega) hp
          conv => whnf
          repeat (refine Need.mk ?_ ?_; exact nd; conv => whnf)
          refine optI (asIs_ints ps) ?_
          refine optI hj1 ?_
          conv => whnf
          repeat (refine Need.mk ?_ ?_; exact nd; conv => whnf)
          rw [List.length_map]
          refine optI ha2 ?_
          conv => whnf
          repeat (refine Need.mk ?_ ?_; exact nd; conv => whnf)
          exact ⟨rfl, o2, _, ho2, fun z => hne2 z.symm, rfl⟩
        · conv => whnf
          repeat (refine Need.mk ?_ ?_; exact nd; conv => whnf)
          exact ⟨rfl, o, _, ho, hc, rfl⟩
      rintro s' S' ⟨rfl, o, z, ho, hne, rfl⟩
      conv => whnf
      repeat (refine Need.mk ?_ ?_; exact nd; conv => whnf)
      exact Rw (q (.apart p c o d) ⟨hp, c0, c1, ho, d0, d1, hne⟩) ⟨trivial, trivial, trivial, trivial, trivial, trivial⟩
  · conv => whnf
    repeat (refine Need.mk ?_ ?_; exact nd; conv => whnf)
    rw [List.length_map]
    refine ⟨_, rfl, ⟨by omega, by omega⟩, fun i i0 i1 => ?_⟩
    obtain ⟨p, hp, hpa⟩ := atI_ints (ns := ps) i0 (by omega)
    conv => whnf
    repeat (refine Need.mk ?_ ?_; exact nd; conv => whnf)
    refine optI hpa ?_
    conv => whnf
    repeat (refine Need.mk ?_ ?_; exact nd; conv => whnf)
    refine ⟨_, rfl, ⟨by omega, by omega⟩, fun c c0 c1 => ?_⟩
    conv => whnf
    repeat (refine Need.mk ?_ ?_; exact nd; conv => whnf)
    refine ⟨_, rfl, ⟨by (show 1 ≤ m - c; omega), by (show m - c < _; omega)⟩, fun k k0 k1 => ?_⟩
    have k1 : k < m - c := k1
    conv => whnf
    repeat (refine Need.mk ?_ ?_; exact nd; conv => whnf)
    refine ⟨1 + k, rfl, by omega, by omega, fun sh hs hg => ?_⟩
    conv => whnf
    repeat (refine Need.mk ?_ ?_; exact nd; conv => whnf)
    exact Rw (q (.scrape p c sh) ⟨hp, c0, by omega, by omega, hg⟩) (Fc.lt (f := .scrape p c sh))
  · conv => whnf
    repeat (refine Need.mk ?_ ?_; exact nd; conv => whnf)
    rw [List.length_map]
    refine ⟨_, rfl, ⟨by omega, by omega⟩, fun i i0 i1 => ?_⟩
    obtain ⟨p, hp, hpa⟩ := atI_ints (ns := ps) i0 (by omega)
    conv => whnf
    repeat (refine Need.mk ?_ ?_; exact nd; conv => whnf)
    refine optI hpa ?_
    conv => whnf
    repeat (refine Need.mk ?_ ?_; exact nd; conv => whnf)
    refine ⟨_, rfl, ⟨by omega, by omega⟩, fun c c0 c1 => ?_⟩
    conv => whnf
    repeat (refine Need.mk ?_ ?_; exact nd; conv => whnf)
    refine ⟨_, rfl, ⟨by (show 1 ≤ m - c; omega), by (show m - c < _; omega)⟩, fun k k0 k1 => ?_⟩
    have k1 : k < m - c := k1
    conv => whnf
    repeat (refine Need.mk ?_ ?_; exact nd; conv => whnf)
    refine ⟨1 + k, rfl, by omega, by omega, fun sh hs hg => ?_⟩
    conv => whnf
    repeat (refine Need.mk ?_ ?_; exact nd; conv => whnf)
    exact Rw (q (.scrape p c sh) ⟨hp, c0, by omega, by omega, hg⟩) (Fc.lt (f := .scrape p c sh))
def sp__law_sign (a : Ad) : SpP := fun ds Q _ => ∃ n : Int, ds = [.int n] ∧ 0 ≤ n ∧ n ≤ 6 ∧ Q (.str (sgS n))
theorem ok__law_sign (T : Txt K w mg a)  : Fx P w K mg base 1 a.a__law_sign a.d__law_sign "_law_sign" ["_law_shade"] (lp (sp__law_sign a)) := by
  refine ⟨fn_P T.F__law_sign sc__law_sign (by (intro ds Q E h; first | (obtain ⟨h, hr⟩ := h; subst h; (try (obtain ⟨_, hr⟩ := hr)); (try (obtain ⟨_, hr⟩ := hr)); (try (obtain ⟨_, hr⟩ := hr)); (try (obtain ⟨_, hr⟩ := hr)); (all_goals exact ⟨rfl, by (repeat' (first | trivial | exact webD_lt | exact mvsD_lt _ | exact ctsD_lt _ | exact dcD_lts rdD_lt | exact dcD_lts seenV_lt | exact dcD_lts ctsD_lt | exact prs_lt' _ | exact prps_lt _ | exact pr_lt _ | exact Nd.lt _ | exact dcD_lts ndsD_lt | exact dcD_lts pr_lt | exact lmD_lt | exact Ev.lt | exact evs_lt _ | exact itDs_lt _ | exact prs_lt _ | exact Wld.lt | exact rows_lt | exact deeds_lt | exact pasts_lt | exact D.lts_ints _ | exact D.lts_strs _ | exact Fc.lt | exact Dd.lt | exact fcs_lt _ | exact nfs_lt _ | exact nf_lt | exact D.pl.lt (by assumption) | exact D.dp.lt (by assumption) | exact D.dps.lt (by assumption) | exact D.pls.lt (by assumption) | assumption | refine ⟨?_, ?_⟩))⟩)) | (obtain ⟨_, h, hr⟩ := h; subst h; (try (obtain ⟨_, hr⟩ := hr)); (try (obtain ⟨_, hr⟩ := hr)); (try (obtain ⟨_, hr⟩ := hr)); (try (obtain ⟨_, hr⟩ := hr)); (all_goals exact ⟨rfl, by (repeat' (first | trivial | exact webD_lt | exact mvsD_lt _ | exact ctsD_lt _ | exact dcD_lts rdD_lt | exact dcD_lts seenV_lt | exact dcD_lts ctsD_lt | exact prs_lt' _ | exact prps_lt _ | exact pr_lt _ | exact Nd.lt _ | exact dcD_lts ndsD_lt | exact dcD_lts pr_lt | exact lmD_lt | exact Ev.lt | exact evs_lt _ | exact itDs_lt _ | exact prs_lt _ | exact Wld.lt | exact rows_lt | exact deeds_lt | exact pasts_lt | exact D.lts_ints _ | exact D.lts_strs _ | exact Fc.lt | exact Dd.lt | exact fcs_lt _ | exact nfs_lt _ | exact nf_lt | exact D.pl.lt (by assumption) | exact D.dp.lt (by assumption) | exact D.dps.lt (by assumption) | exact D.pls.lt (by assumption) | assumption | refine ⟨?_, ?_⟩))⟩)) | (obtain ⟨_, _, h, hr⟩ := h; subst h; (try (obtain ⟨_, hr⟩ := hr)); (try (obtain ⟨_, hr⟩ := hr)); (try (obtain ⟨_, hr⟩ := hr)); (try (obtain ⟨_, hr⟩ := hr)); (all_goals exact ⟨rfl, by (repeat' (first | trivial | exact webD_lt | exact mvsD_lt _ | exact ctsD_lt _ | exact dcD_lts rdD_lt | exact dcD_lts seenV_lt | exact dcD_lts ctsD_lt | exact prs_lt' _ | exact prps_lt _ | exact pr_lt _ | exact Nd.lt _ | exact dcD_lts ndsD_lt | exact dcD_lts pr_lt | exact lmD_lt | exact Ev.lt | exact evs_lt _ | exact itDs_lt _ | exact prs_lt _ | exact Wld.lt | exact rows_lt | exact deeds_lt | exact pasts_lt | exact D.lts_ints _ | exact D.lts_strs _ | exact Fc.lt | exact Dd.lt | exact fcs_lt _ | exact nfs_lt _ | exact nf_lt | exact D.pl.lt (by assumption) | exact D.dp.lt (by assumption) | exact D.dps.lt (by assumption) | exact D.pls.lt (by assumption) | assumption | refine ⟨?_, ?_⟩))⟩)) | (obtain ⟨_, _, _, h, hr⟩ := h; subst h; (try (obtain ⟨_, hr⟩ := hr)); (try (obtain ⟨_, hr⟩ := hr)); (try (obtain ⟨_, hr⟩ := hr)); (try (obtain ⟨_, hr⟩ := hr)); (all_goals exact ⟨rfl, by (repeat' (first | trivial | exact webD_lt | exact mvsD_lt _ | exact ctsD_lt _ | exact dcD_lts rdD_lt | exact dcD_lts seenV_lt | exact dcD_lts ctsD_lt | exact prs_lt' _ | exact prps_lt _ | exact pr_lt _ | exact Nd.lt _ | exact dcD_lts ndsD_lt | exact dcD_lts pr_lt | exact lmD_lt | exact Ev.lt | exact evs_lt _ | exact itDs_lt _ | exact prs_lt _ | exact Wld.lt | exact rows_lt | exact deeds_lt | exact pasts_lt | exact D.lts_ints _ | exact D.lts_strs _ | exact Fc.lt | exact Dd.lt | exact fcs_lt _ | exact nfs_lt _ | exact nf_lt | exact D.pl.lt (by assumption) | exact D.dp.lt (by assumption) | exact D.dps.lt (by assumption) | exact D.pls.lt (by assumption) | assumption | refine ⟨?_, ?_⟩))⟩)) | (obtain ⟨_, _, _, _, h, hr⟩ := h; subst h; (try (obtain ⟨_, hr⟩ := hr)); (try (obtain ⟨_, hr⟩ := hr)); (try (obtain ⟨_, hr⟩ := hr)); (try (obtain ⟨_, hr⟩ := hr)); (all_goals exact ⟨rfl, by (repeat' (first | trivial | exact webD_lt | exact mvsD_lt _ | exact ctsD_lt _ | exact dcD_lts rdD_lt | exact dcD_lts seenV_lt | exact dcD_lts ctsD_lt | exact prs_lt' _ | exact prps_lt _ | exact pr_lt _ | exact Nd.lt _ | exact dcD_lts ndsD_lt | exact dcD_lts pr_lt | exact lmD_lt | exact Ev.lt | exact evs_lt _ | exact itDs_lt _ | exact prs_lt _ | exact Wld.lt | exact rows_lt | exact deeds_lt | exact pasts_lt | exact D.lts_ints _ | exact D.lts_strs _ | exact Fc.lt | exact Dd.lt | exact fcs_lt _ | exact nfs_lt _ | exact nf_lt | exact D.pl.lt (by assumption) | exact D.dp.lt (by assumption) | exact D.dps.lt (by assumption) | exact D.pls.lt (by assumption) | assumption | refine ⟨?_, ?_⟩))⟩)) | (obtain ⟨_, _, _, _, _, h, hr⟩ := h; subst h; (try (obtain ⟨_, hr⟩ := hr)); (try (obtain ⟨_, hr⟩ := hr)); (try (obtain ⟨_, hr⟩ := hr)); (try (obtain ⟨_, hr⟩ := hr)); (all_goals exact ⟨rfl, by (repeat' (first | trivial | exact webD_lt | exact mvsD_lt _ | exact ctsD_lt _ | exact dcD_lts rdD_lt | exact dcD_lts seenV_lt | exact dcD_lts ctsD_lt | exact prs_lt' _ | exact prps_lt _ | exact pr_lt _ | exact Nd.lt _ | exact dcD_lts ndsD_lt | exact dcD_lts pr_lt | exact lmD_lt | exact Ev.lt | exact evs_lt _ | exact itDs_lt _ | exact prs_lt _ | exact Wld.lt | exact rows_lt | exact deeds_lt | exact pasts_lt | exact D.lts_ints _ | exact D.lts_strs _ | exact Fc.lt | exact Dd.lt | exact fcs_lt _ | exact nfs_lt _ | exact nf_lt | exact D.pl.lt (by assumption) | exact D.dp.lt (by assumption) | exact D.dps.lt (by assumption) | exact D.pls.lt (by assumption) | assumption | refine ⟨?_, ?_⟩))⟩)) | (obtain ⟨h, _⟩ := h; exact (by simp at h)))) fun cdv A outer s H E φ T0 W' room wl => ⟨_, (lss_cons (ls_ret (le_if (lt_chain oo_le oo_le le_int (lv 0) le_int) (le_ix ox_seq le_str (lv 0)) le_str))
    lss_nil), fun ds S R X n h hW => ?_⟩, T.m__law_sign, T.F__law_sign.kp, T.b__law_sign⟩
  obtain ⟨Q, E, h, rfl, rfl, rfl, rfl⟩ := h
  subst hW
  obtain ⟨n, rfl, h0, h1, q⟩ := h
  conv => whnf
  repeat (refine Need.mk ?_ ?_; exact nd; conv => whnf)
  refine brT h0 ?_
  conv => whnf
  repeat (refine Need.mk ?_ ?_; exact nd; conv => whnf)
  refine brT h1 ?_
  conv => whnf
  repeat (refine Need.mk ?_ ?_; exact nd; conv => whnf)
  refine optI (atI_SG ⟨h0, h1⟩) ?_
  conv => whnf
  repeat (refine Need.mk ?_ ?_; exact nd; conv => whnf)
  exact Rp q
def sp__law_fact_line (a : Ad) : SpP := fun ds Q _ => ∃ f : Fc, ds = [f.d] ∧ numF f ∧ Q (.str f.line)
theorem ok__law_fact_line (T : Txt K w mg a) (G__law_sign : Fx P w K mg base 1 a.a__law_sign a.d__law_sign "_law_sign" ["_law_shade"] (lp (sp__law_sign a))) : Fx P w K mg base 2 a.a__law_fact_line a.d__law_fact_line "_law_fact_line" ["_law_fact_here"] (lp (sp__law_fact_line a)) := by
  refine ⟨fn_P T.F__law_fact_line sc__law_fact_line (by (intro ds Q E h; first | (obtain ⟨h, hr⟩ := h; subst h; (try (obtain ⟨_, hr⟩ := hr)); (try (obtain ⟨_, hr⟩ := hr)); (try (obtain ⟨_, hr⟩ := hr)); (try (obtain ⟨_, hr⟩ := hr)); (all_goals exact ⟨rfl, by (repeat' (first | trivial | exact webD_lt | exact mvsD_lt _ | exact ctsD_lt _ | exact dcD_lts rdD_lt | exact dcD_lts seenV_lt | exact dcD_lts ctsD_lt | exact prs_lt' _ | exact prps_lt _ | exact pr_lt _ | exact Nd.lt _ | exact dcD_lts ndsD_lt | exact dcD_lts pr_lt | exact lmD_lt | exact Ev.lt | exact evs_lt _ | exact itDs_lt _ | exact prs_lt _ | exact Wld.lt | exact rows_lt | exact deeds_lt | exact pasts_lt | exact D.lts_ints _ | exact D.lts_strs _ | exact Fc.lt | exact Dd.lt | exact fcs_lt _ | exact nfs_lt _ | exact nf_lt | exact D.pl.lt (by assumption) | exact D.dp.lt (by assumption) | exact D.dps.lt (by assumption) | exact D.pls.lt (by assumption) | assumption | refine ⟨?_, ?_⟩))⟩)) | (obtain ⟨_, h, hr⟩ := h; subst h; (try (obtain ⟨_, hr⟩ := hr)); (try (obtain ⟨_, hr⟩ := hr)); (try (obtain ⟨_, hr⟩ := hr)); (try (obtain ⟨_, hr⟩ := hr)); (all_goals exact ⟨rfl, by (repeat' (first | trivial | exact webD_lt | exact mvsD_lt _ | exact ctsD_lt _ | exact dcD_lts rdD_lt | exact dcD_lts seenV_lt | exact dcD_lts ctsD_lt | exact prs_lt' _ | exact prps_lt _ | exact pr_lt _ | exact Nd.lt _ | exact dcD_lts ndsD_lt | exact dcD_lts pr_lt | exact lmD_lt | exact Ev.lt | exact evs_lt _ | exact itDs_lt _ | exact prs_lt _ | exact Wld.lt | exact rows_lt | exact deeds_lt | exact pasts_lt | exact D.lts_ints _ | exact D.lts_strs _ | exact Fc.lt | exact Dd.lt | exact fcs_lt _ | exact nfs_lt _ | exact nf_lt | exact D.pl.lt (by assumption) | exact D.dp.lt (by assumption) | exact D.dps.lt (by assumption) | exact D.pls.lt (by assumption) | assumption | refine ⟨?_, ?_⟩))⟩)) | (obtain ⟨_, _, h, hr⟩ := h; subst h; (try (obtain ⟨_, hr⟩ := hr)); (try (obtain ⟨_, hr⟩ := hr)); (try (obtain ⟨_, hr⟩ := hr)); (try (obtain ⟨_, hr⟩ := hr)); (all_goals exact ⟨rfl, by (repeat' (first | trivial | exact webD_lt | exact mvsD_lt _ | exact ctsD_lt _ | exact dcD_lts rdD_lt | exact dcD_lts seenV_lt | exact dcD_lts ctsD_lt | exact prs_lt' _ | exact prps_lt _ | exact pr_lt _ | exact Nd.lt _ | exact dcD_lts ndsD_lt | exact dcD_lts pr_lt | exact lmD_lt | exact Ev.lt | exact evs_lt _ | exact itDs_lt _ | exact prs_lt _ | exact Wld.lt | exact rows_lt | exact deeds_lt | exact pasts_lt | exact D.lts_ints _ | exact D.lts_strs _ | exact Fc.lt | exact Dd.lt | exact fcs_lt _ | exact nfs_lt _ | exact nf_lt | exact D.pl.lt (by assumption) | exact D.dp.lt (by assumption) | exact D.dps.lt (by assumption) | exact D.pls.lt (by assumption) | assumption | refine ⟨?_, ?_⟩))⟩)) | (obtain ⟨_, _, _, h, hr⟩ := h; subst h; (try (obtain ⟨_, hr⟩ := hr)); (try (obtain ⟨_, hr⟩ := hr)); (try (obtain ⟨_, hr⟩ := hr)); (try (obtain ⟨_, hr⟩ := hr)); (all_goals exact ⟨rfl, by (repeat' (first | trivial | exact webD_lt | exact mvsD_lt _ | exact ctsD_lt _ | exact dcD_lts rdD_lt | exact dcD_lts seenV_lt | exact dcD_lts ctsD_lt | exact prs_lt' _ | exact prps_lt _ | exact pr_lt _ | exact Nd.lt _ | exact dcD_lts ndsD_lt | exact dcD_lts pr_lt | exact lmD_lt | exact Ev.lt | exact evs_lt _ | exact itDs_lt _ | exact prs_lt _ | exact Wld.lt | exact rows_lt | exact deeds_lt | exact pasts_lt | exact D.lts_ints _ | exact D.lts_strs _ | exact Fc.lt | exact Dd.lt | exact fcs_lt _ | exact nfs_lt _ | exact nf_lt | exact D.pl.lt (by assumption) | exact D.dp.lt (by assumption) | exact D.dps.lt (by assumption) | exact D.pls.lt (by assumption) | assumption | refine ⟨?_, ?_⟩))⟩)) | (obtain ⟨_, _, _, _, h, hr⟩ := h; subst h; (try (obtain ⟨_, hr⟩ := hr)); (try (obtain ⟨_, hr⟩ := hr)); (try (obtain ⟨_, hr⟩ := hr)); (try (obtain ⟨_, hr⟩ := hr)); (all_goals exact ⟨rfl, by (repeat' (first | trivial | exact webD_lt | exact mvsD_lt _ | exact ctsD_lt _ | exact dcD_lts rdD_lt | exact dcD_lts seenV_lt | exact dcD_lts ctsD_lt | exact prs_lt' _ | exact prps_lt _ | exact pr_lt _ | exact Nd.lt _ | exact dcD_lts ndsD_lt | exact dcD_lts pr_lt | exact lmD_lt | exact Ev.lt | exact evs_lt _ | exact itDs_lt _ | exact prs_lt _ | exact Wld.lt | exact rows_lt | exact deeds_lt | exact pasts_lt | exact D.lts_ints _ | exact D.lts_strs _ | exact Fc.lt | exact Dd.lt | exact fcs_lt _ | exact nfs_lt _ | exact nf_lt | exact D.pl.lt (by assumption) | exact D.dp.lt (by assumption) | exact D.dps.lt (by assumption) | exact D.pls.lt (by assumption) | assumption | refine ⟨?_, ?_⟩))⟩)) | (obtain ⟨_, _, _, _, _, h, hr⟩ := h; subst h; (try (obtain ⟨_, hr⟩ := hr)); (try (obtain ⟨_, hr⟩ := hr)); (try (obtain ⟨_, hr⟩ := hr)); (try (obtain ⟨_, hr⟩ := hr)); (all_goals exact ⟨rfl, by (repeat' (first | trivial | exact webD_lt | exact mvsD_lt _ | exact ctsD_lt _ | exact dcD_lts rdD_lt | exact dcD_lts seenV_lt | exact dcD_lts ctsD_lt | exact prs_lt' _ | exact prps_lt _ | exact pr_lt _ | exact Nd.lt _ | exact dcD_lts ndsD_lt | exact dcD_lts pr_lt | exact lmD_lt | exact Ev.lt | exact evs_lt _ | exact itDs_lt _ | exact prs_lt _ | exact Wld.lt | exact rows_lt | exact deeds_lt | exact pasts_lt | exact D.lts_ints _ | exact D.lts_strs _ | exact Fc.lt | exact Dd.lt | exact fcs_lt _ | exact nfs_lt _ | exact nf_lt | exact D.pl.lt (by assumption) | exact D.dp.lt (by assumption) | exact D.dps.lt (by assumption) | exact D.pls.lt (by assumption) | assumption | refine ⟨?_, ?_⟩))⟩)) | (obtain ⟨h, _⟩ := h; exact (by simp at h)))) fun cdv A outer s H E φ T0 W' room wl => ⟨_, (lss_cons (ls_set 1 (le_lstM (la_cons (le_ix ox_seq (lv 0) le_int) la_nil)) sc__law_fact_line.nd)
    (lss_consW [0, 2] (ls_for (passes_of rfl) rfl (li_rng2 rfl T.n_range (la_cons le_int (la_cons (le_callB cc_len rfl T.n_len (by rfl) (la_cons (lv 0) la_nil)) la_nil))) (lg_name (i := 2) sc__law_fact_line.nd rfl)
    (lss_consW [2] (ls_if (lt_truth (le_callB cc_isiB rfl T.n_isinstance (by rfl) (la_cons (le_ix ox_seq (lv 0) (lv 2)) (la_cons (le_ty rfl T.n_tuple (by rfl)) la_nil)))) (lss_consW [2] (ls_expr (le_bm PySem.F.plainAttrs_list PySem.F.slot_list_append PySem.F.type_list_append mm_append (lv 1) (la_cons (le_join le_str (le_lc false [("_law_shade", 3)] (.nm 3) rfl sc__law_fact_line.nd (li_tup (le_ix ox_seq (lv 0) (lv 2))) (by (conv => { arg 1; whnf }); (conv => { arg 2; whnf }); exact ⟨rfl, by decide +kernel, by decide +kernel, by decide +kernel, by decide +kernel⟩) (fun _ _ _ _ _ => (tg_nm 3 sc__law_fact_line.nd)) (fun _ _ _ _ _ => lts_nil) (fun _ _ _ _ _ => (le_fx G__law_sign (room.mono (by decide)) LamX.takes0 WL0 (la_cons (lv 3) la_nil))))) la_nil)))
    lss_nil) (lss_consW [2] (ls_expr (le_bm PySem.F.plainAttrs_list PySem.F.slot_list_append PySem.F.type_list_append mm_append (lv 1) (la_cons (le_if (LW.t (lw_and (lt_cmp (oo_eq room.units) (le_ix ox_seq (lv 0) le_int) le_str (by rfl)) (lw_and1 (lt_cmp (oo_eq room.units) (lv 2) le_int (by rfl))))) (le_fx G__law_sign (room.mono (by decide)) (takes_of rfl rfl rfl rfl) wl (la_cons (le_ix ox_seq (lv 0) (lv 2)) la_nil)) (le_callTy cc_str rfl T.n_str (by rfl) (la_cons (le_ix ox_seq (lv 0) (lv 2)) la_nil))) la_nil)))
    lss_nil))
    lss_nil))
    (lss_cons (ls_ret (le_join le_str (lv 1)))
    lss_nil))), fun ds S R X n h hW => ?_⟩, T.m__law_fact_line, T.F__law_fact_line.kp, T.b__law_fact_line⟩
  obtain ⟨Q, E, h, rfl, rfl, rfl, rfl⟩ := h
  subst hW
  obtain ⟨f, rfl, hf, q⟩ := h
  have hl := f.th_len
  have hd := Fc.d_th f
  rw [hd]
  conv => whnf
  repeat (refine Need.mk ?_ ?_; exact nd; conv => whnf)
  refine optI atI0 ?_
  conv => whnf
  repeat (refine Need.mk ?_ ?_; exact nd; conv => whnf)
  have hln : ((D.str f.hd :: f.th.map Th.d).length : Int) = (f.th.length : Int) + 1 := by simp
  refine ⟨⟨by decide, by decide, by rw [hln]; omega, by rw [hln]; omega⟩, ?_⟩
  rw [hln, show ((f.th.length : Int) + 1 - 1).toNat = f.th.length by omega]
  refine ⟨fun i s' S' => S' = [.lst ((f.hd :: (f.th.take i).map Th.w).map D.str)] ∧ s' = [some (.tup (.str f.hd :: f.th.map Th.d)), some (.ref 0), none, none], ⟨rfl, rfl⟩, fun _ _ _ _ _ => trivial, ?_, ?_⟩
  · rintro i x s' S' hi ⟨rfl, rfl⟩
    obtain ⟨hi2, rfl⟩ := rngD_get hi
    have ht : f.th[i]? = some f.th[i] := List.getElem?_eq_getElem hi2
    generalize f.th[i] = t at ht
    have hok := hf t (List.mem_of_getElem? ht)
    have hsold := th_sold f ht
    have hat : L2.atI (D.str f.hd :: f.th.map Th.d) (1 + (i : Int)) = some t.d := atI_get (by omega) (by rw [show (1 + (i : Int)).toNat = i + 1 by omega, List.getElem?_cons_succ, List.getElem?_map, ht]; rfl)
    have hlen : (((f.hd :: (f.th.take i).map Th.w).map D.str) : List D).length < sizeLine := by
      rw [List.length_map, List.length_cons, List.length_map, List.length_take]
      exact ltN (by omega)
    have hsn : (((f.hd :: (f.th.take i).map Th.w).map D.str) ++ [D.str t.w] : List D) = (f.hd :: (f.th.take (i + 1)).map Th.w).map D.str := by
      rw [take_snoc ht]
      simp
    conv => whnf
    repeat (refine Need.mk ?_ ?_; exact nd; conv => whnf)
    refine optI hat ?_
    cases t with
    | num n =>
      conv => whnf
      repeat (refine Need.mk ?_ ?_; exact nd; conv => whnf)
      refine optI atI0 ?_
      conv => whnf
      repeat (refine Need.mk ?_ ?_; exact nd; conv => whnf)
      by_cases hs : f.hd = "sold"
      · refine lifT (by show decide (f.hd = "sold") = true; exact decide_eq_true hs) ?_
        conv => whnf
        repeat (refine Need.mk ?_ ?_; exact nd; conv => whnf)
        refine brF (fun z => hsold ⟨hs, by omega⟩) ?_
        conv => whnf
        repeat (refine Need.mk ?_ ?_; exact nd; conv => whnf)
        refine optI hat ?_
        conv => whnf
        repeat (refine Need.mk ?_ ?_; exact nd; conv => whnf)
        refine Need.mk (log_num4 hok) ?_
        conv => whnf
        repeat (refine Need.mk ?_ ?_; exact nd; conv => whnf)
        exact .inl ⟨congrArg (fun z => [O.lst z]) hsn, rfl⟩
      · refine lifF (by show decide (f.hd = "sold") = false; exact decide_eq_false hs) ?_
        conv => whnf
        repeat (refine Need.mk ?_ ?_; exact nd; conv => whnf)
        refine optI hat ?_
        conv => whnf
        repeat (refine Need.mk ?_ ?_; exact nd; conv => whnf)
        refine Need.mk (log_num4 hok) ?_
        conv => whnf
        repeat (refine Need.mk ?_ ?_; exact nd; conv => whnf)
        exact .inl ⟨congrArg (fun z => [O.lst z]) hsn, rfl⟩
    | sgs ns =>
      conv => whnf
      repeat (refine Need.mk ?_ ?_; exact nd; conv => whnf)
      refine optI hat ?_
      conv => whnf
      repeat (refine Need.mk ?_ ?_; exact nd; conv => whnf)
      refine lc_map (fun d => match d with | .int z => .str (sgS z) | _ => .non) (by rw [List.length_map]; exact ltN (by have := hok.2.2; omega)) (fun _ => trivial) ?_ ?_
      · intro i x acc hi
        obtain ⟨z, hz, rfl⟩ := int_at hi
        refine ⟨_, rfl, trivial, fun R r => ?_⟩
        conv => whnf
        repeat (refine Need.mk ?_ ?_; exact nd; conv => whnf)
        refine ⟨z, rfl, (hok.1 z (List.mem_of_getElem? hz)).1, (hok.1 z (List.mem_of_getElem? hz)).2, ?_⟩
        conv => whnf
        repeat (refine Need.mk ?_ ?_; exact nd; conv => whnf)
        exact r
      conv => whnf
      repeat (refine Need.mk ?_ ?_; exact nd; conv => whnf)
      rw [List.map_map]
      refine optI (asSs_map sgS ns) ?_
      refine Need.mk (by (rw [List.map_map]; show (ns.map fun _ => 1).sum + _ * 0 ≤ _; rw [sum_ones]; have := hok.2.2; omega)) ?_
      rw [join_sgs]
      conv => whnf
      repeat (refine Need.mk ?_ ?_; exact nd; conv => whnf)
      exact .inl ⟨congrArg (fun z => [O.lst z]) hsn, rfl⟩
    | sg n =>
      obtain ⟨h1, rfl⟩ := hsold
      conv => whnf
      repeat (refine Need.mk ?_ ?_; exact nd; conv => whnf)
      refine optI atI0 ?_
      conv => whnf
      repeat (refine Need.mk ?_ ?_; exact nd; conv => whnf)
      refine lifT (by show decide (f.hd = "sold") = true; exact decide_eq_true h1) ?_
      conv => whnf
      repeat (refine Need.mk ?_ ?_; exact nd; conv => whnf)
      refine optI hat ?_
      conv => whnf
      repeat (refine Need.mk ?_ ?_; exact nd; conv => whnf)
      refine ⟨n, rfl, hok.1, hok.2, ?_⟩
      conv => whnf
      repeat (refine Need.mk ?_ ?_; exact nd; conv => whnf)
      exact .inl ⟨congrArg (fun z => [O.lst z]) hsn, rfl⟩
  · rintro s' S' ⟨rfl, rfl⟩
    rw [rngD_len, List.take_length]
    conv => whnf
    repeat (refine Need.mk ?_ ?_; exact nd; conv => whnf)
    refine optI (asSs_map id f.words) ?_
    rw [List.map_id]
    refine Need.mk (Fc.words_sum hf) ?_
    conv => whnf
    repeat (refine Need.mk ?_ ?_; exact nd; conv => whnf)
    exact Rp q
def sp__law_deed_line (a : Ad) : SpP := fun ds Q _ => ∃ d : Dd, ds = [d.d] ∧ d.ok ∧ Q (.str d.line)
theorem ok__law_deed_line (T : Txt K w mg a) (G__law_fact_line : Fx P w K mg base 2 a.a__law_fact_line a.d__law_fact_line "_law_fact_line" ["_law_fact_here"] (lp (sp__law_fact_line a))) : Fx P w K mg base 3 a.a__law_deed_line a.d__law_deed_line "_law_deed_line" ["_law_deed"] (lp (sp__law_deed_line a)) := by
  refine ⟨fn_P T.F__law_deed_line sc__law_deed_line (by (intro ds Q E h; first | (obtain ⟨h, hr⟩ := h; subst h; (try (obtain ⟨_, hr⟩ := hr)); (try (obtain ⟨_, hr⟩ := hr)); (try (obtain ⟨_, hr⟩ := hr)); (try (obtain ⟨_, hr⟩ := hr)); (all_goals exact ⟨rfl, by (repeat' (first | trivial | exact webD_lt | exact mvsD_lt _ | exact ctsD_lt _ | exact dcD_lts rdD_lt | exact dcD_lts seenV_lt | exact dcD_lts ctsD_lt | exact prs_lt' _ | exact prps_lt _ | exact pr_lt _ | exact Nd.lt _ | exact dcD_lts ndsD_lt | exact dcD_lts pr_lt | exact lmD_lt | exact Ev.lt | exact evs_lt _ | exact itDs_lt _ | exact prs_lt _ | exact Wld.lt | exact rows_lt | exact deeds_lt | exact pasts_lt | exact D.lts_ints _ | exact D.lts_strs _ | exact Fc.lt | exact Dd.lt | exact fcs_lt _ | exact nfs_lt _ | exact nf_lt | exact D.pl.lt (by assumption) | exact D.dp.lt (by assumption) | exact D.dps.lt (by assumption) | exact D.pls.lt (by assumption) | assumption | refine ⟨?_, ?_⟩))⟩)) | (obtain ⟨_, h, hr⟩ := h; subst h; (try (obtain ⟨_, hr⟩ := hr)); (try (obtain ⟨_, hr⟩ := hr)); (try (obtain ⟨_, hr⟩ := hr)); (try (obtain ⟨_, hr⟩ := hr)); (all_goals exact ⟨rfl, by (repeat' (first | trivial | exact webD_lt | exact mvsD_lt _ | exact ctsD_lt _ | exact dcD_lts rdD_lt | exact dcD_lts seenV_lt | exact dcD_lts ctsD_lt | exact prs_lt' _ | exact prps_lt _ | exact pr_lt _ | exact Nd.lt _ | exact dcD_lts ndsD_lt | exact dcD_lts pr_lt | exact lmD_lt | exact Ev.lt | exact evs_lt _ | exact itDs_lt _ | exact prs_lt _ | exact Wld.lt | exact rows_lt | exact deeds_lt | exact pasts_lt | exact D.lts_ints _ | exact D.lts_strs _ | exact Fc.lt | exact Dd.lt | exact fcs_lt _ | exact nfs_lt _ | exact nf_lt | exact D.pl.lt (by assumption) | exact D.dp.lt (by assumption) | exact D.dps.lt (by assumption) | exact D.pls.lt (by assumption) | assumption | refine ⟨?_, ?_⟩))⟩)) | (obtain ⟨_, _, h, hr⟩ := h; subst h; (try (obtain ⟨_, hr⟩ := hr)); (try (obtain ⟨_, hr⟩ := hr)); (try (obtain ⟨_, hr⟩ := hr)); (try (obtain ⟨_, hr⟩ := hr)); (all_goals exact ⟨rfl, by (repeat' (first | trivial | exact webD_lt | exact mvsD_lt _ | exact ctsD_lt _ | exact dcD_lts rdD_lt | exact dcD_lts seenV_lt | exact dcD_lts ctsD_lt | exact prs_lt' _ | exact prps_lt _ | exact pr_lt _ | exact Nd.lt _ | exact dcD_lts ndsD_lt | exact dcD_lts pr_lt | exact lmD_lt | exact Ev.lt | exact evs_lt _ | exact itDs_lt _ | exact prs_lt _ | exact Wld.lt | exact rows_lt | exact deeds_lt | exact pasts_lt | exact D.lts_ints _ | exact D.lts_strs _ | exact Fc.lt | exact Dd.lt | exact fcs_lt _ | exact nfs_lt _ | exact nf_lt | exact D.pl.lt (by assumption) | exact D.dp.lt (by assumption) | exact D.dps.lt (by assumption) | exact D.pls.lt (by assumption) | assumption | refine ⟨?_, ?_⟩))⟩)) | (obtain ⟨_, _, _, h, hr⟩ := h; subst h; (try (obtain ⟨_, hr⟩ := hr)); (try (obtain ⟨_, hr⟩ := hr)); (try (obtain ⟨_, hr⟩ := hr)); (try (obtain ⟨_, hr⟩ := hr)); (all_goals exact ⟨rfl, by (repeat' (first | trivial | exact webD_lt | exact mvsD_lt _ | exact ctsD_lt _ | exact dcD_lts rdD_lt | exact dcD_lts seenV_lt | exact dcD_lts ctsD_lt | exact prs_lt' _ | exact prps_lt _ | exact pr_lt _ | exact Nd.lt _ | exact dcD_lts ndsD_lt | exact dcD_lts pr_lt | exact lmD_lt | exact Ev.lt | exact evs_lt _ | exact itDs_lt _ | exact prs_lt _ | exact Wld.lt | exact rows_lt | exact deeds_lt | exact pasts_lt | exact D.lts_ints _ | exact D.lts_strs _ | exact Fc.lt | exact Dd.lt | exact fcs_lt _ | exact nfs_lt _ | exact nf_lt | exact D.pl.lt (by assumption) | exact D.dp.lt (by assumption) | exact D.dps.lt (by assumption) | exact D.pls.lt (by assumption) | assumption | refine ⟨?_, ?_⟩))⟩)) | (obtain ⟨_, _, _, _, h, hr⟩ := h; subst h; (try (obtain ⟨_, hr⟩ := hr)); (try (obtain ⟨_, hr⟩ := hr)); (try (obtain ⟨_, hr⟩ := hr)); (try (obtain ⟨_, hr⟩ := hr)); (all_goals exact ⟨rfl, by (repeat' (first | trivial | exact webD_lt | exact mvsD_lt _ | exact ctsD_lt _ | exact dcD_lts rdD_lt | exact dcD_lts seenV_lt | exact dcD_lts ctsD_lt | exact prs_lt' _ | exact prps_lt _ | exact pr_lt _ | exact Nd.lt _ | exact dcD_lts ndsD_lt | exact dcD_lts pr_lt | exact lmD_lt | exact Ev.lt | exact evs_lt _ | exact itDs_lt _ | exact prs_lt _ | exact Wld.lt | exact rows_lt | exact deeds_lt | exact pasts_lt | exact D.lts_ints _ | exact D.lts_strs _ | exact Fc.lt | exact Dd.lt | exact fcs_lt _ | exact nfs_lt _ | exact nf_lt | exact D.pl.lt (by assumption) | exact D.dp.lt (by assumption) | exact D.dps.lt (by assumption) | exact D.pls.lt (by assumption) | assumption | refine ⟨?_, ?_⟩))⟩)) | (obtain ⟨_, _, _, _, _, h, hr⟩ := h; subst h; (try (obtain ⟨_, hr⟩ := hr)); (try (obtain ⟨_, hr⟩ := hr)); (try (obtain ⟨_, hr⟩ := hr)); (try (obtain ⟨_, hr⟩ := hr)); (all_goals exact ⟨rfl, by (repeat' (first | trivial | exact webD_lt | exact mvsD_lt _ | exact ctsD_lt _ | exact dcD_lts rdD_lt | exact dcD_lts seenV_lt | exact dcD_lts ctsD_lt | exact prs_lt' _ | exact prps_lt _ | exact pr_lt _ | exact Nd.lt _ | exact dcD_lts ndsD_lt | exact dcD_lts pr_lt | exact lmD_lt | exact Ev.lt | exact evs_lt _ | exact itDs_lt _ | exact prs_lt _ | exact Wld.lt | exact rows_lt | exact deeds_lt | exact pasts_lt | exact D.lts_ints _ | exact D.lts_strs _ | exact Fc.lt | exact Dd.lt | exact fcs_lt _ | exact nfs_lt _ | exact nf_lt | exact D.pl.lt (by assumption) | exact D.dp.lt (by assumption) | exact D.dps.lt (by assumption) | exact D.pls.lt (by assumption) | assumption | refine ⟨?_, ?_⟩))⟩)) | (obtain ⟨h, _⟩ := h; exact (by simp at h)))) fun cdv A outer s H E φ T0 W' room wl => ⟨_, (lss_cons (ls_if (lt_cmp (oo_eq room.units) (le_ix ox_seq (lv 0) le_int) le_str (by rfl)) (lss_cons (ls_ret (le_fx G__law_fact_line (room.mono (by decide)) (takes_of rfl rfl rfl rfl) wl (la_cons (le_ix ox_seq (lv 0) le_int) la_nil)))
    lss_nil) lss_nil)
    (lss_cons (ls_if (lt_cmp (oo_eq room.units) (le_ix ox_seq (lv 0) le_int) le_str (by rfl)) (lss_cons (ls_ret (le_op oo_add (le_op oo_add (le_op oo_add le_str (le_callTy cc_str rfl T.n_str (by rfl) (la_cons (le_ix ox_seq (lv 0) le_int) la_nil))) le_str) (le_fx G__law_fact_line (room.mono (by decide)) (takes_of rfl rfl rfl rfl) wl (la_cons (le_ix ox_seq (lv 0) le_int) la_nil))))
    lss_nil) lss_nil)
    (lss_cons (ls_ret (le_op oo_add (le_op oo_add (le_ix ox_seq (lv 0) le_int) le_str) (le_callTy cc_str rfl T.n_str (by rfl) (la_cons (le_ix ox_seq (lv 0) le_int) la_nil))))
    lss_nil))), fun ds S R X n h hW => ?_⟩, T.m__law_deed_line, T.F__law_deed_line.kp, T.b__law_deed_line⟩
  obtain ⟨Q, E, h, rfl, rfl, rfl, rfl⟩ := h
  subst hW
  obtain ⟨d, rfl, hd, q⟩ := h
  cases d with
  | tell f =>
    conv => whnf
    repeat (refine Need.mk ?_ ?_; exact nd; conv => whnf)
    refine ⟨f, rfl, hd, ?_⟩
    conv => whnf
    repeat (refine Need.mk ?_ ?_; exact nd; conv => whnf)
    exact Rp q
  | strike n =>
    conv => whnf
    repeat (refine Need.mk ?_ ?_; exact nd; conv => whnf)
    refine Need.mk (log_num4 hd) ?_
    conv => whnf
    repeat (refine Need.mk ?_ ?_; exact nd; conv => whnf)
    refine Need.mk (by have h5 := Dd.line_len (d := .strike n) hd; rw [show (Dd.strike n).line = ("strike" : Str) ++ " " ++ numW n from rfl, Str.length_append] at h5; exact leN (Nat.le_trans h5 (by decide))) ?_
    conv => whnf
    repeat (refine Need.mk ?_ ?_; exact nd; conv => whnf)
    exact Rp q
  | keep n =>
    conv => whnf
    repeat (refine Need.mk ?_ ?_; exact nd; conv => whnf)
    refine Need.mk (log_num4 hd) ?_
    conv => whnf
    repeat (refine Need.mk ?_ ?_; exact nd; conv => whnf)
    refine Need.mk (by have h5 := Dd.line_len (d := .keep n) hd; rw [show (Dd.keep n).line = ("keep" : Str) ++ " " ++ numW n from rfl, Str.length_append] at h5; exact leN (Nat.le_trans h5 (by decide))) ?_
    conv => whnf
    repeat (refine Need.mk ?_ ?_; exact nd; conv => whnf)
    exact Rp q
  | amend n f =>
    conv => whnf
    repeat (refine Need.mk ?_ ?_; exact nd; conv => whnf)
    refine Need.mk (log_num4 hd.1) ?_
    conv => whnf
    repeat (refine Need.mk ?_ ?_; exact nd; conv => whnf)
    have hl := Dd.line_len (d := .amend n f) hd
    have la : ∀ x y : Str, (x ++ y).length = x.length + y.length := Str.length_append
    have h2 : (("amend " : Str) ++ numW n ++ " " ++ f.line).length ≤ 400 := hl
    have h3 : (("amend " : Str) ++ numW n ++ " ").length ≤ 400 := by rw [la] at h2; omega
    have h4 : (("amend " : Str) ++ numW n).length ≤ 400 := by rw [la] at h3; omega
    refine Need.mk (by rw [la] at h4; exact leN (Nat.le_trans h4 (by decide))) ?_
    conv => whnf
    repeat (refine Need.mk ?_ ?_; exact nd; conv => whnf)
    refine Need.mk (by rw [la] at h3; exact leN (Nat.le_trans h3 (by decide))) ?_
    conv => whnf
    repeat (refine Need.mk ?_ ?_; exact nd; conv => whnf)
    refine ⟨f, rfl, hd.2, ?_⟩
    conv => whnf
    repeat (refine Need.mk ?_ ?_; exact nd; conv => whnf)
    refine Need.mk (by rw [la] at h2; exact leN (Nat.le_trans h2 (by decide))) ?_
    conv => whnf
    repeat (refine Need.mk ?_ ?_; exact nd; conv => whnf)
    exact Rp q
def sp__law_wide_fact (a : Ad) : SpP := fun ds Q _ => ds = [] ∧ ∀ f : Fc, numF f → Q f.d
theorem ok__law_wide_fact (T : Txt K w mg a) (G__law_fact : Fx P w K mg base 3 a.a__law_fact a.d__law_fact "_law_fact" ["_law_draw", "_law_parts", "_law_most"] (ld (sp__law_fact a))) (G__law_pull : Fx P w K mg base 1 a.a__law_pull a.d__law_pull "_law_pull" ["_law_draw", "_law_many"] (ld (sp__law_pull a))) (G__law_shades : Fx P w K mg base 2 a.a__law_shades a.d__law_shades "_law_shades" ["_law_draw", "_law_many"] (ld (sp__law_shades a))) : Fx P w K mg base 4 a.a__law_wide_fact a.d__law_wide_fact "_law_wide_fact" ["_law_draw"] (ld (sp__law_wide_fact a)) := by
  refine ⟨fn_W T.F__law_wide_fact sc__law_wide_fact (by (intro ds Q E h; first | (obtain ⟨h, hr⟩ := h; subst h; (try (obtain ⟨_, hr⟩ := hr)); (try (obtain ⟨_, hr⟩ := hr)); (try (obtain ⟨_, hr⟩ := hr)); (try (obtain ⟨_, hr⟩ := hr)); (all_goals exact ⟨rfl, by (repeat' (first | trivial | exact webD_lt | exact mvsD_lt _ | exact ctsD_lt _ | exact dcD_lts rdD_lt | exact dcD_lts seenV_lt | exact dcD_lts ctsD_lt | exact prs_lt' _ | exact prps_lt _ | exact pr_lt _ | exact Nd.lt _ | exact dcD_lts ndsD_lt | exact dcD_lts pr_lt | exact lmD_lt | exact Ev.lt | exact evs_lt _ | exact itDs_lt _ | exact prs_lt _ | exact Wld.lt | exact rows_lt | exact deeds_lt | exact pasts_lt | exact D.lts_ints _ | exact D.lts_strs _ | exact Fc.lt | exact Dd.lt | exact fcs_lt _ | exact nfs_lt _ | exact nf_lt | exact D.pl.lt (by assumption) | exact D.dp.lt (by assumption) | exact D.dps.lt (by assumption) | exact D.pls.lt (by assumption) | assumption | refine ⟨?_, ?_⟩))⟩)) | (obtain ⟨_, h, hr⟩ := h; subst h; (try (obtain ⟨_, hr⟩ := hr)); (try (obtain ⟨_, hr⟩ := hr)); (try (obtain ⟨_, hr⟩ := hr)); (try (obtain ⟨_, hr⟩ := hr)); (all_goals exact ⟨rfl, by (repeat' (first | trivial | exact webD_lt | exact mvsD_lt _ | exact ctsD_lt _ | exact dcD_lts rdD_lt | exact dcD_lts seenV_lt | exact dcD_lts ctsD_lt | exact prs_lt' _ | exact prps_lt _ | exact pr_lt _ | exact Nd.lt _ | exact dcD_lts ndsD_lt | exact dcD_lts pr_lt | exact lmD_lt | exact Ev.lt | exact evs_lt _ | exact itDs_lt _ | exact prs_lt _ | exact Wld.lt | exact rows_lt | exact deeds_lt | exact pasts_lt | exact D.lts_ints _ | exact D.lts_strs _ | exact Fc.lt | exact Dd.lt | exact fcs_lt _ | exact nfs_lt _ | exact nf_lt | exact D.pl.lt (by assumption) | exact D.dp.lt (by assumption) | exact D.dps.lt (by assumption) | exact D.pls.lt (by assumption) | assumption | refine ⟨?_, ?_⟩))⟩)) | (obtain ⟨_, _, h, hr⟩ := h; subst h; (try (obtain ⟨_, hr⟩ := hr)); (try (obtain ⟨_, hr⟩ := hr)); (try (obtain ⟨_, hr⟩ := hr)); (try (obtain ⟨_, hr⟩ := hr)); (all_goals exact ⟨rfl, by (repeat' (first | trivial | exact webD_lt | exact mvsD_lt _ | exact ctsD_lt _ | exact dcD_lts rdD_lt | exact dcD_lts seenV_lt | exact dcD_lts ctsD_lt | exact prs_lt' _ | exact prps_lt _ | exact pr_lt _ | exact Nd.lt _ | exact dcD_lts ndsD_lt | exact dcD_lts pr_lt | exact lmD_lt | exact Ev.lt | exact evs_lt _ | exact itDs_lt _ | exact prs_lt _ | exact Wld.lt | exact rows_lt | exact deeds_lt | exact pasts_lt | exact D.lts_ints _ | exact D.lts_strs _ | exact Fc.lt | exact Dd.lt | exact fcs_lt _ | exact nfs_lt _ | exact nf_lt | exact D.pl.lt (by assumption) | exact D.dp.lt (by assumption) | exact D.dps.lt (by assumption) | exact D.pls.lt (by assumption) | assumption | refine ⟨?_, ?_⟩))⟩)) | (obtain ⟨_, _, _, h, hr⟩ := h; subst h; (try (obtain ⟨_, hr⟩ := hr)); (try (obtain ⟨_, hr⟩ := hr)); (try (obtain ⟨_, hr⟩ := hr)); (try (obtain ⟨_, hr⟩ := hr)); (all_goals exact ⟨rfl, by (repeat' (first | trivial | exact webD_lt | exact mvsD_lt _ | exact ctsD_lt _ | exact dcD_lts rdD_lt | exact dcD_lts seenV_lt | exact dcD_lts ctsD_lt | exact prs_lt' _ | exact prps_lt _ | exact pr_lt _ | exact Nd.lt _ | exact dcD_lts ndsD_lt | exact dcD_lts pr_lt | exact lmD_lt | exact Ev.lt | exact evs_lt _ | exact itDs_lt _ | exact prs_lt _ | exact Wld.lt | exact rows_lt | exact deeds_lt | exact pasts_lt | exact D.lts_ints _ | exact D.lts_strs _ | exact Fc.lt | exact Dd.lt | exact fcs_lt _ | exact nfs_lt _ | exact nf_lt | exact D.pl.lt (by assumption) | exact D.dp.lt (by assumption) | exact D.dps.lt (by assumption) | exact D.pls.lt (by assumption) | assumption | refine ⟨?_, ?_⟩))⟩)) | (obtain ⟨_, _, _, _, h, hr⟩ := h; subst h; (try (obtain ⟨_, hr⟩ := hr)); (try (obtain ⟨_, hr⟩ := hr)); (try (obtain ⟨_, hr⟩ := hr)); (try (obtain ⟨_, hr⟩ := hr)); (all_goals exact ⟨rfl, by (repeat' (first | trivial | exact webD_lt | exact mvsD_lt _ | exact ctsD_lt _ | exact dcD_lts rdD_lt | exact dcD_lts seenV_lt | exact dcD_lts ctsD_lt | exact prs_lt' _ | exact prps_lt _ | exact pr_lt _ | exact Nd.lt _ | exact dcD_lts ndsD_lt | exact dcD_lts pr_lt | exact lmD_lt | exact Ev.lt | exact evs_lt _ | exact itDs_lt _ | exact prs_lt _ | exact Wld.lt | exact rows_lt | exact deeds_lt | exact pasts_lt | exact D.lts_ints _ | exact D.lts_strs _ | exact Fc.lt | exact Dd.lt | exact fcs_lt _ | exact nfs_lt _ | exact nf_lt | exact D.pl.lt (by assumption) | exact D.dp.lt (by assumption) | exact D.dps.lt (by assumption) | exact D.pls.lt (by assumption) | assumption | refine ⟨?_, ?_⟩))⟩)) | (obtain ⟨_, _, _, _, _, h, hr⟩ := h; subst h; (try (obtain ⟨_, hr⟩ := hr)); (try (obtain ⟨_, hr⟩ := hr)); (try (obtain ⟨_, hr⟩ := hr)); (try (obtain ⟨_, hr⟩ := hr)); (all_goals exact ⟨rfl, by (repeat' (first | trivial | exact webD_lt | exact mvsD_lt _ | exact ctsD_lt _ | exact dcD_lts rdD_lt | exact dcD_lts seenV_lt | exact dcD_lts ctsD_lt | exact prs_lt' _ | exact prps_lt _ | exact pr_lt _ | exact Nd.lt _ | exact dcD_lts ndsD_lt | exact dcD_lts pr_lt | exact lmD_lt | exact Ev.lt | exact evs_lt _ | exact itDs_lt _ | exact prs_lt _ | exact Wld.lt | exact rows_lt | exact deeds_lt | exact pasts_lt | exact D.lts_ints _ | exact D.lts_strs _ | exact Fc.lt | exact Dd.lt | exact fcs_lt _ | exact nfs_lt _ | exact nf_lt | exact D.pl.lt (by assumption) | exact D.dp.lt (by assumption) | exact D.dps.lt (by assumption) | exact D.pls.lt (by assumption) | assumption | refine ⟨?_, ?_⟩))⟩)) | (obtain ⟨h, _⟩ := h; exact (by simp at h)))) fun cdv A outer s H E φ T0 W' room wl => ⟨_, (lss_cons (ls_set 1 (le_fx G__law_fact (room.mono (by decide)) (takes_of rfl rfl rfl rfl) wl (la_cons (lv 0) (la_cons (le_lst (la_cons le_int (la_cons le_int (la_cons le_int (la_cons le_int la_nil))))) (la_cons le_int la_nil)))) sc__law_wide_fact.nd)
    (lss_consM (ls_if (lt_cmp (oo_eq room.units) (le_fx G__law_pull (room.mono (by decide)) (takes_of rfl rfl rfl rfl) wl (la_cons (lv 0) (la_cons le_int la_nil))) le_int (by rfl)) (lss_cons (ls_lc true [("_law_thing", 3)] (.nm 3) 2 rfl sc__law_wide_fact.nd rfl rfl rfl (li_tup (lv 1)) (by (conv => { arg 1; whnf }); (conv => { arg 2; whnf }); exact ⟨rfl, by decide +kernel, by decide +kernel, by decide +kernel, by decide +kernel⟩) (fun _ _ _ _ _ => (tg_nm 3 sc__law_wide_fact.nd)) (fun _ _ _ _ _ => lts_nil) (fun _ _ _ _ _ => (le_if (lt_truth (le_callB cc_isiT rfl T.n_isinstance (by rfl) (la_cons (lv 3) (la_cons (le_tup (la_cons (le_ty rfl T.n_str (by rfl)) (la_cons (le_ty rfl T.n_tuple (by rfl)) la_nil))) la_nil)))) (lv 3) (le_fx G__law_pull (room.mono (by decide)) LamX.takes0 WL0 (la_cons (lv 0) (la_cons le_int la_nil))))))
    (lss_consM (ls_if (lt_cmp (oo_eq room.units) (le_ix ox_seq (lv 1) le_int) le_str (by rfl)) (lss_consW [1] (ls_asg (le_fx G__law_pull (room.mono (by decide)) (takes_of rfl rfl rfl rfl) wl (la_cons (lv 0) (la_cons le_int la_nil))) (lg_sub (lv 2) le_int st_list))
    lss_nil) lss_nil)
    (lss_w [1] (lss_consW [2] (ls_set 1 (le_callTy cc_tuple rfl T.n_tuple (by rfl) (la_cons (lv 2) la_nil)) sc__law_wide_fact.nd)
    lss_nil)))) lss_nil)
    (lss_w [2] (lss_consM (ls_if (LW.t (lw_and (lt_cmp (oo_eq room.units) (le_ix ox_seq (lv 1) le_int) le_str (by rfl)) (lw_and1 (lt_cmp (oo_eq room.units) (le_fx G__law_pull (room.mono (by decide)) (takes_of rfl rfl rfl rfl) wl (la_cons (lv 0) (la_cons le_int la_nil))) le_int (by rfl))))) (lss_consW [0] (ls_set 1 (le_op oo_add (le_slice (lv 1) lp_none (lp_some le_int)) (le_tup (la_cons (le_fx G__law_shades (room.mono (by decide)) (takes_of rfl rfl rfl rfl) wl (la_cons (lv 0) (la_cons (le_op oo_add le_int (le_fx G__law_pull (room.mono (by decide)) (takes_of rfl rfl rfl rfl) wl (la_cons (lv 0) (la_cons le_int la_nil)))) la_nil))) la_nil))) sc__law_wide_fact.nd)
    lss_nil) lss_nil)
    (lss_w [0] (lss_cons (ls_ret (lv 1))
    lss_nil)))))), fun ds S R X n h hW => ?_⟩, T.m__law_wide_fact, T.F__law_wide_fact.kp, T.b__law_wide_fact⟩
  obtain ⟨r, Q, E, h, rfl, rfl, rfl, rfl, rfl⟩ := h
  subst hW
  obtain ⟨rfl, q⟩ := h
  conv => whnf
  repeat (refine Need.mk ?_ ?_; exact nd; conv => whnf)
  refine ⟨[1, 2, 3, 4], 5, rfl, by decide, by decide, by decide, by decide, by decide, fun f hf => ?_⟩
  have hn := good_numF hf
  clear hf
  conv => whnf
  repeat (refine Need.mk ?_ ?_; exact nd; conv => whnf)
  refine sM (fun s' S' => (∃ x, S' = .drw :: x) ∧ ∃ f, numF f ∧ ∃ z, s' = [some (.ref 0), some f.d, z, none]) ?_ ?_
  · conv => whnf
    repeat (refine Need.mk ?_ ?_; exact nd; conv => whnf)
    refine ⟨_, rfl, ⟨by first | decide | omega, by first | decide | omega⟩, fun n h0 h1 => ?_⟩
    conv => whnf
    repeat (refine Need.mk ?_ ?_; exact nd; conv => whnf)
    refine brd (fun hc => ?_) (fun hc => ?_)
    · rw [Fc.d_th f]
      conv => whnf
      repeat (refine Need.mk ?_ ?_; exact nd; conv => whnf)
      refine lc_inv (fun i acc => W2 ((.str f.hd :: f.th.map Th.d).take i) acc) rfl (by rw [List.length_cons, List.length_map]; exact ltN (by have := f.th_len; omega)) (fun _ => trivial) ?_ ?_
      · rintro i x acc hi hw
        refine ⟨_, rfl, ?_⟩
        have ht : (.str f.hd :: f.th.map Th.d : List D).take (i + 1) = (.str f.hd :: f.th.map Th.d : List D).take i ++ [x] := take_snoc hi
        have hx : x = .str f.hd ∨ ∃ t ∈ f.th, x = t.d := by
          rcases List.mem_cons.mp (List.mem_of_getElem? hi) with h | h
          · exact .inl h
          · obtain ⟨t, h1, h2⟩ := List.mem_map.mp h
            exact .inr ⟨t, h1, h2.symm⟩
        rcases hx with rfl | ⟨t, ht2, rfl⟩
        · conv => whnf
          repeat (refine Need.mk ?_ ?_; exact nd; conv => whnf)
          exact ⟨rfl, trivial, by rw [ht]; exact W2.snoc (x := .str f.hd) (y := .str f.hd) rfl hw⟩
        · cases t with
          | num m =>
            conv => whnf
            repeat (refine Need.mk ?_ ?_; exact nd; conv => whnf)
            refine ⟨_, rfl, ⟨by first | decide | omega, by first | decide | omega⟩, fun k k0 k1 => ?_⟩
            exact ⟨rfl, trivial, by rw [ht]; exact W2.snoc (x := .int m) (y := .int k) ⟨k, ⟨k0, k1⟩, rfl⟩ hw⟩
          | sgs ns =>
            conv => whnf
            repeat (refine Need.mk ?_ ?_; exact nd; conv => whnf)
            exact ⟨rfl, D.lts_ints ns, by rw [ht]; exact W2.snoc (x := .tup (ns.map D.int)) (y := .tup (ns.map D.int)) rfl hw⟩
          | sg m =>
            conv => whnf
            repeat (refine Need.mk ?_ ?_; exact nd; conv => whnf)
            refine ⟨_, rfl, ⟨by first | decide | omega, by first | decide | omega⟩, fun k k0 k1 => ?_⟩
            exact ⟨rfl, trivial, by rw [ht]; exact W2.snoc (x := .int m) (y := .int k) ⟨k, ⟨k0, k1⟩, rfl⟩ hw⟩
      · rintro acc hw
        rw [List.take_length] at hw
        conv => whnf
        repeat (refine Need.mk ?_ ?_; exact nd; conv => whnf)
        cases f with
        | scrape p c sh =>
          obtain ⟨_, _, rfl, rfl, _, _, rfl, ⟨p2, hp, rfl⟩, _, _, rfl, ⟨c2, hc2, rfl⟩, _, _, rfl, rfl, rfl⟩ := hw
          refine sD ?_
          conv => whnf
          repeat (refine Need.mk ?_ ?_; exact nd; conv => whnf)
          exact ⟨⟨_, rfl⟩, .scrape p2 c2 sh, all1 (t := .num p2) hp (all1 (t := .num c2) hc2 (all1 (t := .sgs sh) (hn (.sgs sh) (by simp [Fc.th])) all0)), _, rfl⟩
        | sold s y =>
          obtain ⟨_, _, rfl, rfl, _, _, rfl, ⟨s2, hs2, rfl⟩, _, _, rfl, ⟨y2, hy2, rfl⟩, rfl⟩ := hw
          refine sD ?_
          conv => whnf
          repeat (refine Need.mk ?_ ?_; exact nd; conv => whnf)
          refine ⟨_, rfl, ⟨by first | decide | omega, by first | decide | omega⟩, fun k k0 k1 => ?_⟩
          conv => whnf
          repeat (refine Need.mk ?_ ?_; exact nd; conv => whnf)
          exact ⟨⟨_, rfl⟩, .sold k y2, all1 (t := .sg k) ⟨k0, by omega⟩ (all1 (t := .num y2) hy2 all0), _, rfl⟩
        | cover p l d =>
          obtain ⟨_, _, rfl, rfl, _, _, rfl, ⟨p2, hp, rfl⟩, _, _, rfl, ⟨l2, hl, rfl⟩, _, _, rfl, ⟨d2, hd, rfl⟩, rfl⟩ := hw
          refine sD ?_
          conv => whnf
          repeat (refine Need.mk ?_ ?_; exact nd; conv => whnf)
          exact ⟨⟨_, rfl⟩, .cover p2 l2 d2, all1 (t := .num p2) hp (all1 (t := .num l2) hl (all1 (t := .num d2) hd (all0))), _, rfl⟩
        | moved p c l d =>
          obtain ⟨_, _, rfl, rfl, _, _, rfl, ⟨p2, hp, rfl⟩, _, _, rfl, ⟨c2, hc, rfl⟩, _, _, rfl, ⟨l2, hl, rfl⟩, _, _, rfl, ⟨d2, hd, rfl⟩, rfl⟩ := hw
          refine sD ?_
          conv => whnf
          repeat (refine Need.mk ?_ ?_; exact nd; conv => whnf)
          exact ⟨⟨_, rfl⟩, .moved p2 c2 l2 d2, all1 (t := .num p2) hp (all1 (t := .num c2) hc (all1 (t := .num l2) hl (all1 (t := .num d2) hd (all0)))), _, rfl⟩
        | year p c f l =>
          obtain ⟨_, _, rfl, rfl, _, _, rfl, ⟨p2, hp, rfl⟩, _, _, rfl, ⟨c2, hc, rfl⟩, _, _, rfl, ⟨f2, hf, rfl⟩, _, _, rfl, ⟨l2, hl, rfl⟩, rfl⟩ := hw
          refine sD ?_
          conv => whnf
          repeat (refine Need.mk ?_ ?_; exact nd; conv => whnf)
          exact ⟨⟨_, rfl⟩, .year p2 c2 f2 l2, all1 (t := .num p2) hp (all1 (t := .num c2) hc (all1 (t := .num f2) hf (all1 (t := .num l2) hl (all0)))), _, rfl⟩
        | ahead p c o d =>
          obtain ⟨_, _, rfl, rfl, _, _, rfl, ⟨p2, hp, rfl⟩, _, _, rfl, ⟨c2, hc, rfl⟩, _, _, rfl, ⟨o2, ho, rfl⟩, _, _, rfl, ⟨d2, hd, rfl⟩, rfl⟩ := hw
          refine sD ?_
          conv => whnf
          repeat (refine Need.mk ?_ ?_; exact nd; conv => whnf)
          exact ⟨⟨_, rfl⟩, .ahead p2 c2 o2 d2, all1 (t := .num p2) hp (all1 (t := .num c2) hc (all1 (t := .num o2) ho (all1 (t := .num d2) hd (all0)))), _, rfl⟩
        | same p c o d =>
          obtain ⟨_, _, rfl, rfl, _, _, rfl, ⟨p2, hp, rfl⟩, _, _, rfl, ⟨c2, hc, rfl⟩, _, _, rfl, ⟨o2, ho, rfl⟩, _, _, rfl, ⟨d2, hd, rfl⟩, rfl⟩ := hw
          refine sD ?_
          conv => whnf
          repeat (refine Need.mk ?_ ?_; exact nd; conv => whnf)
          exact ⟨⟨_, rfl⟩, .same p2 c2 o2 d2, all1 (t := .num p2) hp (all1 (t := .num c2) hc (all1 (t := .num o2) ho (all1 (t := .num d2) hd (all0)))), _, rfl⟩
        | apart p c o d =>
          obtain ⟨_, _, rfl, rfl, _, _, rfl, ⟨p2, hp, rfl⟩, _, _, rfl, ⟨c2, hc, rfl⟩, _, _, rfl, ⟨o2, ho, rfl⟩, _, _, rfl, ⟨d2, hd, rfl⟩, rfl⟩ := hw
          refine sD ?_
          conv => whnf
          repeat (refine Need.mk ?_ ?_; exact nd; conv => whnf)
          exact ⟨⟨_, rfl⟩, .apart p2 c2 o2 d2, all1 (t := .num p2) hp (all1 (t := .num c2) hc (all1 (t := .num o2) ho (all1 (t := .num d2) hd (all0)))), _, rfl⟩
    · conv => whnf
      repeat (refine Need.mk ?_ ?_; exact nd; conv => whnf)
      exact ⟨⟨_, rfl⟩, f, hn, _, rfl⟩
  clear hn
  rintro s' S' ⟨⟨x, rfl⟩, f, hn, z, rfl⟩
  conv => whnf
  repeat (refine Need.mk ?_ ?_; exact nd; conv => whnf)
  cases f with
  | scrape p c sh =>
    conv => whnf
    repeat (refine Need.mk ?_ ?_; exact nd; conv => whnf)
    refine sD ?_
    conv => whnf
    repeat (refine Need.mk ?_ ?_; exact nd; conv => whnf)
    refine ⟨_, rfl, ⟨by first | decide | omega, by first | decide | omega⟩, fun n h0 h1 => ?_⟩
    conv => whnf
    repeat (refine Need.mk ?_ ?_; exact nd; conv => whnf)
    refine brd (fun hc => ?_) (fun hc => ?_)
    · conv => whnf
      repeat (refine Need.mk ?_ ?_; exact nd; conv => whnf)
      refine ⟨_, rfl, ⟨by first | decide | omega, by first | decide | omega⟩, fun m m0 m1 => ?_⟩
      have m1 : m < 12 := m1
      conv => whnf
      repeat (refine Need.mk ?_ ?_; exact nd; conv => whnf)
      refine ⟨1 + m, rfl, by omega, by omega, fun sh2 hl hg => ?_⟩
      conv => whnf
      repeat (refine Need.mk ?_ ?_; exact nd; conv => whnf)
      refine Need.mk ⟨List.cons_ne_nil _ _, leN (Nat.le_of_ble_eq_true rfl)⟩ ?_
      conv => whnf
      repeat (refine Need.mk ?_ ?_; exact nd; conv => whnf)
      exact Rw (q (.scrape p c sh2) (all1 (t := .num p) (hn (.num p) (by simp [Fc.th])) (all1 (t := .num c) (hn (.num c) (by simp [Fc.th])) (all1 (t := .sgs sh2) ⟨hg, by omega, by omega⟩ all0)))) (Fc.lt (f := .scrape p c sh2))
    · conv => whnf
      repeat (refine Need.mk ?_ ?_; exact nd; conv => whnf)
      exact Rw (q (.scrape p c sh) hn) (Fc.lt (f := .scrape p c sh))
  | cover p l d =>
    conv => whnf
    repeat (refine Need.mk ?_ ?_; exact nd; conv => whnf)
    refine sD ?_
    conv => whnf
    repeat (refine Need.mk ?_ ?_; exact nd; conv => whnf)
    exact Rw (q (.cover p l d) hn) (Fc.lt (f := .cover p l d))
  | moved p c l d =>
    conv => whnf
    repeat (refine Need.mk ?_ ?_; exact nd; conv => whnf)
    refine sD ?_
    conv => whnf
    repeat (refine Need.mk ?_ ?_; exact nd; conv => whnf)
    exact Rw (q (.moved p c l d) hn) (Fc.lt (f := .moved p c l d))
  | year p c f l =>
    conv => whnf
    repeat (refine Need.mk ?_ ?_; exact nd; conv => whnf)
    refine sD ?_
    conv => whnf
    repeat (refine Need.mk ?_ ?_; exact nd; conv => whnf)
    exact Rw (q (.year p c f l) hn) (Fc.lt (f := .year p c f l))
  | ahead p c o d =>
    conv => whnf
    repeat (refine Need.mk ?_ ?_; exact nd; conv => whnf)
    refine sD ?_
    conv => whnf
    repeat (refine Need.mk ?_ ?_; exact nd; conv => whnf)
    exact Rw (q (.ahead p c o d) hn) (Fc.lt (f := .ahead p c o d))
  | same p c o d =>
    conv => whnf
    repeat (refine Need.mk ?_ ?_; exact nd; conv => whnf)
    refine sD ?_
    conv => whnf
    repeat (refine Need.mk ?_ ?_; exact nd; conv => whnf)
    exact Rw (q (.same p c o d) hn) (Fc.lt (f := .same p c o d))
  | apart p c o d =>
    conv => whnf
    repeat (refine Need.mk ?_ ?_; exact nd; conv => whnf)
    refine sD ?_
    conv => whnf
    repeat (refine Need.mk ?_ ?_; exact nd; conv => whnf)
    exact Rw (q (.apart p c o d) hn) (Fc.lt (f := .apart p c o d))
  | sold s y =>
    conv => whnf
    repeat (refine Need.mk ?_ ?_; exact nd; conv => whnf)
    refine sD ?_
    conv => whnf
    repeat (refine Need.mk ?_ ?_; exact nd; conv => whnf)
    exact Rw (q (.sold s y) hn) (Fc.lt (f := .sold s y))
def sp__law_wide_deed (a : Ad) : SpP := fun ds Q _ => ds = [] ∧ ∀ d : Dd, d.ok → Q d.d
theorem ok__law_wide_deed (T : Txt K w mg a) (G__law_pull : Fx P w K mg base 1 a.a__law_pull a.d__law_pull "_law_pull" ["_law_draw", "_law_many"] (ld (sp__law_pull a))) (G__law_wide_fact : Fx P w K mg base 4 a.a__law_wide_fact a.d__law_wide_fact "_law_wide_fact" ["_law_draw"] (ld (sp__law_wide_fact a))) : Fx P w K mg base 5 a.a__law_wide_deed a.d__law_wide_deed "_law_wide_deed" ["_law_draw"] (ld (sp__law_wide_deed a)) := by
  refine ⟨fn_W T.F__law_wide_deed sc__law_wide_deed (by (intro ds Q E h; first | (obtain ⟨h, hr⟩ := h; subst h; (try (obtain ⟨_, hr⟩ := hr)); (try (obtain ⟨_, hr⟩ := hr)); (try (obtain ⟨_, hr⟩ := hr)); (try (obtain ⟨_, hr⟩ := hr)); (all_goals exact ⟨rfl, by (repeat' (first | trivial | exact webD_lt | exact mvsD_lt _ | exact ctsD_lt _ | exact dcD_lts rdD_lt | exact dcD_lts seenV_lt | exact dcD_lts ctsD_lt | exact prs_lt' _ | exact prps_lt _ | exact pr_lt _ | exact Nd.lt _ | exact dcD_lts ndsD_lt | exact dcD_lts pr_lt | exact lmD_lt | exact Ev.lt | exact evs_lt _ | exact itDs_lt _ | exact prs_lt _ | exact Wld.lt | exact rows_lt | exact deeds_lt | exact pasts_lt | exact D.lts_ints _ | exact D.lts_strs _ | exact Fc.lt | exact Dd.lt | exact fcs_lt _ | exact nfs_lt _ | exact nf_lt | exact D.pl.lt (by assumption) | exact D.dp.lt (by assumption) | exact D.dps.lt (by assumption) | exact D.pls.lt (by assumption) | assumption | refine ⟨?_, ?_⟩))⟩)) | (obtain ⟨_, h, hr⟩ := h; subst h; (try (obtain ⟨_, hr⟩ := hr)); (try (obtain ⟨_, hr⟩ := hr)); (try (obtain ⟨_, hr⟩ := hr)); (try (obtain ⟨_, hr⟩ := hr)); (all_goals exact ⟨rfl, by (repeat' (first | trivial | exact webD_lt | exact mvsD_lt _ | exact ctsD_lt _ | exact dcD_lts rdD_lt | exact dcD_lts seenV_lt | exact dcD_lts ctsD_lt | exact prs_lt' _ | exact prps_lt _ | exact pr_lt _ | exact Nd.lt _ | exact dcD_lts ndsD_lt | exact dcD_lts pr_lt | exact lmD_lt | exact Ev.lt | exact evs_lt _ | exact itDs_lt _ | exact prs_lt _ | exact Wld.lt | exact rows_lt | exact deeds_lt | exact pasts_lt | exact D.lts_ints _ | exact D.lts_strs _ | exact Fc.lt | exact Dd.lt | exact fcs_lt _ | exact nfs_lt _ | exact nf_lt | exact D.pl.lt (by assumption) | exact D.dp.lt (by assumption) | exact D.dps.lt (by assumption) | exact D.pls.lt (by assumption) | assumption | refine ⟨?_, ?_⟩))⟩)) | (obtain ⟨_, _, h, hr⟩ := h; subst h; (try (obtain ⟨_, hr⟩ := hr)); (try (obtain ⟨_, hr⟩ := hr)); (try (obtain ⟨_, hr⟩ := hr)); (try (obtain ⟨_, hr⟩ := hr)); (all_goals exact ⟨rfl, by (repeat' (first | trivial | exact webD_lt | exact mvsD_lt _ | exact ctsD_lt _ | exact dcD_lts rdD_lt | exact dcD_lts seenV_lt | exact dcD_lts ctsD_lt | exact prs_lt' _ | exact prps_lt _ | exact pr_lt _ | exact Nd.lt _ | exact dcD_lts ndsD_lt | exact dcD_lts pr_lt | exact lmD_lt | exact Ev.lt | exact evs_lt _ | exact itDs_lt _ | exact prs_lt _ | exact Wld.lt | exact rows_lt | exact deeds_lt | exact pasts_lt | exact D.lts_ints _ | exact D.lts_strs _ | exact Fc.lt | exact Dd.lt | exact fcs_lt _ | exact nfs_lt _ | exact nf_lt | exact D.pl.lt (by assumption) | exact D.dp.lt (by assumption) | exact D.dps.lt (by assumption) | exact D.pls.lt (by assumption) | assumption | refine ⟨?_, ?_⟩))⟩)) | (obtain ⟨_, _, _, h, hr⟩ := h; subst h; (try (obtain ⟨_, hr⟩ := hr)); (try (obtain ⟨_, hr⟩ := hr)); (try (obtain ⟨_, hr⟩ := hr)); (try (obtain ⟨_, hr⟩ := hr)); (all_goals exact ⟨rfl, by (repeat' (first | trivial | exact webD_lt | exact mvsD_lt _ | exact ctsD_lt _ | exact dcD_lts rdD_lt | exact dcD_lts seenV_lt | exact dcD_lts ctsD_lt | exact prs_lt' _ | exact prps_lt _ | exact pr_lt _ | exact Nd.lt _ | exact dcD_lts ndsD_lt | exact dcD_lts pr_lt | exact lmD_lt | exact Ev.lt | exact evs_lt _ | exact itDs_lt _ | exact prs_lt _ | exact Wld.lt | exact rows_lt | exact deeds_lt | exact pasts_lt | exact D.lts_ints _ | exact D.lts_strs _ | exact Fc.lt | exact Dd.lt | exact fcs_lt _ | exact nfs_lt _ | exact nf_lt | exact D.pl.lt (by assumption) | exact D.dp.lt (by assumption) | exact D.dps.lt (by assumption) | exact D.pls.lt (by assumption) | assumption | refine ⟨?_, ?_⟩))⟩)) | (obtain ⟨_, _, _, _, h, hr⟩ := h; subst h; (try (obtain ⟨_, hr⟩ := hr)); (try (obtain ⟨_, hr⟩ := hr)); (try (obtain ⟨_, hr⟩ := hr)); (try (obtain ⟨_, hr⟩ := hr)); (all_goals exact ⟨rfl, by (repeat' (first | trivial | exact webD_lt | exact mvsD_lt _ | exact ctsD_lt _ | exact dcD_lts rdD_lt | exact dcD_lts seenV_lt | exact dcD_lts ctsD_lt | exact prs_lt' _ | exact prps_lt _ | exact pr_lt _ | exact Nd.lt _ | exact dcD_lts ndsD_lt | exact dcD_lts pr_lt | exact lmD_lt | exact Ev.lt | exact evs_lt _ | exact itDs_lt _ | exact prs_lt _ | exact Wld.lt | exact rows_lt | exact deeds_lt | exact pasts_lt | exact D.lts_ints _ | exact D.lts_strs _ | exact Fc.lt | exact Dd.lt | exact fcs_lt _ | exact nfs_lt _ | exact nf_lt | exact D.pl.lt (by assumption) | exact D.dp.lt (by assumption) | exact D.dps.lt (by assumption) | exact D.pls.lt (by assumption) | assumption | refine ⟨?_, ?_⟩))⟩)) | (obtain ⟨_, _, _, _, _, h, hr⟩ := h; subst h; (try (obtain ⟨_, hr⟩ := hr)); (try (obtain ⟨_, hr⟩ := hr)); (try (obtain ⟨_, hr⟩ := hr)); (try (obtain ⟨_, hr⟩ := hr)); (all_goals exact ⟨rfl, by (repeat' (first | trivial | exact webD_lt | exact mvsD_lt _ | exact ctsD_lt _ | exact dcD_lts rdD_lt | exact dcD_lts seenV_lt | exact dcD_lts ctsD_lt | exact prs_lt' _ | exact prps_lt _ | exact pr_lt _ | exact Nd.lt _ | exact dcD_lts ndsD_lt | exact dcD_lts pr_lt | exact lmD_lt | exact Ev.lt | exact evs_lt _ | exact itDs_lt _ | exact prs_lt _ | exact Wld.lt | exact rows_lt | exact deeds_lt | exact pasts_lt | exact D.lts_ints _ | exact D.lts_strs _ | exact Fc.lt | exact Dd.lt | exact fcs_lt _ | exact nfs_lt _ | exact nf_lt | exact D.pl.lt (by assumption) | exact D.dp.lt (by assumption) | exact D.dps.lt (by assumption) | exact D.pls.lt (by assumption) | assumption | refine ⟨?_, ?_⟩))⟩)) | (obtain ⟨h, _⟩ := h; exact (by simp at h)))) fun cdv A outer s H E φ T0 W' room wl => ⟨_, (lss_cons (ls_set 1 (le_fx G__law_pull (room.mono (by decide)) (takes_of rfl rfl rfl rfl) wl (la_cons (lv 0) (la_cons le_int la_nil))) sc__law_wide_deed.nd)
    (lss_cons (ls_set 2 (le_fx G__law_pull (room.mono (by decide)) (takes_of rfl rfl rfl rfl) wl (la_cons (lv 0) (la_cons (le_ix ox_seq (le_tup (la_cons le_int (la_cons le_int la_nil))) (le_fx G__law_pull (room.mono (by decide)) (takes_of rfl rfl rfl rfl) wl (la_cons (lv 0) (la_cons le_int la_nil)))) la_nil))) sc__law_wide_deed.nd)
    (lss_cons (ls_if (lt_cmp oo_lt (lv 1) le_int (by rfl)) (lss_cons (ls_ret (le_tup (la_cons (le_ix ox_seq (le_lst (la_cons le_str (la_cons le_str la_nil))) (lv 1)) (la_cons (lv 2) la_nil))))
    lss_nil) lss_nil)
    (lss_consW [0] (ls_set 3 (le_fx G__law_wide_fact (room.mono (by decide)) (takes_of rfl rfl rfl rfl) wl (la_cons (lv 0) la_nil)) sc__law_wide_deed.nd)
    (lss_cons (ls_ret (le_if (lt_cmp (oo_eq room.units) (lv 1) le_int (by rfl)) (le_tup (la_cons le_str (la_cons (lv 2) (la_cons (lv 3) la_nil)))) (le_tup (la_cons le_str (la_cons (lv 3) la_nil)))))
    lss_nil))))), fun ds S R X n h hW => ?_⟩, T.m__law_wide_deed, T.F__law_wide_deed.kp, T.b__law_wide_deed⟩
  obtain ⟨r, Q, E, h, rfl, rfl, rfl, rfl, rfl⟩ := h
  subst hW
  obtain ⟨rfl, q⟩ := h
  conv => whnf
  repeat (refine Need.mk ?_ ?_; exact nd; conv => whnf)
  refine ⟨_, rfl, ⟨by first | decide | omega, by first | decide | omega⟩, fun w w0 w1 => ?_⟩
  have w1 : w < 6 := w1
  conv => whnf
  repeat (refine Need.mk ?_ ?_; exact nd; conv => whnf)
  refine ⟨_, rfl, ⟨by first | decide | omega, by first | decide | omega⟩, fun b b0 b1 => ?_⟩
  obtain ⟨k, hk, hka⟩ := atI_two (lo := 1) (hi := 10000) b0 b1 (show (1 : Int) ≤ 30 ∧ (30 : Int) ≤ 10000 by decide) (show (1 : Int) ≤ 10000 ∧ (10000 : Int) ≤ 10000 by decide)
  conv => whnf
  repeat (refine Need.mk ?_ ?_; exact nd; conv => whnf)
  refine optI hka ?_
  conv => whnf
  repeat (refine Need.mk ?_ ?_; exact nd; conv => whnf)
  refine ⟨_, rfl, ⟨by omega, by omega⟩, fun n n0 n1 => ?_⟩
  have hn : num4 n := ⟨n0, by omega⟩
  conv => whnf
  repeat (refine Need.mk ?_ ?_; exact nd; conv => whnf)
  refine brd (fun hw => ?_) (fun hw => ?_)
  · have h01 : w = 0 ∨ w = 1 := by omega
    rcases h01 with rfl | rfl
    · conv => whnf
      repeat (refine Need.mk ?_ ?_; exact nd; conv => whnf)
      exact Rw (q (.strike n) hn) ⟨trivial, trivial, trivial⟩
    · conv => whnf
      repeat (refine Need.mk ?_ ?_; exact nd; conv => whnf)
      exact Rw (q (.keep n) hn) ⟨trivial, trivial, trivial⟩
  · conv => whnf
    repeat (refine Need.mk ?_ ?_; exact nd; conv => whnf)
    refine ⟨rfl, fun f hf => ?_⟩
    conv => whnf
    repeat (refine Need.mk ?_ ?_; exact nd; conv => whnf)
    refine brd (fun hc => ?_) (fun hc => ?_)
    · conv => whnf
      repeat (refine Need.mk ?_ ?_; exact nd; conv => whnf)
      exact Rw (q (.amend n f) ⟨hn, hf⟩) ⟨trivial, trivial, Fc.lt, trivial⟩
    · conv => whnf
      repeat (refine Need.mk ?_ ?_; exact nd; conv => whnf)
      exact Rw (q (.tell f) hf) ⟨trivial, Fc.lt, trivial⟩
def sp__law_number_in (a : Ad) : SpP := fun ds Q _ => ∃ w : Str, ds = [.str w] ∧ w.length ≤ 100000 ∧ (∀ n, num4 n → w = numW n → Q (.int n)) ∧ (¬ isNum w → Q .non)
theorem ok__law_number_in (T : Txt K w mg a)  : Fx P w K mg base 1 a.a__law_number_in a.d__law_number_in "_law_number_in" ["_law_word"] (lp (sp__law_number_in a)) := by
  refine ⟨fn_P T.F__law_number_in sc__law_number_in (by (intro ds Q E h; first | (obtain ⟨h, hr⟩ := h; subst h; (try (obtain ⟨_, hr⟩ := hr)); (try (obtain ⟨_, hr⟩ := hr)); (try (obtain ⟨_, hr⟩ := hr)); (try (obtain ⟨_, hr⟩ := hr)); (all_goals exact ⟨rfl, by (repeat' (first | trivial | exact webD_lt | exact mvsD_lt _ | exact ctsD_lt _ | exact dcD_lts rdD_lt | exact dcD_lts seenV_lt | exact dcD_lts ctsD_lt | exact prs_lt' _ | exact prps_lt _ | exact pr_lt _ | exact Nd.lt _ | exact dcD_lts ndsD_lt | exact dcD_lts pr_lt | exact lmD_lt | exact Ev.lt | exact evs_lt _ | exact itDs_lt _ | exact prs_lt _ | exact Wld.lt | exact rows_lt | exact deeds_lt | exact pasts_lt | exact D.lts_ints _ | exact D.lts_strs _ | exact Fc.lt | exact Dd.lt | exact fcs_lt _ | exact nfs_lt _ | exact nf_lt | exact D.pl.lt (by assumption) | exact D.dp.lt (by assumption) | exact D.dps.lt (by assumption) | exact D.pls.lt (by assumption) | assumption | refine ⟨?_, ?_⟩))⟩)) | (obtain ⟨_, h, hr⟩ := h; subst h; (try (obtain ⟨_, hr⟩ := hr)); (try (obtain ⟨_, hr⟩ := hr)); (try (obtain ⟨_, hr⟩ := hr)); (try (obtain ⟨_, hr⟩ := hr)); (all_goals exact ⟨rfl, by (repeat' (first | trivial | exact webD_lt | exact mvsD_lt _ | exact ctsD_lt _ | exact dcD_lts rdD_lt | exact dcD_lts seenV_lt | exact dcD_lts ctsD_lt | exact prs_lt' _ | exact prps_lt _ | exact pr_lt _ | exact Nd.lt _ | exact dcD_lts ndsD_lt | exact dcD_lts pr_lt | exact lmD_lt | exact Ev.lt | exact evs_lt _ | exact itDs_lt _ | exact prs_lt _ | exact Wld.lt | exact rows_lt | exact deeds_lt | exact pasts_lt | exact D.lts_ints _ | exact D.lts_strs _ | exact Fc.lt | exact Dd.lt | exact fcs_lt _ | exact nfs_lt _ | exact nf_lt | exact D.pl.lt (by assumption) | exact D.dp.lt (by assumption) | exact D.dps.lt (by assumption) | exact D.pls.lt (by assumption) | assumption | refine ⟨?_, ?_⟩))⟩)) | (obtain ⟨_, _, h, hr⟩ := h; subst h; (try (obtain ⟨_, hr⟩ := hr)); (try (obtain ⟨_, hr⟩ := hr)); (try (obtain ⟨_, hr⟩ := hr)); (try (obtain ⟨_, hr⟩ := hr)); (all_goals exact ⟨rfl, by (repeat' (first | trivial | exact webD_lt | exact mvsD_lt _ | exact ctsD_lt _ | exact dcD_lts rdD_lt | exact dcD_lts seenV_lt | exact dcD_lts ctsD_lt | exact prs_lt' _ | exact prps_lt _ | exact pr_lt _ | exact Nd.lt _ | exact dcD_lts ndsD_lt | exact dcD_lts pr_lt | exact lmD_lt | exact Ev.lt | exact evs_lt _ | exact itDs_lt _ | exact prs_lt _ | exact Wld.lt | exact rows_lt | exact deeds_lt | exact pasts_lt | exact D.lts_ints _ | exact D.lts_strs _ | exact Fc.lt | exact Dd.lt | exact fcs_lt _ | exact nfs_lt _ | exact nf_lt | exact D.pl.lt (by assumption) | exact D.dp.lt (by assumption) | exact D.dps.lt (by assumption) | exact D.pls.lt (by assumption) | assumption | refine ⟨?_, ?_⟩))⟩)) | (obtain ⟨_, _, _, h, hr⟩ := h; subst h; (try (obtain ⟨_, hr⟩ := hr)); (try (obtain ⟨_, hr⟩ := hr)); (try (obtain ⟨_, hr⟩ := hr)); (try (obtain ⟨_, hr⟩ := hr)); (all_goals exact ⟨rfl, by (repeat' (first | trivial | exact webD_lt | exact mvsD_lt _ | exact ctsD_lt _ | exact dcD_lts rdD_lt | exact dcD_lts seenV_lt | exact dcD_lts ctsD_lt | exact prs_lt' _ | exact prps_lt _ | exact pr_lt _ | exact Nd.lt _ | exact dcD_lts ndsD_lt | exact dcD_lts pr_lt | exact lmD_lt | exact Ev.lt | exact evs_lt _ | exact itDs_lt _ | exact prs_lt _ | exact Wld.lt | exact rows_lt | exact deeds_lt | exact pasts_lt | exact D.lts_ints _ | exact D.lts_strs _ | exact Fc.lt | exact Dd.lt | exact fcs_lt _ | exact nfs_lt _ | exact nf_lt | exact D.pl.lt (by assumption) | exact D.dp.lt (by assumption) | exact D.dps.lt (by assumption) | exact D.pls.lt (by assumption) | assumption | refine ⟨?_, ?_⟩))⟩)) | (obtain ⟨_, _, _, _, h, hr⟩ := h; subst h; (try (obtain ⟨_, hr⟩ := hr)); (try (obtain ⟨_, hr⟩ := hr)); (try (obtain ⟨_, hr⟩ := hr)); (try (obtain ⟨_, hr⟩ := hr)); (all_goals exact ⟨rfl, by (repeat' (first | trivial | exact webD_lt | exact mvsD_lt _ | exact ctsD_lt _ | exact dcD_lts rdD_lt | exact dcD_lts seenV_lt | exact dcD_lts ctsD_lt | exact prs_lt' _ | exact prps_lt _ | exact pr_lt _ | exact Nd.lt _ | exact dcD_lts ndsD_lt | exact dcD_lts pr_lt | exact lmD_lt | exact Ev.lt | exact evs_lt _ | exact itDs_lt _ | exact prs_lt _ | exact Wld.lt | exact rows_lt | exact deeds_lt | exact pasts_lt | exact D.lts_ints _ | exact D.lts_strs _ | exact Fc.lt | exact Dd.lt | exact fcs_lt _ | exact nfs_lt _ | exact nf_lt | exact D.pl.lt (by assumption) | exact D.dp.lt (by assumption) | exact D.dps.lt (by assumption) | exact D.pls.lt (by assumption) | assumption | refine ⟨?_, ?_⟩))⟩)) | (obtain ⟨_, _, _, _, _, h, hr⟩ := h; subst h; (try (obtain ⟨_, hr⟩ := hr)); (try (obtain ⟨_, hr⟩ := hr)); (try (obtain ⟨_, hr⟩ := hr)); (try (obtain ⟨_, hr⟩ := hr)); (all_goals exact ⟨rfl, by (repeat' (first | trivial | exact webD_lt | exact mvsD_lt _ | exact ctsD_lt _ | exact dcD_lts rdD_lt | exact dcD_lts seenV_lt | exact dcD_lts ctsD_lt | exact prs_lt' _ | exact prps_lt _ | exact pr_lt _ | exact Nd.lt _ | exact dcD_lts ndsD_lt | exact dcD_lts pr_lt | exact lmD_lt | exact Ev.lt | exact evs_lt _ | exact itDs_lt _ | exact prs_lt _ | exact Wld.lt | exact rows_lt | exact deeds_lt | exact pasts_lt | exact D.lts_ints _ | exact D.lts_strs _ | exact Fc.lt | exact Dd.lt | exact fcs_lt _ | exact nfs_lt _ | exact nf_lt | exact D.pl.lt (by assumption) | exact D.dp.lt (by assumption) | exact D.dps.lt (by assumption) | exact D.pls.lt (by assumption) | assumption | refine ⟨?_, ?_⟩))⟩)) | (obtain ⟨h, _⟩ := h; exact (by simp at h)))) fun cdv A outer s H E φ T0 W' room wl => ⟨_, (lss_cons (ls_if (LW.t (lw_or (lt_not (lt_chain oo_le oo_le le_int (le_callB cc_len rfl T.n_len (by rfl) (la_cons (lv 0) la_nil)) le_int)) (lw_or1 (lt_not (lt_truth (le_callB (cc_all rfl) rfl T.n_all (by rfl) (la_cons (le_lc false [("_law_sign_here", 1)] (.nm 1) rfl sc__law_number_in.nd (li_str (lv 0)) (by (conv => { arg 1; whnf }); (conv => { arg 2; whnf }); exact ⟨rfl, by decide +kernel, by decide +kernel, by decide +kernel, by decide +kernel⟩) (fun _ _ _ _ _ => (tg_nm 1 sc__law_number_in.nd)) (fun _ _ _ _ _ => lts_nil) (fun _ _ _ _ _ => (le_cmp oo_in (lv 1) le_str (by rfl)))) la_nil))))))) (lss_cons (ls_ret le_non)
    lss_nil) lss_nil)
    (lss_cons (ls_ret (le_if (LW.t (lw_and (lt_cmp oo_gt (le_callB cc_len rfl T.n_len (by rfl) (la_cons (lv 0) la_nil)) le_int (by rfl)) (lw_and1 (lt_cmp (oo_eq room.units) (le_ix ox_seq (lv 0) le_int) le_str (by rfl))))) le_non (le_callTy cc_int rfl T.n_int (by rfl) (la_cons (lv 0) la_nil))))
    lss_nil)), fun ds S R X n h hW => ?_⟩, T.m__law_number_in, T.F__law_number_in.kp, T.b__law_number_in⟩
  obtain ⟨Q, E, h, rfl, rfl, rfl, rfl⟩ := h
  subst hW
  obtain ⟨w, rfl, hl, h1, h2⟩ := h
  have z24 : (100002 : Nat) ≤ sizeLine := by decide
  conv => whnf
  repeat (refine Need.mk ?_ ?_; exact nd; conv => whnf)
  refine Need.mk (by omega) ?_
  conv => whnf
  repeat (refine Need.mk ?_ ?_; exact nd; conv => whnf)
  refine brd (p := (1 : Int) ≤ w.length) (fun g1 => ?_) (fun g1 => ?_)
  · conv => whnf
    repeat (refine Need.mk ?_ ?_; exact nd; conv => whnf)

    refine bnd (p := (w.length : Int) ≤ 4) (fun g2 => ?_) (fun g2 => ?_)
    · conv => whnf
      repeat (refine Need.mk ?_ ?_; exact nd; conv => whnf)
      refine lc_map (fun d => match d with | .str ⟨⟨[c]⟩⟩ => .bl (decide (c ∈ ("0123456789" : Str).cps.toList)) | _ => .non) (by rw [signs_len]; exact ltN (by omega)) (fun _ => trivial) ?_ ?_
      · intro i d acc hi
        obtain ⟨c, hc, rfl⟩ := str_at hi
        refine ⟨_, rfl, trivial, fun R r => ?_⟩
        conv => whnf
        repeat (refine Need.mk ?_ ?_; exact nd; conv => whnf)
        exact r
      conv => whnf
      repeat (refine Need.mk ?_ ?_; exact nd; conv => whnf)
      unfold LC.signs
      rw [List.map_map]
      refine optI (asBs_map (fun c => decide (c ∈ ("0123456789" : Str).cps.toList)) w.cps.toList) ?_
      conv => whnf
      repeat (refine Need.mk ?_ ?_; exact nd; conv => whnf)
      rw [figs_all]
      by_cases h3 : ∀ c ∈ TL.tl w, 48 ≤ c ∧ c ≤ 57
      · rw [decide_eq_true h3]
        conv => whnf
        repeat (refine Need.mk ?_ ?_; exact nd; conv => whnf)
        refine Need.mk (by omega) ?_
        conv => whnf
        repeat (refine Need.mk ?_ ?_; exact nd; conv => whnf)
        obtain ⟨c, r, e⟩ : ∃ c r, TL.tl w = c :: r := by
          cases hw : TL.tl w with
          | nil => have := TL.len_tl w; rw [hw, List.length_nil] at this; omega
          | cons c r => exact ⟨c, r, rfl⟩
        have num : (w.length ≤ 1 ∨ c ≠ 48) → ∃ n, num4 n ∧ w = numW n := fun z => figW_num ⟨by omega, by omega, h3, z.imp id fun y q => by rw [e] at q; exact y (Option.some.inj q)⟩
        have tail : (w.length ≤ 1 ∨ c ≠ 48) → ∃ n, num4 n ∧ PySem.intText? w = some n ∧ Q (.int n) := fun z => by
          obtain ⟨n, hn, hw⟩ := num z
          exact ⟨n, hn, by rw [hw]; exact numW_int hn, h1 n hn hw⟩
        refine brd (p := (1 : Int) < w.length) (fun g4 => ?_) (fun g4 => ?_)
        · conv => whnf
          repeat (refine Need.mk ?_ ?_; exact nd; conv => whnf)
          refine Need.mk (by omega) ?_
          conv => whnf
          repeat (refine Need.mk ?_ ?_; exact nd; conv => whnf)
          refine optI (show L2.atI w.cps.toList 0 = some c by rw [show w.cps.toList = c :: r from e]; exact atI0) ?_
          conv => whnf
          repeat (refine Need.mk ?_ ?_; exact nd; conv => whnf)
          by_cases hc : c = 48
          · subst hc
            conv => whnf
            repeat (refine Need.mk ?_ ?_; exact nd; conv => whnf)
            refine Rp (h2 fun z => ?_)
            rcases (num_figW z).2.2.2 with y | y
            · omega
            · rw [e] at y; exact y rfl
          · obtain ⟨n, hn, q1, q2⟩ := tail (.inr hc)
            refine brF (p := (⟨#[c]⟩ : Str) = "0") (fun z => hc ?_) ?_
            · have z2 : TL.tl (⟨#[c]⟩ : Str) = TL.tl "0" := congrArg TL.tl z
              have z3 : TL.tl ("0" : Str) = [48] := by decide +kernel
              rw [z3] at z2
              injection z2
            conv => whnf
            repeat (refine Need.mk ?_ ?_; exact nd; conv => whnf)
            refine Need.mk (by omega) ?_
            conv => whnf
            repeat (refine Need.mk ?_ ?_; exact nd; conv => whnf)
            refine optI q1 ?_
            conv => whnf
            repeat (refine Need.mk ?_ ?_; exact nd; conv => whnf)
            exact Rp q2
        · obtain ⟨n, hn, q1, q2⟩ := tail (.inl (by omega))
          conv => whnf
          repeat (refine Need.mk ?_ ?_; exact nd; conv => whnf)
          refine Need.mk (by omega) ?_
          conv => whnf
          repeat (refine Need.mk ?_ ?_; exact nd; conv => whnf)
          refine optI q1 ?_
          conv => whnf
          repeat (refine Need.mk ?_ ?_; exact nd; conv => whnf)
          exact Rp q2
      · rw [decide_eq_false h3]
        conv => whnf
        repeat (refine Need.mk ?_ ?_; exact nd; conv => whnf)
        exact Rp (h2 fun z => h3 (num_figW z).2.2.1)
    · conv => whnf
      repeat (refine Need.mk ?_ ?_; exact nd; conv => whnf)
      exact Rp (h2 fun z => g2 (by have := (num_figW z).2.1; omega))
  · conv => whnf
    repeat (refine Need.mk ?_ ?_; exact nd; conv => whnf)
    exact Rp (h2 fun z => g1 (by have := (num_figW z).1; omega))
def sp__law_fact_in (a : Ad) : SpP := fun ds Q _ => ∃ ws : List Str, ds = [.lst (ws.map D.str)] ∧ ws ≠ [] ∧ ws.length ≤ 100001 ∧ (∀ w ∈ ws, w.length ≤ 100000) ∧ (∀ f : Fc, fineF f → ws = f.words → Q f.d) ∧ (¬ isFc ws → Q .non)
theorem ok__law_fact_in (T : Txt K w mg a) (G__law_number_in : Fx P w K mg base 1 a.a__law_number_in a.d__law_number_in "_law_number_in" ["_law_word"] (lp (sp__law_number_in a))) : Fx P w K mg base 2 a.a__law_fact_in a.d__law_fact_in "_law_fact_in" ["_law_words"] (lp (sp__law_fact_in a)) := by
  refine ⟨fn_P T.F__law_fact_in sc__law_fact_in (by (intro ds Q E h; first | (obtain ⟨h, hr⟩ := h; subst h; (try (obtain ⟨_, hr⟩ := hr)); (try (obtain ⟨_, hr⟩ := hr)); (try (obtain ⟨_, hr⟩ := hr)); (try (obtain ⟨_, hr⟩ := hr)); (all_goals exact ⟨rfl, by (repeat' (first | trivial | exact webD_lt | exact mvsD_lt _ | exact ctsD_lt _ | exact dcD_lts rdD_lt | exact dcD_lts seenV_lt | exact dcD_lts ctsD_lt | exact prs_lt' _ | exact prps_lt _ | exact pr_lt _ | exact Nd.lt _ | exact dcD_lts ndsD_lt | exact dcD_lts pr_lt | exact lmD_lt | exact Ev.lt | exact evs_lt _ | exact itDs_lt _ | exact prs_lt _ | exact Wld.lt | exact rows_lt | exact deeds_lt | exact pasts_lt | exact D.lts_ints _ | exact D.lts_strs _ | exact Fc.lt | exact Dd.lt | exact fcs_lt _ | exact nfs_lt _ | exact nf_lt | exact D.pl.lt (by assumption) | exact D.dp.lt (by assumption) | exact D.dps.lt (by assumption) | exact D.pls.lt (by assumption) | assumption | refine ⟨?_, ?_⟩))⟩)) | (obtain ⟨_, h, hr⟩ := h; subst h; (try (obtain ⟨_, hr⟩ := hr)); (try (obtain ⟨_, hr⟩ := hr)); (try (obtain ⟨_, hr⟩ := hr)); (try (obtain ⟨_, hr⟩ := hr)); (all_goals exact ⟨rfl, by (repeat' (first | trivial | exact webD_lt | exact mvsD_lt _ | exact ctsD_lt _ | exact dcD_lts rdD_lt | exact dcD_lts seenV_lt | exact dcD_lts ctsD_lt | exact prs_lt' _ | exact prps_lt _ | exact pr_lt _ | exact Nd.lt _ | exact dcD_lts ndsD_lt | exact dcD_lts pr_lt | exact lmD_lt | exact Ev.lt | exact evs_lt _ | exact itDs_lt _ | exact prs_lt _ | exact Wld.lt | exact rows_lt | exact deeds_lt | exact pasts_lt | exact D.lts_ints _ | exact D.lts_strs _ | exact Fc.lt | exact Dd.lt | exact fcs_lt _ | exact nfs_lt _ | exact nf_lt | exact D.pl.lt (by assumption) | exact D.dp.lt (by assumption) | exact D.dps.lt (by assumption) | exact D.pls.lt (by assumption) | assumption | refine ⟨?_, ?_⟩))⟩)) | (obtain ⟨_, _, h, hr⟩ := h; subst h; (try (obtain ⟨_, hr⟩ := hr)); (try (obtain ⟨_, hr⟩ := hr)); (try (obtain ⟨_, hr⟩ := hr)); (try (obtain ⟨_, hr⟩ := hr)); (all_goals exact ⟨rfl, by (repeat' (first | trivial | exact webD_lt | exact mvsD_lt _ | exact ctsD_lt _ | exact dcD_lts rdD_lt | exact dcD_lts seenV_lt | exact dcD_lts ctsD_lt | exact prs_lt' _ | exact prps_lt _ | exact pr_lt _ | exact Nd.lt _ | exact dcD_lts ndsD_lt | exact dcD_lts pr_lt | exact lmD_lt | exact Ev.lt | exact evs_lt _ | exact itDs_lt _ | exact prs_lt _ | exact Wld.lt | exact rows_lt | exact deeds_lt | exact pasts_lt | exact D.lts_ints _ | exact D.lts_strs _ | exact Fc.lt | exact Dd.lt | exact fcs_lt _ | exact nfs_lt _ | exact nf_lt | exact D.pl.lt (by assumption) | exact D.dp.lt (by assumption) | exact D.dps.lt (by assumption) | exact D.pls.lt (by assumption) | assumption | refine ⟨?_, ?_⟩))⟩)) | (obtain ⟨_, _, _, h, hr⟩ := h; subst h; (try (obtain ⟨_, hr⟩ := hr)); (try (obtain ⟨_, hr⟩ := hr)); (try (obtain ⟨_, hr⟩ := hr)); (try (obtain ⟨_, hr⟩ := hr)); (all_goals exact ⟨rfl, by (repeat' (first | trivial | exact webD_lt | exact mvsD_lt _ | exact ctsD_lt _ | exact dcD_lts rdD_lt | exact dcD_lts seenV_lt | exact dcD_lts ctsD_lt | exact prs_lt' _ | exact prps_lt _ | exact pr_lt _ | exact Nd.lt _ | exact dcD_lts ndsD_lt | exact dcD_lts pr_lt | exact lmD_lt | exact Ev.lt | exact evs_lt _ | exact itDs_lt _ | exact prs_lt _ | exact Wld.lt | exact rows_lt | exact deeds_lt | exact pasts_lt | exact D.lts_ints _ | exact D.lts_strs _ | exact Fc.lt | exact Dd.lt | exact fcs_lt _ | exact nfs_lt _ | exact nf_lt | exact D.pl.lt (by assumption) | exact D.dp.lt (by assumption) | exact D.dps.lt (by assumption) | exact D.pls.lt (by assumption) | assumption | refine ⟨?_, ?_⟩))⟩)) | (obtain ⟨_, _, _, _, h, hr⟩ := h; subst h; (try (obtain ⟨_, hr⟩ := hr)); (try (obtain ⟨_, hr⟩ := hr)); (try (obtain ⟨_, hr⟩ := hr)); (try (obtain ⟨_, hr⟩ := hr)); (all_goals exact ⟨rfl, by (repeat' (first | trivial | exact webD_lt | exact mvsD_lt _ | exact ctsD_lt _ | exact dcD_lts rdD_lt | exact dcD_lts seenV_lt | exact dcD_lts ctsD_lt | exact prs_lt' _ | exact prps_lt _ | exact pr_lt _ | exact Nd.lt _ | exact dcD_lts ndsD_lt | exact dcD_lts pr_lt | exact lmD_lt | exact Ev.lt | exact evs_lt _ | exact itDs_lt _ | exact prs_lt _ | exact Wld.lt | exact rows_lt | exact deeds_lt | exact pasts_lt | exact D.lts_ints _ | exact D.lts_strs _ | exact Fc.lt | exact Dd.lt | exact fcs_lt _ | exact nfs_lt _ | exact nf_lt | exact D.pl.lt (by assumption) | exact D.dp.lt (by assumption) | exact D.dps.lt (by assumption) | exact D.pls.lt (by assumption) | assumption | refine ⟨?_, ?_⟩))⟩)) | (obtain ⟨_, _, _, _, _, h, hr⟩ := h; subst h; (try (obtain ⟨_, hr⟩ := hr)); (try (obtain ⟨_, hr⟩ := hr)); (try (obtain ⟨_, hr⟩ := hr)); (try (obtain ⟨_, hr⟩ := hr)); (all_goals exact ⟨rfl, by (repeat' (first | trivial | exact webD_lt | exact mvsD_lt _ | exact ctsD_lt _ | exact dcD_lts rdD_lt | exact dcD_lts seenV_lt | exact dcD_lts ctsD_lt | exact prs_lt' _ | exact prps_lt _ | exact pr_lt _ | exact Nd.lt _ | exact dcD_lts ndsD_lt | exact dcD_lts pr_lt | exact lmD_lt | exact Ev.lt | exact evs_lt _ | exact itDs_lt _ | exact prs_lt _ | exact Wld.lt | exact rows_lt | exact deeds_lt | exact pasts_lt | exact D.lts_ints _ | exact D.lts_strs _ | exact Fc.lt | exact Dd.lt | exact fcs_lt _ | exact nfs_lt _ | exact nf_lt | exact D.pl.lt (by assumption) | exact D.dp.lt (by assumption) | exact D.dps.lt (by assumption) | exact D.pls.lt (by assumption) | assumption | refine ⟨?_, ?_⟩))⟩)) | (obtain ⟨h, _⟩ := h; exact (by simp at h)))) fun cdv A outer s H E φ T0 W' room wl => ⟨_, (lss_cons (ls_set 1 (le_disp (lps_cons le_str le_str (lps_cons le_str le_str (lps_cons le_str le_str (lps_cons le_str le_str (lps_cons le_str le_str (lps_cons le_str le_str lps_nil))))))) sc__law_fact_in.nd)
    (lss_cons (ls_expr (le_bm PySem.F.plainAttrs_dict PySem.F.slot_dict_update PySem.F.type_dict_update mm_update (lv 1) (la_cons (le_disp (lps_cons le_str le_str (lps_cons le_str le_str lps_nil))) la_nil)))
    (lss_consW [1] (ls_set 2 (le_dget2 (u1 room.units) (lv 1) (le_ix ox_seq (lv 0) le_int) le_str) sc__law_fact_in.nd)
    (lss_cons (ls_if (LW.t (lw_or (lt_cmp (oo_eq room.units) (lv 2) le_str (by rfl)) (lw_or1 (lt_cmp (oo_ne room.units) (le_callB cc_len rfl T.n_len (by rfl) (la_cons (lv 0) la_nil)) (le_op oo_add (le_callB cc_len rfl T.n_len (by rfl) (la_cons (lv 2) la_nil)) le_int) (by rfl))))) (lss_cons (ls_ret le_non)
    lss_nil) lss_nil)
    (lss_cons (ls_set 3 (le_lstM (la_cons (le_ix ox_seq (lv 0) le_int) la_nil)) sc__law_fact_in.nd)
    (lss_consW [0, 2, 4, 5, 6] (ls_for (passes_of rfl) rfl (li_zipU rfl T.n_zip (la_cons (lv 2) (la_cons (le_slice (lv 0) (lp_some le_int) lp_none) la_nil))) (lg_T (t := (.tp [(.nm 4), (.nm 5)])) (tg_tp rfl (tg_cons (tg_nm 4 sc__law_fact_in.nd) (tg_cons (tg_nm 5 sc__law_fact_in.nd) tg_nil))))
    (lss_consW [4, 5, 6] (ls_if (lt_cmp (oo_eq room.units) (lv 4) le_str (by rfl)) (lss_consW [4, 5] (ls_expr (le_bm PySem.F.plainAttrs_list PySem.F.slot_list_append PySem.F.type_list_append mm_append (lv 3) (la_cons (le_fx G__law_number_in (room.mono (by decide)) (takes_of rfl rfl rfl rfl) wl (la_cons (lv 5) la_nil)) la_nil)))
    lss_nil) (lss_consW [4, 5, 6] (ls_if (LW.t (lw_or (lt_cmp (oo_eq room.units) (lv 5) le_str (by rfl)) (lw_or (lt_not (lt_truth (le_callB (cc_all rfl) rfl T.n_all (by rfl) (la_cons (le_lc false [("_law_sign_here", 7)] (.nm 7) rfl sc__law_fact_in.nd (li_str (lv 5)) (by (conv => { arg 1; whnf }); (conv => { arg 2; whnf }); exact ⟨rfl, by decide +kernel, by decide +kernel, by decide +kernel, by decide +kernel⟩) (fun _ _ _ _ _ => (tg_nm 7 sc__law_fact_in.nd)) (fun _ _ _ _ _ => lts_nil) (fun _ _ _ _ _ => (le_cmp oo_in (lv 7) le_str (by rfl)))) la_nil)))) (lw_or1 (LW.t (lw_and (lt_cmp (oo_eq room.units) (lv 4) le_str (by rfl)) (lw_and1 (lt_cmp oo_gt (le_callB cc_len rfl T.n_len (by rfl) (la_cons (lv 5) la_nil)) le_int (by rfl))))))))) (lss_cons (ls_ret le_non)
    lss_nil) (lss_consW [5] (ls_set 6 (le_callTy cc_tuple rfl T.n_tuple (by rfl) (la_cons (le_lc false [("_law_sign_here", 7)] (.nm 7) rfl sc__law_fact_in.nd (li_str (lv 5)) (by (conv => { arg 1; whnf }); (conv => { arg 2; whnf }); exact ⟨rfl, by decide +kernel, by decide +kernel, by decide +kernel, by decide +kernel⟩) (fun _ _ _ _ _ => (tg_nm 7 sc__law_fact_in.nd)) (fun _ _ _ _ _ => lts_nil) (fun _ _ _ _ _ => (le_bm PySem.F.plainAttrs_str PySem.F.slot_str_index PySem.F.type_str_index mm_sindex le_str (la_cons (lv 7) la_nil)))) la_nil)) sc__law_fact_in.nd)
    (lss_consW [4, 6] (ls_expr (le_bm PySem.F.plainAttrs_list PySem.F.slot_list_append PySem.F.type_list_append mm_append (lv 3) (la_cons (le_if (lt_cmp (oo_eq room.units) (lv 4) le_str (by rfl)) (lv 6) (le_ix ox_seq (lv 6) le_int)) la_nil)))
    lss_nil)))
    lss_nil))
    lss_nil))
    (lss_cons (ls_ret (le_if (lt_cmp (oo_inD (units65 room)) le_non (lv 3) (by rfl)) le_non (le_callTy cc_tuple rfl T.n_tuple (by rfl) (la_cons (lv 3) la_nil))))
    lss_nil))))))), fun ds S R X n h hW => ?_⟩, T.m__law_fact_in, T.F__law_fact_in.kp, T.b__law_fact_in⟩
  obtain ⟨Q, E, h, rfl, rfl, rfl, rfl⟩ := h
  subst hW
  obtain ⟨ws, rfl, hne, hwl, hw, h1, h2⟩ := h
  obtain ⟨w0, wr, rfl⟩ : ∃ w0 wr, ws = w0 :: wr := by cases ws with | nil => exact absurd rfl hne | cons x y => exact ⟨x, y, rfl⟩
  rw [List.length_cons] at hwl
  have z24 : (100009 : Nat) ≤ sizeLine := by decide
  have z25 : (6 : Nat) ≤ 100000 := by decide
  conv => whnf
  repeat (refine Need.mk ?_ ?_; exact nd; conv => whnf)
  refine optI atI0 ?_
  dsimp only [qC]
  refine optI (x := (Sum.inr w0 : Key)) rfl ?_
  refine optI (x := lawForms) (by rfl) ?_
  rw [law_form]
  cases hk : formK w0 with
  | none =>
    have e : (lawKs w0).getD [] = [] := by unfold lawKs; rw [hk]; rfl
    rw [e, show (⟨([] : List Nat).toArray⟩ : Str) = "" by decide +kernel]
    conv => whnf
    repeat (refine Need.mk ?_ ?_; exact nd; conv => whnf)
    exact Rp (h2 fun z => by obtain ⟨l, e, _⟩ := isFc_at z; rw [hk] at e; cases e)
  | some l =>
    have hl4 := formK_len hk
    have hkk := formK_kinds hk
    have e : (lawKs w0).getD [] = l.map kindC := by unfold lawKs; rw [hk]; rfl
    rw [e]
    have hne2 : (⟨(l.map kindC).toArray⟩ : Str) ≠ "" := fun z => by
      have z2 := congrArg Str.length z
      have e3 : ("" : Str).length = 0 := by decide +kernel
      have e4 : (⟨(l.map kindC).toArray⟩ : Str).length = l.length := by show (l.map kindC).toArray.size = _; simp
      omega
    have hlen2 : (⟨(l.map kindC).toArray⟩ : Str).length = l.length := by show (l.map kindC).toArray.size = _; simp
    have hsig : LC.signs (⟨(l.map kindC).toArray⟩ : Str) = l.map fun k => D.str ⟨#[kindC k]⟩ := by
      unfold LC.signs
      show (l.map kindC).map _ = _
      rw [List.map_map]
      rfl
    generalize (⟨(l.map kindC).toArray⟩ : Str) = t at hne2 hlen2 hsig
    conv => whnf
    repeat (refine Need.mk ?_ ?_; exact nd; conv => whnf)
    refine brF (p := t = "") hne2 ?_
    conv => whnf
    repeat (refine Need.mk ?_ ?_; exact nd; conv => whnf)
    refine Need.mk (by omega) ?_
    conv => whnf
    repeat (refine Need.mk ?_ ?_; exact nd; conv => whnf)
    refine bnd (p := (((w0 :: wr).map D.str).length : Int) = (t.length : Int) + 1) (fun g1 => ?_) (fun g1 => ?_)
    · have hll : l.length = wr.length := by simp at g1; omega
      conv => whnf
      repeat (refine Need.mk ?_ ?_; exact nd; conv => whnf)
      refine optI atI0 ?_
      conv => whnf
      repeat (refine Need.mk ?_ ?_; exact nd; conv => whnf)
      rw [show LC.cutD (List.map D.str (w0 :: wr)) (some 1) none = wr.map D.str by rw [List.map_cons]; exact cutD_from1]
      refine Need.mk (by simp; omega) ?_
      conv => whnf
      repeat (refine Need.mk ?_ ?_; exact nd; conv => whnf)
      rw [hsig]
      have hzl : (zipD (l.map fun k => D.str ⟨#[kindC k]⟩) (wr.map D.str)).length = l.length := by rw [zipD_len (by simp [hll]), List.length_map]
      refine ⟨fun i s' S' => ∃ (us : List (Option Th)) (o1 o2 : O) (t4 t5 t6 t7 : Option D), us.length = i ∧ ThAt l wr us ∧ S' = [o1, o2, .lst (.str w0 :: us.map thO)] ∧ s' = [some (.lst ((w0 :: wr).map D.str)), none, some (.str t), some (.ref 2), t4, t5, t6, t7], ⟨[], _, _, _, _, _, _, rfl, fun j u hu => (by cases hu), rfl, rfl⟩, fun _ _ _ _ _ => rfl, ?_, ?_⟩
      · rintro i x s' S' hi ⟨us, o1, o2, t4, t5, t6, t7, hul, hth, rfl, rfl⟩
        obtain ⟨d1, d2, e1, e2, rfl⟩ := zipD_get hi
        obtain ⟨k, hkl, rfl⟩ := map_at e1
        obtain ⟨w, hwr, rfl⟩ := map_at e2
        have hwl1 : w.length ≤ 100000 := hw w (List.mem_cons_of_mem _ (List.mem_of_getElem? hwr))
        have hil : i < l.length := (List.getElem?_eq_some_iff.mp hkl).1
        have hlen : ((.str w0 :: us.map thO) : List D).length < sizeLine := by
          rw [List.length_cons, List.length_map]
          exact ltN (by omega)
        subst hul
        rcases hkk k (List.mem_of_getElem? hkl) with rfl | rfl | rfl
        · rw [show (⟨#[kindC "number"]⟩ : Str) = "n" by decide +kernel]
          conv => whnf
          repeat (refine Need.mk ?_ ?_; exact nd; conv => whnf)
          refine ⟨_, rfl, ?_⟩
          conv => whnf
          repeat (refine Need.mk ?_ ?_; exact nd; conv => whnf)
          refine ⟨w, rfl, hwl1, fun n hn hw1 => ?_, fun z => ?_⟩
          · conv => whnf
            repeat (refine Need.mk ?_ ?_; exact nd; conv => whnf)
            exact .inl ⟨us ++ [some (.num n)], o1, o2, _, _, _, _, by simp, hth.snoc (u := some (.num n)) hkl hwr ⟨rfl, hn, hw1.symm⟩, by rw [List.map_append]; rfl, rfl⟩
          · conv => whnf
            repeat (refine Need.mk ?_ ?_; exact nd; conv => whnf)
            exact .inl ⟨us ++ [none], o1, o2, _, _, _, _, by simp, hth.snoc (u := none) hkl hwr (fun y => z (isTh_num.mp y)), by rw [List.map_append]; rfl, rfl⟩
        · rw [show (⟨#[kindC "signs"]⟩ : Str) = "s" by decide +kernel]
          conv => whnf
          repeat (refine Need.mk ?_ ?_; exact nd; conv => whnf)
          refine ⟨_, rfl, ?_⟩
          conv => whnf
          repeat (refine Need.mk ?_ ?_; exact nd; conv => whnf)
          refine brd (p := w = "") (fun g2 => ?_) (fun g2 => ?_)
          · conv => whnf
            repeat (refine Need.mk ?_ ?_; exact nd; conv => whnf)
            exact Rp (h2 (no_th hk hkl hwr fun y => by rw [isTh_sgs] at y; exact (isSgs_iff.mp y).2 g2))
          · conv => whnf
            repeat (refine Need.mk ?_ ?_; exact nd; conv => whnf)
            refine lc_map (fun d => match d with | .str ⟨⟨[c]⟩⟩ => .bl (decide (c ∈ ("?abcdef" : Str).cps.toList)) | _ => .non) (by rw [signs_len]; omega) (fun _ => trivial) ?_ ?_
            · intro i d acc hi
              obtain ⟨c, hc, rfl⟩ := str_at hi
              refine ⟨_, rfl, trivial, fun R r => ?_⟩
              conv => whnf
              repeat (refine Need.mk ?_ ?_; exact nd; conv => whnf)
              exact r
            conv => whnf
            repeat (refine Need.mk ?_ ?_; exact nd; conv => whnf)
            unfold LC.signs
            rw [List.map_map]
            refine optI (asBs_map (fun c => decide (c ∈ ("?abcdef" : Str).cps.toList)) w.cps.toList) ?_
            conv => whnf
            repeat (refine Need.mk ?_ ?_; exact nd; conv => whnf)
            rw [good_allS]
            by_cases hg : goodS w
            · rw [decide_eq_true hg]
              conv => whnf
              repeat (refine Need.mk ?_ ?_; exact nd; conv => whnf)
              refine lc_map (fun d => match d with | .str ⟨⟨[c]⟩⟩ => .int (ixS c) | _ => .non) (by rw [signs_len]; omega) (fun _ => trivial) ?_ ?_
              · intro i d acc hi
                obtain ⟨c, hc, rfl⟩ := str_at hi
                obtain ⟨r', hr'⟩ := occ_SG (hg c (List.mem_of_getElem? hc))
                refine ⟨_, rfl, trivial, fun R r => ?_⟩
                conv => whnf
                repeat (refine Need.mk ?_ ?_; exact nd; conv => whnf)
                rw [hr']
                exact r
              conv => whnf
              repeat (refine Need.mk ?_ ?_; exact nd; conv => whnf)
              unfold LC.signs
              rw [List.map_map]
              rw [show (w.cps.toList.map ((fun d => match d with | .str ⟨⟨[c]⟩⟩ => .int (ixS c) | _ => .non) ∘ fun c => D.str ⟨#[c]⟩)) = (ixs w).map D.int by unfold ixs; rw [List.map_map]; rfl]
              exact .inl ⟨us ++ [some (.sgs (ixs w))], o1, o2, _, _, _, _, by simp, hth.snoc (u := some (.sgs (ixs w))) hkl hwr ⟨rfl, ⟨ixs_good hg, by rw [ixs_len]; exact len_pos g2⟩, strOf_ixs hg⟩, by rw [List.map_append]; rfl, rfl⟩
            · rw [decide_eq_false hg]
              conv => whnf
              repeat (refine Need.mk ?_ ?_; exact nd; conv => whnf)
              exact Rp (h2 (no_th hk hkl hwr fun y => by rw [isTh_sgs] at y; exact hg (isSgs_iff.mp y).1))
        · rw [show (⟨#[kindC "sign"]⟩ : Str) = "1" by decide +kernel]
          conv => whnf
          repeat (refine Need.mk ?_ ?_; exact nd; conv => whnf)
          refine ⟨_, rfl, ?_⟩
          conv => whnf
          repeat (refine Need.mk ?_ ?_; exact nd; conv => whnf)
          refine brd (p := w = "") (fun g2 => ?_) (fun g2 => ?_)
          · conv => whnf
            repeat (refine Need.mk ?_ ?_; exact nd; conv => whnf)
            exact Rp (h2 (no_th hk hkl hwr fun y => by rw [isTh_sg] at y; exact (isSgs_iff.mp (isSg_iff.mp y).1).2 g2))
          · conv => whnf
            repeat (refine Need.mk ?_ ?_; exact nd; conv => whnf)
            refine lc_map (fun d => match d with | .str ⟨⟨[c]⟩⟩ => .bl (decide (c ∈ ("?abcdef" : Str).cps.toList)) | _ => .non) (by rw [signs_len]; omega) (fun _ => trivial) ?_ ?_
            · intro i d acc hi
              obtain ⟨c, hc, rfl⟩ := str_at hi
              refine ⟨_, rfl, trivial, fun R r => ?_⟩
              conv => whnf
              repeat (refine Need.mk ?_ ?_; exact nd; conv => whnf)
              exact r
            conv => whnf
            repeat (refine Need.mk ?_ ?_; exact nd; conv => whnf)
            unfold LC.signs
            rw [List.map_map]
            refine optI (asBs_map (fun c => decide (c ∈ ("?abcdef" : Str).cps.toList)) w.cps.toList) ?_
            conv => whnf
            repeat (refine Need.mk ?_ ?_; exact nd; conv => whnf)
            rw [good_allS]
            by_cases hg : goodS w
            · rw [decide_eq_true hg]
              conv => whnf
              repeat (refine Need.mk ?_ ?_; exact nd; conv => whnf)
              refine Need.mk (by omega) ?_
              conv => whnf
              repeat (refine Need.mk ?_ ?_; exact nd; conv => whnf)
              refine brd (p := (1 : Int) < w.length) (fun g3 => ?_) (fun g3 => ?_)
              · conv => whnf
                repeat (refine Need.mk ?_ ?_; exact nd; conv => whnf)
                exact Rp (h2 (no_th hk hkl hwr fun y => by rw [isTh_sg] at y; have := (isSg_iff.mp y).2; omega))
              have hw1 := len_pos g2
              obtain ⟨n, n0, n6, hwn⟩ := isSg_iff.mpr ⟨isSgs_iff.mpr ⟨hg, g2⟩, by omega⟩
              have hix : ixs w = [n] := by rw [hwn]; exact ixs_strOf fun z hz => by rw [List.mem_singleton.mp hz]; exact ⟨n0, n6⟩
              conv => whnf
              repeat (refine Need.mk ?_ ?_; exact nd; conv => whnf)
              refine lc_map (fun d => match d with | .str ⟨⟨[c]⟩⟩ => .int (ixS c) | _ => .non) (by rw [signs_len]; omega) (fun _ => trivial) ?_ ?_
              · intro i d acc hi
                obtain ⟨c, hc, rfl⟩ := str_at hi
                obtain ⟨r', hr'⟩ := occ_SG (hg c (List.mem_of_getElem? hc))
                refine ⟨_, rfl, trivial, fun R r => ?_⟩
                conv => whnf
                repeat (refine Need.mk ?_ ?_; exact nd; conv => whnf)
                rw [hr']
                exact r
              conv => whnf
              repeat (refine Need.mk ?_ ?_; exact nd; conv => whnf)
              unfold LC.signs
              rw [List.map_map]
              rw [show (w.cps.toList.map ((fun d => match d with | .str ⟨⟨[c]⟩⟩ => .int (ixS c) | _ => .non) ∘ fun c => D.str ⟨#[c]⟩)) = (ixs w).map D.int by unfold ixs; rw [List.map_map]; rfl]
              rw [hix]
              conv => whnf
              repeat (refine Need.mk ?_ ?_; exact nd; conv => whnf)
              exact .inl ⟨us ++ [some (.sg n)], o1, o2, _, _, _, _, by simp, hth.snoc (u := some (.sg n)) hkl hwr ⟨rfl, ⟨n0, n6⟩, hwn.symm⟩, by rw [List.map_append]; rfl, rfl⟩
            · rw [decide_eq_false hg]
              conv => whnf
              repeat (refine Need.mk ?_ ?_; exact nd; conv => whnf)
              exact Rp (h2 (no_th hk hkl hwr fun y => by rw [isTh_sg] at y; exact hg (isSgs_iff.mp (isSg_iff.mp y).1).1))
      · rintro s' S' ⟨us, o1, o2, t4, t5, t6, t7, hul, hth, rfl, rfl⟩
        rw [hzl] at hul
        conv => whnf
        repeat (refine Need.mk ?_ ?_; exact nd; conv => whnf)
        refine Need.mk ⟨trivial, formK_ok hk, thOs_pl us⟩ ?_
        conv => whnf
        repeat (refine Need.mk ?_ ?_; exact nd; conv => whnf)
        rw [any_thO]
        cases hn : us.any Option.isNone with
        | true =>
          conv => whnf
          repeat (refine Need.mk ?_ ?_; exact nd; conv => whnf)
          exact Rp (h2 (hth.bad hn hk))
        | false =>
          obtain ⟨ts, rfl⟩ := all_some hn
          obtain ⟨f, hf, hfw, hfd⟩ := hth.read (by simpa using hul) hll hk
          have q := h1 f hf hfw
          rw [hfd] at q
          rw [List.map_map, show thO ∘ some = Th.d from rfl]
          conv => whnf
          repeat (refine Need.mk ?_ ?_; exact nd; conv => whnf)
          exact Rp q (by rw [← hfd]; exact Fc.lt)
    · conv => whnf
      repeat (refine Need.mk ?_ ?_; exact nd; conv => whnf)
      refine Rp (h2 fun z => g1 ?_)
      obtain ⟨l', e1, e2, _⟩ := isFc_at z
      rw [hk] at e1
      cases e1
      simp
      omega
def sp__law_deed_in (a : Ad) : SpP := fun ds Q _ => ∃ x : Str, ds = [.str x] ∧ x.length ≤ 100000 ∧ (∀ d : Dd, d.fine → Txt.split x " " = d.words → Q d.d) ∧ (¬ isDd (Txt.split x " ") → Q .non)
theorem ok__law_deed_in (T : Txt K w mg a) (G__law_number_in : Fx P w K mg base 1 a.a__law_number_in a.d__law_number_in "_law_number_in" ["_law_word"] (lp (sp__law_number_in a))) (G__law_fact_in : Fx P w K mg base 2 a.a__law_fact_in a.d__law_fact_in "_law_fact_in" ["_law_words"] (lp (sp__law_fact_in a))) : Fx P w K mg base 3 a.a__law_deed_in a.d__law_deed_in "_law_deed_in" ["_law_line"] (lp (sp__law_deed_in a)) := by
  refine ⟨fn_P T.F__law_deed_in sc__law_deed_in (by (intro ds Q E h; first | (obtain ⟨h, hr⟩ := h; subst h; (try (obtain ⟨_, hr⟩ := hr)); (try (obtain ⟨_, hr⟩ := hr)); (try (obtain ⟨_, hr⟩ := hr)); (try (obtain ⟨_, hr⟩ := hr)); (all_goals exact ⟨rfl, by (repeat' (first | trivial | exact webD_lt | exact mvsD_lt _ | exact ctsD_lt _ | exact dcD_lts rdD_lt | exact dcD_lts seenV_lt | exact dcD_lts ctsD_lt | exact prs_lt' _ | exact prps_lt _ | exact pr_lt _ | exact Nd.lt _ | exact dcD_lts ndsD_lt | exact dcD_lts pr_lt | exact lmD_lt | exact Ev.lt | exact evs_lt _ | exact itDs_lt _ | exact prs_lt _ | exact Wld.lt | exact rows_lt | exact deeds_lt | exact pasts_lt | exact D.lts_ints _ | exact D.lts_strs _ | exact Fc.lt | exact Dd.lt | exact fcs_lt _ | exact nfs_lt _ | exact nf_lt | exact D.pl.lt (by assumption) | exact D.dp.lt (by assumption) | exact D.dps.lt (by assumption) | exact D.pls.lt (by assumption) | assumption | refine ⟨?_, ?_⟩))⟩)) | (obtain ⟨_, h, hr⟩ := h; subst h; (try (obtain ⟨_, hr⟩ := hr)); (try (obtain ⟨_, hr⟩ := hr)); (try (obtain ⟨_, hr⟩ := hr)); (try (obtain ⟨_, hr⟩ := hr)); (all_goals exact ⟨rfl, by (repeat' (first | trivial | exact webD_lt | exact mvsD_lt _ | exact ctsD_lt _ | exact dcD_lts rdD_lt | exact dcD_lts seenV_lt | exact dcD_lts ctsD_lt | exact prs_lt' _ | exact prps_lt _ | exact pr_lt _ | exact Nd.lt _ | exact dcD_lts ndsD_lt | exact dcD_lts pr_lt | exact lmD_lt | exact Ev.lt | exact evs_lt _ | exact itDs_lt _ | exact prs_lt _ | exact Wld.lt | exact rows_lt | exact deeds_lt | exact pasts_lt | exact D.lts_ints _ | exact D.lts_strs _ | exact Fc.lt | exact Dd.lt | exact fcs_lt _ | exact nfs_lt _ | exact nf_lt | exact D.pl.lt (by assumption) | exact D.dp.lt (by assumption) | exact D.dps.lt (by assumption) | exact D.pls.lt (by assumption) | assumption | refine ⟨?_, ?_⟩))⟩)) | (obtain ⟨_, _, h, hr⟩ := h; subst h; (try (obtain ⟨_, hr⟩ := hr)); (try (obtain ⟨_, hr⟩ := hr)); (try (obtain ⟨_, hr⟩ := hr)); (try (obtain ⟨_, hr⟩ := hr)); (all_goals exact ⟨rfl, by (repeat' (first | trivial | exact webD_lt | exact mvsD_lt _ | exact ctsD_lt _ | exact dcD_lts rdD_lt | exact dcD_lts seenV_lt | exact dcD_lts ctsD_lt | exact prs_lt' _ | exact prps_lt _ | exact pr_lt _ | exact Nd.lt _ | exact dcD_lts ndsD_lt | exact dcD_lts pr_lt | exact lmD_lt | exact Ev.lt | exact evs_lt _ | exact itDs_lt _ | exact prs_lt _ | exact Wld.lt | exact rows_lt | exact deeds_lt | exact pasts_lt | exact D.lts_ints _ | exact D.lts_strs _ | exact Fc.lt | exact Dd.lt | exact fcs_lt _ | exact nfs_lt _ | exact nf_lt | exact D.pl.lt (by assumption) | exact D.dp.lt (by assumption) | exact D.dps.lt (by assumption) | exact D.pls.lt (by assumption) | assumption | refine ⟨?_, ?_⟩))⟩)) | (obtain ⟨_, _, _, h, hr⟩ := h; subst h; (try (obtain ⟨_, hr⟩ := hr)); (try (obtain ⟨_, hr⟩ := hr)); (try (obtain ⟨_, hr⟩ := hr)); (try (obtain ⟨_, hr⟩ := hr)); (all_goals exact ⟨rfl, by (repeat' (first | trivial | exact webD_lt | exact mvsD_lt _ | exact ctsD_lt _ | exact dcD_lts rdD_lt | exact dcD_lts seenV_lt | exact dcD_lts ctsD_lt | exact prs_lt' _ | exact prps_lt _ | exact pr_lt _ | exact Nd.lt _ | exact dcD_lts ndsD_lt | exact dcD_lts pr_lt | exact lmD_lt | exact Ev.lt | exact evs_lt _ | exact itDs_lt _ | exact prs_lt _ | exact Wld.lt | exact rows_lt | exact deeds_lt | exact pasts_lt | exact D.lts_ints _ | exact D.lts_strs _ | exact Fc.lt | exact Dd.lt | exact fcs_lt _ | exact nfs_lt _ | exact nf_lt | exact D.pl.lt (by assumption) | exact D.dp.lt (by assumption) | exact D.dps.lt (by assumption) | exact D.pls.lt (by assumption) | assumption | refine ⟨?_, ?_⟩))⟩)) | (obtain ⟨_, _, _, _, h, hr⟩ := h; subst h; (try (obtain ⟨_, hr⟩ := hr)); (try (obtain ⟨_, hr⟩ := hr)); (try (obtain ⟨_, hr⟩ := hr)); (try (obtain ⟨_, hr⟩ := hr)); (all_goals exact ⟨rfl, by (repeat' (first | trivial | exact webD_lt | exact mvsD_lt _ | exact ctsD_lt _ | exact dcD_lts rdD_lt | exact dcD_lts seenV_lt | exact dcD_lts ctsD_lt | exact prs_lt' _ | exact prps_lt _ | exact pr_lt _ | exact Nd.lt _ | exact dcD_lts ndsD_lt | exact dcD_lts pr_lt | exact lmD_lt | exact Ev.lt | exact evs_lt _ | exact itDs_lt _ | exact prs_lt _ | exact Wld.lt | exact rows_lt | exact deeds_lt | exact pasts_lt | exact D.lts_ints _ | exact D.lts_strs _ | exact Fc.lt | exact Dd.lt | exact fcs_lt _ | exact nfs_lt _ | exact nf_lt | exact D.pl.lt (by assumption) | exact D.dp.lt (by assumption) | exact D.dps.lt (by assumption) | exact D.pls.lt (by assumption) | assumption | refine ⟨?_, ?_⟩))⟩)) | (obtain ⟨_, _, _, _, _, h, hr⟩ := h; subst h; (try (obtain ⟨_, hr⟩ := hr)); (try (obtain ⟨_, hr⟩ := hr)); (try (obtain ⟨_, hr⟩ := hr)); (try (obtain ⟨_, hr⟩ := hr)); (all_goals exact ⟨rfl, by (repeat' (first | trivial | exact webD_lt | exact mvsD_lt _ | exact ctsD_lt _ | exact dcD_lts rdD_lt | exact dcD_lts seenV_lt | exact dcD_lts ctsD_lt | exact prs_lt' _ | exact prps_lt _ | exact pr_lt _ | exact Nd.lt _ | exact dcD_lts ndsD_lt | exact dcD_lts pr_lt | exact lmD_lt | exact Ev.lt | exact evs_lt _ | exact itDs_lt _ | exact prs_lt _ | exact Wld.lt | exact rows_lt | exact deeds_lt | exact pasts_lt | exact D.lts_ints _ | exact D.lts_strs _ | exact Fc.lt | exact Dd.lt | exact fcs_lt _ | exact nfs_lt _ | exact nf_lt | exact D.pl.lt (by assumption) | exact D.dp.lt (by assumption) | exact D.dps.lt (by assumption) | exact D.pls.lt (by assumption) | assumption | refine ⟨?_, ?_⟩))⟩)) | (obtain ⟨h, _⟩ := h; exact (by simp at h)))) fun cdv A outer s H E φ T0 W' room wl => ⟨_, (lss_consW [0] (ls_set 1 (le_bm PySem.F.plainAttrs_str PySem.F.slot_str_split PySem.F.type_str_split mm_split (lv 0) (la_cons le_str la_nil)) sc__law_deed_in.nd)
    (lss_consW [2] (ls_if (lt_cmp oo_in (le_ix ox_seq (lv 1) le_int) (le_lst (la_cons le_str (la_cons le_str la_nil))) (by rfl)) (lss_cons (ls_set 2 (le_if (lt_cmp (oo_eq room.units) (le_callB cc_len rfl T.n_len (by rfl) (la_cons (lv 1) la_nil)) le_int (by rfl)) (le_fx G__law_number_in (room.mono (by decide)) (takes_of rfl rfl rfl rfl) wl (la_cons (le_ix ox_seq (lv 1) le_int) la_nil)) le_non) sc__law_deed_in.nd)
    (lss_cons (ls_ret (le_if (lt_cmp oo_is (lv 2) le_non (by rfl)) le_non (le_tup (la_cons (le_ix ox_seq (lv 1) le_int) (la_cons (lv 2) la_nil)))))
    lss_nil)) lss_nil)
    (lss_consW [2, 3] (ls_if (lt_cmp (oo_eq room.units) (le_ix ox_seq (lv 1) le_int) le_str (by rfl)) (lss_cons (ls_set 2 (le_if (lt_cmp oo_gt (le_callB cc_len rfl T.n_len (by rfl) (la_cons (lv 1) la_nil)) le_int (by rfl)) (le_fx G__law_number_in (room.mono (by decide)) (takes_of rfl rfl rfl rfl) wl (la_cons (le_ix ox_seq (lv 1) le_int) la_nil)) le_non) sc__law_deed_in.nd)
    (lss_consW [1] (ls_set 3 (le_if (lt_cmp oo_gt (le_callB cc_len rfl T.n_len (by rfl) (la_cons (lv 1) la_nil)) le_int (by rfl)) (le_fx G__law_fact_in (room.mono (by decide)) (takes_of rfl rfl rfl rfl) wl (la_cons (le_slice (lv 1) (lp_some le_int) lp_none) la_nil)) le_non) sc__law_deed_in.nd)
    (lss_cons (ls_ret (le_if (LW.t (lw_or (lt_cmp oo_is (lv 2) le_non (by rfl)) (lw_or1 (lt_cmp oo_is (lv 3) le_non (by rfl))))) le_non (le_tup (la_cons le_str (la_cons (lv 2) (la_cons (lv 3) la_nil))))))
    lss_nil))) lss_nil)
    (lss_consW [1] (ls_set 3 (le_fx G__law_fact_in (room.mono (by decide)) (takes_of rfl rfl rfl rfl) wl (la_cons (lv 1) la_nil)) sc__law_deed_in.nd)
    (lss_cons (ls_ret (le_if (lt_cmp oo_is (lv 3) le_non (by rfl)) le_non (le_tup (la_cons le_str (la_cons (lv 3) la_nil)))))
    lss_nil))))), fun ds S R X n h hW => ?_⟩, T.m__law_deed_in, T.F__law_deed_in.kp, T.b__law_deed_in⟩
  obtain ⟨Q, E, h, rfl, rfl, rfl, rfl⟩ := h
  subst hW
  obtain ⟨x, rfl, hx, h1, h2⟩ := h
  have z24 : (100002 : Nat) ≤ sizeLine := by decide
  have hb := split_bd x blank_tl blank_kind
  have hn := split_ne x blank_tl blank_kind
  conv => whnf
  repeat (refine Need.mk ?_ ?_; exact nd; conv => whnf)
  generalize Txt.split x " " = ws at h1 h2 hb hn
  obtain ⟨w0, wr, rfl⟩ : ∃ w0 wr, ws = w0 :: wr := by cases ws with | nil => exact absurd rfl hn | cons x y => exact ⟨x, y, rfl⟩
  conv => whnf
  repeat (refine Need.mk ?_ ?_; exact nd; conv => whnf)
  refine optI atI0 ?_
  conv => whnf
  repeat (refine Need.mk ?_ ?_; exact nd; conv => whnf)
  rw [List.length_cons] at hb
  have hw0 := hb.1
  have hwl : wr.length ≤ 100000 := by omega
  have hwr : ∀ w ∈ wr, w.length ≤ 100000 := fun w hw => Nat.le_trans (hb.1 w (List.mem_cons_of_mem _ hw)) hx
  by_cases g1 : w0 = "strike" ∨ w0 = "keep"
  · refine lifT (by rcases g1 with rfl | rfl <;> decide +kernel) ?_
    conv => whnf
    repeat (refine Need.mk ?_ ?_; exact nd; conv => whnf)
    have two : ∀ n, num4 n → wr = [numW n] → Q (.tup [.str w0, .int n]) := fun n hnu e => by
      rcases g1 with rfl | rfl
      · exact h1 (.strike n) hnu (by rw [e]; rfl)
      · exact h1 (.keep n) hnu (by rw [e]; rfl)
    refine brd (p := (((w0 :: wr).map D.str).length : Int) = 2) (fun g2 => ?_) (fun g2 => ?_)
    · match wr, g2 with
      | [v], _ =>
        have hv := hwr v (by simp)
        conv => whnf
        repeat (refine Need.mk ?_ ?_; exact nd; conv => whnf)
        refine ⟨v, rfl, hv, fun n hn e => ?_, fun z => ?_⟩
        · conv => whnf
          repeat (refine Need.mk ?_ ?_; exact nd; conv => whnf)
          exact Rp (two n hn (by rw [e]))
        · conv => whnf
          repeat (refine Need.mk ?_ ?_; exact nd; conv => whnf)
          refine Rp (h2 fun y => z ?_)
          obtain ⟨u, e, hu⟩ := isDd_sk g1 y
          cases e
          exact hu
      | [], g2 => exact absurd g2 (by simp)
      | _ :: _ :: _, g2 => exact absurd g2 (by simp; omega)
    · conv => whnf
      repeat (refine Need.mk ?_ ?_; exact nd; conv => whnf)
      refine Rp (h2 fun y => g2 ?_)
      obtain ⟨u, e, hu⟩ := isDd_sk g1 y
      rw [e]
      rfl
  · refine lifF (feq_two g1) ?_
    conv => whnf
    repeat (refine Need.mk ?_ ?_; exact nd; conv => whnf)
    refine optI atI0 ?_
    conv => whnf
    repeat (refine Need.mk ?_ ?_; exact nd; conv => whnf)
    refine brd (p := w0 = "amend") (fun g2 => ?_) (fun g2 => ?_)
    · conv => whnf
      repeat (refine Need.mk ?_ ?_; exact nd; conv => whnf)
      subst g2
      refine brd (p := (2 : Int) < (((("amend" : Str)) :: wr).map D.str).length) (fun g3 => ?_) (fun g3 => ?_)
      · match wr, g3 with
        | v :: u :: r, g3 =>
          have hv := hwr v (by simp)
          conv => whnf
          repeat (refine Need.mk ?_ ?_; exact nd; conv => whnf)
          refine optI (atI_get (by decide) rfl) ?_
          conv => whnf
          repeat (refine Need.mk ?_ ?_; exact nd; conv => whnf)
          have good : ∀ d1 : D, (∀ n, num4 n → v = numW n → d1 = .int n) → (¬ isNum v → d1 = .non) → True := fun _ _ _ => trivial
          refine ⟨v, rfl, hv, fun n hn e => ?_, fun z => ?_⟩
          · conv => whnf
            repeat (refine Need.mk ?_ ?_; exact nd; conv => whnf)
            refine brT (p := (2 : Int) < ((("amend" : Str) :: v :: u :: r).map D.str).length) g3 ?_
            conv => whnf
            repeat (refine Need.mk ?_ ?_; exact nd; conv => whnf)
            rw [show LC.cutD (List.map D.str (("amend" : Str) :: v :: u :: r)) (some 2) none = (u :: r).map D.str from cutD_from2]
            refine ⟨u :: r, rfl, by simp, by rw [List.length_cons] at hwl; omega, fun w hw => hwr w (List.mem_cons_of_mem _ hw), fun f hf e2 => ?_, fun z => ?_⟩
            · have q := h1 (.amend n f) ⟨hn, hf⟩ (by rw [e, e2]; rfl)
              rw [show (Dd.amend n f).d = .tup [.str "amend", .int n, f.d] from rfl] at q
              have hfl := Fc.lt (n := 0) (f := f)
              rw [Fc.d_th] at q hfl ⊢
              conv => whnf
              repeat (refine Need.mk ?_ ?_; exact nd; conv => whnf)
              exact Rp q ⟨trivial, trivial, hfl, trivial⟩
            · conv => whnf
              repeat (refine Need.mk ?_ ?_; exact nd; conv => whnf)
              refine Rp (h2 fun y => z ?_)
              obtain ⟨v', r', e3, _, _, h4⟩ := isDd_am y
              cases e3
              exact h4
          · have hb2 : Q .non := h2 fun y => z (by
              obtain ⟨v', r', e3, _, h3, _⟩ := isDd_am y
              cases e3
              exact h3)
            conv => whnf
            repeat (refine Need.mk ?_ ?_; exact nd; conv => whnf)
            refine brT (p := (2 : Int) < ((("amend" : Str) :: v :: u :: r).map D.str).length) g3 ?_
            conv => whnf
            repeat (refine Need.mk ?_ ?_; exact nd; conv => whnf)
            rw [show LC.cutD (List.map D.str (("amend" : Str) :: v :: u :: r)) (some 2) none = (u :: r).map D.str from cutD_from2]
            refine ⟨u :: r, rfl, by simp, by rw [List.length_cons] at hwl; omega, fun w hw => hwr w (List.mem_cons_of_mem _ hw), fun f hf e2 => ?_, fun z => ?_⟩
            · conv => whnf
              repeat (refine Need.mk ?_ ?_; exact nd; conv => whnf)
              exact Rp hb2
            · conv => whnf
              repeat (refine Need.mk ?_ ?_; exact nd; conv => whnf)
              exact Rp hb2
        | [], g3 => exact absurd g3 (by simp)
        | [_], g3 => exact absurd g3 (by simp)
      · have hb2 : Q .non := h2 fun y => by
          obtain ⟨v', r', e3, hr, _, _⟩ := isDd_am y
          rw [e3] at g3
          cases r' with
          | nil => exact hr rfl
          | cons a b => exact g3 (by simp; omega)
        conv => whnf
        repeat (refine Need.mk ?_ ?_; exact nd; conv => whnf)
        refine brF (p := (2 : Int) < (((("amend" : Str)) :: wr).map D.str).length) g3 ?_
        conv => whnf
        repeat (refine Need.mk ?_ ?_; exact nd; conv => whnf)
        exact Rp hb2
    · conv => whnf
      repeat (refine Need.mk ?_ ?_; exact nd; conv => whnf)
      refine ⟨_, rfl, by simp, by rw [List.length_cons]; omega, fun w hw => Nat.le_trans (hw0 w hw) hx, fun f hf e => ?_, fun z => ?_⟩
      · have q := h1 (.tell f) hf e
        rw [show (Dd.tell f).d = .tup [.str "tell", f.d] from rfl] at q
        have hfl := Fc.lt (n := 0) (f := f)
        rw [Fc.d_th] at q hfl ⊢
        conv => whnf
        repeat (refine Need.mk ?_ ?_; exact nd; conv => whnf)
        exact Rp q ⟨trivial, hfl, trivial⟩
      · conv => whnf
        repeat (refine Need.mk ?_ ?_; exact nd; conv => whnf)
        exact Rp (h2 fun y => z (isDd_tell g1 g2 y))
def sp__law_spoilt (a : Ad) : SpP := fun ds Q _ => ∃ x : Str, ds = [.str x] ∧ x.length ≤ 10000 ∧ ∀ y : Str, y.length ≤ 2 * x.length + 100 → Q (.str y)
theorem ok__law_spoilt (T : Txt K w mg a) (G__law_pull : Fx P w K mg base 1 a.a__law_pull a.d__law_pull "_law_pull" ["_law_draw", "_law_many"] (ld (sp__law_pull a))) : Fx P w K mg base 2 a.a__law_spoilt a.d__law_spoilt "_law_spoilt" ["_law_draw", "_law_text"] (ld (sp__law_spoilt a)) := by
  refine ⟨fn_W T.F__law_spoilt sc__law_spoilt (by (intro ds Q E h; first | (obtain ⟨h, hr⟩ := h; subst h; (try (obtain ⟨_, hr⟩ := hr)); (try (obtain ⟨_, hr⟩ := hr)); (try (obtain ⟨_, hr⟩ := hr)); (try (obtain ⟨_, hr⟩ := hr)); (all_goals exact ⟨rfl, by (repeat' (first | trivial | exact webD_lt | exact mvsD_lt _ | exact ctsD_lt _ | exact dcD_lts rdD_lt | exact dcD_lts seenV_lt | exact dcD_lts ctsD_lt | exact prs_lt' _ | exact prps_lt _ | exact pr_lt _ | exact Nd.lt _ | exact dcD_lts ndsD_lt | exact dcD_lts pr_lt | exact lmD_lt | exact Ev.lt | exact evs_lt _ | exact itDs_lt _ | exact prs_lt _ | exact Wld.lt | exact rows_lt | exact deeds_lt | exact pasts_lt | exact D.lts_ints _ | exact D.lts_strs _ | exact Fc.lt | exact Dd.lt | exact fcs_lt _ | exact nfs_lt _ | exact nf_lt | exact D.pl.lt (by assumption) | exact D.dp.lt (by assumption) | exact D.dps.lt (by assumption) | exact D.pls.lt (by assumption) | assumption | refine ⟨?_, ?_⟩))⟩)) | (obtain ⟨_, h, hr⟩ := h; subst h; (try (obtain ⟨_, hr⟩ := hr)); (try (obtain ⟨_, hr⟩ := hr)); (try (obtain ⟨_, hr⟩ := hr)); (try (obtain ⟨_, hr⟩ := hr)); (all_goals exact ⟨rfl, by (repeat' (first | trivial | exact webD_lt | exact mvsD_lt _ | exact ctsD_lt _ | exact dcD_lts rdD_lt | exact dcD_lts seenV_lt | exact dcD_lts ctsD_lt | exact prs_lt' _ | exact prps_lt _ | exact pr_lt _ | exact Nd.lt _ | exact dcD_lts ndsD_lt | exact dcD_lts pr_lt | exact lmD_lt | exact Ev.lt | exact evs_lt _ | exact itDs_lt _ | exact prs_lt _ | exact Wld.lt | exact rows_lt | exact deeds_lt | exact pasts_lt | exact D.lts_ints _ | exact D.lts_strs _ | exact Fc.lt | exact Dd.lt | exact fcs_lt _ | exact nfs_lt _ | exact nf_lt | exact D.pl.lt (by assumption) | exact D.dp.lt (by assumption) | exact D.dps.lt (by assumption) | exact D.pls.lt (by assumption) | assumption | refine ⟨?_, ?_⟩))⟩)) | (obtain ⟨_, _, h, hr⟩ := h; subst h; (try (obtain ⟨_, hr⟩ := hr)); (try (obtain ⟨_, hr⟩ := hr)); (try (obtain ⟨_, hr⟩ := hr)); (try (obtain ⟨_, hr⟩ := hr)); (all_goals exact ⟨rfl, by (repeat' (first | trivial | exact webD_lt | exact mvsD_lt _ | exact ctsD_lt _ | exact dcD_lts rdD_lt | exact dcD_lts seenV_lt | exact dcD_lts ctsD_lt | exact prs_lt' _ | exact prps_lt _ | exact pr_lt _ | exact Nd.lt _ | exact dcD_lts ndsD_lt | exact dcD_lts pr_lt | exact lmD_lt | exact Ev.lt | exact evs_lt _ | exact itDs_lt _ | exact prs_lt _ | exact Wld.lt | exact rows_lt | exact deeds_lt | exact pasts_lt | exact D.lts_ints _ | exact D.lts_strs _ | exact Fc.lt | exact Dd.lt | exact fcs_lt _ | exact nfs_lt _ | exact nf_lt | exact D.pl.lt (by assumption) | exact D.dp.lt (by assumption) | exact D.dps.lt (by assumption) | exact D.pls.lt (by assumption) | assumption | refine ⟨?_, ?_⟩))⟩)) | (obtain ⟨_, _, _, h, hr⟩ := h; subst h; (try (obtain ⟨_, hr⟩ := hr)); (try (obtain ⟨_, hr⟩ := hr)); (try (obtain ⟨_, hr⟩ := hr)); (try (obtain ⟨_, hr⟩ := hr)); (all_goals exact ⟨rfl, by (repeat' (first | trivial | exact webD_lt | exact mvsD_lt _ | exact ctsD_lt _ | exact dcD_lts rdD_lt | exact dcD_lts seenV_lt | exact dcD_lts ctsD_lt | exact prs_lt' _ | exact prps_lt _ | exact pr_lt _ | exact Nd.lt _ | exact dcD_lts ndsD_lt | exact dcD_lts pr_lt | exact lmD_lt | exact Ev.lt | exact evs_lt _ | exact itDs_lt _ | exact prs_lt _ | exact Wld.lt | exact rows_lt | exact deeds_lt | exact pasts_lt | exact D.lts_ints _ | exact D.lts_strs _ | exact Fc.lt | exact Dd.lt | exact fcs_lt _ | exact nfs_lt _ | exact nf_lt | exact D.pl.lt (by assumption) | exact D.dp.lt (by assumption) | exact D.dps.lt (by assumption) | exact D.pls.lt (by assumption) | assumption | refine ⟨?_, ?_⟩))⟩)) | (obtain ⟨_, _, _, _, h, hr⟩ := h; subst h; (try (obtain ⟨_, hr⟩ := hr)); (try (obtain ⟨_, hr⟩ := hr)); (try (obtain ⟨_, hr⟩ := hr)); (try (obtain ⟨_, hr⟩ := hr)); (all_goals exact ⟨rfl, by (repeat' (first | trivial | exact webD_lt | exact mvsD_lt _ | exact ctsD_lt _ | exact dcD_lts rdD_lt | exact dcD_lts seenV_lt | exact dcD_lts ctsD_lt | exact prs_lt' _ | exact prps_lt _ | exact pr_lt _ | exact Nd.lt _ | exact dcD_lts ndsD_lt | exact dcD_lts pr_lt | exact lmD_lt | exact Ev.lt | exact evs_lt _ | exact itDs_lt _ | exact prs_lt _ | exact Wld.lt | exact rows_lt | exact deeds_lt | exact pasts_lt | exact D.lts_ints _ | exact D.lts_strs _ | exact Fc.lt | exact Dd.lt | exact fcs_lt _ | exact nfs_lt _ | exact nf_lt | exact D.pl.lt (by assumption) | exact D.dp.lt (by assumption) | exact D.dps.lt (by assumption) | exact D.pls.lt (by assumption) | assumption | refine ⟨?_, ?_⟩))⟩)) | (obtain ⟨_, _, _, _, _, h, hr⟩ := h; subst h; (try (obtain ⟨_, hr⟩ := hr)); (try (obtain ⟨_, hr⟩ := hr)); (try (obtain ⟨_, hr⟩ := hr)); (try (obtain ⟨_, hr⟩ := hr)); (all_goals exact ⟨rfl, by (repeat' (first | trivial | exact webD_lt | exact mvsD_lt _ | exact ctsD_lt _ | exact dcD_lts rdD_lt | exact dcD_lts seenV_lt | exact dcD_lts ctsD_lt | exact prs_lt' _ | exact prps_lt _ | exact pr_lt _ | exact Nd.lt _ | exact dcD_lts ndsD_lt | exact dcD_lts pr_lt | exact lmD_lt | exact Ev.lt | exact evs_lt _ | exact itDs_lt _ | exact prs_lt _ | exact Wld.lt | exact rows_lt | exact deeds_lt | exact pasts_lt | exact D.lts_ints _ | exact D.lts_strs _ | exact Fc.lt | exact Dd.lt | exact fcs_lt _ | exact nfs_lt _ | exact nf_lt | exact D.pl.lt (by assumption) | exact D.dp.lt (by assumption) | exact D.dps.lt (by assumption) | exact D.pls.lt (by assumption) | assumption | refine ⟨?_, ?_⟩))⟩)) | (obtain ⟨h, _⟩ := h; exact (by simp at h)))) fun cdv A outer s H E φ T0 W' room wl => ⟨_, (lss_cons (ls_set 2 (le_fx G__law_pull (room.mono (by decide)) (takes_of rfl rfl rfl rfl) wl (la_cons (lv 0) (la_cons (le_op oo_add (le_callB cc_len rfl T.n_len (by rfl) (la_cons (lv 1) la_nil)) le_int) la_nil))) sc__law_spoilt.nd)
    (lss_cons (ls_set 3 le_str sc__law_spoilt.nd)
    (lss_consW [3] (ls_set 4 (le_ix ox_seq (lv 3) (le_fx G__law_pull (room.mono (by decide)) (takes_of rfl rfl rfl rfl) wl (la_cons (lv 0) (la_cons (le_callB cc_len rfl T.n_len (by rfl) (la_cons (lv 3) la_nil)) la_nil)))) sc__law_spoilt.nd)
    (lss_cons (ls_set 5 (le_bm PySem.F.plainAttrs_str PySem.F.slot_str_split PySem.F.type_str_split mm_splitM (lv 1) (la_cons le_str la_nil)) sc__law_spoilt.nd)
    (lss_cons (ls_set 6 (le_fx G__law_pull (room.mono (by decide)) (takes_of rfl rfl rfl rfl) wl (la_cons (lv 0) (la_cons (le_callB cc_len rfl T.n_len (by rfl) (la_cons (lv 5) la_nil)) la_nil))) sc__law_spoilt.nd)
    (lss_cons (ls_set 7 (le_fx G__law_pull (room.mono (by decide)) (takes_of rfl rfl rfl rfl) wl (la_cons (lv 0) (la_cons le_int la_nil))) sc__law_spoilt.nd)
    (lss_cons (ls_if (lt_cmp (oo_eq room.units) (lv 7) le_int (by rfl)) (lss_cons (ls_ret (le_op oo_add (le_op oo_add (le_slice (lv 1) lp_none (lp_some (lv 2))) (lv 4)) (le_slice (lv 1) (lp_some (lv 2)) lp_none)))
    lss_nil) lss_nil)
    (lss_cons (ls_if (lt_cmp (oo_eq room.units) (lv 7) le_int (by rfl)) (lss_cons (ls_ret (le_op oo_add (le_slice (lv 1) lp_none (lp_some (lv 2))) (le_slice (lv 1) (lp_some (le_op oo_add (lv 2) le_int)) lp_none)))
    lss_nil) lss_nil)
    (lss_consW [1, 2, 4] (ls_if (lt_cmp (oo_eq room.units) (lv 7) le_int (by rfl)) (lss_cons (ls_ret (le_op oo_add (le_op oo_add (le_slice (lv 1) lp_none (lp_some (lv 2))) (lv 4)) (le_slice (lv 1) (lp_some (le_op oo_add (lv 2) le_int)) lp_none)))
    lss_nil) lss_nil)
    (lss_cons (ls_if (lt_cmp (oo_eq room.units) (lv 7) le_int (by rfl)) (lss_cons (ls_ret (le_join le_str (le_op oo_add (le_slice (lv 5) lp_none (lp_some (lv 6))) (le_slice (lv 5) (lp_some (le_op oo_add (lv 6) le_int)) lp_none))))
    lss_nil) lss_nil)
    (lss_cons (ls_if (lt_cmp (oo_eq room.units) (lv 7) le_int (by rfl)) (lss_cons (ls_ret (le_join le_str (le_op oo_add (lv 5) (le_lst (la_cons (le_ix ox_seq (lv 5) (lv 6)) la_nil)))))
    lss_nil) lss_nil)
    (lss_consM (ls_if (lt_cmp (oo_eq room.units) (lv 7) le_int (by rfl)) (lss_consW [7] (ls_set 8 (le_lst (la_cons le_str (la_cons le_str (la_cons le_str (la_cons le_str (la_cons le_str (la_cons le_str (la_cons le_str (la_cons le_str (la_cons le_str (la_cons le_str (la_cons le_str (la_cons le_str (la_cons le_str la_nil)))))))))))))) sc__law_spoilt.nd)
    (lss_consW [0, 6, 8] (ls_asg (le_ix ox_seq (lv 8) (le_fx G__law_pull (room.mono (by decide)) (takes_of rfl rfl rfl rfl) wl (la_cons (lv 0) (la_cons (le_callB cc_len rfl T.n_len (by rfl) (la_cons (lv 8) la_nil)) la_nil)))) (lg_sub (lv 5) (lv 6) st_list))
    lss_nil)) lss_nil)
    (lss_w [0, 6, 7, 8] (lss_cons (ls_ret (le_join le_str (lv 5)))
    lss_nil)))))))))))))), fun ds S R X n h hW => ?_⟩, T.m__law_spoilt, T.F__law_spoilt.kp, T.b__law_spoilt⟩
  obtain ⟨r, Q, E, h, rfl, rfl, rfl, rfl, rfl⟩ := h
  subst hW
  obtain ⟨x, rfl, hx, q⟩ := h
  have z24 : (100002 : Nat) ≤ sizeLine := by decide
  have hb := split_bd x blank_tl blank_kind
  have hn := split_ne x blank_tl blank_kind
  have hs := split_wsum x
  conv => whnf
  repeat (refine Need.mk ?_ ?_; exact nd; conv => whnf)
  refine Need.mk (by omega) ?_
  conv => whnf
  repeat (refine Need.mk ?_ ?_; exact nd; conv => whnf)
  refine ⟨_, rfl, ⟨by first | decide | omega, by first | decide | omega⟩, fun at0 at1 at2 => ?_⟩
  conv => whnf
  repeat (refine Need.mk ?_ ?_; exact nd; conv => whnf)
  refine ⟨_, rfl, ⟨by first | decide | omega, by first | decide | omega⟩, fun sg0 sg1 sg2 => ?_⟩
  conv => whnf
  repeat (refine Need.mk ?_ ?_; exact nd; conv => whnf)
  obtain ⟨c, hc⟩ : ∃ c, L2.atI (" \n?abcfg01290-+_.~AZ" : Str).cps.toList sg0 = some c := ⟨_, atI_get sg1 (List.getElem?_eq_getElem (by
    rw [show (" \n?abcfg01290-+_.~AZ" : Str).length = (" \n?abcfg01290-+_.~AZ" : Str).cps.toList.length from TL.len_tl _] at sg2
    omega))⟩
  refine optI hc ?_
  conv => whnf
  repeat (refine Need.mk ?_ ?_; exact nd; conv => whnf)
  generalize Txt.split x " " = ws at hb hn hs
  have hwn : 1 ≤ ws.length := List.length_pos_iff.mpr hn
  conv => whnf
  repeat (refine Need.mk ?_ ?_; exact nd; conv => whnf)
  have hwl : ((ws.map D.str).length : Int) = (ws.length : Int) := by rw [List.length_map]
  refine ⟨_, rfl, ⟨by rw [hwl]; omega, by rw [hwl]; omega⟩, fun one one0 one1 => ?_⟩
  rw [hwl] at one1
  conv => whnf
  repeat (refine Need.mk ?_ ?_; exact nd; conv => whnf)
  refine ⟨_, rfl, ⟨by first | decide | omega, by first | decide | omega⟩, fun wy wy0 wy1 => ?_⟩
  conv => whnf
  repeat (refine Need.mk ?_ ?_; exact nd; conv => whnf)
  have l1 : ∀ lo hi, (cutS x lo hi).length ≤ x.length := cutS_len x
  have app : ∀ a b : Str, (a ++ b).length = a.length + b.length := fun a b => Str.length_append a b
  have l2 : (⟨#[c]⟩ : Str).length = 1 := rfl
  have b1 := l1 none (some at0)
  have b2 := l1 (some at0) none
  have b3 := l1 (some (at0 + 1)) none
  refine brd (fun e0 => ?_) (fun e0 => ?_)
  · conv => whnf
    repeat (refine Need.mk ?_ ?_; exact nd; conv => whnf)
    refine Need.mk (by omega) ?_
    conv => whnf
    repeat (refine Need.mk ?_ ?_; exact nd; conv => whnf)
    refine Need.mk (by omega) ?_
    conv => whnf
    repeat (refine Need.mk ?_ ?_; exact nd; conv => whnf)
    refine Need.mk (by omega) ?_
    conv => whnf
    repeat (refine Need.mk ?_ ?_; exact nd; conv => whnf)
    refine Need.mk (by rw [app]; omega) ?_
    conv => whnf
    repeat (refine Need.mk ?_ ?_; exact nd; conv => whnf)
    exact Rw (q _ (by rw [app, app]; omega))
  conv => whnf
  repeat (refine Need.mk ?_ ?_; exact nd; conv => whnf)
  refine brd (fun e1 => ?_) (fun e1 => ?_)
  · conv => whnf
    repeat (refine Need.mk ?_ ?_; exact nd; conv => whnf)
    refine Need.mk (by omega) ?_
    conv => whnf
    repeat (refine Need.mk ?_ ?_; exact nd; conv => whnf)
    refine Need.mk (by omega) ?_
    conv => whnf
    repeat (refine Need.mk ?_ ?_; exact nd; conv => whnf)
    refine Need.mk (by omega) ?_
    conv => whnf
    repeat (refine Need.mk ?_ ?_; exact nd; conv => whnf)
    exact Rw (q _ (by rw [app]; omega))
  conv => whnf
  repeat (refine Need.mk ?_ ?_; exact nd; conv => whnf)
  refine brd (fun e2 => ?_) (fun e2 => ?_)
  · conv => whnf
    repeat (refine Need.mk ?_ ?_; exact nd; conv => whnf)
    refine Need.mk (by omega) ?_
    conv => whnf
    repeat (refine Need.mk ?_ ?_; exact nd; conv => whnf)
    refine Need.mk (by omega) ?_
    conv => whnf
    repeat (refine Need.mk ?_ ?_; exact nd; conv => whnf)
    refine Need.mk (by omega) ?_
    conv => whnf
    repeat (refine Need.mk ?_ ?_; exact nd; conv => whnf)
    refine Need.mk (by rw [app]; omega) ?_
    conv => whnf
    repeat (refine Need.mk ?_ ?_; exact nd; conv => whnf)
    exact Rw (q _ (by rw [app, app]; omega))
  conv => whnf
  repeat (refine Need.mk ?_ ?_; exact nd; conv => whnf)
  refine brd (fun e3 => ?_) (fun e3 => ?_)
  · conv => whnf
    repeat (refine Need.mk ?_ ?_; exact nd; conv => whnf)
    rw [cutW_D, cutW_D, ← List.map_append]
    have w1 := cutW_sum ws none (some one)
    have w2 := cutW_sum ws (some (one + 1)) none
    have w3 := wsum_app (cutW ws none (some one)) (cutW ws (some (one + 1)) none)
    refine Need.mk (by
      have := wsum_is (cutW ws none (some one))
      have := wsum_is (cutW ws (some (one + 1)) none)
      rw [List.length_map, List.length_map]
      omega) ?_
    generalize cutW ws none (some one) ++ cutW ws (some (one + 1)) none = vs at w3
    conv => whnf
    repeat (refine Need.mk ?_ ?_; exact nd; conv => whnf)
    refine optI (x := vs) (by have := asSs_map id vs; rw [List.map_id] at this; exact this) ?_
    refine Need.mk (wsum_need (n := 0) (by omega)) ?_
    conv => whnf
    repeat (refine Need.mk ?_ ?_; exact nd; conv => whnf)
    exact Rw (q _ (Nat.le_trans (wsum_join vs) (by omega)))
  conv => whnf
  repeat (refine Need.mk ?_ ?_; exact nd; conv => whnf)
  refine brd (fun e4 => ?_) (fun e4 => ?_)
  · conv => whnf
    repeat (refine Need.mk ?_ ?_; exact nd; conv => whnf)
    obtain ⟨v, hv⟩ : ∃ v, ws[one.toNat]? = some v := ⟨_, List.getElem?_eq_getElem (by omega)⟩
    have hvm := wsum_mem (List.mem_of_getElem? hv)
    refine optI (atI_get one0 (by rw [List.getElem?_map, hv]; rfl)) ?_
    refine Need.mk (by rw [List.length_map]; show ws.length + 1 ≤ sizeLine; omega) ?_
    rw [show List.map D.str ws ++ [D.str v] = (ws ++ [v]).map D.str by rw [List.map_append]; rfl]
    have w3 := wsum_app ws [v]
    have w4 : wsum [v] = v.length + 1 := rfl
    generalize ws ++ [v] = vs at w3
    conv => whnf
    repeat (refine Need.mk ?_ ?_; exact nd; conv => whnf)
    refine optI (x := vs) (by have := asSs_map id vs; rw [List.map_id] at this; exact this) ?_
    refine Need.mk (wsum_need (n := 0) (by omega)) ?_
    conv => whnf
    repeat (refine Need.mk ?_ ?_; exact nd; conv => whnf)
    exact Rw (q _ (Nat.le_trans (wsum_join vs) (by omega)))
  conv => whnf
  repeat (refine Need.mk ?_ ?_; exact nd; conv => whnf)
  refine sM (fun s' S' => ∃ vs : List Str, wsum vs ≤ x.length + 20 ∧ S' = [.drw, .lst (vs.map D.str)] ∧ ∃ y0 y1 y2 y3 y4 y6 y7 y8 : Option D, s' = [y0, y1, y2, y3, y4, some (.ref 1), y6, y7, y8]) ?_ ?_
  · conv => whnf
    repeat (refine Need.mk ?_ ?_; exact nd; conv => whnf)
    refine brd (fun e5 => ?_) (fun e5 => ?_)
    · conv => whnf
      repeat (refine Need.mk ?_ ?_; exact nd; conv => whnf)
      refine ⟨_, rfl, ⟨by first | decide | omega, by first | decide | omega⟩, fun od od0 od1 => ?_⟩
      conv => whnf
      repeat (refine Need.mk ?_ ?_; exact nd; conv => whnf)
      have odd : ∀ z ∈ ([D.str "", D.str "0", D.str "00", D.str "12345", D.str "-1", D.str "a", D.str "?", D.str "scrape", D.str "year", D.str "strike", D.str "amend", D.str "sold", D.str "keep"] : List D), ∃ y : Str, z = D.str y ∧ y.length ≤ 6 := by
        intro z hz
        simp only [List.mem_cons, List.not_mem_nil, or_false] at hz
        rcases hz with rfl | rfl | rfl | rfl | rfl | rfl | rfl | rfl | rfl | rfl | rfl | rfl | rfl <;> exact ⟨_, rfl, by decide +kernel⟩
      obtain ⟨z, hz⟩ : ∃ z, ([D.str "", D.str "0", D.str "00", D.str "12345", D.str "-1", D.str "a", D.str "?", D.str "scrape", D.str "year", D.str "strike", D.str "amend", D.str "sold", D.str "keep"] : List D)[od.toNat]? = some z := ⟨_, List.getElem?_eq_getElem (by show od.toNat < 13; have : od < 13 := od1; omega)⟩
      obtain ⟨y, rfl, hy⟩ := odd z (List.mem_of_getElem? hz)
      refine optI (atI_get od0 hz) ?_
      conv => whnf
      repeat (refine Need.mk ?_ ?_; exact nd; conv => whnf)
      refine optI (ixN_is one0 (show one < (((ws.map D.str).length : Nat) : Int) by rw [List.length_map]; omega)) ?_
      conv => whnf
      repeat (refine Need.mk ?_ ?_; exact nd; conv => whnf)
      refine ⟨ws.set one.toNat y, by have := wsum_set y one.toNat ws; omega, by rw [List.map_set]; rfl, _, _, _, _, _, _, _, _, rfl⟩
    · conv => whnf
      repeat (refine Need.mk ?_ ?_; exact nd; conv => whnf)
      exact ⟨ws, by omega, rfl, _, _, _, _, _, _, _, _, rfl⟩
  · rintro s' S' ⟨vs, hvs, rfl, y0, y1, y2, y3, y4, y6, y7, y8, rfl⟩
    conv => whnf
    repeat (refine Need.mk ?_ ?_; exact nd; conv => whnf)
    refine optI (x := vs) (by have := asSs_map id vs; rw [List.map_id] at this; exact this) ?_
    refine Need.mk (wsum_need (n := 0) (by omega)) ?_
    conv => whnf
    repeat (refine Need.mk ?_ ?_; exact nd; conv => whnf)
    exact Rw (q _ (Nat.le_trans (wsum_join vs) (by omega)))
def sp__law_row_of (a : Ad) : SpP := fun ds Q _ => ∃ (x : Str) (b : Bool), ds = [.str x, .bl b] ∧ x.length ≤ 100000 ∧ (b = true → (isDd (Txt.split x " ") → Q .non) ∧ (¬ isDd (Txt.split x " ") → Q (.int 0))) ∧ (b = false → (isFc (Txt.split x " ") → Q .non) ∧ (¬ isFc (Txt.split x " ") → Q (.int 0)))
theorem ok__law_row_of (T : Txt K w mg a) (G_read_deed : Fx P w K mg base 10 a.a_read_deed a.d_read_deed "read_deed" ["text"] (lp (sp_read_deed a))) (G_read_fact : Fx P w K mg base 10 a.a_read_fact a.d_read_fact "read_fact" ["text"] (lp (sp_read_fact a))) : Fx P w K mg base 11 a.a__law_row_of a.d__law_row_of "_law_row_of" ["_law_line", "_law_whole"] (lp (sp__law_row_of a)) := by
  refine ⟨fn_P T.F__law_row_of sc__law_row_of (by (intro ds Q E h; first | (obtain ⟨h, hr⟩ := h; subst h; (try (obtain ⟨_, hr⟩ := hr)); (try (obtain ⟨_, hr⟩ := hr)); (try (obtain ⟨_, hr⟩ := hr)); (try (obtain ⟨_, hr⟩ := hr)); (all_goals exact ⟨rfl, by (repeat' (first | trivial | exact webD_lt | exact mvsD_lt _ | exact ctsD_lt _ | exact dcD_lts rdD_lt | exact dcD_lts seenV_lt | exact dcD_lts ctsD_lt | exact prs_lt' _ | exact prps_lt _ | exact pr_lt _ | exact Nd.lt _ | exact dcD_lts ndsD_lt | exact dcD_lts pr_lt | exact lmD_lt | exact Ev.lt | exact evs_lt _ | exact itDs_lt _ | exact prs_lt _ | exact Wld.lt | exact rows_lt | exact deeds_lt | exact pasts_lt | exact D.lts_ints _ | exact D.lts_strs _ | exact Fc.lt | exact Dd.lt | exact fcs_lt _ | exact nfs_lt _ | exact nf_lt | exact D.pl.lt (by assumption) | exact D.dp.lt (by assumption) | exact D.dps.lt (by assumption) | exact D.pls.lt (by assumption) | assumption | refine ⟨?_, ?_⟩))⟩)) | (obtain ⟨_, h, hr⟩ := h; subst h; (try (obtain ⟨_, hr⟩ := hr)); (try (obtain ⟨_, hr⟩ := hr)); (try (obtain ⟨_, hr⟩ := hr)); (try (obtain ⟨_, hr⟩ := hr)); (all_goals exact ⟨rfl, by (repeat' (first | trivial | exact webD_lt | exact mvsD_lt _ | exact ctsD_lt _ | exact dcD_lts rdD_lt | exact dcD_lts seenV_lt | exact dcD_lts ctsD_lt | exact prs_lt' _ | exact prps_lt _ | exact pr_lt _ | exact Nd.lt _ | exact dcD_lts ndsD_lt | exact dcD_lts pr_lt | exact lmD_lt | exact Ev.lt | exact evs_lt _ | exact itDs_lt _ | exact prs_lt _ | exact Wld.lt | exact rows_lt | exact deeds_lt | exact pasts_lt | exact D.lts_ints _ | exact D.lts_strs _ | exact Fc.lt | exact Dd.lt | exact fcs_lt _ | exact nfs_lt _ | exact nf_lt | exact D.pl.lt (by assumption) | exact D.dp.lt (by assumption) | exact D.dps.lt (by assumption) | exact D.pls.lt (by assumption) | assumption | refine ⟨?_, ?_⟩))⟩)) | (obtain ⟨_, _, h, hr⟩ := h; subst h; (try (obtain ⟨_, hr⟩ := hr)); (try (obtain ⟨_, hr⟩ := hr)); (try (obtain ⟨_, hr⟩ := hr)); (try (obtain ⟨_, hr⟩ := hr)); (all_goals exact ⟨rfl, by (repeat' (first | trivial | exact webD_lt | exact mvsD_lt _ | exact ctsD_lt _ | exact dcD_lts rdD_lt | exact dcD_lts seenV_lt | exact dcD_lts ctsD_lt | exact prs_lt' _ | exact prps_lt _ | exact pr_lt _ | exact Nd.lt _ | exact dcD_lts ndsD_lt | exact dcD_lts pr_lt | exact lmD_lt | exact Ev.lt | exact evs_lt _ | exact itDs_lt _ | exact prs_lt _ | exact Wld.lt | exact rows_lt | exact deeds_lt | exact pasts_lt | exact D.lts_ints _ | exact D.lts_strs _ | exact Fc.lt | exact Dd.lt | exact fcs_lt _ | exact nfs_lt _ | exact nf_lt | exact D.pl.lt (by assumption) | exact D.dp.lt (by assumption) | exact D.dps.lt (by assumption) | exact D.pls.lt (by assumption) | assumption | refine ⟨?_, ?_⟩))⟩)) | (obtain ⟨_, _, _, h, hr⟩ := h; subst h; (try (obtain ⟨_, hr⟩ := hr)); (try (obtain ⟨_, hr⟩ := hr)); (try (obtain ⟨_, hr⟩ := hr)); (try (obtain ⟨_, hr⟩ := hr)); (all_goals exact ⟨rfl, by (repeat' (first | trivial | exact webD_lt | exact mvsD_lt _ | exact ctsD_lt _ | exact dcD_lts rdD_lt | exact dcD_lts seenV_lt | exact dcD_lts ctsD_lt | exact prs_lt' _ | exact prps_lt _ | exact pr_lt _ | exact Nd.lt _ | exact dcD_lts ndsD_lt | exact dcD_lts pr_lt | exact lmD_lt | exact Ev.lt | exact evs_lt _ | exact itDs_lt _ | exact prs_lt _ | exact Wld.lt | exact rows_lt | exact deeds_lt | exact pasts_lt | exact D.lts_ints _ | exact D.lts_strs _ | exact Fc.lt | exact Dd.lt | exact fcs_lt _ | exact nfs_lt _ | exact nf_lt | exact D.pl.lt (by assumption) | exact D.dp.lt (by assumption) | exact D.dps.lt (by assumption) | exact D.pls.lt (by assumption) | assumption | refine ⟨?_, ?_⟩))⟩)) | (obtain ⟨_, _, _, _, h, hr⟩ := h; subst h; (try (obtain ⟨_, hr⟩ := hr)); (try (obtain ⟨_, hr⟩ := hr)); (try (obtain ⟨_, hr⟩ := hr)); (try (obtain ⟨_, hr⟩ := hr)); (all_goals exact ⟨rfl, by (repeat' (first | trivial | exact webD_lt | exact mvsD_lt _ | exact ctsD_lt _ | exact dcD_lts rdD_lt | exact dcD_lts seenV_lt | exact dcD_lts ctsD_lt | exact prs_lt' _ | exact prps_lt _ | exact pr_lt _ | exact Nd.lt _ | exact dcD_lts ndsD_lt | exact dcD_lts pr_lt | exact lmD_lt | exact Ev.lt | exact evs_lt _ | exact itDs_lt _ | exact prs_lt _ | exact Wld.lt | exact rows_lt | exact deeds_lt | exact pasts_lt | exact D.lts_ints _ | exact D.lts_strs _ | exact Fc.lt | exact Dd.lt | exact fcs_lt _ | exact nfs_lt _ | exact nf_lt | exact D.pl.lt (by assumption) | exact D.dp.lt (by assumption) | exact D.dps.lt (by assumption) | exact D.pls.lt (by assumption) | assumption | refine ⟨?_, ?_⟩))⟩)) | (obtain ⟨_, _, _, _, _, h, hr⟩ := h; subst h; (try (obtain ⟨_, hr⟩ := hr)); (try (obtain ⟨_, hr⟩ := hr)); (try (obtain ⟨_, hr⟩ := hr)); (try (obtain ⟨_, hr⟩ := hr)); (all_goals exact ⟨rfl, by (repeat' (first | trivial | exact webD_lt | exact mvsD_lt _ | exact ctsD_lt _ | exact dcD_lts rdD_lt | exact dcD_lts seenV_lt | exact dcD_lts ctsD_lt | exact prs_lt' _ | exact prps_lt _ | exact pr_lt _ | exact Nd.lt _ | exact dcD_lts ndsD_lt | exact dcD_lts pr_lt | exact lmD_lt | exact Ev.lt | exact evs_lt _ | exact itDs_lt _ | exact prs_lt _ | exact Wld.lt | exact rows_lt | exact deeds_lt | exact pasts_lt | exact D.lts_ints _ | exact D.lts_strs _ | exact Fc.lt | exact Dd.lt | exact fcs_lt _ | exact nfs_lt _ | exact nf_lt | exact D.pl.lt (by assumption) | exact D.dp.lt (by assumption) | exact D.dps.lt (by assumption) | exact D.pls.lt (by assumption) | assumption | refine ⟨?_, ?_⟩))⟩)) | (obtain ⟨h, _⟩ := h; exact (by simp at h)))) fun cdv A outer s H E φ T0 W' room wl => ⟨_, (lss_consM (ls_try_as (c := .ref a.c_BadText) (i := 2) rfl rfl sc__law_row_of.nd rfl rfl ⟨rfl, by decide, .inl T.k_BadText⟩ (takes_of rfl rfl rfl rfl) wl (fun W1 V1 pn1 xe1 B1 bl1 tk1 wl1 ps1 => (lss_consW [0, 1] (ls_if (lt_truth (lv 1)) (lss_consW [0, 1] (ls_expr (le_fx G_read_deed (room.mono (by decide)) tk1 wl1 (la_cons (lv 0) la_nil)))
    lss_nil) (lss_consW [0, 1] (ls_expr (le_fx G_read_fact (room.mono (by decide)) tk1 wl1 (la_cons (lv 0) la_nil)))
    lss_nil))
    lss_nil)) (fun b1 oe1 cl1 d1 pm1 C1 fs1 B1 hz1 hf1 bl1 xr1 => (lss_cons (ls_ret (le_xf hz1 hf1 xr1 (lv 2)))
    lss_nil)))
    (lss_w [0, 1, 2] (lss_cons (ls_ret le_non)
    lss_nil))), fun ds S R X n h hW => ?_⟩, T.m__law_row_of, T.F__law_row_of.kp, T.b__law_row_of⟩
  obtain ⟨Q, E, h, rfl, rfl, rfl, rfl⟩ := h
  subst hW
  obtain ⟨x, b, rfl, hx, h1, h2⟩ := h
  cases b with
  | true =>
    conv => whnf
    repeat (refine Need.mk ?_ ?_; exact nd; conv => whnf)
    refine sD ?_
    conv => whnf
    repeat (refine Need.mk ?_ ?_; exact nd; conv => whnf)
    refine ⟨x, rfl, hx, fun d hd e => ?_, fun z => ?_⟩
    · conv => whnf
      repeat (refine Need.mk ?_ ?_; exact nd; conv => whnf)
      exact Rp ((h1 rfl).1 ⟨d, hd, e⟩)
    · refine ⟨true, T.es_BadText, fun _ b => ?_, fun h => nomatch h⟩
      conv => whnf
      repeat (refine Need.mk ?_ ?_; exact nd; conv => whnf)
      refine Need.mk ⟨rfl, T.xf_BadText, T.nf_BadText_row⟩ ?_
      conv => whnf
      repeat (refine Need.mk ?_ ?_; exact nd; conv => whnf)
      exact Rp ((h1 rfl).2 z)
  | false =>
    conv => whnf
    repeat (refine Need.mk ?_ ?_; exact nd; conv => whnf)
    refine sD ?_
    conv => whnf
    repeat (refine Need.mk ?_ ?_; exact nd; conv => whnf)
    refine ⟨x, rfl, hx, fun d hd e => ?_, fun z => ?_⟩
    · conv => whnf
      repeat (refine Need.mk ?_ ?_; exact nd; conv => whnf)
      exact Rp ((h2 rfl).1 ⟨d, hd, e⟩)
    · refine ⟨true, T.es_BadText, fun _ b => ?_, fun h => nomatch h⟩
      conv => whnf
      repeat (refine Need.mk ?_ ?_; exact nd; conv => whnf)
      refine Need.mk ⟨rfl, T.xf_BadText, T.nf_BadText_row⟩ ?_
      conv => whnf
      repeat (refine Need.mk ?_ ?_; exact nd; conv => whnf)
      exact Rp ((h2 rfl).2 z)

theorem ok_law (T : Txt K w mg a) (G__law_open : Fx P w K mg base 1 a.a__law_open a.d__law_open "_law_open" ["_law_script"] (sp__law_open a)) (G__law_deed_line : Fx P w K mg base 3 a.a__law_deed_line a.d__law_deed_line "_law_deed_line" ["_law_deed"] (lp (sp__law_deed_line a))) (G__law_wide_deed : Fx P w K mg base 5 a.a__law_wide_deed a.d__law_wide_deed "_law_wide_deed" ["_law_draw"] (ld (sp__law_wide_deed a))) (G__law_pull : Fx P w K mg base 1 a.a__law_pull a.d__law_pull "_law_pull" ["_law_draw", "_law_many"] (ld (sp__law_pull a))) (G__law_spoilt : Fx P w K mg base 2 a.a__law_spoilt a.d__law_spoilt "_law_spoilt" ["_law_draw", "_law_text"] (ld (sp__law_spoilt a))) (G__law_deed_in : Fx P w K mg base 3 a.a__law_deed_in a.d__law_deed_in "_law_deed_in" ["_law_line"] (lp (sp__law_deed_in a))) (G__law_fact_in : Fx P w K mg base 2 a.a__law_fact_in a.d__law_fact_in "_law_fact_in" ["_law_words"] (lp (sp__law_fact_in a))) (G_read_deed : Fx P w K mg base 10 a.a_read_deed a.d_read_deed "read_deed" ["text"] (lp (sp_read_deed a))) (G_read_fact : Fx P w K mg base 10 a.a_read_fact a.d_read_fact "read_fact" ["text"] (lp (sp_read_fact a))) (G__law_like : Fx P w K mg base 12 a.a__law_like a.d__law_like "_law_like" ["_law_found", "_law_due"] (lp (sp__law_like a))) (G__law_row_of : Fx P w K mg base 11 a.a__law_row_of a.d__law_row_of "_law_row_of" ["_law_line", "_law_whole"] (lp (sp__law_row_of a))) (W : ∀ X : Cx, X.prog = P → X.w = w → X.K = K → X.mg = mg → WhyOk X "_law_why" "_law_ask" a.a__law_why a.c_LimeError X.env.qual) (TB : LamX.TabB base mg a.code a.tab) : FnOk P w K mg base (L2.CX P w) 17 a.a_law a.d_law ["_law_script"] (upFT K (T0of a) spLaw) := by
  refine FunC.ok conv_S T.F_law sc_law (fun ds S Q E ⟨_, h, _⟩ => by rw [h]; rfl) fun A outer s H E φ W' room wl => ⟨_, (lss_consW [0] (ls_set 1 (le_fx G__law_open (room.mono (by decide)) (takes_of rfl rfl rfl rfl) wl (la_cons (lv 0) la_nil)) sc_law.nd)
    (lss_consW [1, 2, 3, 4, 5, 6, 7] (ls_for (passes_of rfl) rfl (li_rng1 rfl T.n_range (la_cons le_int la_nil)) (lg_name (i := 2) sc_law.nd rfl)
    (lss_consW [2] (ls_set 3 (le_fx G__law_deed_line (room.mono (by decide)) (takes_of rfl rfl rfl rfl) wl (la_cons (le_fx G__law_wide_deed (room.mono (by decide)) (takes_of rfl rfl rfl rfl) wl (la_cons (lv 1) la_nil)) la_nil)) sc_law.nd)
    (lss_consW [4] (ls_for (passes_of rfl) rfl (li_rng1 rfl T.n_range (la_cons (le_ix ox_seq (le_tup (la_cons le_int (la_cons le_int (la_cons le_int (la_cons le_int la_nil))))) (le_fx G__law_pull (room.mono (by decide)) (takes_of rfl rfl rfl rfl) wl (la_cons (lv 1) (la_cons le_int la_nil)))) la_nil)) (lg_name (i := 4) sc_law.nd rfl)
    (lss_consW [4] (ls_set 3 (le_fx G__law_spoilt (room.mono (by decide)) (takes_of rfl rfl rfl rfl) wl (la_cons (lv 1) (la_cons (lv 3) la_nil))) sc_law.nd)
    lss_nil))
    (lss_consW [3, 5, 6, 7] (ls_for (passes_of rfl) rfl (li_tup (le_tup (la_cons le_bl (la_cons le_bl la_nil)))) (lg_name (i := 5) sc_law.nd rfl)
    (lss_cons (ls_set 6 (le_if (lt_truth (lv 5)) (le_fx G__law_deed_in (room.mono (by decide)) (takes_of rfl rfl rfl rfl) wl (la_cons (lv 3) la_nil)) (le_fx G__law_fact_in (room.mono (by decide)) (takes_of rfl rfl rfl rfl) wl (la_cons (le_bm PySem.F.plainAttrs_str PySem.F.slot_str_split PySem.F.type_str_split mm_split (lv 3) (la_cons le_str la_nil)) la_nil))) sc_law.nd)
    (lss_cons (ls_set 7 (le_why (lv := 14) (W _ rfl rfl rfl rfl) rfl TB rfl (List.mem_singleton.mpr rfl) (fun p hp _ => by rw [List.mem_singleton.mp hp]; rfl) (room.mono (by decide)) (by (conv => { arg 1; whnf }); exact ⟨rfl, rfl, rfl, by decide +kernel, by decide +kernel⟩) rfl (by intros; rfl) (fun A1 o1 s1 H1 E1 f1 c1 B1 W1 room1 wl1 => (le_if (lt_truth (lv 5)) (le_fx G_read_deed (room1.mono (by decide)) takes_lam wl1 (la_cons (lv 3) la_nil)) (le_fx G_read_fact (room1.mono (by decide)) takes_lam wl1 (la_cons (lv 3) la_nil))))) sc_law.nd)
    (lss_consW [7] (ls_if (lt_not (lt_truth (le_fx G__law_like (room.mono (by decide)) (takes_of rfl rfl rfl rfl) wl (la_cons (lv 7) (la_cons (le_if (lt_cmp oo_is (lv 6) le_non (by rfl)) (le_tup (la_cons le_non (la_cons le_str la_nil))) (le_tup (la_cons (lv 6) (la_cons le_str la_nil)))) la_nil))))) (lss_cons (ls_ret le_bl)
    lss_nil) lss_nil)
    (lss_consW [5, 6] (ls_if (lt_not (lt_truth (le_fx G__law_like (room.mono (by decide)) (takes_of rfl rfl rfl rfl) wl (la_cons (le_fx G__law_row_of (room.mono (by decide)) (takes_of rfl rfl rfl rfl) wl (la_cons (lv 3) (la_cons (lv 5) la_nil))) (la_cons (le_if (lt_cmp oo_is (lv 6) le_non (by rfl)) le_int le_non) la_nil))))) (lss_cons (ls_ret le_bl)
    lss_nil) lss_nil)
    lss_nil)))))
    lss_nil))))
    (lss_cons (ls_ret le_bl)
    lss_nil))), fun ds S R X n h hW => ?_⟩
  obtain ⟨Q, E, ⟨ns, rfl, rfl, hlen, hbits, q⟩, hlt, rfl, rfl, rfl⟩ := h
  subst hW
  conv => whnf
  repeat (refine Need.mk ?_ ?_; exact nd; conv => whnf)
  refine ⟨ns, rfl, hlen, rfl, ?_⟩
  conv => whnf
  repeat (refine Need.mk ?_ ?_; exact nd; conv => whnf)
  refine ⟨by decide, by decide, ?_⟩
  refine ⟨fun i s' S' => S' = [.drw] ∧ ∃ t2 t3 t4 t5 t6 t7 : Option D, s' = [none, some (.ref 0), t2, t3, t4, t5, t6, t7], ⟨rfl, _, _, _, _, _, _, rfl⟩, fun _ _ _ _ _ => trivial, ?_, ?_⟩
  · rintro i0 x s' S' hi ⟨rfl, t2, t3, t4, t5, t6, t7, rfl⟩
    obtain ⟨_, rfl⟩ := rngD_get hi
    conv => whnf
    repeat (refine Need.mk ?_ ?_; exact nd; conv => whnf)
    refine ⟨rfl, fun d hd => ?_⟩
    conv => whnf
    repeat (refine Need.mk ?_ ?_; exact nd; conv => whnf)
    refine ⟨d, rfl, hd, ?_⟩
    have hx := Dd.line_len hd
    generalize d.line = x at hx
    conv => whnf
    repeat (refine Need.mk ?_ ?_; exact nd; conv => whnf)
    refine ⟨_, rfl, ⟨by first | decide | omega, by first | decide | omega⟩, fun n h0 h1 => ?_⟩
    conv => whnf
    repeat (refine Need.mk ?_ ?_; exact nd; conv => whnf)
    obtain ⟨k, hk, hk2⟩ : ∃ k : Nat, L2.atI [D.int 0, D.int 1, D.int 1, D.int 2] n = some (.int k) ∧ k ≤ 2 := by
      have : n = 0 ∨ n = 1 ∨ n = 2 ∨ n = 3 := by omega
      rcases this with rfl | rfl | rfl | rfl
      · exact ⟨0, rfl, by decide⟩
      · exact ⟨1, rfl, by decide⟩
      · exact ⟨1, rfl, by decide⟩
      · exact ⟨2, rfl, by decide⟩
    refine optI hk ?_
    conv => whnf
    repeat (refine Need.mk ?_ ?_; exact nd; conv => whnf)
    refine ⟨by omega, by omega, ?_⟩
    refine ⟨fun i s' S' => S' = [.drw] ∧ ∃ (x : Str) (t4 t5 t6 t7 : Option D), x.length ≤ 500 * 2 ^ i ∧ x.length + 100 ≤ 500 * 2 ^ i ∧ s' = [none, some (.ref 0), none, some (.str x), t4, t5, t6, t7], ⟨rfl, x, _, _, _, _, by omega, by omega, rfl⟩, fun _ _ _ _ _ => trivial, ?_, ?_⟩
    · rintro i x s' S' hi ⟨rfl, x, t4, t5, t6, t7, hx1, hx2, rfl⟩
      obtain ⟨hik, rfl⟩ := rngD_get hi
      have hp : 2 ^ i ≤ 2 := by
        have : i ≤ 1 := by have : (i : Int) < k := by omega
                           omega
        match i, this with
        | 0, _ => decide
        | 1, _ => decide
      conv => whnf
      repeat (refine Need.mk ?_ ?_; exact nd; conv => whnf)
      refine ⟨x, rfl, by omega, fun y hy => ?_⟩
      conv => whnf
      repeat (refine Need.mk ?_ ?_; exact nd; conv => whnf)
      exact .inl ⟨rfl, y, _, _, _, _, by rw [Nat.pow_succ]; omega, by rw [Nat.pow_succ]; omega, rfl⟩
    · rintro s' S' ⟨rfl, x, t4, t5, t6, t7, hx1, hx2, rfl⟩
      rw [rngD_len] at hx1
      have hx : x.length ≤ 2000 := by
        have hk3 : ((k : Int) - 0).toNat = k := by omega
        have : 2 ^ k ≤ 4 := by
          match k, hk2 with
          | 0, _ => decide
          | 1, _ => decide
          | 2, _ => decide
        first | (rw [hk3] at hx1; omega) | (simp at hx1; omega)
      clear hx1 hx2
      have z24 : (100002 : Nat) ≤ sizeLine := by decide
      have hb := split_bd x blank_tl blank_kind
      have hn := split_ne x blank_tl blank_kind
      conv => whnf
      repeat (refine Need.mk ?_ ?_; exact nd; conv => whnf)
      refine ⟨fun i s' S' => S' = [.drw] ∧ ∃ t5 t6 t7 : Option D, s' = [none, some (.ref 0), none, some (.str x), none, t5, t6, t7], ⟨rfl, _, _, _, rfl⟩, fun _ _ _ _ _ => trivial, ?_, ?_⟩
      · rintro i y s' S' hi ⟨rfl, t5, t6, t7, rfl⟩
        have hy : y = .bl true ∨ y = .bl false := by
          have := List.mem_of_getElem? hi
          simpa using this
        rcases hy with rfl | rfl
        · conv => whnf
          repeat (refine Need.mk ?_ ?_; exact nd; conv => whnf)
          refine ⟨x, rfl, by omega, fun d hd e => ?_, fun z => ?_⟩
          · have hdp : D.dp d.d 9 := Dd.dp2 (n := 6) (by have := dsh_words (d := d) (N := 2000) (fun w hw => by rw [← e] at hw; have := hb.1 w hw; omega); omega)
            conv => whnf
            repeat (refine Need.mk ?_ ?_; exact nd; conv => whnf)
            refine ⟨x, rfl, by omega, fun d' hd' e' => ?_, fun z => absurd ⟨d, hd, e⟩ z⟩
            obtain rfl := Dd.words_inj hd hd' (e.symm.trans e')
            obtain ⟨xs, hxs⟩ := d.d_tup
            rw [hxs] at hdp ⊢
            conv => whnf
            repeat (refine Need.mk ?_ ?_; exact nd; conv => whnf)
            refine ⟨.tup [.tup xs, .str ""], rfl, ⟨by show 2 ≤ 1000000; decide, hdp, trivial, trivial⟩, ?_⟩
            conv => whnf
            repeat (refine Need.mk ?_ ?_; exact nd; conv => whnf)
            refine ⟨x, true, rfl, by omega, fun _ => ⟨fun _ => ?_, fun z => absurd ⟨d, hd, e⟩ z⟩, fun z => nomatch z⟩
            conv => whnf
            repeat (refine Need.mk ?_ ?_; exact nd; conv => whnf)
            refine ⟨.non, rfl, trivial, ?_⟩
            conv => whnf
            repeat (refine Need.mk ?_ ?_; exact nd; conv => whnf)
            exact .inl ⟨rfl, _, _, _, rfl⟩
          · conv => whnf
            repeat (refine Need.mk ?_ ?_; exact nd; conv => whnf)
            refine ⟨x, rfl, by omega, fun d' hd' e' => absurd ⟨d', hd', e'⟩ z, fun _ => ?_⟩
            conv => whnf
            repeat (refine Need.mk ?_ ?_; exact nd; conv => whnf)
            refine Need.mk ⟨T.ex_BadText, T.xf_BadText, T.nc_BadText⟩ ?_
            conv => whnf
            repeat (refine Need.mk ?_ ?_; exact nd; conv => whnf)
            refine ⟨.tup [.non, .str "badtext"], rfl, ⟨by show 2 ≤ 1000000; decide, trivial, trivial, trivial⟩, ?_⟩
            conv => whnf
            repeat (refine Need.mk ?_ ?_; exact nd; conv => whnf)
            refine ⟨x, true, rfl, by omega, fun _ => ⟨fun y => absurd y z, fun _ => ?_⟩, fun z => nomatch z⟩
            conv => whnf
            repeat (refine Need.mk ?_ ?_; exact nd; conv => whnf)
            refine ⟨.int 0, rfl, trivial, ?_⟩
            conv => whnf
            repeat (refine Need.mk ?_ ?_; exact nd; conv => whnf)
            exact .inl ⟨rfl, _, _, _, rfl⟩
        · conv => whnf
          repeat (refine Need.mk ?_ ?_; exact nd; conv => whnf)
          refine ⟨_, rfl, hn, by have := hb.2; omega, fun w hw => by have := hb.1 w hw; omega, fun f hf e => ?_, fun z => ?_⟩
          · have hdp : D.dp f.d 9 := Fc.dp (n := 7) f (by have := sh_words (f := f) (N := 2000) (fun w hw => by rw [← e] at hw; have := hb.1 w hw; omega); omega)
            conv => whnf
            repeat (refine Need.mk ?_ ?_; exact nd; conv => whnf)
            refine ⟨x, rfl, by omega, fun f' hf' e' => ?_, fun z => absurd ⟨f, hf, e⟩ z⟩
            obtain rfl := Fc.words_inj hf hf' (e.symm.trans e')
            obtain ⟨xs, hxs⟩ : ∃ xs, f.d = .tup xs := ⟨_, Fc.d_th f⟩
            rw [hxs] at hdp ⊢
            conv => whnf
            repeat (refine Need.mk ?_ ?_; exact nd; conv => whnf)
            refine ⟨.tup [.tup xs, .str ""], rfl, ⟨by show 2 ≤ 1000000; decide, hdp, trivial, trivial⟩, ?_⟩
            conv => whnf
            repeat (refine Need.mk ?_ ?_; exact nd; conv => whnf)
            refine ⟨x, false, rfl, by omega, fun z => (nomatch z), fun _ => ⟨fun _ => ?_, fun z => absurd ⟨f, hf, e⟩ z⟩⟩
            conv => whnf
            repeat (refine Need.mk ?_ ?_; exact nd; conv => whnf)
            refine ⟨.non, rfl, trivial, ?_⟩
            conv => whnf
            repeat (refine Need.mk ?_ ?_; exact nd; conv => whnf)
            exact .inl ⟨rfl, _, _, _, rfl⟩
          · conv => whnf
            repeat (refine Need.mk ?_ ?_; exact nd; conv => whnf)
            refine ⟨x, rfl, by omega, fun d' hd' e' => absurd ⟨d', hd', e'⟩ z, fun _ => ?_⟩
            conv => whnf
            repeat (refine Need.mk ?_ ?_; exact nd; conv => whnf)
            refine Need.mk ⟨T.ex_BadText, T.xf_BadText, T.nc_BadText⟩ ?_
            conv => whnf
            repeat (refine Need.mk ?_ ?_; exact nd; conv => whnf)
            refine ⟨.tup [.non, .str "badtext"], rfl, ⟨by show 2 ≤ 1000000; decide, trivial, trivial, trivial⟩, ?_⟩
            conv => whnf
            repeat (refine Need.mk ?_ ?_; exact nd; conv => whnf)
            refine ⟨x, false, rfl, by omega, fun z => (nomatch z), fun _ => ⟨fun y => absurd y z, fun _ => ?_⟩⟩
            conv => whnf
            repeat (refine Need.mk ?_ ?_; exact nd; conv => whnf)
            refine ⟨.int 0, rfl, trivial, ?_⟩
            conv => whnf
            repeat (refine Need.mk ?_ ?_; exact nd; conv => whnf)
            exact .inl ⟨rfl, _, _, _, rfl⟩
      · rintro s' S' ⟨rfl, t5, t6, t7, rfl⟩
        conv => whnf
        repeat (refine Need.mk ?_ ?_; exact nd; conv => whnf)
        exact .inl ⟨rfl, _, _, _, _, _, _, rfl⟩
  · rintro s' S' ⟨rfl, t2, t3, t4, t5, t6, t7, rfl⟩
    conv => whnf
    repeat (refine Need.mk ?_ ?_; exact nd; conv => whnf)
    exact ⟨0, _, [], Nat.le_refl _, Nat.zero_le _, rfl, Rs.same trivial, q _⟩
theorem why_ok (T : Txt K w mg a) (X : Cx) (hK : X.K = K) (hm : X.mg = mg) : WhyOk X "_law_why" "_law_ask" a.a__law_why a.c_LimeError X.env.qual := by
  subst hK hm
  obtain ⟨oc, od, kV, doc, pm, an, cdv, ct, osl, e, lk, hcd⟩ := T.F__law_why.ex
  have b := T.b__law_why
  rw [e] at b lk
  exact ⟨_, _, _, _, _, _, _, _, _, _, _, _, _, _, T.m__law_why, T.F__law_why.kp, lk, hcd, b, sc__law_why, rfl, .inl rfl,
    why_asks rfl sc__law_why.nd rfl rfl rfl rfl (by decide) (by decide) (by decide) (by decide) (by decide) (by decide) rfl T.k_LimeError⟩
end
theorem all_mk {l : PySem.W.OpenLaw} {w : World} {K : PySem.W.Frag} {h : Heap} {mg : Str → Option Value} {fa : Addr} (X : K.In h) (G : h.Ns mainGlobals mg) (hfa : mg "law" = some (.ref fa)) (c : He.SaysX [] fns tabs_ tfs exB w h K) :
    ∃ (fd : FuncData) (cs : List (Addr × Addr × Str)), (∀ p ∈ cs, h.get? p.2.1 = some { cls := .none, data := .fields #[] }) ∧ (∀ p ∈ cs, K.lookup p.2.1 = none) ∧ (∀ p ∈ cs, PySem.W.CodeHd h p.1 p.2.1) ∧
      (∀ (s : Shared) (u : Value), BindsTo s fd ⟨[u], []⟩ [("_law_script", u)]) ∧ ∀ base : Heap, K.In base → base.Ns mainGlobals mg → (∀ p ∈ cs, LamX.TabB base mg p.1 p.2.1) → FnOk l.prog w K mg base (L2.CX l.prog w) 17 fa fd ["_law_script"] (upFT K (cs.map fun p => p.2) spLaw) := by
  have xs : (fxs.all fun f => f K) = true := c.more
  obtain ⟨fd_read_coats, F_read_coats⟩ : ∃ fd, L2.FunD K "read_coats" "read_coats" (defArgs s_read_coats) (defBody s_read_coats) (defScope s_read_coats) [] [] (He.ga K "read_coats") fd := c.t.d.def_ 0 (d := dd_read_coats) rfl
  obtain ⟨fd_read_number, F_read_number⟩ : ∃ fd, L2.FunD K "read_number" "read_number" (defArgs s_read_number) (defBody s_read_number) (defScope s_read_number) [] [] (He.ga K "read_number") fd := c.t.d.def_ 1 (d := dd_read_number) rfl
  obtain ⟨fd_read_signs, F_read_signs⟩ : ∃ fd, L2.FunD K "read_signs" "read_signs" (defArgs s_read_signs) (defBody s_read_signs) (defScope s_read_signs) [] [] (He.ga K "read_signs") fd := c.t.d.def_ 2 (d := dd_read_signs) rfl
  obtain ⟨fd_read_sign, F_read_sign⟩ : ∃ fd, L2.FunD K "read_sign" "read_sign" (defArgs s_read_sign) (defBody s_read_sign) (defScope s_read_sign) [] [] (He.ga K "read_sign") fd := c.t.d.def_ 3 (d := dd_read_sign) rfl
  obtain ⟨fd_read_words, F_read_words⟩ : ∃ fd, L2.FunD K "read_words" "read_words" (defArgs s_read_words) (defBody s_read_words) (defScope s_read_words) [] [] (He.ga K "read_words") fd := c.t.d.def_ 4 (d := dd_read_words) rfl
  obtain ⟨fd_read_fact, F_read_fact⟩ : ∃ fd, L2.FunD K "read_fact" "read_fact" (defArgs s_read_fact) (defBody s_read_fact) (defScope s_read_fact) [] [] (He.ga K "read_fact") fd := c.t.d.def_ 5 (d := dd_read_fact) rfl
  obtain ⟨fd_read_deed, F_read_deed⟩ : ∃ fd, L2.FunD K "read_deed" "read_deed" (defArgs s_read_deed) (defBody s_read_deed) (defScope s_read_deed) [] [] (He.ga K "read_deed") fd := c.t.d.def_ 6 (d := dd_read_deed) rfl
  obtain ⟨fd__law_open, F__law_open⟩ : ∃ fd, L2.FunD K "_law_open" "_law_open" (defArgs s__law_open) (defBody s__law_open) (defScope s__law_open) [] [] (He.ga K "_law_open") fd := c.t.d.def_ 7 (d := dd__law_open) rfl
  obtain ⟨fd__law_pull, F__law_pull⟩ : ∃ fd, L2.FunD K "_law_pull" "_law_pull" (defArgs s__law_pull) (defBody s__law_pull) (defScope s__law_pull) [] [] (He.ga K "_law_pull") fd := c.t.d.def_ 8 (d := dd__law_pull) rfl
  obtain ⟨fd__law_num, F__law_num⟩ : ∃ fd, L2.FunD K "_law_num" "_law_num" (defArgs s__law_num) (defBody s__law_num) (defScope s__law_num) [] [] (He.ga K "_law_num") fd := c.t.d.def_ 9 (d := dd__law_num) rfl
  obtain ⟨fd__law_like, F__law_like⟩ : ∃ fd, L2.FunD K "_law_like" "_law_like" (defArgs s__law_like) (defBody s__law_like) (defScope s__law_like) [] [] (He.ga K "_law_like") fd := c.t.d.def_ 10 (d := dd__law_like) rfl
  obtain ⟨fd__law_shades, F__law_shades⟩ : ∃ fd, L2.FunD K "_law_shades" "_law_shades" (defArgs s__law_shades) (defBody s__law_shades) (defScope s__law_shades) [] [] (He.ga K "_law_shades") fd := c.t.d.def_ 11 (d := dd__law_shades) rfl
  obtain ⟨fd__law_fact, F__law_fact⟩ : ∃ fd, L2.FunD K "_law_fact" "_law_fact" (defArgs s__law_fact) (defBody s__law_fact) (defScope s__law_fact) [] [] (He.ga K "_law_fact") fd := c.t.d.def_ 12 (d := dd__law_fact) rfl
  obtain ⟨fd__law_why, F__law_why⟩ : ∃ fd, L2.FunD K "_law_why" "_law_why" (defArgs s__law_why) (defBody s__law_why) (defScope s__law_why) [] [] (He.ga K "_law_why") fd := c.t.d.def_ 13 (d := dd__law_why) rfl
  obtain ⟨fd__law_fact_line, F__law_fact_line⟩ : ∃ fd, L2.FunD K "_law_fact_line" "_law_fact_line" (defArgs s__law_fact_line) (defBody s__law_fact_line) (defScope s__law_fact_line) [] [] (He.ga K "_law_fact_line") fd := c.t.d.def_ 14 (d := dd__law_fact_line) rfl
  obtain ⟨fd__law_deed_line, F__law_deed_line⟩ : ∃ fd, L2.FunD K "_law_deed_line" "_law_deed_line" (defArgs s__law_deed_line) (defBody s__law_deed_line) (defScope s__law_deed_line) [] [] (He.ga K "_law_deed_line") fd := c.t.d.def_ 15 (d := dd__law_deed_line) rfl
  obtain ⟨fd__law_wide_fact, F__law_wide_fact⟩ : ∃ fd, L2.FunD K "_law_wide_fact" "_law_wide_fact" (defArgs s__law_wide_fact) (defBody s__law_wide_fact) (defScope s__law_wide_fact) [] [] (He.ga K "_law_wide_fact") fd := c.t.d.def_ 16 (d := dd__law_wide_fact) rfl
  obtain ⟨fd__law_wide_deed, F__law_wide_deed⟩ : ∃ fd, L2.FunD K "_law_wide_deed" "_law_wide_deed" (defArgs s__law_wide_deed) (defBody s__law_wide_deed) (defScope s__law_wide_deed) [] [] (He.ga K "_law_wide_deed") fd := c.t.d.def_ 17 (d := dd__law_wide_deed) rfl
  obtain ⟨fd__law_number_in, F__law_number_in⟩ : ∃ fd, L2.FunD K "_law_number_in" "_law_number_in" (defArgs s__law_number_in) (defBody s__law_number_in) (defScope s__law_number_in) [] [] (He.ga K "_law_number_in") fd := c.t.d.def_ 18 (d := dd__law_number_in) rfl
  obtain ⟨fd__law_fact_in, F__law_fact_in⟩ : ∃ fd, L2.FunD K "_law_fact_in" "_law_fact_in" (defArgs s__law_fact_in) (defBody s__law_fact_in) (defScope s__law_fact_in) [] [] (He.ga K "_law_fact_in") fd := c.t.d.def_ 19 (d := dd__law_fact_in) rfl
  obtain ⟨fd__law_deed_in, F__law_deed_in⟩ : ∃ fd, L2.FunD K "_law_deed_in" "_law_deed_in" (defArgs s__law_deed_in) (defBody s__law_deed_in) (defScope s__law_deed_in) [] [] (He.ga K "_law_deed_in") fd := c.t.d.def_ 20 (d := dd__law_deed_in) rfl
  obtain ⟨fd__law_spoilt, F__law_spoilt⟩ : ∃ fd, L2.FunD K "_law_spoilt" "_law_spoilt" (defArgs s__law_spoilt) (defBody s__law_spoilt) (defScope s__law_spoilt) [] [] (He.ga K "_law_spoilt") fd := c.t.d.def_ 21 (d := dd__law_spoilt) rfl
  obtain ⟨fd__law_sign, F__law_sign⟩ : ∃ fd, L2.FunD K "_law_sign" "_law_sign" (defArgs s__law_sign) (defBody s__law_sign) (defScope s__law_sign) [] [] (He.ga K "_law_sign") fd := c.t.d.def_ 22 (d := dd__law_sign) rfl
  obtain ⟨fd__law_row_of, F__law_row_of⟩ : ∃ fd, L2.FunD K "_law_row_of" "_law_row_of" (defArgs s__law_row_of) (defBody s__law_row_of) (defScope s__law_row_of) [] [] (He.ga K "_law_row_of") fd := c.t.d.def_ 23 (d := dd__law_row_of) rfl
  obtain ⟨fd_law, F_law⟩ : ∃ fd, L2.FunD K "law" "law" (defArgs s_law) (defBody s_law) (defScope s_law) [] [] (He.ga K "law") fd := c.t.d.def_ 24 (d := dd_law) rfl
  obtain ⟨fd_LimeError_init, F_LimeError_init⟩ : ∃ fd, L2.FunD K "__init__" "LimeError.__init__" (defArgs s_LimeError_init) (defBody s_LimeError_init) (defScope s_LimeError_init) [] [] (He.ma K (He.ga K "LimeError") "__init__") fd := c.t.d.def_ 25 (d := dd_LimeError_init) rfl
  obtain ⟨fd_BadCoat_init, F_BadCoat_init⟩ : ∃ fd, L2.FunD K "__init__" "BadCoat.__init__" (defArgs s_BadCoat_init) (defBody s_BadCoat_init) (defScope s_BadCoat_init) [] [] (He.ma K (He.ga K "BadCoat") "__init__") fd := c.t.d.def_ 26 (d := dd_BadCoat_init) rfl
  obtain ⟨fd_BadShade_init, F_BadShade_init⟩ : ∃ fd, L2.FunD K "__init__" "BadShade.__init__" (defArgs s_BadShade_init) (defBody s_BadShade_init) (defScope s_BadShade_init) [] [] (He.ma K (He.ga K "BadShade") "__init__") fd := c.t.d.def_ 27 (d := dd_BadShade_init) rfl
  obtain ⟨fd_BadText_init, F_BadText_init⟩ : ∃ fd, L2.FunD K "__init__" "BadText.__init__" (defArgs s_BadText_init) (defBody s_BadText_init) (defScope s_BadText_init) [V.int 0] [] (He.ma K (He.ga K "BadText") "__init__") fd := c.t.d.def_ 28 (d := dd_BadText_init) rfl
  obtain ⟨fd_Coats_init, F_Coats_init⟩ : ∃ fd, L2.FunD K "__init__" "Coats.__init__" (defArgs s_Coats_init) (defBody s_Coats_init) (defScope s_Coats_init) [] [] (He.ma K (He.ga K "Coats") "__init__") fd := c.t.d.def_ 29 (d := dd_Coats_init) rfl
  obtain ⟨fd_Coats_len, F_Coats_len⟩ : ∃ fd, L2.FunD K "__len__" "Coats.__len__" (defArgs s_Coats_len) (defBody s_Coats_len) (defScope s_Coats_len) [] [] (He.ma K (He.ga K "Coats") "__len__") fd := c.t.d.def_ 30 (d := dd_Coats_len) rfl
  obtain ⟨fd_Coats_shade, F_Coats_shade⟩ : ∃ fd, L2.FunD K "shade" "Coats.shade" (defArgs s_Coats_shade) (defBody s_Coats_shade) (defScope s_Coats_shade) [] [] (He.ma K (He.ga K "Coats") "shade") fd := c.t.d.def_ 31 (d := dd_Coats_shade) rfl
  obtain ⟨es_FORMS, dn_FORMS, D_FORMS⟩ := c.t.tab 0 (t := (fun K => He.ga K "FORMS", ["scrape", "cover", "moved", "year", "sold", "ahead", "same", "apart"])) rfl
  obtain ⟨es_READERS, dn_READERS, D_READERS⟩ := c.t.tab 1 (t := (fun K => He.ga K "READERS", ["number", "signs", "sign"])) rfl
  have e := hfa.symm.trans (He.glo_ok X G (x := "law") (fact_at (f := fun K => (He.Fa.glo "law").ok K) xs 24 rfl))
  cases e
  have T : Txt K w mg { a_read_coats := (He.ga K "read_coats"), d_read_coats := fd_read_coats, a_read_number := (He.ga K "read_number"), d_read_number := fd_read_number, a_read_signs := (He.ga K "read_signs"), d_read_signs := fd_read_signs, a_read_sign := (He.ga K "read_sign"), d_read_sign := fd_read_sign, a_read_words := (He.ga K "read_words"), d_read_words := fd_read_words, a_read_fact := (He.ga K "read_fact"), d_read_fact := fd_read_fact, a_read_deed := (He.ga K "read_deed"), d_read_deed := fd_read_deed, a__law_open := (He.ga K "_law_open"), d__law_open := fd__law_open, a__law_pull := (He.ga K "_law_pull"), d__law_pull := fd__law_pull, a__law_num := (He.ga K "_law_num"), d__law_num := fd__law_num, a__law_like := (He.ga K "_law_like"), d__law_like := fd__law_like, a__law_shades := (He.ga K "_law_shades"), d__law_shades := fd__law_shades, a__law_fact := (He.ga K "_law_fact"), d__law_fact := fd__law_fact, a__law_why := (He.ga K "_law_why"), d__law_why := fd__law_why, a__law_fact_line := (He.ga K "_law_fact_line"), d__law_fact_line := fd__law_fact_line, a__law_deed_line := (He.ga K "_law_deed_line"), d__law_deed_line := fd__law_deed_line, a__law_wide_fact := (He.ga K "_law_wide_fact"), d__law_wide_fact := fd__law_wide_fact, a__law_wide_deed := (He.ga K "_law_wide_deed"), d__law_wide_deed := fd__law_wide_deed, a__law_number_in := (He.ga K "_law_number_in"), d__law_number_in := fd__law_number_in, a__law_fact_in := (He.ga K "_law_fact_in"), d__law_fact_in := fd__law_fact_in, a__law_deed_in := (He.ga K "_law_deed_in"), d__law_deed_in := fd__law_deed_in, a__law_spoilt := (He.ga K "_law_spoilt"), d__law_spoilt := fd__law_spoilt, a__law_sign := (He.ga K "_law_sign"), d__law_sign := fd__law_sign, a__law_row_of := (He.ga K "_law_row_of"), d__law_row_of := fd__law_row_of, a_law := (He.ga K "law"), d_law := fd_law, a_LimeError_init := (He.ma K (He.ga K "LimeError") "__init__"), d_LimeError_init := fd_LimeError_init, a_BadCoat_init := (He.ma K (He.ga K "BadCoat") "__init__"), d_BadCoat_init := fd_BadCoat_init, a_BadShade_init := (He.ma K (He.ga K "BadShade") "__init__"), d_BadShade_init := fd_BadShade_init, a_BadText_init := (He.ma K (He.ga K "BadText") "__init__"), d_BadText_init := fd_BadText_init, a_Coats_init := (He.ma K (He.ga K "Coats") "__init__"), d_Coats_init := fd_Coats_init, a_Coats_len := (He.ma K (He.ga K "Coats") "__len__"), d_Coats_len := fd_Coats_len, a_Coats_shade := (He.ma K (He.ga K "Coats") "shade"), d_Coats_shade := fd_Coats_shade, c_LimeError := (He.ga K "LimeError"), c_BadCoat := (He.ga K "BadCoat"), c_BadShade := (He.ga K "BadShade"), c_BadText := (He.ga K "BadText"), c_Coats := (He.ga K "Coats"), v_FORMS := He.ga K "FORMS", v_READERS := He.ga K "READERS", code := (He.codeOf K ("law", none)), tab := (He.tabOf K (He.codeOf K ("law", none))) } := { F_read_coats := funD_fun F_read_coats, b_read_coats := F_read_coats.bindsN fun _ _ _ _ _ _ us hl => match us, hl with | [_], _ => rfl, m_read_coats := (He.glo_ok X G (x := "read_coats") (fact_at (f := fun K => (He.Fa.glo "read_coats").ok K) xs 0 rfl)), F_read_number := funD_fun F_read_number, b_read_number := F_read_number.bindsN fun _ _ _ _ _ _ us hl => match us, hl with | [_], _ => rfl, m_read_number := (He.glo_ok X G (x := "read_number") (fact_at (f := fun K => (He.Fa.glo "read_number").ok K) xs 1 rfl)), F_read_signs := funD_fun F_read_signs, b_read_signs := F_read_signs.bindsN fun _ _ _ _ _ _ us hl => match us, hl with | [_], _ => rfl, m_read_signs := (He.glo_ok X G (x := "read_signs") (fact_at (f := fun K => (He.Fa.glo "read_signs").ok K) xs 2 rfl)), F_read_sign := funD_fun F_read_sign, b_read_sign := F_read_sign.bindsN fun _ _ _ _ _ _ us hl => match us, hl with | [_], _ => rfl, m_read_sign := (He.glo_ok X G (x := "read_sign") (fact_at (f := fun K => (He.Fa.glo "read_sign").ok K) xs 3 rfl)), F_read_words := funD_fun F_read_words, b_read_words := F_read_words.bindsN fun _ _ _ _ _ _ us hl => match us, hl with | [_], _ => rfl, m_read_words := (He.glo_ok X G (x := "read_words") (fact_at (f := fun K => (He.Fa.glo "read_words").ok K) xs 4 rfl)), F_read_fact := funD_fun F_read_fact, b_read_fact := F_read_fact.bindsN fun _ _ _ _ _ _ us hl => match us, hl with | [_], _ => rfl, m_read_fact := (He.glo_ok X G (x := "read_fact") (fact_at (f := fun K => (He.Fa.glo "read_fact").ok K) xs 5 rfl)), F_read_deed := funD_fun F_read_deed, b_read_deed := F_read_deed.bindsN fun _ _ _ _ _ _ us hl => match us, hl with | [_], _ => rfl, m_read_deed := (He.glo_ok X G (x := "read_deed") (fact_at (f := fun K => (He.Fa.glo "read_deed").ok K) xs 6 rfl)), F__law_open := funD_fun F__law_open, b__law_open := F__law_open.bindsN fun _ _ _ _ _ _ us hl => match us, hl with | [_], _ => rfl, m__law_open := (He.glo_ok X G (x := "_law_open") (fact_at (f := fun K => (He.Fa.glo "_law_open").ok K) xs 7 rfl)), F__law_pull := funD_fun F__law_pull, b__law_pull := F__law_pull.bindsN fun _ _ _ _ _ _ us hl => match us, hl with | [_, _], _ => rfl, m__law_pull := (He.glo_ok X G (x := "_law_pull") (fact_at (f := fun K => (He.Fa.glo "_law_pull").ok K) xs 8 rfl)), F__law_num := funD_fun F__law_num, b__law_num := F__law_num.bindsN fun _ _ _ _ _ _ us hl => match us, hl with | [_], _ => rfl, m__law_num := (He.glo_ok X G (x := "_law_num") (fact_at (f := fun K => (He.Fa.glo "_law_num").ok K) xs 9 rfl)), F__law_like := funD_fun F__law_like, b__law_like := F__law_like.bindsN fun _ _ _ _ _ _ us hl => match us, hl with | [_, _], _ => rfl, m__law_like := (He.glo_ok X G (x := "_law_like") (fact_at (f := fun K => (He.Fa.glo "_law_like").ok K) xs 10 rfl)), F__law_shades := funD_fun F__law_shades, b__law_shades := F__law_shades.bindsN fun _ _ _ _ _ _ us hl => match us, hl with | [_, _], _ => rfl, m__law_shades := (He.glo_ok X G (x := "_law_shades") (fact_at (f := fun K => (He.Fa.glo "_law_shades").ok K) xs 11 rfl)), F__law_fact := funD_fun F__law_fact, b__law_fact := F__law_fact.bindsN fun _ _ _ _ _ _ us hl => match us, hl with | [_, _, _], _ => rfl, m__law_fact := (He.glo_ok X G (x := "_law_fact") (fact_at (f := fun K => (He.Fa.glo "_law_fact").ok K) xs 12 rfl)), F__law_why := funD_fun F__law_why, b__law_why := F__law_why.bindsN fun _ _ _ _ _ _ us hl => match us, hl with | [_], _ => rfl, m__law_why := (He.glo_ok X G (x := "_law_why") (fact_at (f := fun K => (He.Fa.glo "_law_why").ok K) xs 13 rfl)), F__law_fact_line := funD_fun F__law_fact_line, b__law_fact_line := F__law_fact_line.bindsN fun _ _ _ _ _ _ us hl => match us, hl with | [_], _ => rfl, m__law_fact_line := (He.glo_ok X G (x := "_law_fact_line") (fact_at (f := fun K => (He.Fa.glo "_law_fact_line").ok K) xs 14 rfl)), F__law_deed_line := funD_fun F__law_deed_line, b__law_deed_line := F__law_deed_line.bindsN fun _ _ _ _ _ _ us hl => match us, hl with | [_], _ => rfl, m__law_deed_line := (He.glo_ok X G (x := "_law_deed_line") (fact_at (f := fun K => (He.Fa.glo "_law_deed_line").ok K) xs 15 rfl)), F__law_wide_fact := funD_fun F__law_wide_fact, b__law_wide_fact := F__law_wide_fact.bindsN fun _ _ _ _ _ _ us hl => match us, hl with | [_], _ => rfl, m__law_wide_fact := (He.glo_ok X G (x := "_law_wide_fact") (fact_at (f := fun K => (He.Fa.glo "_law_wide_fact").ok K) xs 16 rfl)), F__law_wide_deed := funD_fun F__law_wide_deed, b__law_wide_deed := F__law_wide_deed.bindsN fun _ _ _ _ _ _ us hl => match us, hl with | [_], _ => rfl, m__law_wide_deed := (He.glo_ok X G (x := "_law_wide_deed") (fact_at (f := fun K => (He.Fa.glo "_law_wide_deed").ok K) xs 17 rfl)), F__law_number_in := funD_fun F__law_number_in, b__law_number_in := F__law_number_in.bindsN fun _ _ _ _ _ _ us hl => match us, hl with | [_], _ => rfl, m__law_number_in := (He.glo_ok X G (x := "_law_number_in") (fact_at (f := fun K => (He.Fa.glo "_law_number_in").ok K) xs 18 rfl)), F__law_fact_in := funD_fun F__law_fact_in, b__law_fact_in := F__law_fact_in.bindsN fun _ _ _ _ _ _ us hl => match us, hl with | [_], _ => rfl, m__law_fact_in := (He.glo_ok X G (x := "_law_fact_in") (fact_at (f := fun K => (He.Fa.glo "_law_fact_in").ok K) xs 19 rfl)), F__law_deed_in := funD_fun F__law_deed_in, b__law_deed_in := F__law_deed_in.bindsN fun _ _ _ _ _ _ us hl => match us, hl with | [_], _ => rfl, m__law_deed_in := (He.glo_ok X G (x := "_law_deed_in") (fact_at (f := fun K => (He.Fa.glo "_law_deed_in").ok K) xs 20 rfl)), F__law_spoilt := funD_fun F__law_spoilt, b__law_spoilt := F__law_spoilt.bindsN fun _ _ _ _ _ _ us hl => match us, hl with | [_, _], _ => rfl, m__law_spoilt := (He.glo_ok X G (x := "_law_spoilt") (fact_at (f := fun K => (He.Fa.glo "_law_spoilt").ok K) xs 21 rfl)), F__law_sign := funD_fun F__law_sign, b__law_sign := F__law_sign.bindsN fun _ _ _ _ _ _ us hl => match us, hl with | [_], _ => rfl, m__law_sign := (He.glo_ok X G (x := "_law_sign") (fact_at (f := fun K => (He.Fa.glo "_law_sign").ok K) xs 22 rfl)), F__law_row_of := funD_fun F__law_row_of, b__law_row_of := F__law_row_of.bindsN fun _ _ _ _ _ _ us hl => match us, hl with | [_, _], _ => rfl, m__law_row_of := (He.glo_ok X G (x := "_law_row_of") (fact_at (f := fun K => (He.Fa.glo "_law_row_of").ok K) xs 23 rfl)), F_law := funD_code (p := ("law", none)) F_law, b_law := F_law.bindsN fun _ _ _ _ _ _ us hl => match us, hl with | [_], _ => rfl, m_law := (He.glo_ok X G (x := "law") (fact_at (f := fun K => (He.Fa.glo "law").ok K) xs 24 rfl)), F_LimeError_init := funD_fun F_LimeError_init, b_LimeError_init := F_LimeError_init.bindsN fun _ _ _ _ _ _ us hl => match us, hl with | [_, _], _ => rfl, i_LimeError_init := He.eqO_ok (fact_at (f := fun K => He.eqO (PySem.W.findIn K (.ref (He.ga K "LimeError")) "__init__") (some (some (.ref (He.ma K (He.ga K "LimeError") "__init__"))))) xs 25 rfl), t_LimeError_init := of_decide_eq_true (fact_at (f := fun K => decide (PySem.W.typeIn K (.ref (He.ma K (He.ga K "LimeError") "__init__")) = some (.type "function"))) xs 26 rfl), F_BadCoat_init := funD_fun F_BadCoat_init, b_BadCoat_init := F_BadCoat_init.bindsN fun _ _ _ _ _ _ us hl => match us, hl with | [_], _ => rfl, i_BadCoat_init := He.eqO_ok (fact_at (f := fun K => He.eqO (PySem.W.findIn K (.ref (He.ga K "BadCoat")) "__init__") (some (some (.ref (He.ma K (He.ga K "BadCoat") "__init__"))))) xs 27 rfl), t_BadCoat_init := of_decide_eq_true (fact_at (f := fun K => decide (PySem.W.typeIn K (.ref (He.ma K (He.ga K "BadCoat") "__init__")) = some (.type "function"))) xs 28 rfl), F_BadShade_init := funD_fun F_BadShade_init, b_BadShade_init := F_BadShade_init.bindsN fun _ _ _ _ _ _ us hl => match us, hl with | [_], _ => rfl, i_BadShade_init := He.eqO_ok (fact_at (f := fun K => He.eqO (PySem.W.findIn K (.ref (He.ga K "BadShade")) "__init__") (some (some (.ref (He.ma K (He.ga K "BadShade") "__init__"))))) xs 29 rfl), t_BadShade_init := of_decide_eq_true (fact_at (f := fun K => decide (PySem.W.typeIn K (.ref (He.ma K (He.ga K "BadShade") "__init__")) = some (.type "function"))) xs 30 rfl), F_BadText_init := F_BadText_init, i_BadText_init := He.eqO_ok (fact_at (f := fun K => He.eqO (PySem.W.findIn K (.ref (He.ga K "BadText")) "__init__") (some (some (.ref (He.ma K (He.ga K "BadText") "__init__"))))) xs 31 rfl), t_BadText_init := of_decide_eq_true (fact_at (f := fun K => decide (PySem.W.typeIn K (.ref (He.ma K (He.ga K "BadText") "__init__")) = some (.type "function"))) xs 32 rfl), F_Coats_init := funD_fun F_Coats_init, b_Coats_init := F_Coats_init.bindsN fun _ _ _ _ _ _ us hl => match us, hl with | [_, _], _ => rfl, i_Coats_init := He.meth_ok (fact_at (f := fun K => (He.Fa.meth "Coats" "__init__").ok K) xs 33 rfl), F_Coats_len := funD_fun F_Coats_len, b_Coats_len := F_Coats_len.bindsN fun _ _ _ _ _ _ us hl => match us, hl with | [_], _ => rfl, i_Coats_len := He.meth_ok (fact_at (f := fun K => (He.Fa.meth "Coats" "__len__").ok K) xs 34 rfl), F_Coats_shade := funD_fun F_Coats_shade, b_Coats_shade := F_Coats_shade.bindsN fun _ _ _ _ _ _ us hl => match us, hl with | [_, _], _ => rfl, i_Coats_shade := He.meth_ok (fact_at (f := fun K => (He.Fa.meth "Coats" "shade").ok K) xs 35 rfl), k_LimeError := (He.glo_ok X G (x := "LimeError") (fact_at (f := fun K => (He.Fa.glo "LimeError").ok K) xs 36 rfl)), k_BadCoat := (He.glo_ok X G (x := "BadCoat") (fact_at (f := fun K => (He.Fa.glo "BadCoat").ok K) xs 37 rfl)), k_BadShade := (He.glo_ok X G (x := "BadShade") (fact_at (f := fun K => (He.Fa.glo "BadShade").ok K) xs 38 rfl)), k_BadText := (He.glo_ok X G (x := "BadText") (fact_at (f := fun K => (He.Fa.glo "BadText").ok K) xs 39 rfl)), k_Coats := (He.glo_ok X G (x := "Coats") (fact_at (f := fun K => (He.Fa.glo "Coats").ok K) xs 40 rfl)), o_Coats := isoB_ok (fact_at (f := fun K => isoB K (He.ga K "Coats")) xs 41 rfl), mk_Coats := He.mkr_ok (fact_at (f := fun K => (He.Fa.mkr "Coats").ok K) xs 42 rfl), na_Coats_seen := (He.noat_ok (x := "Coats") (f := "seen") (fact_at (f := fun K => (He.Fa.noat "Coats" "seen").ok K) xs 43 rfl)), fm_Coats := ⟨of_decide_eq_true (fact_at (f := fun K => decide (PySem.W.findIn K (.ref (He.ga K "Coats")) "__format__" = some (some (.builtin "object.__format__")))) xs 44 rfl), of_decide_eq_true (fact_at (f := fun K => decide (PySem.W.mroIn K (He.ga K "Coats") (.type "object") = some true)) xs 45 rfl)⟩, xf_BadCoat := L2.xfB_ok (fact_at (f := fun K => L2.xfB K (He.ga K "BadCoat")) xs 46 rfl), nc_BadCoat := (He.noat_ok (x := "BadCoat") (f := "called") (fact_at (f := fun K => (He.Fa.noat "BadCoat" "called").ok K) xs 47 rfl)), ex_BadCoat := He.exm_ok (fact_at (f := fun K => (He.Fa.exm "BadCoat" "LimeError" true).ok K) xs 48 rfl), es_BadCoat := He.exm_ok (fact_at (f := fun K => (He.Fa.exm "BadCoat" "BadCoat" true).ok K) xs 49 rfl), xf_BadShade := L2.xfB_ok (fact_at (f := fun K => L2.xfB K (He.ga K "BadShade")) xs 50 rfl), nc_BadShade := (He.noat_ok (x := "BadShade") (f := "called") (fact_at (f := fun K => (He.Fa.noat "BadShade" "called").ok K) xs 51 rfl)), ex_BadShade := He.exm_ok (fact_at (f := fun K => (He.Fa.exm "BadShade" "LimeError" true).ok K) xs 52 rfl), es_BadShade := He.exm_ok (fact_at (f := fun K => (He.Fa.exm "BadShade" "BadShade" true).ok K) xs 53 rfl), xf_BadText := L2.xfB_ok (fact_at (f := fun K => L2.xfB K (He.ga K "BadText")) xs 54 rfl), nc_BadText := (He.noat_ok (x := "BadText") (f := "called") (fact_at (f := fun K => (He.Fa.noat "BadText" "called").ok K) xs 55 rfl)), ex_BadText := He.exm_ok (fact_at (f := fun K => (He.Fa.exm "BadText" "LimeError" true).ok K) xs 56 rfl), es_BadText := He.exm_ok (fact_at (f := fun K => (He.Fa.exm "BadText" "BadText" true).ok K) xs 57 rfl), nf_BadText_row := (He.noat_ok (x := "BadText") (f := "row") (fact_at (f := fun K => (He.Fa.noat "BadText" "row").ok K) xs 58 rfl)), n_KeyError := He.free_ok X G (fact_at (f := fun K => (He.Fa.free "KeyError").ok K) xs 59 rfl), n_ValueError := He.free_ok X G (fact_at (f := fun K => (He.Fa.free "ValueError").ok K) xs 60 rfl), n_all := He.free_ok X G (fact_at (f := fun K => (He.Fa.free "all").ok K) xs 61 rfl), n_bool := He.free_ok X G (fact_at (f := fun K => (He.Fa.free "bool").ok K) xs 62 rfl), n_int := He.free_ok X G (fact_at (f := fun K => (He.Fa.free "int").ok K) xs 63 rfl), n_isinstance := He.free_ok X G (fact_at (f := fun K => (He.Fa.free "isinstance").ok K) xs 64 rfl), n_len := He.free_ok X G (fact_at (f := fun K => (He.Fa.free "len").ok K) xs 65 rfl), n_list := He.free_ok X G (fact_at (f := fun K => (He.Fa.free "list").ok K) xs 66 rfl), n_min := He.free_ok X G (fact_at (f := fun K => (He.Fa.free "min").ok K) xs 67 rfl), n_range := He.free_ok X G (fact_at (f := fun K => (He.Fa.free "range").ok K) xs 68 rfl), n_str := He.free_ok X G (fact_at (f := fun K => (He.Fa.free "str").ok K) xs 69 rfl), n_tuple := He.free_ok X G (fact_at (f := fun K => (He.Fa.free "tuple").ok K) xs 70 rfl), n_zip := He.free_ok X G (fact_at (f := fun K => (He.Fa.free "zip").ok K) xs 71 rfl), gm_FORMS := (He.glo_ok X G (x := "FORMS") (fact_at (f := fun K => (He.Fa.glo "FORMS").ok K) xs 72 rfl)), kd_FORMS := dctB_ok D_FORMS (fact_at (f := fun K => dctB K (He.ga K "FORMS") [("scrape", .kt [.str "number", .str "number", .str "signs"]), ("cover", .kt [.str "number", .str "number", .str "number"]), ("moved", .kt [.str "number", .str "number", .str "number", .str "number"]), ("year", .kt [.str "number", .str "number", .str "number", .str "number"]), ("sold", .kt [.str "sign", .str "number"]), ("ahead", .kt [.str "number", .str "number", .str "number", .str "number"]), ("same", .kt [.str "number", .str "number", .str "number", .str "number"]), ("apart", .kt [.str "number", .str "number", .str "number", .str "number"])]) xs 73 rfl), gm_READERS := (He.glo_ok X G (x := "READERS") (fact_at (f := fun K => (He.Fa.glo "READERS").ok K) xs 74 rfl)), kd_READERS := dctB_ok D_READERS (fact_at (f := fun K => dctB K (He.ga K "READERS") [("number", .adr (He.ga K "read_number")), ("signs", .adr (He.ga K "read_signs")), ("sign", .adr (He.ga K "read_sign"))]) xs 75 rfl), g_SIGNS := (let ⟨_, h⟩ := He.str_ok X G (fact_at (f := fun K => (He.Fa.str "SIGNS" "?abcdef").ok K) xs 76 rfl); GlD.str h), g_FIGURES := (let ⟨_, h⟩ := He.str_ok X G (fact_at (f := fun K => (He.Fa.str "FIGURES" "0123456789").ok K) xs 77 rfl); GlD.str h), g_MOST_FIGURES := (let ⟨_, h⟩ := He.int_ok X G (fact_at (f := fun K => (He.Fa.int "MOST_FIGURES" 4).ok K) xs 78 rfl); GlD.int h) }
  have bl := F_law.bindsA (ps := ["_law_script"]) fun _ _ _ _ _ _ us hl => match us, hl with | [_], _ => rfl
  refine ⟨fd_law, [((He.codeOf K ("law", none)), (He.tabOf K (He.codeOf K ("law", none))), "law.<locals>." ++ "<lambda>")], by intro p hp; simp only [List.mem_cons, List.not_mem_nil, or_false] at hp; rcases hp with rfl; exact c.empty ("law", none) (by simp [tfs]), by intro p hp; simp only [List.mem_cons, List.not_mem_nil, or_false] at hp; rcases hp with rfl; exact c.out ("law", none) (by simp [tfs]), by intro p hp; simp only [List.mem_cons, List.not_mem_nil, or_false] at hp; rcases hp with rfl; exact PySem.W.codeHd_of_K X (c.hd ("law", none) (by simp [tfs])), fun s v => bl s [v] rfl, fun base hb hn hT => ?_⟩
  · have FL := ok_lime (P := l.prog) (w := w) (base := base) T.F_LimeError_init sc_LimeError_init rfl rfl rfl rfl T.n_ValueError ⟨_, fun _ => rfl⟩ (valC_ok (fact_at (f := fun K => valC K (.type "ValueError") (.type "type") "__init__" (.builtin "ValueError.__init__")) xs 82 rfl))
    have GL : XcOk K mg (He.ga K "LimeError") (He.ma K (He.ga K "LimeError") "__init__") fd_LimeError_init (.type "type") := ⟨T.k_LimeError, ⟨(fact_at (f := fun K => PySem.W.readsIn K (He.ga K "LimeError") (.type "type")) xs 83 rfl), He.eqO_ok (fact_at (f := fun K => He.eqO (PySem.W.specialIn K (.ref (He.ga K "LimeError")) "__getattribute__") (some (some (.builtin "type.__getattribute__")))) xs 84 rfl)⟩, valC_ok (fact_at (f := fun K => valC K (.ref (He.ga K "LimeError")) (.type "type") "__init__" (.ref (He.ma K (He.ga K "LimeError") "__init__"))) xs 85 rfl), F_LimeError_init.kp, T.b_LimeError_init⟩
    have FLH := hot_lime (P := l.prog) (w := w) (base := base) T.F_LimeError_init sc_LimeError_init rfl rfl rfl rfl T.n_ValueError ⟨_, fun _ => rfl⟩ (valC_ok (fact_at (f := fun K => valC K (.type "ValueError") (.type "type") "__init__" (.builtin "ValueError.__init__")) xs 82 rfl))
    have OX_BadCoat : OexC K (He.ga K "BadCoat") := oexB_ok (fact_at (f := fun K => oexB K (He.ga K "BadCoat")) xs 79 rfl)
    have Z_BadCoat : XcD l.prog w K mg base "BadCoat" (He.ga K "BadCoat") (He.ma K (He.ga K "BadCoat") "__init__") fd_BadCoat_init ["self"] 0 (fl0 "badcoat") (fd0 "badcoat") [] [] :=
      ⟨fl0_ok, OX_BadCoat, T.xf_BadCoat, T.i_BadCoat_init, T.t_BadCoat_init, ok_exc0 T.F_BadCoat_init sc_BadCoat_init rfl ⟨_, fun _ => rfl⟩ rfl rfl GL FL OX_BadCoat T.nc_BadCoat , ⟨[], .nil, T.b_BadCoat_init⟩, (fun _ _ => rfl), T.k_BadCoat, T.nc_BadCoat⟩
    have OX_BadShade : OexC K (He.ga K "BadShade") := oexB_ok (fact_at (f := fun K => oexB K (He.ga K "BadShade")) xs 80 rfl)
    have Z_BadShade : XcD l.prog w K mg base "BadShade" (He.ga K "BadShade") (He.ma K (He.ga K "BadShade") "__init__") fd_BadShade_init ["self"] 0 (fl0 "badshade") (fd0 "badshade") [] [] :=
      ⟨fl0_ok, OX_BadShade, T.xf_BadShade, T.i_BadShade_init, T.t_BadShade_init, ok_exc0 T.F_BadShade_init sc_BadShade_init rfl ⟨_, fun _ => rfl⟩ rfl rfl GL FL OX_BadShade T.nc_BadShade , ⟨[], .nil, T.b_BadShade_init⟩, (fun _ _ => rfl), T.k_BadShade, T.nc_BadShade⟩
    have OX_BadText : OexC K (He.ga K "BadText") := oexB_ok (fact_at (f := fun K => oexB K (He.ga K "BadText")) xs 81 rfl)
    have Z_BadText : XcD l.prog w K mg base "BadText" (He.ga K "BadText") (He.ma K (He.ga K "BadText") "__init__") fd_BadText_init ["self", "row"] 1 (fl1 "badtext" "row") (fd1 "badtext" "row") [V.int 0] [D.int 0] :=
      ⟨fl1_ok, OX_BadText, T.xf_BadText, T.i_BadText_init, T.t_BadText_init, ok_exc1d T.F_BadText_init sc_BadText_init rfl ⟨_, fun _ => rfl⟩ rfl rfl rfl GL FL OX_BadText T.nc_BadText T.nf_BadText_row (by decide) (by decide), (T.F_BadText_init.binds1 1 0 (by simp) rfl fun _ _ _ _ _ _ _ us its hu hi => match us, its, hu, hi with | [_], [_], _, _ => ⟨_, rfl, rfl⟩), (fun _ _ => ⟨_, _, rfl, rfl, rfl⟩), T.k_BadText, T.nc_BadText⟩
    have H_BadText : L2H.FnH l.prog w K mg base (L2.CX l.prog w) 2 (He.ma K (He.ga K "BadText") "__init__") fd_BadText_init ["self", "row"] (spX (He.ga K "BadText") 1 (fl1 "badtext" "row")) := hot_exc1d T.F_BadText_init sc_BadText_init rfl ⟨_, fun _ => rfl⟩ rfl rfl rfl GL FLH OX_BadText T.nc_BadText T.nf_BadText_row (by decide) (by decide)
    have I_Coats := ok_Coats_init (P := l.prog) (w := w) (base := base) T Z_BadShade
    have G_read_coats := ok_read_coats (P := l.prog) (w := w) (base := base) T Z_BadText I_Coats
    have G_read_number := ok_read_number (P := l.prog) (w := w) (base := base) T Z_BadText
    have M_Coats_len := ok_Coats_len (P := l.prog) (w := w) (base := base) T 
    have M_Coats_shade := ok_Coats_shade (P := l.prog) (w := w) (base := base) T Z_BadCoat
    have G_read_signs := ok_read_signs (P := l.prog) (w := w) (base := base) T Z_BadText G_read_coats M_Coats_len M_Coats_shade
    have G_read_sign := ok_read_sign (P := l.prog) (w := w) (base := base) T G_read_signs Z_BadText
    have G_read_words := ok_read_words (P := l.prog) (w := w) (base := base) T Z_BadText H_BadText G_read_number G_read_signs G_read_sign
    have G_read_fact := ok_read_fact (P := l.prog) (w := w) (base := base) T G_read_words
    have G_read_deed := ok_read_deed (P := l.prog) (w := w) (base := base) T Z_BadText G_read_number G_read_words
    have G__law_open := ok__law_open (P := l.prog) (w := w) (base := base) T 
    have G__law_pull := ok__law_pull (P := l.prog) (w := w) (base := base) T 
    have G__law_num := ok__law_num (P := l.prog) (w := w) (base := base) T 
    have G__law_like := ok__law_like (P := l.prog) (w := w) (base := base) T G__law_num
    have G__law_shades := ok__law_shades (P := l.prog) (w := w) (base := base) T G__law_pull
    have G__law_fact := ok__law_fact (P := l.prog) (w := w) (base := base) T G__law_pull G__law_shades
    have G__law_sign := ok__law_sign (P := l.prog) (w := w) (base := base) T 
    have G__law_fact_line := ok__law_fact_line (P := l.prog) (w := w) (base := base) T G__law_sign
    have G__law_deed_line := ok__law_deed_line (P := l.prog) (w := w) (base := base) T G__law_fact_line
    have G__law_wide_fact := ok__law_wide_fact (P := l.prog) (w := w) (base := base) T G__law_fact G__law_pull G__law_shades
    have G__law_wide_deed := ok__law_wide_deed (P := l.prog) (w := w) (base := base) T G__law_pull G__law_wide_fact
    have G__law_number_in := ok__law_number_in (P := l.prog) (w := w) (base := base) T 
    have G__law_fact_in := ok__law_fact_in (P := l.prog) (w := w) (base := base) T G__law_number_in
    have G__law_deed_in := ok__law_deed_in (P := l.prog) (w := w) (base := base) T G__law_number_in G__law_fact_in
    have G__law_spoilt := ok__law_spoilt (P := l.prog) (w := w) (base := base) T G__law_pull
    have G__law_row_of := ok__law_row_of (P := l.prog) (w := w) (base := base) T G_read_deed G_read_fact
    exact ok_law (P := l.prog) (w := w) (base := base) T G__law_open G__law_deed_line G__law_wide_deed G__law_pull G__law_spoilt G__law_deed_in G__law_fact_in G_read_deed G_read_fact G__law_like G__law_row_of (fun X _ _ hK hm => why_ok T X hK hm) (hT ((He.codeOf K ("law", none)), (He.tabOf K (He.codeOf K ("law", none))), _) List.mem_cons_self)
theorem roomLaw : Room 17 callerA := ⟨rfl, by decide, by decide⟩
end LW
open PySem PySem.W PySem.Calls
open PyProof.Rows
set_option maxRecDepth 100001 in
set_option maxHeartbeats 0 in
theorem PySem.Challenge.cw_limecoat_k42_lines_read_or_refused_holds : PySem.Challenge.rw_limecoat_k42_lines_read_or_refused.Holds := by
  w_on
  o_law
  refine HandSHeadRun.head_any (r := OpenLaw.row PySem.Challenge.rw_limecoat_k42_lines_read_or_refused) (q := LW.ViewL_) (H := LW.hk) (ob := LW.obs_) (M := 14000) (loose := LW.names) (d := HandSHeadRun.topDef (OpenLaw.row PySem.Challenge.rw_limecoat_k42_lines_read_or_refused).prog 39) (kwd := []) LW.obs_eq
    (by kernel_rfl) (fun s => by kernel_rfl) LW.run (by kernel_rfl) (by kernel_rfl) (by kernel_rfl) (by rfl) (by first | assumption | decide +kernel) (by decide +kernel) ⟨rfl, rfl, rfl, rfl, rfl, by decide +kernel⟩ ?hw ?hc
  case hw => w_witness2
  case hc =>
    refine LC.walk_endE (l := PySem.Challenge.rw_limecoat_k42_lines_read_or_refused) (k := 17) (x := "_law_script") rfl (by kernel_rfl) LW.roomLaw ?F
    intro w mg fa h Y G hmg0
    obtain ⟨K, KX, c⟩ := Y
    have hmg : mg ("law" : PySem.Str) = some (.ref fa) := by
      have e : (HandSHeadRun.topDef (OpenLaw.row PySem.Challenge.rw_limecoat_k42_lines_read_or_refused).prog 39).name = ("law" : PySem.Str) := by kernel_rfl
      rw [← e]
      exact hmg0
    exact ⟨K, KX, LW.all_mk KX G hmg c⟩
#print axioms PySem.Challenge.cw_limecoat_k42_lines_read_or_refused_holds
