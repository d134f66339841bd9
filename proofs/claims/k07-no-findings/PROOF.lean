import PyProof.Rows.All
import Wide.All
import OpenK.AllK
import Wide.FinOn
import HandS.ForMost
import HandS.ForExc
import HandS.CallSlots
import HandS.Lambda
import HandS.IsInst
import HandS.Deep
import HandS.TupAny
import HandS.Style
import HandS.Iter
import HandS.Text
import HandS.More
import HandS.SetFor
import HandS.Replace
import HandS.Comp
import HandS.Defaults
import HandS.ExcInit
import HandS.ExcField
import HandS.ClsMeth
import HandS.TryMany
import HandS.EndTab
import KE.KNestM
import KE.KCallOwn
import KE.KFmtOwn
import OpenK.KOps
import HandS.IntHex
import HandS.BoundDict
import HandS.SortInts
import HandS.Small
import KE.KDictSum
import HandS.ExcInitHot
import HandS.CallLocal
import HandS.TupMul
import PySem.Challenge.RW_limecoat_k07_no_findings
set_option Elab.async false
set_option linter.all false
set_option maxRecDepth 100000
/-! LD0: data by value, the objects that change by number, readings over them. -/
namespace LC
open PySem PySem.Spec
open PyProof.Rows L2

/-- data: what no longer changes stands by value, the rest by number -/
inductive D where
  | non | bl (b : Bool) | int (i : Int) | str (x : Str) | ty (n : String) | adr (a : Addr) | ref (k : Nat)
  | tup (xs : List D) | lst (xs : List D) | ins (C : Addr) (ns : List Str) (xs : List D)
  | dK (ks : List Key) (xs : List D) | dT (ks : List (List Key)) (xs : List D) | scr (ns : List Int) | bad

/-- an object that may change -/
inductive O where
  | lst (xs : List D)
  | drw
  | ins (C : Addr) (fs : List (Str × D))
  | dK (kvs : List (Key × D))
  | dT (kvs : List (List Key × D))
  | non

/-- where the objects are: those of the outer defs, one's own by number -/
structure Ph where
  hid : List Addr
  own : List Addr
/-- no object that may change -/
def Fz (φ : Ph) (a : Addr) : Prop := a ∉ φ.hid ∧ a ∉ φ.own
def KLst (K : PySem.W.Frag) (a : Addr) (xs : List V) : Prop := ∃ (o : Obj) (its : Array Value) (n : Nat),
      K.lookup a = some o ∧ o.cls = .type "list" ∧ o.dict = none ∧ o.data = .seq its n ∧ its.size ≤ sizeLine ∧ Vals xs its.toList
/-- a list that stays as it is -/
def LsA (K : PySem.W.Frag) (φ : Ph) (H : Hp) (a : Addr) (xs : List V) : Prop := (Fz φ a ∧ (H a = some (.lst xs) ∨ ∃ o, H a = some (.frz o (.lst xs)))) ∨ KLst K a xs
theorem LsA.sql {K : PySem.W.Frag} {φ : Ph} {H : Hp} {a : Addr} {xs : List V} (h : LsA K φ H a xs) : SqL K H a xs := by
  rcases h with ⟨_, h | ⟨o, h⟩⟩ | h
  · exact .inl (.inl h)
  · exact .inl (.inr ⟨o, h⟩)
  · exact .inr h

section
variable (K : PySem.W.Frag) (φ : Ph) (H : Hp)
mutual
def RV : D → V → Prop
  | .non, v => v = .non
  | .bl b, v => v = .bl b
  | .int i, v => v = .int i
  | .str x, v => v = .str x
  | .ty n, v => v = .ty n
  | .adr a, v => v = .ref a
  | .ref k, v => ∃ a, φ.own[k]? = some a ∧ v = .ref a
  | .tup ds, v => ∃ p vs, v = .ref p ∧ SqT K H p vs ∧ RVs ds vs
  | .lst ds, v => ∃ p vs, v = .ref p ∧ Fz φ p ∧ H p = some (.lst vs) ∧ RVs ds vs
  | .scr ns, v => ∃ p, v = .ref p ∧ LsA K φ H p (ns.map V.int)
  | .ins C ns ds, v => ∃ p dx vs, v = .ref p ∧ Fz φ p ∧ H p = some (.ins C dx (ns.zip vs)) ∧ ns.length = ds.length ∧ RVs ds vs
  | .dK ks ds, v => ∃ p vs, v = .ref p ∧ Fz φ p ∧ H p = some (.dK (ks.zip vs)) ∧ ks.length = ds.length ∧ RVs ds vs
  | .dT ks ds, v => ∃ p vs, v = .ref p ∧ Fz φ p ∧ H p = some (.dT (ks.zip vs)) ∧ ks.length = ds.length ∧ RVs ds vs
  | .bad, _ => False
def RVs : List D → List V → Prop
  | [], vs => vs = []
  | d :: ds, vs => ∃ v ws, vs = v :: ws ∧ RV d v ∧ RVs ds ws
end
/-- pairs with plain keys -/
def RKV {κ : Type} : List (κ × D) → List (κ × V) → Prop
  | [], l => l = []
  | p :: ps, l => ∃ v r, l = (p.1, v) :: r ∧ RV K φ H p.2 v ∧ RKV ps r
/-- the law's drawing: its list -/
def DrawL (l : List D) : Prop := ∃ (ns : List Int) (i r s : Int), l = [.lst (ns.map D.int), .int i, .int r, .int s] ∧ 0 ≤ i ∧ 0 ≤ r ∧ 0 ≤ s ∧ s < 2147483629
def Trk (a : Addr) : Prop := ∃ u, H a = some u ∧ ∀ ps, u ≠ HO.tbl ps
def RO : O → Addr → Prop
  | .lst xs, a => ∃ vs, H a = some (.lst vs) ∧ RVs K φ H xs vs
  | .drw, a => ∃ l vs, DrawL l ∧ H a = some (.lst vs) ∧ RVs K φ H l vs
  | .ins C fs, a => ∃ dx gs, H a = some (.ins C dx gs) ∧ RKV K φ H fs gs
  | .dK kvs, a => ∃ l, H a = some (.dK l) ∧ RKV K φ H kvs l
  | .dT kvs, a => ∃ l, H a = some (.dT l) ∧ RKV K φ H kvs l
  | .non, a => Trk H a
structure Rel (S : List O) : Prop where
  nd : φ.own.Nodup
  dj : ∀ a ∈ φ.hid, a ∉ φ.own
  hd : ∀ a ∈ φ.hid, Trk H a
  len : φ.own.length = S.length
  ob : ∀ (i : Nat) (o : O), S[i]? = some o → ∃ a, φ.own[i]? = some a ∧ RO K φ H o a
end
/-- numbers stay, what is by value stays -/
structure Ext (K : PySem.W.Frag) (φ φ' : Ph) (H H' : Hp) : Prop where
  hid : φ'.hid = φ.hid
  pre : φ.own <+: φ'.own
  tup : ∀ p vs, SqT K H p vs → SqT K H' p vs
  xd : ∀ p gs, H p = some (.xd gs) → H' p = some (.xd gs)
  fz : ∀ a u, a ∉ φ.own → H a = some u → (∀ ps, u ≠ .tbl ps) → a ∉ φ'.own ∧ H' a = some u
theorem Ext.refl {K : PySem.W.Frag} {φ : Ph} {H : Hp} : Ext K φ φ H H := ⟨rfl, List.prefix_refl _, fun _ _ h => h, fun _ _ h => h, fun _ _ h g _ => ⟨h, g⟩⟩
theorem Ext.trans {K : PySem.W.Frag} {φ φ1 φ2 : Ph} {H H1 H2 : Hp} (a : Ext K φ φ1 H H1) (b : Ext K φ1 φ2 H1 H2) : Ext K φ φ2 H H2 :=
  ⟨b.hid.trans a.hid, a.pre.trans b.pre, fun p vs h => b.tup p vs (a.tup p vs h), fun p gs h => b.xd p gs (a.xd p gs h), fun p u h g n => let ⟨h1, g1⟩ := a.fz p u h g n; b.fz p u h1 g1 n⟩
theorem Ext.get {K : PySem.W.Frag} {φ φ' : Ph} {H H' : Hp} (e : Ext K φ φ' H H') {k : Nat} {a : Addr} (h : φ.own[k]? = some a) : φ'.own[k]? = some a := by
  obtain ⟨t, ht⟩ := e.pre
  rw [← ht, List.getElem?_append_left (List.getElem?_eq_some_iff.mp h).1]; exact h
theorem Ext.frz {K : PySem.W.Frag} {φ φ' : Ph} {H H' : Hp} (e : Ext K φ φ' H H') {a : Addr} {u : HO} (h : Fz φ a) (g : H a = some u) (n : ∀ ps, u ≠ .tbl ps := by intro _ z; cases z) : Fz φ' a ∧ H' a = some u :=
  let ⟨h1, h2⟩ := e.fz a u h.2 g n
  ⟨⟨by rw [e.hid]; exact h.1, h1⟩, h2⟩
theorem LsA.mono {K : PySem.W.Frag} {φ φ' : Ph} {H H' : Hp} (e : Ext K φ φ' H H') {a : Addr} {xs : List V} (h : LsA K φ H a xs) : LsA K φ' H' a xs := by
  rcases h with ⟨f, h | ⟨o, h⟩⟩ | h
  · obtain ⟨f', h'⟩ := e.frz f h
    exact .inl ⟨f', .inl h'⟩
  · obtain ⟨f', h'⟩ := e.frz f h
    exact .inl ⟨f', .inr ⟨o, h'⟩⟩
  · exact .inr h

section
variable {K : PySem.W.Frag} {φ φ' : Ph} {H H' : Hp}
mutual
theorem RV.mono (e : Ext K φ φ' H H') : ∀ {d : D} {v : V}, RV K φ H d v → RV K φ' H' d v
  | .non, _, h => h
  | .bl _, _, h => h
  | .int _, _, h => h
  | .str _, _, h => h
  | .ty _, _, h => h
  | .adr _, _, h => h
  | .ref _, _, ⟨a, h1, h2⟩ => ⟨a, e.get h1, h2⟩
  | .tup _, _, ⟨p, vs, h1, h2, h3⟩ => ⟨p, vs, h1, e.tup _ _ h2, RVs.mono e h3⟩
  | .lst _, _, ⟨p, vs, h1, h2, h3, h4⟩ => let ⟨f, g⟩ := e.frz h2 h3; ⟨p, vs, h1, f, g, RVs.mono e h4⟩
  | .scr _, _, ⟨p, h1, h2⟩ => ⟨p, h1, h2.mono e⟩
  | .ins _ _ _, _, ⟨p, dx, vs, h1, h2, h3, h4, h5⟩ => let ⟨f, g⟩ := e.frz h2 h3; ⟨p, dx, vs, h1, f, g, h4, RVs.mono e h5⟩
  | .dK _ _, _, ⟨p, vs, h1, h2, h3, h4, h5⟩ => let ⟨f, g⟩ := e.frz h2 h3; ⟨p, vs, h1, f, g, h4, RVs.mono e h5⟩
  | .dT _ _, _, ⟨p, vs, h1, h2, h3, h4, h5⟩ => let ⟨f, g⟩ := e.frz h2 h3; ⟨p, vs, h1, f, g, h4, RVs.mono e h5⟩
  | .bad, _, h => h.elim
theorem RVs.mono (e : Ext K φ φ' H H') : ∀ {ds : List D} {vs : List V}, RVs K φ H ds vs → RVs K φ' H' ds vs
  | [], _, h => h
  | _ :: _, _, ⟨v, ws, h1, h2, h3⟩ => ⟨v, ws, h1, RV.mono e h2, RVs.mono e h3⟩
end
theorem RKV.mono {κ : Type} (e : Ext K φ φ' H H') : ∀ {ds : List (κ × D)} {vs : List (κ × V)}, RKV K φ H ds vs → RKV K φ' H' ds vs
  | [], _, h => h
  | _ :: _, _, ⟨v, ws, h1, h2, h3⟩ => ⟨v, ws, h1, RV.mono e h2, RKV.mono e h3⟩
theorem RVs.len : ∀ {ds : List D} {vs : List V}, RVs K φ H ds vs → vs.length = ds.length
  | [], _, h => by cases h; rfl
  | _ :: _, _, ⟨v, ws, h1, h2, h3⟩ => by subst h1; simp [RVs.len h3]
theorem RVs.app : ∀ {ds es : List D} {vs ws : List V}, RVs K φ H ds vs → RVs K φ H es ws → RVs K φ H (ds ++ es) (vs ++ ws)
  | [], _, _, _, h, g => by cases h; exact g
  | _ :: _, _, _, _, ⟨v, ws, h1, h2, h3⟩, g => by subst h1; exact ⟨v, _, rfl, h2, RVs.app h3 g⟩
theorem RVs.get : ∀ {ds : List D} {vs : List V} {i : Nat} {d : D}, RVs K φ H ds vs → ds[i]? = some d → ∃ v, vs[i]? = some v ∧ RV K φ H d v
  | [], _, _, _, _, e => by simp at e
  | _ :: _, _, 0, _, ⟨v, ws, h1, h2, h3⟩, e => by subst h1; simp at e; subst e; exact ⟨v, rfl, h2⟩
  | _ :: _, _, i + 1, _, ⟨v, ws, h1, h2, h3⟩, e => by subst h1; exact RVs.get (i := i) h3 (by simpa using e)
theorem RVs.set {d : D} {v : V} (r : RV K φ H d v) : ∀ {ds : List D} {vs : List V} (i : Nat), RVs K φ H ds vs → RVs K φ H (ds.set i d) (vs.set i v)
  | [], _, _, h => (by cases h; rfl)
  | _ :: _, _, 0, ⟨v', ws, h1, h2, h3⟩ => by subst h1; exact ⟨v, ws, rfl, r, h3⟩
  | _ :: _, _, i + 1, ⟨v', ws, h1, h2, h3⟩ => by subst h1; exact ⟨v', _, rfl, h2, RVs.set r i h3⟩
theorem RVs.take : ∀ {ds : List D} {vs : List V} (n : Nat), RVs K φ H ds vs → RVs K φ H (ds.take n) (vs.take n)
  | [], _, _, h => by cases h; simp [RVs]
  | _ :: _, _, 0, _ => by simp [RVs]
  | _ :: _, _, n + 1, ⟨v, ws, h1, h2, h3⟩ => by subst h1; exact ⟨v, _, rfl, h2, RVs.take n h3⟩
theorem RVs.drop : ∀ {ds : List D} {vs : List V} (n : Nat), RVs K φ H ds vs → RVs K φ H (ds.drop n) (vs.drop n)
  | [], _, _, h => by cases h; simp [RVs]
  | _ :: _, _, 0, h => h
  | _ :: _, _, n + 1, ⟨v, ws, h1, h2, h3⟩ => by subst h1; exact RVs.drop n h3
theorem RVs.ofInts : ∀ {ns : List Int}, RVs K φ H (ns.map D.int) (ns.map V.int)
  | [] => rfl
  | n :: _ => ⟨.int n, _, rfl, rfl, RVs.ofInts⟩
/-- pairs, split -/
theorem RKV.split {κ : Type} : ∀ {fs : List (κ × D)} {gs : List (κ × V)}, RKV K φ H fs gs → ∃ vs, gs = (fs.map (·.1)).zip vs ∧ RVs K φ H (fs.map (·.2)) vs
  | [], _, h => by cases h; exact ⟨[], rfl, rfl⟩
  | p :: ps, _, ⟨v, r, e, h1, h2⟩ => by
    obtain ⟨vs, e2, h3⟩ := RKV.split h2
    subst e e2
    exact ⟨v :: vs, rfl, v, vs, rfl, h1, h3⟩
theorem RVs.zip {κ : Type} : ∀ {ns : List κ} {ds : List D} {vs : List V}, RVs K φ H ds vs → ns.length = ds.length → RKV K φ H (ns.zip ds) (ns.zip vs)
  | [], [], _, h, _ => by cases h; rfl
  | n :: ns, d :: ds, _, ⟨v, ws, e, h1, h2⟩, hl => by subst e; exact ⟨v, _, rfl, h1, RVs.zip h2 (by simpa using hl)⟩
  | [], _ :: _, _, _, hl => by simp at hl
  | _ :: _, [], _, _, hl => by simp at hl
end

/-- the ground of a body: the numbers and the heap at its entry -/
structure Bs where
  φ0 : Ph
  H0 : Hp
  T : List (Addr × Str)
/-- a state over the ground -/
structure HR (K : PySem.W.Frag) (B : Bs) (φ : Ph) (H : Hp) (S : List O) : Prop where
  ext : Ext K B.φ0 φ B.H0 H
  rel : Rel K φ H S
  tab : LamX.Tabs B.T H
abbrev Sl := List (Option D)
structure EV (K : PySem.W.Frag) (φ : Ph) (H : Hp) (s : Sl) (σ : L2.St) : Prop where
  len : σ.length = s.length
  at' : ∀ (i : Nat) (d : D), s[i]? = some (some d) → ∃ v, σ[i]? = some (some v) ∧ RV K φ H d v
theorem EV.mono {X : Cx} {φ φ' : Ph} {H H' : Hp} {s : Sl} {σ : L2.St} (h : EV X.K φ H s σ) (e : Ext X.K φ φ' H H') : EV X.K φ' H' s σ :=
  ⟨h.len, fun i d q => let ⟨v, a, b⟩ := h.at' i d q; ⟨v, a, b.mono e⟩⟩
theorem HR.mono {X : Cx} {B : Bs} {φ φ' : Ph} {H H' : Hp} {S S' : List O} (h : HR X.K B φ H S) (e : Ext X.K φ φ' H H') (r : Rel X.K φ' H' S') (t : LamX.Tabs B.T H') : HR X.K B φ' H' S' := ⟨h.ext.trans e, r, t⟩

section
variable (K : PySem.W.Frag) (B : Bs)
/-- what is wanted of an outcome -/
def Kont {δ ν : Type} (rel : Ph → Hp → δ → ν → Prop) (φ : Ph) (H : Hp) (Q' : δ → List O → Prop) (Q : ν → Hp → Prop) : Prop :=
  ∀ φ' d S' v H', Ext K φ φ' H H' → HR K B φ' H' S' → rel φ' H' d v → Q' d S' → Q v H'
/-- a reading over data, as a reading of HandS's -/
def UP {δ ν : Type} (rel : Ph → Hp → δ → ν → Prop) (q : Sl → List O → (δ → List O → Prop) → Prop)   : L2.St → Hp → (ν → Hp → Prop) → Prop :=
  fun σ H Q => ∃ φ s S Q', HR K B φ H S ∧ EV K φ H s σ ∧ q s S Q' ∧ Kont K B rel φ H Q' Q
abbrev QE := Sl → List O → (D → List O → Prop) → Prop
abbrev QA := Sl → List O → (List D → List O → Prop) → Prop
abbrev QT := Sl → List O → (Bool → List O → Prop) → Prop
abbrev rD : Ph → Hp → D → V → Prop := fun φ H d v => RV K φ H d v
abbrev rDs : Ph → Hp → List D → List V → Prop := fun φ H d v => RVs K φ H d v
abbrev rB : Ph → Hp → Bool → Bool → Prop := fun _ _ a b => a = b
/-- wished behind a statement; the first n objects stay numbered -/
structure Ed where
  nx : Sl → List O → Prop
  rt : D → List O → Prop
  bk : Sl → List O → Prop := fun _ _ => False
  ct : Sl → List O → Prop := fun _ _ => False
  n : Nat
structure EK0 (φ : Ph) (H : Hp) (D' : Ed) (D : Ends) : Prop where
  hB : B.φ0.own.length ≤ D'.n
  hE : φ.own.length ≤ D'.n
  nx : ∀ φ' H' S' s' σ', Ext K φ φ' H H' → HR K B φ' H' S' → EV K φ' H' s' σ' → D'.nx s' S' → D.nx σ' H'
  rt : ∀ φ' H' S' d v, Ext K φ φ' H H' → HR K B φ' H' S' → RV K φ' H' d v → D'.rt d S' → D.rt v H'
  bk : ∀ φ' H' S' s' σ', Ext K φ φ' H H' → HR K B φ' H' S' → EV K φ' H' s' σ' → D'.bk s' S' → D.bk σ' H'
  ct : ∀ φ' H' S' s' σ', Ext K φ φ' H H' → HR K B φ' H' S' → EV K φ' H' s' σ' → D'.ct s' S' → D.ct σ' H'
/-- since some earlier time -/
def EK (φ : Ph) (H : Hp) (D' : Ed) (D : Ends) : Prop := ∃ φe He, Ext K φe φ He H ∧ EK0 K B φe He D' D
abbrev QS := Ed → Sl → List O → Prop
def US (q : QS) : TS := fun D σ H => ∃ φ s S D', HR K B φ H S ∧ EV K φ H s σ ∧ q D' s S ∧ EK K B φ H D' D
end
abbrev LE (X : Cx) (B : Bs) (e : Expr) (q : QE) : Prop := PE X e (UP X.K B (rD X.K) q)
abbrev LA (X : Cx) (B : Bs) (e : List Expr) (q : QA) : Prop := PA X e (UP X.K B (rDs X.K) q)
abbrev LT (X : Cx) (B : Bs) (e : Expr) (q : QT) : Prop := PT X e (UP X.K B rB q)
abbrev LW (X : Cx) (B : Bs) (e : Expr) (q : QT) : Prop := PW X e (UP X.K B rB q)
abbrev LKw (X : Cx) (B : Bs) (e : List Keyword) (q : QA) : Prop := PK X e (UP X.K B (rDs X.K) q)
abbrev LS (X : Cx) (B : Bs) (e : Stmt) (q : QS) : Prop := PS X e (US X.K B q)
abbrev LSs (X : Cx) (B : Bs) (e : List Stmt) (q : QS) : Prop := PSs X e (US X.K B q)
section
variable {X : Cx} {B : Bs} {φ φ1 : Ph} {H H1 : Hp} {D' : Ed} {D : Ends}
theorem EK.ext (k : EK X.K B φ H D' D) (e : Ext X.K φ φ1 H H1) : EK X.K B φ1 H1 D' D := let ⟨φe, He, x, k0⟩ := k; ⟨φe, He, x.trans e, k0⟩
theorem EK.nx (k : EK X.K B φ H D' D) : ∀ φ' H' S' s' σ', Ext X.K φ φ' H H' → HR X.K B φ' H' S' → EV X.K φ' H' s' σ' → D'.nx s' S' → D.nx σ' H' := let ⟨_, _, x, k0⟩ := k; fun φ' H' S' s' σ' e => k0.nx φ' H' S' s' σ' (x.trans e)
theorem EK.rt (k : EK X.K B φ H D' D) : ∀ φ' H' S' d v, Ext X.K φ φ' H H' → HR X.K B φ' H' S' → RV X.K φ' H' d v → D'.rt d S' → D.rt v H' := let ⟨_, _, x, k0⟩ := k; fun φ' H' S' s' σ' e => k0.rt φ' H' S' s' σ' (x.trans e)
theorem EK.bk (k : EK X.K B φ H D' D) : ∀ φ' H' S' s' σ', Ext X.K φ φ' H H' → HR X.K B φ' H' S' → EV X.K φ' H' s' σ' → D'.bk s' S' → D.bk σ' H' := let ⟨_, _, x, k0⟩ := k; fun φ' H' S' s' σ' e => k0.bk φ' H' S' s' σ' (x.trans e)
theorem EK.ct (k : EK X.K B φ H D' D) : ∀ φ' H' S' s' σ', Ext X.K φ φ' H H' → HR X.K B φ' H' S' → EV X.K φ' H' s' σ' → D'.ct s' S' → D.ct σ' H' := let ⟨_, _, x, k0⟩ := k; fun φ' H' S' s' σ' e => k0.ct φ' H' S' s' σ' (x.trans e)
/-- another wish behind, the same time -/
theorem EK.seq {f : Sl → List O → Prop} {D2 : Ends} (k : EK X.K B φ H D' D) (h : ∀ φ' H' S' s' σ', EK X.K B φ' H' D' D → HR X.K B φ' H' S' → EV X.K φ' H' s' σ' → f s' S' → D2.nx σ' H') (e1 : D2.rt = D.rt) (e2 : D2.bk = D.bk) (e3 : D2.ct = D.ct) : EK X.K B φ H { D' with nx := f } D2 :=
  let ⟨φe, He, x, k0⟩ := k
  ⟨φe, He, x, k0.hB, k0.hE, fun φ' H' S' s' σ' e hr ev q => h φ' H' S' s' σ' ⟨φe, He, e, k0⟩ hr ev q, by rw [e1]; exact k0.rt, by rw [e2]; exact k0.bk, by rw [e3]; exact k0.ct⟩
end
theorem Kont.ext {X : Cx} {B : Bs} {δ ν : Type} {rel : Ph → Hp → δ → ν → Prop} {φ φ1 : Ph} {H H1 : Hp} {Q' : δ → List O → Prop} {Q : ν → Hp → Prop} (k : Kont X.K B rel φ H Q' Q) (e : Ext X.K φ φ1 H H1) : Kont X.K B rel φ1 H1 Q' Q :=
  fun φ' d S' v H' e' hr r q => k φ' d S' v H' (e.trans e') hr r q
theorem PE.imp {X : Cx} {e : Expr} {t t' : TE} (h : PE X e t) (i : ∀ σ H Q, t' σ H Q → t σ H Q) : PE X e t' := ⟨fun pins s σ H Q I w => h.run pins s σ H Q I (i _ _ _ w)⟩
theorem PT.imp {X : Cx} {e : Expr} {t t' : TT} (h : PT X e t) (i : ∀ σ H Q, t' σ H Q → t σ H Q) : PT X e t' := ⟨fun pins s σ H Q I w => h.run pins s σ H Q I (i _ _ _ w)⟩
theorem PW.imp {X : Cx} {e : Expr} {t t' : TT} (h : PW X e t) (i : ∀ σ H Q, t' σ H Q → t σ H Q) : PW X e t' := ⟨fun wh pins s σ H Q I w => h.run wh pins s σ H Q I (i _ _ _ w)⟩
theorem PA.imp {X : Cx} {e : List Expr} {t t' : TA} (h : PA X e t) (i : ∀ σ H Q, t' σ H Q → t σ H Q) : PA X e t' := ⟨fun pos pins s σ H Q I w => h.run pos pins s σ H Q I (i _ _ _ w)⟩
theorem PS.imp {X : Cx} {e : Stmt} {t t' : TS} (h : PS X e t) (i : ∀ D σ H, t' D σ H → t D σ H) : PS X e t' := ⟨fun pins s σ H D I w => h.run pins s σ H D I (i _ _ _ w)⟩
theorem PSs.imp {X : Cx} {e : List Stmt} {t t' : TS} (h : PSs X e t) (i : ∀ D σ H, t' D σ H → t D σ H) : PSs X e t' := ⟨fun pins s σ H D I w => h.run pins s σ H D I (i _ _ _ w)⟩

/-! ### heaps change -/
section
variable {K : PySem.W.Frag} {φ : Ph} {H : Hp} {S : List O} {p : Addr} {o : HO}
/-- one more number -/
def Ph.add (φ : Ph) (p : Addr) : Ph := ⟨φ.hid, φ.own ++ [p]⟩
theorem ext_at {H' : Hp} (at_ : ∀ b u, H b = some u → H' b = some u) : Ext K φ φ H H' := ⟨rfl, List.prefix_refl _, fun q vs h => by
  rcases h with (h | ⟨ob, h⟩) | h
  · exact .inl (.inl (at_ _ _ h))
  · exact .inl (.inr ⟨ob, at_ _ _ h⟩)
  · exact .inr h, fun q gs h => at_ _ _ h, fun a u h g _ => ⟨h, at_ _ _ g⟩⟩
/-- a new object: all stays -/
theorem ext_new (hp : H p = none) : Ext K φ φ H (upd H p o) := ext_at fun b u z => by rw [upd_ne (ne_of_none z hp)]; exact z
theorem ext_add (hp : H p = none) : Ext K φ (φ.add p) H (upd H p o) := by
  have e := ext_new (K := K) (φ := φ) (o := o) hp
  refine ⟨rfl, List.prefix_append _ _, e.tup, e.xd, fun a u h g n => ⟨fun z => ?_, (e.fz a u h g n).2⟩⟩
  rcases List.mem_append.mp z with z | z
  · exact h z
  · rw [List.mem_singleton.mp z, hp] at g; cases g
/-- what an object's place says is kept where H keeps the object -/
theorem RO.mono {φ' : Ph} {H' : Hp} (e : Ext K φ φ' H H') {x : O} {a : Addr} (hk : ∀ u, H a = some u → (∀ ps, u ≠ HO.tbl ps) → H' a = some u) (h : RO K φ H x a) : RO K φ' H' x a := by
  cases x with
  | lst xs => obtain ⟨vs, h1, h2⟩ := h; exact ⟨vs, hk _ h1 (fun _ z => by cases z), h2.mono e⟩
  | drw => obtain ⟨l, vs, h0, h1, h2⟩ := h; exact ⟨l, vs, h0, hk _ h1 (fun _ z => by cases z), h2.mono e⟩
  | ins C fs => obtain ⟨dx, gs, h1, h2⟩ := h; exact ⟨dx, gs, hk _ h1 (fun _ z => by cases z), h2.mono e⟩
  | dK l => obtain ⟨m, h1, h2⟩ := h; exact ⟨m, hk _ h1 (fun _ z => by cases z), h2.mono e⟩
  | dT l => obtain ⟨m, h1, h2⟩ := h; exact ⟨m, hk _ h1 (fun _ z => by cases z), h2.mono e⟩
  | non => obtain ⟨u, h, g⟩ := h; exact ⟨u, hk _ h g, g⟩
theorem RO.is_some {x : O} {a : Addr} (h : RO K φ H x a) : Trk H a := by
  cases x with
  | lst xs => obtain ⟨vs, h1, h2⟩ := h; exact ⟨_, h1, fun _ z => by cases z⟩
  | drw => obtain ⟨l, vs, h0, h1, h2⟩ := h; exact ⟨_, h1, fun _ z => by cases z⟩
  | ins C fs => obtain ⟨dx, gs, h1, h2⟩ := h; exact ⟨_, h1, fun _ z => by cases z⟩
  | dK l => obtain ⟨m, h1, h2⟩ := h; exact ⟨_, h1, fun _ z => by cases z⟩
  | dT l => obtain ⟨m, h1, h2⟩ := h; exact ⟨_, h1, fun _ z => by cases z⟩
  | non => exact h
/-- what we change: lists, instances, dicts -/
def Mu : HO → Prop
  | .lst _ => True
  | .ins _ _ _ => True
  | .dK _ => True
  | .dT _ => True
  | _ => False
theorem tab_write {a : Addr} {u : HO} (hu : H a = some u) (m : Mu u) {q : Addr} {n : Str} (h : LamX.TabS H q n) : LamX.TabS (upd H a o) q n := by
  obtain ⟨ps, h1, h2, h3⟩ := h
  have nq : q ≠ a := fun z => by subst z; rw [hu] at h1; cases h1; exact m
  refine ⟨ps, by rw [upd_ne nq]; exact h1, h2, fun pos cv hc => ?_⟩
  have ⟨c, e1, e2⟩ := h3 pos cv hc
  have nc : c ≠ a := fun z => by
    subst z
    rw [hu] at e2
    have e3 : u = LamX.CodeO c n := Option.some.inj e2
    subst e3
    exact m
  exact ⟨c, e1, by rw [upd_ne nc]; exact e2⟩
/-- an object that may be changed -/
def O.mut : O → Bool
  | .non => false
  | _ => true
theorem RO.here {x : O} {a : Addr} (h : RO K φ H x a) (m : x.mut = true) : ∃ u, H a = some u ∧ Mu u := by
  cases x with
  | lst xs => obtain ⟨vs, h1, h2⟩ := h; exact ⟨_, h1, trivial⟩
  | drw => obtain ⟨l, vs, h0, h1, h2⟩ := h; exact ⟨_, h1, trivial⟩
  | ins C fs => obtain ⟨dx, gs, h1, h2⟩ := h; exact ⟨_, h1, trivial⟩
  | dK l => obtain ⟨m, h1, h2⟩ := h; exact ⟨_, h1, trivial⟩
  | dT l => obtain ⟨m, h1, h2⟩ := h; exact ⟨_, h1, trivial⟩
  | non => cases m
/-- all is kept -/
theorem Rel.kept {H' : Hp} (r : Rel K φ H S) (e : Ext K φ φ H H') (hk : ∀ b u, H b = some u → (∀ ps, u ≠ HO.tbl ps) → H' b = some u) : Rel K φ H' S :=
  ⟨r.nd, r.dj, fun a h => let ⟨u, g, z⟩ := r.hd a h; ⟨u, hk _ _ g z, z⟩, r.len, fun i x q => let ⟨a, h1, h2⟩ := r.ob i x q; ⟨a, h1, h2.mono e (hk a)⟩⟩
theorem Rel.own_some (r : Rel K φ H S) {a : Addr} (h : a ∈ φ.own) : Trk H a := by
  obtain ⟨i, hi⟩ := List.getElem?_of_mem h
  have hl : i < S.length := by rw [← r.len]; exact (List.getElem?_eq_some_iff.mp hi).1
  obtain ⟨a', h1, h2⟩ := r.ob i _ (List.getElem?_eq_getElem hl)
  rw [hi] at h1; cases h1
  exact h2.is_some
/-- a new object -/
theorem Rel.push {x : O} (r : Rel K φ H S) (hp : H p = none) (h : RO K (φ.add p) (upd H p o) x p) : Rel K (φ.add p) (upd H p o) (S ++ [x]) := by
  have e : Ext K φ (φ.add p) H (upd H p o) := ext_add hp
  have hk : ∀ b u, H b = some u → upd H p o b = some u := fun b u z => by rw [upd_ne (ne_of_none z hp)]; exact z
  have np : p ∉ φ.own := fun z => by obtain ⟨u, hu, _⟩ := r.own_some z; rw [hp] at hu; cases hu
  refine ⟨?_, fun a ha z => ?_, fun a ha => let ⟨u, g, z⟩ := r.hd a ha; ⟨u, hk _ _ g, z⟩, by simp [Ph.add, r.len], fun i y q => ?_⟩
  · show (φ.own ++ [p]).Nodup
    rw [List.nodup_append]
    refine ⟨r.nd, by simp, fun a ha b hb z => ?_⟩
    rw [List.mem_singleton.mp hb] at z
    exact np (z ▸ ha)
  · rcases List.mem_append.mp z with z | z
    · exact r.dj a ha z
    · obtain ⟨u, g, _⟩ := r.hd a ha
      rw [List.mem_singleton.mp z, hp] at g; cases g
  · by_cases hl : i < S.length
    · rw [List.getElem?_append_left hl] at q
      obtain ⟨a, h1, h2⟩ := r.ob i y q
      exact ⟨a, e.get h1, h2.mono e fun u hu _ => hk _ _ hu⟩
    · rw [List.getElem?_append_right (by omega)] at q
      have h0 : i - S.length = 0 := by
        have := (List.getElem?_eq_some_iff.mp q).1
        simp at this; omega
      rw [h0] at q
      simp at q
      subst q
      have hi : i = φ.own.length := by rw [r.len]; omega
      exact ⟨p, by show (φ.own ++ [p])[i]? = _; rw [hi]; simp, h⟩
/-- an object is written -/
theorem ext_write {a : Addr} {u : HO} (hu : H a = some u) (m : Mu u) (ho : a ∈ φ.own) : Ext K φ φ H (upd H a o) := ⟨rfl, List.prefix_refl _, fun q vs h => by
  have ne : ∀ {q : Addr} {v : HO}, H q = some v → ¬ Mu v → q ≠ a := fun {q v} h1 h2 z => by
    subst z
    rw [hu] at h1; cases h1; exact h2 m
  rcases h with (h | ⟨ob, h⟩) | h
  · exact .inl (.inl (by rw [upd_ne (ne h fun z => z)]; exact h))
  · exact .inl (.inr ⟨ob, by rw [upd_ne (ne h fun z => z)]; exact h⟩)
  · exact .inr h, fun q gs h => by
    have nq : q ≠ a := fun z => by subst z; rw [hu] at h; cases h; exact m
    rw [upd_ne nq]; exact h, fun b v h g _ => ⟨h, by rw [upd_ne (fun z => h (z ▸ ho) : b ≠ a)]; exact g⟩⟩
theorem Rel.write {x y : O} {k : Nat} {a : Addr} (r : Rel K φ H S) (hx : S[k]? = some x) (m : x.mut = true) (ha : φ.own[k]? = some a) (h : RO K φ (upd H a o) y a) : Rel K φ (upd H a o) (S.set k y) := by
  obtain ⟨a', h1, h2⟩ := r.ob k x hx
  rw [ha] at h1; cases h1
  obtain ⟨u, hu, mu⟩ := h2.here m
  have mo : a ∈ φ.own := List.mem_of_getElem? ha
  have e : Ext K φ φ H (upd H a o) := ext_write hu mu mo
  have hl : k < S.length := (List.getElem?_eq_some_iff.mp hx).1
  refine ⟨r.nd, r.dj, fun b hb => ?_, by simpa using r.len, fun i z q => ?_⟩
  · obtain ⟨v, g, gz⟩ := r.hd b hb
    exact ⟨v, by rw [upd_ne (fun z => r.dj b hb (z ▸ mo) : b ≠ a)]; exact g, gz⟩
  · by_cases hi : i = k
    · subst hi
      rw [List.getElem?_set_self hl] at q
      cases q
      exact ⟨a, ha, h⟩
    · rw [List.getElem?_set_ne (Ne.symm hi)] at q
      obtain ⟨b, h3, h4⟩ := r.ob i z q
      have hb : b ≠ a := fun hz => by
        subst hz
        obtain ⟨l1, g1⟩ := List.getElem?_eq_some_iff.mp h3
        obtain ⟨l2, g2⟩ := List.getElem?_eq_some_iff.mp ha
        exact hi ((List.getElem_inj r.nd).mp (g1.trans g2.symm))
      exact ⟨b, h3, h4.mono e fun v hv _ => by rw [upd_ne hb]; exact hv⟩
end
end LC

set_option Elab.async false
set_option linter.all false
set_option maxRecDepth 100000
set_option maxHeartbeats 5000000
/-! LD1: expressions over data. -/
namespace LC
open PySem PySem.Spec
open PyProof.Rows L2

/-- a where c is true, b where it is not -/
def Br (c : Bool) (a b : Prop) : Prop := match c with
  | true => a
  | false => b
theorem Br.mk {c : Bool} {a b : Prop} (h : c = true → a) (g : c = false → b) : Br c a b := by cases c; exact g rfl; exact h rfl
theorem Br.t {c : Bool} {a b : Prop} (h : Br c a b) (e : c = true) : a := by subst e; exact h
theorem Br.f {c : Bool} {a b : Prop} (h : Br c a b) (e : c = false) : b := by subst e; exact h
theorem lif {c : Bool} {P Q : Prop} (h1 : c = true → P) (h2 : c = false → Q) : Br c P Q := Br.mk h1 h2
theorem lifT {c : Bool} {P Q : Prop} (h : c = true) (p : P) : Br c P Q := by subst h; exact p
theorem lifF {c : Bool} {P Q : Prop} (h : c = false) (q : Q) : Br c P Q := by subst h; exact q
/-- a test of a decided thing -/
theorem brd {p : Prop} [i : Decidable p] {P Q : Prop} (h1 : p → P) (h2 : ¬ p → Q) : Br (decide p) P Q := Br.mk (fun e => h1 (of_decide_eq_true e)) (fun e => h2 (of_decide_eq_false e))
theorem brT {p : Prop} [i : Decidable p] {P Q : Prop} (h : p) (q : P) : Br (decide p) P Q := lifT (decide_eq_true h) q
theorem brF {p : Prop} [i : Decidable p] {P Q : Prop} (h : ¬ p) (q : Q) : Br (decide p) P Q := lifF (decide_eq_false h) q
/-- a side condition, then the rest -/
structure Need (c q : Prop) : Prop where
  c : c
  q : q

section
variable {X : Cx} {B : Bs} {δ ν : Type} {rel : Ph → Hp → δ → ν → Prop} {φ : Ph} {H : Hp} {S : List O}
theorem Kont.here {Q' : δ → List O → Prop} {Q : ν → Hp → Prop} {d : δ} {v : ν} (k : Kont X.K B rel φ H Q' Q) (hr : HR X.K B φ H S) (r : rel φ H d v) (q : Q' d S) : Q v H := k φ d S v H Ext.refl hr r q
theorem tabs_new {H : Hp} {p : Addr} {o : HO} {T : List (Addr × Str)} (hp : H p = none) (t : LamX.Tabs T H) : LamX.Tabs T (upd H p o) := t.ext fun b u z => by rw [upd_ne (ne_of_none z hp)]; exact z
theorem tabs_write {H : Hp} {a : Addr} {u o : HO} {T : List (Addr × Str)} (hu : H a = some u) (m : Mu u) (t : LamX.Tabs T H) : LamX.Tabs T (upd H a o) := fun p hp => tab_write hu m (t p hp)
theorem HR.new {p : Addr} {o : HO} {x : O} (hr : HR X.K B φ H S) (hp : H p = none) (h : RO X.K (φ.add p) (upd H p o) x p) : HR X.K B (φ.add p) (upd H p o) (S ++ [x]) :=
  hr.mono (ext_add hp) (hr.rel.push hp h) (tabs_new hp hr.tab)
theorem Rel.last {K : PySem.W.Frag} (r : Rel K φ H S) (p : Addr) : (φ.add p).own[S.length]? = some p := by show (φ.own ++ [p])[_]? = _; rw [← r.len]; simp
/-- a new object that may change -/
theorem Kont.new {Q' : D → List O → Prop} {Q : VK} {p : Addr} {o : HO} {x : O} (k : Kont X.K B (rD X.K) φ H Q' Q) (hr : HR X.K B φ H S) (hp : H p = none) (h : RO X.K (φ.add p) (upd H p o) x p) (q : Q' (.ref S.length) (S ++ [x])) : Q (.ref p) (upd H p o) :=
  k _ _ _ _ _ (ext_add hp) (hr.new hp h) (show RV X.K _ _ (.ref S.length) _ from ⟨p, hr.rel.last p, rfl⟩) q
theorem HR.fix {p : Addr} {o : HO} (hr : HR X.K B φ H S) (hp : H p = none) : HR X.K B φ (upd H p o) S :=
  hr.mono (ext_new hp) (hr.rel.kept (ext_new hp) fun b u z _ => by rw [upd_ne (ne_of_none z hp)]; exact z) (tabs_new hp hr.tab)
theorem Rel.new_fz {K : PySem.W.Frag} {p : Addr} (r : Rel K φ H S) (hp : H p = none) : Fz φ p :=
  ⟨fun z => let ⟨u, g, _⟩ := r.hd p z; (nomatch hp.symm.trans g), fun z => let ⟨u, g, _⟩ := r.own_some z; (nomatch hp.symm.trans g)⟩
theorem RV.tup_new {K : PySem.W.Frag} {p : Addr} {ds : List D} {vs : List V} (hp : H p = none) (r : RVs K φ H ds vs) : RV K φ (upd H p (.tup vs)) (.tup ds) (.ref p) :=
  ⟨p, vs, rfl, .inl (.inl upd_same), r.mono (ext_new hp)⟩
theorem Kont.tup {Q' : D → List O → Prop} {Q : VK} {p : Addr} {ds : List D} {vs : List V} (k : Kont X.K B (rD X.K) φ H Q' Q) (hr : HR X.K B φ H S) (hp : H p = none) (r : RVs X.K φ H ds vs) (q : Q' (.tup ds) S) : Q (.ref p) (upd H p (.tup vs)) :=
  k _ _ _ _ _ (ext_new hp) (hr.fix hp) (RV.tup_new hp r) q
theorem RV.lst_new {K : PySem.W.Frag} {p : Addr} {ds : List D} {vs : List V} (rl : Rel K φ H S) (hp : H p = none) (r : RVs K φ H ds vs) : RV K φ (upd H p (.lst vs)) (.lst ds) (.ref p) :=
  ⟨p, vs, rfl, rl.new_fz hp, upd_same, r.mono (ext_new hp)⟩
/-- a new list that stays as it is -/
theorem Kont.lst {Q' : D → List O → Prop} {Q : VK} {p : Addr} {ds : List D} {vs : List V} (k : Kont X.K B (rD X.K) φ H Q' Q) (hr : HR X.K B φ H S) (hp : H p = none) (r : RVs X.K φ H ds vs) (q : Q' (.lst ds) S) : Q (.ref p) (upd H p (.lst vs)) :=
  k _ _ _ _ _ (ext_new hp) (hr.fix hp) (RV.lst_new hr.rel hp r) q
theorem Kont.lstM {Q' : D → List O → Prop} {Q : VK} {p : Addr} {ds : List D} {vs : List V} (k : Kont X.K B (rD X.K) φ H Q' Q) (hr : HR X.K B φ H S) (hp : H p = none) (r : RVs X.K φ H ds vs) (q : Q' (.ref S.length) (S ++ [.lst ds])) : Q (.ref p) (upd H p (.lst vs)) :=
  k.new (x := .lst ds) hr hp ⟨vs, upd_same, r.mono (ext_add hp)⟩ q
theorem HR.write {a : Addr} {o : HO} {x y : O} {k : Nat} (hr : HR X.K B φ H S) (hx : S[k]? = some x) (m : x.mut = true) (ha : φ.own[k]? = some a) (h : Ext X.K φ φ H (upd H a o) → RO X.K φ (upd H a o) y a) : Ext X.K φ φ H (upd H a o) ∧ HR X.K B φ (upd H a o) (S.set k y) := by
  obtain ⟨a', h1, h2⟩ := hr.rel.ob k x hx
  rw [ha] at h1; cases h1
  obtain ⟨u, hu, mu⟩ := h2.here m
  have e : Ext X.K φ φ H (upd H a o) := ext_write hu mu (List.mem_of_getElem? ha)
  exact ⟨e, hr.mono e (hr.rel.write hx m ha (h e)) (tabs_write hu mu hr.tab)⟩
/-- an object is written -/
theorem Kont.write {Q' : D → List O → Prop} {Q : VK} {a : Addr} {o : HO} {x y : O} {k' : Nat} {d : D} {v : V} (k : Kont X.K B (rD X.K) φ H Q' Q) (hr : HR X.K B φ H S) (hx : S[k']? = some x) (m : x.mut = true) (ha : φ.own[k']? = some a) (h : Ext X.K φ φ H (upd H a o) → RO X.K φ (upd H a o) y a)
    (rv : ∀ H', Ext X.K φ φ H H' → RV X.K φ H' d v) (q : Q' d (S.set k' y)) : Q v (upd H a o) := by
  obtain ⟨e, hr'⟩ := hr.write hx m ha h
  exact k _ _ _ _ _ e hr' (rv _ e) q
theorem HR.lstO {k : Nat} {xs : List D} (hr : HR X.K B φ H S) (h : S[k]? = some (.lst xs)) : ∃ a vs, φ.own[k]? = some a ∧ H a = some (.lst vs) ∧ RVs X.K φ H xs vs :=
  let ⟨a, h1, vs, h2, h3⟩ := hr.rel.ob k _ h; ⟨a, vs, h1, h2, h3⟩
/-- the list that a value is -/
def lsOf (S : List O) (d : D) : Option (List D) := match d with
  | .lst xs => some xs
  | .ref k => match S[k]? with
    | some (.lst xs) => some xs
    | _ => none
  | _ => none
theorem HR.ls {d : D} {v : V} {xs : List D} (hr : HR X.K B φ H S) (h : lsOf S d = some xs) (r : RV X.K φ H d v) : ∃ a vs, v = .ref a ∧ H a = some (.lst vs) ∧ RVs X.K φ H xs vs := by
  unfold lsOf at h
  split at h
  · cases h
    obtain ⟨p, vs, h1, _, h2, h3⟩ := r
    exact ⟨p, vs, h1, h2, h3⟩
  · rename_i k
    split at h
    · rename_i ys e
      cases h
      obtain ⟨a, vs, h1, h2, h3⟩ := hr.lstO e
      obtain ⟨b, ea, rfl⟩ := r
      rw [h1] at ea; cases ea
      exact ⟨_, vs, rfl, h2, h3⟩
    · cases h
  · cases h
/-- the items of a list or a tuple -/
def itemsOf (S : List O) (d : D) : Option (List D) := match d with
  | .tup xs => some xs
  | .scr ns => some (ns.map D.int)
  | d => lsOf S d
theorem HR.items {d : D} {v : V} {xs : List D} (hr : HR X.K B φ H S) (h : itemsOf S d = some xs) (r : RV X.K φ H d v) : ∃ p vs, v = .ref p ∧ (SqL X.K H p vs ∨ SqT X.K H p vs) ∧ RVs X.K φ H xs vs := by
  unfold itemsOf at h
  split at h
  · cases h
    obtain ⟨p, vs, rfl, h1, h2⟩ := r
    exact ⟨p, vs, rfl, .inr h1, h2⟩
  · cases h
    obtain ⟨p, rfl, h1⟩ := r
    exact ⟨p, _, rfl, .inl h1.sql, .ofInts⟩
  · obtain ⟨a, vs, rfl, h1, h2⟩ := hr.ls h r
    exact ⟨a, vs, rfl, .inl (.inl (.inl h1)), h2⟩
end

/-! ### names, constants -/
section
variable {X : Cx} {B : Bs}
def qVar (i : Nat) : QE := fun s S Q => match s[i]? with
  | some (some d) => Q d S
  | _ => False
theorem le_var {e : Expr} {i : Nat} (h : PE X e (tVar i)) : LE X B e (qVar i) := PE.imp h fun σ H Q ⟨φ, s, S, Q', hr, ev, q, k⟩ => by
  unfold qVar at q
  split at q
  · rename_i d e
    obtain ⟨v, h1, h2⟩ := ev.at' i d e
    exact ⟨v, h1, k.here hr h2 q⟩
  · exact q.elim
theorem lv (i : Nat) {x : Str} {pos : Pos} (hN : X.N[i]? = some x := by rfl) (hv : Vis X.env.scope x := by first | exact Or.inl rfl | exact Or.inr (Or.inl rfl) | exact Or.inr (Or.inr rfl)) (hd : (x == ("__debug__" : Str)) = false := by decide)
    (hcd : (x == ("__classdict__" : Str)) = false := by decide) : LE X B (.Name x pos) (qVar i) := le_var (pe_var hN hv hd hcd)
def qC (d : D) : QE := fun _ S Q => Q d S
theorem le_c {e : Expr} {v : V} {d : D} (h : PE X e (tC v)) (r : ∀ φ H, RV X.K φ H d v) : LE X B e (qC d) := PE.imp h fun σ H Q ⟨φ, s, S, Q', hr, ev, q, k⟩ => k.here hr (r _ _) q
theorem le_int {i j pos} : LE X B (.Constant (.int i) j pos) (qC (.int i)) := le_c pe_int fun _ _ => rfl
theorem le_str {i j pos} : LE X B (.Constant (.str i) j pos) (qC (.str i)) := le_c pe_str fun _ _ => rfl
theorem le_bl {i j pos} : LE X B (.Constant (.bool i) j pos) (qC (.bl i)) := le_c pe_bl fun _ _ => rfl
theorem le_non {j pos} : LE X B (.Constant .none j pos) (qC .non) := le_c pe_non fun _ _ => rfl
/-- a module's name that holds an int, a text, an object -/
theorem le_glob {x : Str} {v : V} {d : D} {u : Value} {pos : Pos} (hg : Gl X x) (hm : X.mg x = some u) (r : RelV v u) (rd : ∀ φ H, RV X.K φ H d v) (hd : (x == ("__debug__" : Str)) = false := by decide) : LE X B (.Name x pos) (qC d) := le_c (pe_glob hg hm r hd) rd

/-! ### two places -/
abbrev QO := D → D → List O → (D → List O → Prop) → Prop
def upR (K : PySem.W.Frag) (B : Bs) (ro : QO) : R2 := fun x y H Q => ∃ φ S d e Q', HR K B φ H S ∧ RV K φ H d x ∧ RV K φ H e y ∧ ro d e S Q' ∧ Kont K B (rD K) φ H Q' Q
theorem OpR.imp {f : Value → Value → Sem Value} {r r' : R2} (h : OpR X f r) (i : ∀ x y H Q, r' x y H Q → r x y H Q) : OpR X f r' :=
  fun pins s σ H x y v u Q I rx ry q => h pins s σ H x y v u Q I rx ry (i _ _ _ _ q)
def qOp (ro : QO) (qa qb : QE) : QE := fun s S Q => qa s S fun x S1 => qb s S1 fun y S2 => ro x y S2 Q
theorem up_op {ro : QO} {qa qb : QE} {σ : L2.St} {H : Hp} {Q : VK} (h : UP X.K B (rD X.K) (qOp ro qa qb) σ H Q) : tOp (upR X.K B ro) (UP X.K B (rD X.K) qa) (UP X.K B (rD X.K) qb) σ H Q := by
  obtain ⟨φ, s, S, Q', hr, ev, q, k⟩ := h
  refine ⟨φ, s, S, _, hr, ev, q, fun φ1 d S1 v H1 e1 hr1 r1 q1 => ?_⟩
  refine ⟨φ1, s, S1, _, hr1, ev.mono e1, q1, fun φ2 d2 S2 v2 H2 e2 hr2 r2 q2 => ?_⟩
  exact ⟨φ2, S2, d, d2, Q', hr2, r1.mono e2, r2, q2, k.ext (e1.trans e2)⟩
variable {a b c : Expr} {qa qb qc : QE} {pos : Pos} {ro ro' : QO}
theorem le_op {op : Operator} (ho : OpR X (binaryOp op) (upR X.K B ro)) (ha : LE X B a qa) (hb : LE X B b qb) : LE X B (.BinOp a op b pos) (qOp ro qa qb) := PE.imp (pe_op ho ha hb) fun _ _ _ => up_op
theorem le_cmp {op : CmpOp} (ho : OpR X (compareOp op) (upR X.K B ro)) (ha : LE X B a qa) (hb : LE X B b qb) (hm : behindInMarks op b = false) : LE X B (.Compare a [op] [b] pos) (qOp ro qa qb) := PE.imp (pe_cmpR ho ha hb hm) fun _ _ _ => up_op
def qTest (q : QE) : QT := fun s S Q => q s S fun d S1 => match d with
  | .bl b => Q b S1
  | _ => False
theorem up_test {q : QE} {t : TE} (hi : ∀ σ H Q, UP X.K B (rD X.K) q σ H Q → t σ H Q) {σ : L2.St} {H : Hp} {Q : Bool → Hp → Prop} (h : UP X.K B rB (qTest q) σ H Q) : tTest t σ H Q := by
  obtain ⟨φ, s, S, Q', hr, ev, q, k⟩ := h
  refine hi _ _ _ ⟨φ, s, S, _, hr, ev, q, fun φ1 d S1 v H1 e1 hr1 r1 q1 => ?_⟩
  split at q1
  · rename_i b
    exact ⟨b, r1, k _ _ _ _ _ e1 hr1 rfl q1⟩
  · exact q1.elim
theorem lt_cmp {op : CmpOp} (ho : OpR X (compareOp op) (upR X.K B ro)) (ha : LE X B a qa) (hb : LE X B b qb) (hm : behindInMarks op b = false) : LT X B (.Compare a [op] [b] pos) (qTest (qOp ro qa qb)) := PT.imp (pt_cmpR ho ha hb hm) fun _ _ _ => up_test fun _ _ _ => up_op
def qChain (r r' : QO) (qa qb qc : QE) : QE := fun s S Q => qa s S fun x S1 => qb s S1 fun y S2 => r x y S2 fun z S3 => match z with
  | .bl k => Br k (qc s S3 fun w S4 => r' y w S4 Q) (Q (.bl false) S3)
  | _ => False
theorem up_chain {σ : L2.St} {H : Hp} {Q : VK} (h : UP X.K B (rD X.K) (qChain ro ro' qa qb qc) σ H Q) : tChain (upR X.K B ro) (upR X.K B ro') (UP X.K B (rD X.K) qa) (UP X.K B (rD X.K) qb) (UP X.K B (rD X.K) qc) σ H Q := by
  obtain ⟨φ, s, S, Q', hr, ev, q, k⟩ := h
  refine ⟨φ, s, S, _, hr, ev, q, fun φ1 d S1 v H1 e1 hr1 r1 q1 => ?_⟩
  refine ⟨φ1, s, S1, _, hr1, ev.mono e1, q1, fun φ2 d2 S2 v2 H2 e2 hr2 r2 q2 => ?_⟩
  refine ⟨φ2, S2, d, d2, _, hr2, r1.mono e2, r2, q2, fun φ3 d3 S3 v3 H3 e3 hr3 r3 q3 => ?_⟩
  split at q3
  · rename_i kb
    refine ⟨kb, r3, ?_⟩
    cases kb with
    | false => exact k _ (.bl false) _ _ _ (e1.trans (e2.trans e3)) hr3 rfl (q3.f rfl)
    | true =>
      rw [if_pos rfl]
      refine ⟨φ3, s, S3, _, hr3, ev.mono (e1.trans (e2.trans e3)), q3.t rfl, fun φ4 d4 S4 v4 H4 e4 hr4 r4 q4 => ?_⟩
      exact ⟨φ4, S4, d2, d4, Q', hr4, r2.mono (e3.trans e4), r4, q4, k.ext (e1.trans (e2.trans (e3.trans e4)))⟩
  · exact q3.elim
theorem le_chain {op op' : CmpOp} (ho : OpR X (compareOp op) (upR X.K B ro)) (ho' : OpR X (compareOp op') (upR X.K B ro')) (ha : LE X B a qa) (hb : LE X B b qb) (hc : LE X B c qc)
    (hm : lastMarks [op, op'] [b, c] = false := by with_unfolding_all rfl) : LE X B (.Compare a [op, op'] [b, c] pos) (qChain ro ro' qa qb qc) := PE.imp (pe_chain ho ho' ha hb hc hm) fun _ _ _ => up_chain
/-! ### whole numbers -/
def oI (C : Int → Int → Prop) (f : Int → Int → Int) : QO := fun d e S Q => match d, e with
  | .int i, .int j => Need (C i j) (Q (.int (f i j)) S)
  | _, _ => False
theorem lift_I {C : Int → Int → Prop} {f : Int → Int → Int} {x y : V} {H : Hp} {Q : VK} (h : upR X.K B (oI C f) x y H Q) : rI C (fun i j => .int (f i j)) x y H Q := by
  obtain ⟨φ, S, d, e, Q', hr, r1, r2, q, k⟩ := h
  unfold oI at q
  split at q
  · exact ⟨_, _, r1, r2, q.c, k.here (d := D.int _) hr rfl q.q⟩
  · exact q.elim
def oI0 (f : Int → Int → Int) : QO := fun d e S Q => match d, e with
  | .int i, .int j => Q (.int (f i j)) S
  | _, _ => False
theorem lift_I0 {f : Int → Int → Int} {x y : V} {H : Hp} {Q : VK} (h : upR X.K B (oI0 f) x y H Q) : rI0 (fun i j => .int (f i j)) x y H Q := by
  obtain ⟨φ, S, d, e, Q', hr, r1, r2, q, k⟩ := h
  unfold oI0 at q
  split at q
  · exact ⟨_, _, r1, r2, k.here (d := D.int _) hr rfl q⟩
  · exact q.elim
theorem oo_sub : OpR X (binaryOp .Sub) (upR X.K B (oI0 fun i j => i - j)) := OpR.imp op_sub fun _ _ _ _ => lift_I0
theorem oo_fdiv : OpR X (binaryOp .FloorDiv) (upR X.K B (oI CDiv fun i j => i / j)) := OpR.imp op_fdiv fun _ _ _ _ => lift_I
theorem oo_mod : OpR X (binaryOp .Mod) (upR X.K B (oI (fun _ j => 0 < j) fun i j => i % j)) := OpR.imp op_mod fun _ _ _ _ => lift_I
theorem oo_pow : OpR X (binaryOp .Pow) (upR X.K B (oI CPow fun i j => i ^ j.toNat)) := OpR.imp op_pow fun _ _ _ _ => lift_I
/-- + of ints, texts, tuples, lists -/
def oAdd : QO := fun d e S Q => match d, e with
  | .int i, .int j => Q (.int (i + j)) S
  | .str i, .str j => Need (i.length + j.length ≤ sizeLine) (Q (.str (i ++ j)) S)
  | .tup xs, .tup ys => Need (xs ≠ [] ∧ xs.length + ys.length ≤ sizeLine) (Q (.tup (xs ++ ys)) S)
  | d, e => match lsOf S d, lsOf S e with
    | some xs, some ys => Need (xs.length + ys.length ≤ sizeLine) (Q (.lst (xs ++ ys)) S)
    | _, _ => False
theorem oo_add : OpR X (binaryOp .Add) (upR X.K B oAdd) := OpR.imp (op_add.or (op_add_str.or (op_catT.or op_cat))) fun x y H Q h => by
  obtain ⟨φ, S, d, e, Q', hr, r1, r2, q, k⟩ := h
  unfold oAdd at q
  split at q
  · exact .inl ⟨_, _, r1, r2, k.here (d := D.int _) hr rfl q⟩
  · exact .inr (.inl ⟨_, _, r1, r2, q.c, k.here (d := D.str _) hr rfl q.q⟩)
  · obtain ⟨p, vs, rfl, h1, h2⟩ := id r1
    obtain ⟨p2, ws, rfl, h3, h4⟩ := id r2
    refine .inr (.inr (.inl ⟨p, p2, vs, ws, rfl, rfl, h1, h3, ?_, by rw [h2.len, h4.len]; exact q.c.2, ?_, ?_⟩))
    · intro z
      have := h2.len
      rw [z] at this
      exact q.c.1 (List.length_eq_zero_iff.mp this.symm)
    · intro z
      have := h4.len
      rw [z] at this
      have q2 := q.q
      rw [List.length_eq_zero_iff.mp this.symm, List.append_nil] at q2
      exact k.here (d := D.tup _) hr r1 q2
    · intro _ p' hp
      exact k.tup hr hp (h2.app h4) q.q
  · split at q
    · rename_i xs ys e1 e2
      obtain ⟨a, vs, rfl, a2, a3⟩ := hr.ls e1 r1
      obtain ⟨b, ws, rfl, b2, b3⟩ := hr.ls e2 r2
      exact .inr (.inr (.inr ⟨a, b, vs, ws, rfl, rfl, a2, b2, by rw [a3.len, b3.len]; exact q.c, fun p hp => k.lst hr hp (a3.app b3) q.q⟩))
    · exact q.elim
/-- a list that may change, of two -/
def oAddM : QO := fun d e S Q => match lsOf S d, lsOf S e with
    | some xs, some ys => Need (xs.length + ys.length ≤ sizeLine) (Q (.ref S.length) (S ++ [.lst (xs ++ ys)]))
    | _, _ => False
theorem oo_addM : OpR X (binaryOp .Add) (upR X.K B oAddM) := OpR.imp op_cat fun x y H Q h => by
  obtain ⟨φ, S, d, e, Q', hr, r1, r2, q, k⟩ := h
  unfold oAddM at q
  split at q
  · rename_i xs ys e1 e2
    obtain ⟨a, vs, rfl, a2, a3⟩ := hr.ls e1 r1
    obtain ⟨b, ws, rfl, b2, b3⟩ := hr.ls e2 r2
    exact ⟨a, b, vs, ws, rfl, rfl, a2, b2, by rw [a3.len, b3.len]; exact q.c, fun p hp => k.lstM hr hp (a3.app b3) q.q⟩
  · exact q.elim
/-- * of ints; of a list and an int -/
def oMul : QO := fun d e S Q => match d, e with
  | .int i, .int j => Need (CMul i j) (Q (.int (i * j)) S)
  | d, .int j => match lsOf S d with
    | some xs => Need (0 ≤ j ∧ j < 2 ^ 63 ∧ xs.length * j.toNat ≤ sizeLine) (Q (.lst (List.replicate j.toNat xs).flatten) S)
    | none => False
  | _, _ => False
theorem RVs.rep {K : PySem.W.Frag} {φ : Ph} {H : Hp} {ds : List D} {vs : List V} (r : RVs K φ H ds vs) : ∀ n : Nat, RVs K φ H (List.replicate n ds).flatten (List.replicate n vs).flatten
  | 0 => rfl
  | n + 1 => by rw [List.replicate_succ, List.replicate_succ, List.flatten_cons, List.flatten_cons]; exact r.app (RVs.rep r n)
def oIB (f : Int → Int → Bool) : QO := fun d e S Q => match d, e with
  | .int i, .int j => Q (.bl (f i j)) S
  | _, _ => False
theorem lift_IB {f : Int → Int → Bool} {x y : V} {H : Hp} {Q : VK} (h : upR X.K B (oIB f) x y H Q) : rI0 (fun i j => .bl (f i j)) x y H Q := by
  obtain ⟨φ, S, d, e, Q', hr, r1, r2, q, k⟩ := h
  unfold oIB at q
  split at q
  · exact ⟨_, _, r1, r2, k.here (d := D.bl _) hr rfl q⟩
  · exact q.elim
theorem oo_lt : OpR X (compareOp .Lt) (upR X.K B (oIB fun i j => decide (i < j))) := OpR.imp op_lt fun _ _ _ _ => lift_IB
theorem oo_le : OpR X (compareOp .LtE) (upR X.K B (oIB fun i j => decide (i ≤ j))) := OpR.imp op_le fun _ _ _ _ => lift_IB
theorem oo_gt : OpR X (compareOp .Gt) (upR X.K B (oIB fun i j => decide (j < i))) := OpR.imp op_gt fun _ _ _ _ => lift_IB
theorem oo_ge : OpR X (compareOp .GtE) (upR X.K B (oIB fun i j => decide (j ≤ i))) := OpR.imp op_ge fun _ _ _ _ => lift_IB
/-- is None -/
def D.isNon : D → Bool
  | .non => true
  | _ => false
theorem RV.isNon {K : PySem.W.Frag} {φ : Ph} {H : Hp} {d : D} {v : V} (r : RV K φ H d v) : decide (v = .non) = d.isNon := by
  cases d with
  | non => cases r; rfl
  | bl _ => cases r; rfl
  | int _ => cases r; rfl
  | str _ => cases r; rfl
  | ty _ => cases r; rfl
  | adr _ => cases r; rfl
  | ref _ => obtain ⟨a, _, rfl⟩ := r; rfl
  | tup _ => obtain ⟨a, _, rfl, _⟩ := r; rfl
  | lst _ => obtain ⟨a, _, rfl, _⟩ := r; rfl
  | ins _ _ _ => obtain ⟨a, _, _, rfl, _⟩ := r; rfl
  | dK _ _ => obtain ⟨a, _, rfl, _⟩ := r; rfl
  | dT _ _ => obtain ⟨a, _, rfl, _⟩ := r; rfl
  | scr _ => obtain ⟨a, rfl, _⟩ := r; rfl
  | bad => exact r.elim
def oIs (neg : Bool) : QO := fun d e S Q => match e with
  | .non => Q (.bl (if neg then !d.isNon else d.isNon)) S
  | _ => False
theorem oo_is : OpR X (compareOp .Is) (upR X.K B (oIs false)) := OpR.imp op_isN fun x y H Q ⟨φ, S, d, e, Q', hr, r1, r2, q, k⟩ => by
  unfold oIs at q
  split at q
  · exact ⟨r2, by rw [r1.isNon]; exact k.here (d := D.bl _) hr rfl q⟩
  · exact q.elim
end
end LC

set_option Elab.async false
set_option linter.all false
set_option maxRecDepth 100000
set_option maxHeartbeats 5000000
/-! LD2: equality, membership, truth, displays, subscripts over data. -/
namespace LC
open PySem PySem.Spec
open PyProof.Rows L2
/-- a thing that is there -/
def Opt {α : Type} (o : Option α) (k : α → Prop) : Prop := match o with
  | some x => k x
  | none => False
theorem optI {α : Type} {o : Option α} {k : α → Prop} {x : α} (h : o = some x) (q : k x) : Opt o k := by subst h; exact q
theorem Opt.get {α : Type} {o : Option α} {k : α → Prop} (h : Opt o k) : ∃ x, o = some x ∧ k x := by
  cases o with
  | none => exact h.elim
  | some x => exact ⟨x, rfl, h⟩

/-! ### == -/
mutual
/-- plain data, n levels deep -/
def D.pl : D → Nat → Prop
  | .non, _ => True
  | .bl _, _ => True
  | .int _, _ => True
  | .str x, _ => PyData.strOk x = true
  | .tup xs, n + 1 => D.pls xs n
  | .lst xs, n + 1 => D.pls xs n
  | _, _ => False
def D.pls : List D → Nat → Prop
  | [], _ => True
  | d :: r, n => D.pl d n ∧ D.pls r n
end
mutual
/-- as == tells of plain data -/
def D.eqd : D → D → Bool
  | .non, .non => true
  | .bl a, .bl b => a == b
  | .bl a, .int j => (if a then 1 else 0) == j
  | .int i, .bl b => i == (if b then 1 else 0)
  | .int i, .int j => i == j
  | .str x, .str y => x == y
  | .tup xs, .tup ys => D.eqds xs ys
  | .lst xs, .lst ys => D.eqds xs ys
  | _, _ => false
def D.eqds : List D → List D → Bool
  | [], [] => true
  | x :: xs, y :: ys => D.eqd x y && D.eqds xs ys
  | _, _ => false
end
mutual
def D.py : D → PyData
  | .bl b => .bool b
  | .int i => .int i
  | .str x => .str x
  | .tup xs => .tuple (D.pys xs)
  | .lst xs => .list (D.pys xs)
  | _ => .none
def D.pys : List D → List PyData
  | [] => []
  | d :: r => D.py d :: D.pys r
end
mutual
theorem D.pl.lay : ∀ {d : D} {n : Nat}, D.pl d n → (D.py d).canLay0 = true ∧ (D.py d).depth ≤ n
  | .non, n, _ => ⟨by simp [D.py, PyData.canLay0], by simp [D.py, PyData.depth]⟩
  | .bl _, n, _ => ⟨by simp [D.py, PyData.canLay0], by simp [D.py, PyData.depth]⟩
  | .int _, n, _ => ⟨by simp [D.py, PyData.canLay0], by simp [D.py, PyData.depth]⟩
  | .str x, n, h => ⟨by have h' : PyData.strOk x = true := h; simp [D.py, PyData.canLay0, h'], by simp [D.py, PyData.depth]⟩
  | .tup xs, n + 1, h => by
    obtain ⟨h1, h2⟩ := D.pls.lay (ds := xs) (n := n) h
    exact ⟨by simpa [D.py, PyData.canLay0] using h1, by simp only [D.py, PyData.depth]; omega⟩
  | .lst xs, n + 1, h => by
    obtain ⟨h1, h2⟩ := D.pls.lay (ds := xs) (n := n) h
    exact ⟨by simpa [D.py, PyData.canLay0] using h1, by simp only [D.py, PyData.depth]; omega⟩
theorem D.pls.lay : ∀ {ds : List D} {n : Nat}, D.pls ds n → PyData.canLayAll0 (D.pys ds) = true ∧ PyData.depthAll (D.pys ds) ≤ n
  | [], n, _ => ⟨by simp [D.pys, PyData.canLayAll0], by simp [D.pys, PyData.depthAll]⟩
  | d :: r, n, h => by
    obtain ⟨h1, h2⟩ := D.pl.lay (d := d) (n := n) h.1
    obtain ⟨h3, h4⟩ := D.pls.lay (ds := r) (n := n) h.2
    exact ⟨by simp [D.pys, PyData.canLayAll0, h1, h3], by simp only [D.pys, PyData.depthAll]; omega⟩
end
theorem D.pl.shaped {d : D} {n : Nat} (h : D.pl d n) (hn : n ≤ 64 := by decide) : SeqAt.shaped (D.py d) = true := by
  obtain ⟨h1, h2⟩ := h.lay
  unfold SeqAt.shaped
  rw [h1, Bool.true_and]
  exact decide_eq_true (Nat.le_trans h2 hn)
mutual
theorem D.pl.eqv : ∀ {d e : D} {n m : Nat}, D.pl d n → D.pl e m → PyData.eqv (D.py d) (D.py e) = D.eqd d e
  | d, e, n, m, h, g => by
    cases d with
    | tup xs =>
      cases n with
      | zero => exact h.elim
      | succ n =>
      cases e with
      | tup ys =>
        cases m with
        | zero => exact g.elim
        | succ m => simp only [D.py, PyData.eqv, D.eqd]; exact D.pls.eqv (ds := xs) (es := ys) (n := n) (m := m) h g
      | lst ys => simp [D.py, PyData.eqv, D.eqd]
      | non => simp [D.py, PyData.eqv, D.eqd]
      | bl _ => simp [D.py, PyData.eqv, D.eqd]
      | int _ => simp [D.py, PyData.eqv, D.eqd]
      | str _ => simp [D.py, PyData.eqv, D.eqd]
      | _ => exact g.elim
    | lst xs =>
      cases n with
      | zero => exact h.elim
      | succ n =>
      cases e with
      | lst ys =>
        cases m with
        | zero => exact g.elim
        | succ m => simp only [D.py, PyData.eqv, D.eqd]; exact D.pls.eqv (ds := xs) (es := ys) (n := n) (m := m) h g
      | tup ys => simp [D.py, PyData.eqv, D.eqd]
      | non => simp [D.py, PyData.eqv, D.eqd]
      | bl _ => simp [D.py, PyData.eqv, D.eqd]
      | int _ => simp [D.py, PyData.eqv, D.eqd]
      | str _ => simp [D.py, PyData.eqv, D.eqd]
      | _ => exact g.elim
    | non => cases e <;> first | exact g.elim | simp [D.py, PyData.eqv, D.eqd]
    | bl _ => cases e <;> first | exact g.elim | simp [D.py, PyData.eqv, D.eqd]
    | int _ => cases e <;> first | exact g.elim | simp [D.py, PyData.eqv, D.eqd]
    | str _ => cases e <;> first | exact g.elim | simp [D.py, PyData.eqv, D.eqd]
    | _ => exact h.elim
theorem D.pls.eqv : ∀ {ds es : List D} {n m : Nat}, D.pls ds n → D.pls es m → PyData.eqvAll (D.pys ds) (D.pys es) = D.eqds ds es
  | [], [], _, _, _, _ => by simp [D.pys, PyData.eqvAll, D.eqds]
  | d :: r, e :: t, n, m, h, g => by simp only [D.pys, PyData.eqvAll, D.eqds]; rw [D.pl.eqv (d := d) (e := e) h.1 g.1, D.pls.eqv (ds := r) (es := t) h.2 g.2]
  | [], _ :: _, _, _, _, _ => by simp [D.pys, PyData.eqvAll, D.eqds]
  | _ :: _, [], _, _, _, _ => by simp [D.pys, PyData.eqvAll, D.eqds]
end
theorem D.pls_map {α : Type} {f : α → D} {n : Nat} {l : List α} (h : ∀ a ∈ l, D.pl (f a) n) : D.pls (l.map f) n := by
  induction l with
  | nil => trivial
  | cons a r ih => exact ⟨h a List.mem_cons_self, ih fun b hb => h b (List.mem_cons_of_mem _ hb)⟩
theorem D.pls_ints {n : Nat} (ns : List Int) : D.pls (ns.map D.int) n := D.pls_map fun _ _ => trivial
theorem D.pls_mem {n : Nat} {ds : List D} : D.pls ds n ↔ ∀ d ∈ ds, D.pl d n := by
  induction ds with
  | nil => simp [D.pls]
  | cons d r ih => simp [D.pls, ih]
/-- a list that may change, as it is now -/
def D.see (S : List O) (d : D) : D := match d with
  | .ref k => match S[k]? with
    | some (.lst xs) => .lst xs
    | _ => .bad
  | .scr ns => .lst (ns.map D.int)
  | d => d
section
variable {X : Cx} {B : Bs} {φ : Ph} {H : Hp} {S : List O}
mutual
theorem D.pl.dp {K : PySem.W.Frag} : ∀ {d : D} {n : Nat} {v : V}, D.pl d n → RV K φ H d v → Dp K H v (D.py d)
  | .non, _, _, _, r => by cases r; exact .non
  | .bl b, _, _, _, r => by cases r; exact .bl _
  | .int i, _, _, _, r => by cases r; exact .int _
  | .str x, _, _, _, r => by cases r; exact .str _
  | .tup xs, n + 1, _, h, ⟨p, vs, e, h1, h2⟩ => by subst e; exact .tup h1 (D.pls.dp (ds := xs) (n := n) h h2)
  | .lst xs, n + 1, _, h, ⟨p, vs, e, _, h1, h2⟩ => by subst e; exact .lst (.inl (.inl h1)) (D.pls.dp (ds := xs) (n := n) h h2)
theorem D.pls.dp {K : PySem.W.Frag} : ∀ {ds : List D} {n : Nat} {vs : List V}, D.pls ds n → RVs K φ H ds vs → DpAll K H vs (D.pys ds)
  | [], _, _, _, r => by cases r; exact .nil
  | d :: ds, n, _, h, ⟨v, ws, e, h3, h4⟩ => by subst e; exact .cons (D.pl.dp h.1 h3) (D.pls.dp h.2 h4)
end
theorem see_dp (hr : HR X.K B φ H S) {d : D} {n : Nat} {v : V} (h : D.pl (D.see S d) n) (r : RV X.K φ H d v) : Dp X.K H v (D.py (D.see S d)) := by
  cases d with
  | ref k =>
    simp only [D.see] at h ⊢
    split at h
    · rename_i xs e
      obtain ⟨a, vs, h1, h2, h3⟩ := hr.lstO e
      obtain ⟨b, ea, rfl⟩ := r
      rw [h1] at ea; cases ea
      cases n with
      | zero => exact h.elim
      | succ n => exact .lst (.inl (.inl h2)) (D.pls.dp (ds := xs) (n := n) h h3)
    · exact h.elim
  | scr ns =>
    obtain ⟨p, rfl, h1⟩ := r
    exact .lst h1.sql (D.pls.dp (ds := ns.map D.int) (n := 0) (D.pls_ints ns) (.ofInts (φ := φ)))
  | _ => exact D.pl.dp (d := _) h r
/-- scalars -/
def D.scal : D → D → Bool
  | .non, .non => true
  | .non, .int _ => true
  | .int _, .non => true
  | .non, .bl _ => true
  | .bl _, .non => true
  | .non, .str _ => true
  | .str _, .non => true
  | .int _, .int _ => true
  | .bl _, .bl _ => true
  | .str _, .str _ => true
  | .int _, .str _ => true
  | .str _, .int _ => true
  | .bl _, .str _ => true
  | .str _, .bl _ => true
  | _, _ => false
def D.seq : D → D → Bool
  | .non, .non => true
  | .int i, .int j => decide (i = j)
  | .bl i, .bl j => decide (i = j)
  | .str i, .str j => decide (i = j)
  | _, _ => false
theorem D.scal_ok {K : PySem.W.Frag} {φ : Ph} {H : Hp} {d e : D} {x y : V} (h : D.scal d e = true) (r1 : RV K φ H d x) (r2 : RV K φ H e y) : L2.scal x y = true ∧ decide (x = y) = D.seq d e := by
  unfold D.scal at h
  split at h <;> first | (cases h; done) | (cases r1; cases r2; exact ⟨rfl, by simp [D.seq]⟩)
/-- ==, != -/
def oEq (neg : Bool) : QO := fun d e S Q => Br (D.scal d e) (Q (.bl (if neg then !D.seq d e else D.seq d e)) S)
  (Need (D.pl (D.see S d) 40 ∧ D.pl (D.see S e) 40) (Q (.bl (if neg then !D.eqd (D.see S d) (D.see S e) else D.eqd (D.see S d) (D.see S e))) S))
theorem oo_eq (hu : X.A.units + 64 < cLine) : OpR X (compareOp .Eq) (upR X.K B (oEq false)) := OpR.imp (op_eq.or (op_eqD hu)) fun x y H Q ⟨φ, S, d, e, Q', hr, r1, r2, q, k⟩ => by
  cases h : D.scal d e with
  | true =>
    have q := q.t h
    obtain ⟨h1, h2⟩ := D.scal_ok h r1 r2
    exact .inl ⟨h1, by rw [h2]; exact k.here (d := D.bl _) hr rfl q⟩
  | false =>
    obtain ⟨⟨h1, h2⟩, q⟩ := q.f h
    exact .inr ⟨_, _, see_dp hr h1 r1, see_dp hr h2 r2, h1.shaped, h2.shaped, by rw [h1.eqv h2]; exact k.here (d := D.bl _) hr rfl q⟩
theorem oo_ne (hu : X.A.units + 64 < cLine) : OpR X (compareOp .NotEq) (upR X.K B (oEq true)) := OpR.imp (op_ne.or (op_neD hu)) fun x y H Q ⟨φ, S, d, e, Q', hr, r1, r2, q, k⟩ => by
  cases h : D.scal d e with
  | true =>
    have q := q.t h
    obtain ⟨h1, h2⟩ := D.scal_ok h r1 r2
    exact .inl ⟨h1, by rw [h2]; exact k.here (d := D.bl _) hr rfl q⟩
  | false =>
    obtain ⟨⟨h1, h2⟩, q⟩ := q.f h
    exact .inr ⟨_, _, see_dp hr h1 r1, see_dp hr h2 r2, h1.shaped, h2.shaped, by rw [h1.eqv h2]; exact k.here (d := D.bl _) hr rfl q⟩

/-! ### in -/
/-- flat data -/
def D.flat : D → Bool
  | .non => true
  | .bl _ => true
  | .int _ => true
  | .str _ => true
  | _ => false
def D.feq : D → D → Bool
  | .non, .non => true
  | .bl a, .bl b => a == b
  | .bl p, .int z => (if p then 1 else 0) == z
  | .int z, .bl p => z == (if p then 1 else 0)
  | .int a, .int b => a == b
  | .str a, .str b => a == b
  | _, _ => false
theorem D.flat_ok {K : PySem.W.Frag} {φ : Ph} {H : Hp} {d : D} {x : V} (h : D.flat d = true) (r : RV K φ H d x) : flatV x = true := by
  cases d <;> first | (cases h; done) | (cases r; rfl)
theorem D.feq_ok {K : PySem.W.Frag} {φ : Ph} {H : Hp} {d e : D} {x y : V} (h : D.flat d = true) (h' : D.flat e = true) (r : RV K φ H d x) (r' : RV K φ H e y) : eqV x y = D.feq d e := by
  cases d <;> first | (cases h; done) | (cases e <;> first | (cases h'; done) | (cases r; cases r'; rfl))
theorem flats_ok {K : PySem.W.Frag} {φ : Ph} {H : Hp} : ∀ {ds : List D} {vs : List V}, ds.all D.flat = true → RVs K φ H ds vs → vs.all flatV = true
  | [], _, _, r => (by cases r; rfl)
  | d :: ds, _, h, ⟨v, ws, e, r1, r2⟩ => by
    subst e
    rw [List.all_cons] at h
    rw [Bool.and_eq_true] at h
    rw [List.all_cons, D.flat_ok h.1 r1, flats_ok h.2 r2]; rfl
theorem inV_ok {K : PySem.W.Frag} {φ : Ph} {H : Hp} {d : D} {x : V} (hf : D.flat d = true) (r : RV K φ H d x) : ∀ {ds : List D} {vs : List V}, ds.all D.flat = true → RVs K φ H ds vs → inV x vs = ds.any fun e => D.feq e d
  | [], _, _, r2 => by cases r2; rfl
  | e :: ds, _, h, ⟨v, ws, ee, r1, r2⟩ => by
    subst ee
    rw [List.all_cons] at h
    rw [Bool.and_eq_true] at h
    have ih := inV_ok hf r h.2 r2
    unfold inV at ih ⊢
    rw [List.any_cons, List.any_cons, ih, D.feq_ok h.1 hf r1 r]
/-- in a list, a tuple of flat data; a sign in a text -/
def oIn (neg : Bool) : QO := fun d e S Q => match e with
  | .str z => match d with
    | .str ⟨⟨[c]⟩⟩ => Q (.bl (if neg then !decide (c ∈ z.cps.toList) else decide (c ∈ z.cps.toList))) S
    | _ => False
  | e => Opt (itemsOf S e) fun xs => Need (D.flat d = true ∧ xs.all D.flat = true) (Q (.bl (if neg then !(xs.any fun y => D.feq y d) else xs.any fun y => D.feq y d)) S)
theorem lift_in {neg : Bool} {x y : V} {H : Hp} {Q : VK} (h : upR X.K B (oIn neg) x y H Q) : rIn X.K neg x y H Q ∨ ∃ (c : Nat) (z : Str), x = .str ⟨#[c]⟩ ∧ y = .str z ∧ Q (.bl (if neg then !decide (c ∈ z.cps.toList) else decide (c ∈ z.cps.toList))) H := by
  obtain ⟨φ, S, d, e, Q', hr, r1, r2, q, k⟩ := h
  unfold oIn at q
  split at q
  · split at q
    · exact .inr ⟨_, _, r1, r2, k.here (d := D.bl _) hr rfl q⟩
    · exact q.elim
  · obtain ⟨xs, h1, ⟨h2, h3⟩, q⟩ := q.get
    obtain ⟨p, vs, rfl, h4, h5⟩ := hr.items h1 r2
    exact .inl ⟨p, vs, rfl, h4, D.flat_ok h2 r1, flats_ok h3 h5, by rw [inV_ok h2 r1 h3 h5]; exact k.here (d := D.bl _) hr rfl q⟩
theorem oo_in : OpR X (compareOp .In) (upR X.K B (oIn false)) := OpR.imp (op_in_seq.or op_in_sign) fun _ _ _ _ => lift_in
theorem oo_notin : OpR X (compareOp .NotIn) (upR X.K B (oIn true)) := OpR.imp (op_notIn_seq.or op_notIn_sign) fun _ _ _ _ => lift_in
end

/-! ### tests -/
section
variable {X : Cx} {B : Bs} {a b c : Expr} {qa qb qc : QE} {ta tb : QT} {pos : Pos} {rest : List Expr}
/-- truth -/
def qTruth (q : QE) : QT := fun s S Q => q s S fun d S1 => match d with
  | .bl b => Q b S1
  | .non => Q false S1
  | .int i => Q (i != 0) S1
  | .str x => Need (x.length ≤ sizeLine) (Q ((x.length : Int) != 0) S1)
  | d => Opt (itemsOf S1 d) fun xs => Q (!xs.isEmpty) S1
theorem RVs.isEmpty {K : PySem.W.Frag} {φ : Ph} {H : Hp} {ds : List D} {vs : List V} (r : RVs K φ H ds vs) : vs.isEmpty = ds.isEmpty := by
  cases ds with
  | nil => cases r; rfl
  | cons d ds => obtain ⟨v, ws, rfl, _⟩ := r; rfl
theorem lt_truth (ha : LE X B a qa) (he : ∀ whole, isTrue a X.env whole = (do let v ← whole; standAt a.pos; holding [v] (truthy v)) := by intro _; rfl) : LT X B a (qTruth qa) := PT.imp (pt_truth ha he) fun σ H Q ⟨φ, s, S, Q', hr, ev, q, k⟩ => by
  refine ⟨φ, s, S, _, hr, ev, q, fun φ1 d S1 v H1 e1 hr1 r1 q1 => ?_⟩
  split at q1
  · cases r1; exact ⟨_, rfl, k _ _ _ _ _ e1 hr1 rfl q1⟩
  · cases r1; exact ⟨_, rfl, k _ _ _ _ _ e1 hr1 rfl q1⟩
  · cases r1; exact ⟨_, rfl, k _ _ _ _ _ e1 hr1 rfl q1⟩
  · cases r1; exact ⟨_, ⟨q1.c, rfl⟩, k _ _ _ _ _ e1 hr1 rfl q1.q⟩
  · obtain ⟨xs, h0, q1⟩ := q1.get
    obtain ⟨p, vs, rfl, h1, h2⟩ := hr1.items h0 r1
    rcases h1 with h1 | h1
    · exact ⟨_, .inl ⟨vs, h1, rfl⟩, k _ _ _ _ _ e1 hr1 (by rw [h2.isEmpty]) q1⟩
    · exact ⟨_, .inr (.inl ⟨vs, h1, rfl⟩), k _ _ _ _ _ e1 hr1 (by rw [h2.isEmpty]) q1⟩
def qNot (t : QT) : QT := fun s S Q => t s S fun c S1 => Q (!c) S1
theorem lt_not (ha : LT X B a ta) : LT X B (.UnaryOp .Not a pos) (qNot ta) := PT.imp (pt_not ha) fun σ H Q ⟨φ, s, S, Q', hr, ev, q, k⟩ =>
  ⟨φ, s, S, _, hr, ev, q, fun φ1 d S1 v H1 e1 hr1 r1 q1 => k _ _ _ _ _ e1 hr1 (by rw [r1]) q1⟩
def qAnd (t u : QT) : QT := fun s S Q => t s S fun c S1 => Br c (u s S1 Q) (Q false S1)
def qOr (t u : QT) : QT := fun s S Q => t s S fun c S1 => Br c (Q true S1) (u s S1 Q)
theorem lw_and (ha : LT X B a ta) (hb : LW X B (.BoolOp .And (b :: rest) pos) tb) : LW X B (.BoolOp .And (a :: b :: rest) pos) (qAnd ta tb) := PW.imp (pw_and ha hb) fun σ H Q ⟨φ, s, S, Q', hr, ev, q, k⟩ =>
  ⟨φ, s, S, _, hr, ev, q, fun φ1 d S1 v H1 e1 hr1 r1 q1 => by
    cases r1
    cases d with
    | true => exact ⟨φ1, s, S1, Q', hr1, ev.mono e1, q1.t rfl, k.ext e1⟩
    | false => exact k _ _ _ _ _ e1 hr1 rfl (q1.f rfl)⟩
theorem lw_or (ha : LT X B a ta) (hb : LW X B (.BoolOp .Or (b :: rest) pos) tb) : LW X B (.BoolOp .Or (a :: b :: rest) pos) (qOr ta tb) := PW.imp (pw_or ha hb) fun σ H Q ⟨φ, s, S, Q', hr, ev, q, k⟩ =>
  ⟨φ, s, S, _, hr, ev, q, fun φ1 d S1 v H1 e1 hr1 r1 q1 => by
    cases r1
    cases d with
    | false => exact ⟨φ1, s, S1, Q', hr1, ev.mono e1, q1.f rfl, k.ext e1⟩
    | true => exact k _ _ _ _ _ e1 hr1 rfl (q1.t rfl)⟩
theorem lw_and1 (ha : LT X B a ta) : LW X B (.BoolOp .And [a] pos) ta := pw_and1 ha
theorem lw_or1 (ha : LT X B a ta) : LW X B (.BoolOp .Or [a] pos) ta := pw_or1 ha
theorem LW.t {q : QT} (h : LW X B a q) : LT X B a q := PW.pt h
/-- values of bools -/
def qAndV (qa qb : QE) : QE := fun s S Q => qa s S fun d S1 => match d with
  | .bl c => Br c (qb s S1 Q) (Q (.bl false) S1)
  | _ => False
def qOrV (qa qb : QE) : QE := fun s S Q => qa s S fun d S1 => match d with
  | .bl c => Br c (Q (.bl true) S1) (qb s S1 Q)
  | _ => False
def qNotV (qa : QE) : QE := fun s S Q => qa s S fun d S1 => match d with
  | .bl c => Q (.bl (!c)) S1
  | _ => False
theorem le_one {op} (h : LE X B a qa) : LE X B (.BoolOp op [a] pos) qa := pe_one h
theorem le_and (ha : LE X B a qa) (hb : LE X B (.BoolOp .And (b :: rest) pos) qb) : LE X B (.BoolOp .And (a :: b :: rest) pos) (qAndV qa qb) := PE.imp (pe_and ha hb) fun σ H Q ⟨φ, s, S, Q', hr, ev, q, k⟩ =>
  ⟨φ, s, S, _, hr, ev, q, fun φ1 d S1 v H1 e1 hr1 r1 q1 => by
    split at q1
    · rename_i c
      cases r1
      refine ⟨c, rfl, ?_⟩
      cases c with
      | true => exact ⟨φ1, s, S1, Q', hr1, ev.mono e1, q1.t rfl, k.ext e1⟩
      | false => exact k _ (.bl false) _ _ _ e1 hr1 rfl (q1.f rfl)
    · exact q1.elim⟩
theorem le_or (ha : LE X B a qa) (hb : LE X B (.BoolOp .Or (b :: rest) pos) qb) : LE X B (.BoolOp .Or (a :: b :: rest) pos) (qOrV qa qb) := PE.imp (pe_or ha hb) fun σ H Q ⟨φ, s, S, Q', hr, ev, q, k⟩ =>
  ⟨φ, s, S, _, hr, ev, q, fun φ1 d S1 v H1 e1 hr1 r1 q1 => by
    split at q1
    · rename_i c
      cases r1
      refine ⟨c, rfl, ?_⟩
      cases c with
      | false => exact ⟨φ1, s, S1, Q', hr1, ev.mono e1, q1.f rfl, k.ext e1⟩
      | true => exact k _ (.bl true) _ _ _ e1 hr1 rfl (q1.t rfl)
    · exact q1.elim⟩
theorem le_not (ha : LE X B a qa) : LE X B (.UnaryOp .Not a pos) (qNotV qa) := PE.imp (pe_not ha) fun σ H Q ⟨φ, s, S, Q', hr, ev, q, k⟩ =>
  ⟨φ, s, S, _, hr, ev, q, fun φ1 d S1 v H1 e1 hr1 r1 q1 => by
    split at q1
    · cases r1; exact ⟨_, rfl, k _ (.bl _) _ _ _ e1 hr1 rfl q1⟩
    · exact q1.elim⟩
def qIf (t : QT) (qa qb : QE) : QE := fun s S Q => t s S fun c S1 => Br c (qa s S1 Q) (qb s S1 Q)
theorem le_if (hc : LT X B c ta) (ha : LE X B a qa) (hb : LE X B b qb) : LE X B (.IfExp c a b pos) (qIf ta qa qb) := PE.imp (pe_ifExp hc ha hb) fun σ H Q ⟨φ, s, S, Q', hr, ev, q, k⟩ =>
  ⟨φ, s, S, _, hr, ev, q, fun φ1 d S1 v H1 e1 hr1 r1 q1 => by
    cases r1
    cases d with
    | false => exact ⟨φ1, s, S1, Q', hr1, ev.mono e1, q1.f rfl, k.ext e1⟩
    | true => exact ⟨φ1, s, S1, Q', hr1, ev.mono e1, q1.t rfl, k.ext e1⟩⟩
end

/-! ### argument lists, displays -/
def lenLe {α : Type} : Nat → List α → Bool
  | _, [] => true
  | 0, _ :: _ => false
  | n + 1, _ :: r => lenLe n r
theorem lenLe_ok {α : Type} : ∀ {n : Nat} {l : List α}, lenLe n l = true → l.length ≤ n
  | _, [], _ => Nat.zero_le _
  | 0, _ :: _, h => by cases h
  | n + 1, _ :: r, h => Nat.succ_le_succ (lenLe_ok (n := n) (l := r) h)
theorem lenLe_line {α : Type} {l : List α} (h : lenLe 1000 l = true) : l.length ≤ sizeLine := Nat.le_trans (lenLe_ok h) (by decide)
section
variable {X : Cx} {B : Bs} {e : Expr} {es : List Expr} {qe : QE} {q : QA} {pos : Pos}
def qNil : QA := fun _ S Q => Q [] S
def qCons (qe : QE) (qr : QA) : QA := fun s S Q => qe s S fun d S1 => qr s S1 fun ds S2 => Q (d :: ds) S2
theorem la_nil : LA X B [] qNil := PA.imp pa_nil fun σ H Q ⟨φ, s, S, Q', hr, ev, q, k⟩ => k _ [] _ _ _ Ext.refl hr rfl q
theorem la_cons (ha : LE X B e qe) (hr : LA X B es q) (hs : starEach (e :: es) X.env = (false, eval e X.env) :: starEach es X.env := by rfl) : LA X B (e :: es) (qCons qe q) := PA.imp (pa_cons ha hr hs) fun σ H Q ⟨φ, s, S, Q', hr, ev, q, k⟩ =>
  ⟨φ, s, S, _, hr, ev, q, fun φ1 d S1 v H1 e1 hr1 r1 q1 => ⟨φ1, s, S1, _, hr1, ev.mono e1, q1, fun φ2 ds S2 vs H2 e2 hr2 r2 q2 =>
    k _ (d :: ds) _ _ _ (e1.trans e2) hr2 ⟨v, vs, rfl, r1.mono e2, r2⟩ q2⟩⟩
def qTup (q : QA) : QE := fun s S Q => q s S fun ds S1 => Br (lenLe 1000 ds) (Q (.tup ds) S1) False
def qLst (q : QA) : QE := fun s S Q => q s S fun ds S1 => Br (lenLe 1000 ds) (Q (.lst ds) S1) False
def qLstM (q : QA) : QE := fun s S Q => q s S fun ds S1 => Br (lenLe 1000 ds) (Q (.ref S1.length) (S1 ++ [.lst ds])) False
theorem Br.get {c : Bool} {p : Prop} (h : Br c p False) : c = true ∧ p := by cases c with
  | true => exact ⟨rfl, h⟩
  | false => exact h.elim
theorem le_tup {x1} (h : LA X B es q) : LE X B (.Tuple es x1 pos) (qTup q) := PE.imp (pe_tup h) fun σ H Q ⟨φ, s, S, Q', hr, ev, q, k⟩ =>
  ⟨φ, s, S, _, hr, ev, q, fun φ1 ds S1 vs H1 e1 hr1 r1 q1 => ⟨by rw [r1.len]; exact lenLe_line q1.get.1, fun p hp => (k.ext e1).tup hr1 hp r1 q1.get.2⟩⟩
theorem le_lst (h : LA X B es q) : LE X B (.List es pos) (qLst q) := PE.imp (pe_lst h) fun σ H Q ⟨φ, s, S, Q', hr, ev, q, k⟩ =>
  ⟨φ, s, S, _, hr, ev, q, fun φ1 ds S1 vs H1 e1 hr1 r1 q1 => ⟨by rw [r1.len]; exact lenLe_line q1.get.1, fun p hp => (k.ext e1).lst hr1 hp r1 q1.get.2⟩⟩
theorem le_lstM (h : LA X B es q) : LE X B (.List es pos) (qLstM q) := PE.imp (pe_lst h) fun σ H Q ⟨φ, s, S, Q', hr, ev, q, k⟩ =>
  ⟨φ, s, S, _, hr, ev, q, fun φ1 ds S1 vs H1 e1 hr1 r1 q1 => ⟨by rw [r1.len]; exact lenLe_line q1.get.1, fun p hp => (k.ext e1).lstM hr1 hp r1 q1.get.2⟩⟩
end

/-! ### subscripts -/
section
variable {X : Cx} {B : Bs} {a b : Expr} {qa qb : QE} {pos : Pos}
theorem IxR.imp {r r' : R2} (h : IxR X r) (i : ∀ x y H Q, r' x y H Q → r x y H Q) : IxR X r' :=
  fun value slice pins s σ H x y v u Q I rx ry q hs => h value slice pins s σ H x y v u Q I rx ry (i _ _ _ _ q) hs
theorem RVs.atI {K : PySem.W.Frag} {φ : Ph} {H : Hp} {ds : List D} {vs : List V} {i : Int} {d : D} (r : RVs K φ H ds vs) (h : L2.atI ds i = some d) : ∃ v, L2.atI vs i = some v ∧ RV K φ H d v := by
  unfold L2.atI at h ⊢
  rw [r.len]
  cases e : ixN ds.length i with
  | none => (rw [e] at h; cases h)
  | some j =>
    rw [e] at h
    obtain ⟨v, h1, h2⟩ := r.get (show ds[j]? = some d from h)
    exact ⟨v, h1, h2⟩
/-- a[i] of a list, a tuple, a text -/
def oIx : QO := fun d e S Q => match e with
  | .int i => match d with
    | .str z => Need (z.length ≤ sizeLine) (Opt (L2.atI z.cps.toList i) fun c => Q (.str ⟨#[c]⟩) S)
    | d => Opt (itemsOf S d) fun xs => Opt (L2.atI xs i) fun v => Q v S
  | _ => False
theorem ox_seq : IxR X (upR X.K B oIx) := IxR.imp ix_seq fun x y H Q ⟨φ, S, d, e, Q', hr, r1, r2, q, k⟩ => by
  unfold oIx at q
  split at q
  · cases r2
    split at q
    · cases r1
      obtain ⟨h1, q⟩ := q
      obtain ⟨c, h2, q⟩ := q.get
      exact .inr (.inr ⟨_, _, c, rfl, rfl, h1, h2, k.here (d := D.str _) hr rfl q⟩)
    · obtain ⟨xs, h1, q⟩ := q.get
      obtain ⟨v, h2, q⟩ := q.get
      obtain ⟨p, vs, rfl, h3, h4⟩ := hr.items h1 r1
      obtain ⟨w', h5, h6⟩ := h4.atI h2
      rcases h3 with h3 | h3
      · exact .inl ⟨p, vs, _, w', rfl, rfl, h3, h5, k.here hr h6 q⟩
      · exact .inr (.inl ⟨p, vs, _, w', rfl, rfl, h3, h5, k.here hr h6 q⟩)
  · exact q.elim
theorem le_ix {ro : QO} (hr : IxR X (upR X.K B ro)) (ha : LE X B a qa) (hb : LE X B b qb) (hs : PlainIx b := by intro _ _; rfl) : LE X B (.Subscript a b pos) (qOp ro qa qb) := PE.imp (pe_ix hr ha hb hs) fun _ _ _ => up_op
/-- slices -/
def cutD (xs : List D) (lo hi : Option Int) : List D := (xs.drop (HT.sIx xs.length 0 lo)).take (HT.sIx xs.length xs.length hi - HT.sIx xs.length 0 lo)
theorem RVs.cut {K : PySem.W.Frag} {φ : Ph} {H : Hp} {ds : List D} {vs : List V} (lo hi : Option Int) (r : RVs K φ H ds vs) : RVs K φ H (cutD ds lo hi) (cutV vs lo hi) := by
  unfold cutD cutV
  rw [r.len]
  exact (r.drop _).take _
abbrev QP := Sl → List O → (Option Int → List O → Prop) → Prop
abbrev rP : Ph → Hp → Option Int → Option Int → Prop := fun _ _ a b => a = b
abbrev LP (X : Cx) (B : Bs) (e : Option Expr) (q : QP) : Prop := PO X e (UP X.K B rP q)
theorem PO.imp {e : Option Expr} {t t' : TO} (h : PO X e t) (i : ∀ σ H Q, t' σ H Q → t σ H Q) : PO X e t' := ⟨fun pins s σ H Q I w => h.run pins s σ H Q I (i _ _ _ w)⟩
def qNoP : QP := fun _ S Q => Q none S
def qSomeP (q : QE) : QP := fun s S Q => q s S fun d S1 => match d with
  | .int i => Q (some i) S1
  | _ => False
theorem lp_none : LP X B none qNoP := PO.imp po_none fun σ H Q ⟨φ, s, S, Q', hr, ev, q, k⟩ => k.here hr rfl q
theorem lp_some (h : LE X B a qa) : LP X B (some a) (qSomeP qa) := PO.imp (po_some h) fun σ H Q ⟨φ, s, S, Q', hr, ev, q, k⟩ =>
  ⟨φ, s, S, _, hr, ev, q, fun φ1 d S1 v H1 e1 hr1 r1 q1 => by
    split at q1
    · cases r1; exact ⟨_, rfl, k _ _ _ _ _ e1 hr1 rfl q1⟩
    · exact q1.elim⟩
def oSl (d : D) (lo hi : Option Int) (S : List O) (Q : D → List O → Prop) : Prop := match d with
  | .str z => Need (z.length ≤ sizeLine) (Q (.str (cutS z lo hi)) S)
  | .tup xs => Q (.tup (cutD xs lo hi)) S
  | .scr ns => Q (.lst (cutD (ns.map D.int) lo hi)) S
  | d => Opt (lsOf S d) fun xs => Q (.lst (cutD xs lo hi)) S
def qSl (qa : QE) (ql qh : QP) : QE := fun s S Q => qa s S fun d S1 => ql s S1 fun lo S2 => qh s S2 fun hi S3 => oSl d lo hi S3 Q
def upSl (K : PySem.W.Frag) (B : Bs) : V → Option Int → Option Int → Hp → VK → Prop := fun x lo hi H Q => ∃ φ S d Q', HR K B φ H S ∧ RV K φ H d x ∧ oSl d lo hi S Q' ∧ Kont K B (rD K) φ H Q' Q
theorem SlR.imp {r r' : V → Option Int → Option Int → Hp → VK → Prop} (h : SlR X r) (i : ∀ x lo hi H Q, r' x lo hi H Q → r x lo hi H Q) : SlR X r' :=
  fun pins s σ H x v vl vu lo hi sl Q I rx hs pl pu q => h pins s σ H x v vl vu lo hi sl Q I rx hs pl pu (i _ _ _ _ _ q)
theorem cutD_whole (xs : List D) (lo hi : Option Int) (h : HT.sIx xs.length 0 lo = 0 ∧ HT.sIx xs.length xs.length hi = xs.length) : cutD xs lo hi = xs := by
  unfold cutD
  rw [h.1, h.2]
  simp
end
section
variable {X : Cx} {B : Bs} {a b e : Expr} {es : List Expr} {qa qb qe : QE} {pos p2 : Pos} {lo hi : Option Expr} {ql qh : QP} {q : QA}
theorem sl_any : SlR X (upSl X.K B) := SlR.imp (sl_list.or (sl_tupA.or sl_str)) fun x lo hi H Q ⟨φ, S, d, Q', hr, r, q, k⟩ => by
  unfold oSl at q
  split at q
  · cases r
    exact .inr (.inr ⟨_, rfl, q.c, k.here (d := D.str _) hr rfl q.q⟩)
  · rename_i xs
    obtain ⟨p, vs, rfl, h1, h2⟩ := r
    refine .inr (.inl ⟨p, vs, rfl, h1, fun hw => ?_, fun hw p' hp => k.tup hr hp (h2.cut lo hi) q⟩)
    rw [h2.len] at hw
    rw [cutD_whole xs lo hi hw] at q
    exact k.here (d := D.tup xs) hr (show RV _ _ _ _ _ from ⟨p, vs, rfl, h1, h2⟩) q
  · obtain ⟨p, rfl, h1⟩ := r
    exact .inl ⟨p, _, rfl, h1.sql, fun p hp => k.lst hr hp (RVs.ofInts.cut lo hi) q⟩
  · obtain ⟨xs, h0, q⟩ := q.get
    obtain ⟨a', vs, rfl, h1, h2⟩ := hr.ls h0 r
    exact .inl ⟨a', vs, rfl, .inl (.inl h1), fun p hp => k.lst hr hp (h2.cut lo hi) q⟩
theorem le_slice (ha : LE X B e qa) (hl : LP X B lo ql) (hu : LP X B hi qh) : LE X B (.Subscript e (.Slice lo hi none p2) pos) (qSl qa ql qh) := PE.imp (pe_slice sl_any ha hl hu) fun σ H Q ⟨φ, s, S, Q', hr, ev, q, k⟩ =>
  ⟨φ, s, S, _, hr, ev, q, fun φ1 d S1 v H1 e1 hr1 r1 q1 => ⟨φ1, s, S1, _, hr1, ev.mono e1, q1, fun φ2 lo' S2 lo2 H2 e2 hr2 r2 q2 => ⟨φ2, s, S2, _, hr2, ev.mono (e1.trans e2), q2, fun φ3 hi' S3 hi2 H3 e3 hr3 r3 q3 => by
    cases r2
    cases r3
    exact ⟨φ3, S3, d, Q', hr3, r1.mono (e2.trans e3), q3, k.ext (e1.trans (e2.trans e3))⟩⟩⟩⟩
end
end LC

set_option Elab.async false
set_option linter.all false
set_option maxRecDepth 100000
set_option maxHeartbeats 5000000
/-! LD3: calls of built-ins, methods of built-in types. -/
namespace LC
open PySem PySem.Spec
open PyProof.Rows L2

section
variable {X : Cx} {B : Bs} {a b e : Expr} {es : List Expr} {qa qb qe : QE} {pos p2 : Pos} {q : QA}
/-! ### calls of built-ins -/
abbrev QC := List D → List O → (D → List O → Prop) → Prop
def upC (K : PySem.W.Frag) (B : Bs) (rc : QC) : List V → Hp → VK → Prop := fun vs H Q => ∃ φ S ds Q', HR K B φ H S ∧ RVs K φ H ds vs ∧ rc ds S Q' ∧ Kont K B (rD K) φ H Q' Q
theorem CallR.imp {f : Value} {r r' : List V → Hp → VK → Prop} (h : CallR X f r) (i : ∀ x H Q, r' x H Q → r x H Q) : CallR X f r' :=
  fun pins s σ H x v Q I rx q => h pins s σ H x v Q I rx (i _ _ _ q)
def qCB (rc : QC) (q : QA) : QE := fun s S Q => q s S fun ds S1 => rc ds S1 Q
theorem up_cb {rc : QC} {q : QA} {σ : L2.St} {H : Hp} {Q : VK} (h : UP X.K B (rD X.K) (qCB rc q) σ H Q) : tCB (upC X.K B rc) (UP X.K B (rDs X.K) q) σ H Q := by
  obtain ⟨φ, s, S, Q', hr, ev, q, k⟩ := h
  exact ⟨φ, s, S, _, hr, ev, q, fun φ1 d S1 v H1 e1 hr1 r1 q1 => ⟨φ1, S1, d, Q', hr1, r1, q1, k.ext e1⟩⟩
theorem le_callB {x : Str} {p : Pos} {id : String} {rc : QC} (hc : CallR X (.builtin id) (upC X.K B rc)) (hg : Gl X x) (hm : X.mg x = none) (hv : bootBuiltins x = some (.builtin id)) (ha : LA X B (e :: es) q) (hn : x ≠ "__name__" := by decide) (hdb : (x == ("__debug__" : Str)) = false := by decide)
    (he : starEach (e :: es) X.env = (false, eval e X.env) :: starEach es X.env := by rfl) (hpl : (backTo pos (starEach es X.env)).any (·.1) = false := by rfl) : LE X B (.Call (.Name x p) (e :: es) [] pos) (qCB rc q) :=
  PE.imp (pe_callB hc hg hm hv ha hn hdb he hpl) fun _ _ _ => up_cb
theorem le_callTy {x : Str} {p : Pos} {T : String} {rc : QC} (hc : CallR X (.type T) (upC X.K B rc)) (hg : Gl X x) (hm : X.mg x = none) (hv : bootBuiltins x = some (.type T)) (ha : LA X B (e :: es) q) (hn : x ≠ "__name__" := by decide) (hdb : (x == ("__debug__" : Str)) = false := by decide)
    (he : starEach (e :: es) X.env = (false, eval e X.env) :: starEach es X.env := by rfl) (hpl : (backTo pos (starEach es X.env)).any (·.1) = false := by rfl) : LE X B (.Call (.Name x p) (e :: es) [] pos) (qCB rc q) :=
  PE.imp (pe_callTy hc hg hm hv ha hn hdb he hpl) fun _ _ _ => up_cb
/-- a built-in's name as a value -/
theorem le_ty {x : Str} {p : Pos} {T : String} (hg : Gl X x) (hm : X.mg x = none) (hv : bootBuiltins x = some (.type T)) (hn : x ≠ "__name__" := by decide) (hd : (x == ("__debug__" : Str)) = false := by decide) : LE X B (.Name x p) (qC (.ty T)) :=
  le_c (pe_bltn (v := .ty T) hg hm hv rfl hn hd) fun _ _ => rfl
/-- len -/
def rcLen : QC := fun ds S Q => match ds with
  | [.str z] => Need (z.length ≤ sizeLine) (Q (.int z.length) S)
  | [d] => Opt (itemsOf S d) fun xs => Q (.int xs.length) S
  | _ => False
theorem cc_len : CallR X (.builtin "len") (upC X.K B rcLen) := CallR.imp (call_len_str.or call_len_seq) fun x H Q ⟨φ, S, ds, Q', hr, r, q, k⟩ => by
  unfold rcLen at q
  split at q
  · obtain ⟨v, w', rfl, r1, r2⟩ := r
    cases r1; cases r2
    exact .inl ⟨_, rfl, q.c, k.here (d := D.int _) hr rfl q.q⟩
  · obtain ⟨v, w', rfl, r1, r2⟩ := r
    cases r2
    obtain ⟨xs, h1, q⟩ := q.get
    obtain ⟨p, vs, rfl, h2, h3⟩ := hr.items h1 r1
    exact .inr ⟨p, vs, rfl, h2, by rw [h3.len]; exact k.here (d := D.int _) hr rfl q⟩
  · exact q.elim
/-- the bools of a list -/
def asBs : List D → Option (List Bool)
  | [] => some []
  | .bl b :: r => (asBs r).map (b :: ·)
  | _ => none
theorem asBs_ok {K : PySem.W.Frag} {φ : Ph} {H : Hp} : ∀ {ds : List D} {vs : List V} {bs : List Bool}, asBs ds = some bs → RVs K φ H ds vs → vs = bs.map V.bl
  | [], _, _, h, r => by cases h; cases r; rfl
  | d :: ds, _, bs, h, ⟨v, ws, e, r1, r2⟩ => by
    subst e
    cases d <;> first | (cases h; done) | skip
    cases e2 : asBs ds with
    | none => simp [asBs, e2] at h
    | some cs =>
      simp [asBs, e2] at h
      subst h
      cases r1
      rw [asBs_ok e2 r2]; rfl
theorem asBs_map {α : Type} (f : α → Bool) (l : List α) : asBs (l.map fun x => D.bl (f x)) = some (l.map f) := by
  induction l with
  | nil => rfl
  | cons x r ih => simp [asBs, ih]
def rcAll (any : Bool) : QC := fun ds S Q => match ds with
  | [d] => Opt (lsOf S d) fun xs => Opt (asBs xs) fun bs => Q (.bl (if any then bs.any id else bs.all id)) S
  | _ => False
theorem lift_all {any : Bool} {x : List V} {H : Hp} {Q : VK} (h : upC X.K B (rcAll any) x H Q) : ∃ (a : Addr) (bs : List Bool), x = [V.ref a] ∧ SqL X.K H a (bs.map V.bl) ∧ Q (.bl (if any then bs.any id else bs.all id)) H := by
  obtain ⟨φ, S, ds, Q', hr, r, q, k⟩ := h
  unfold rcAll at q
  split at q
  · obtain ⟨v, w', rfl, r1, r2⟩ := r
    cases r2
    obtain ⟨xs, h1, q⟩ := q.get
    obtain ⟨bs, h2, q⟩ := q.get
    obtain ⟨a', vs, rfl, h3, h4⟩ := hr.ls h1 r1
    rw [asBs_ok h2 h4] at h3
    exact ⟨a', bs, rfl, .inl (.inl h3), k.here (d := D.bl _) hr rfl q⟩
  · exact q.elim
theorem cc_all (hc : X.calm = true) : CallR X (.builtin "all") (upC X.K B (rcAll false)) := CallR.imp (cr_all hc) fun _ _ _ => lift_all
/-- list(..), tuple(..) of a list, a tuple -/
def rcList : QC := fun ds S Q => match ds with
  | [d] => Opt (itemsOf S d) fun xs => Q (.lst xs) S
  | _ => False
theorem cc_list : CallR X (.type "list") (upC X.K B rcList) := CallR.imp call_list_of fun x H Q ⟨φ, S, ds, Q', hr, r, q, k⟩ => by
  unfold rcList at q
  split at q
  · obtain ⟨v, w', rfl, r1, r2⟩ := r
    cases r2
    obtain ⟨xs, h1, q⟩ := q.get
    obtain ⟨p, vs, rfl, h2, h3⟩ := hr.items h1 r1
    exact ⟨p, vs, rfl, h2, fun l hl => k.lst hr hl h3 q⟩
  · exact q.elim
def rcTuple : QC := fun ds S Q => match ds with
  | [d] => Opt (itemsOf S d) fun xs => Q (.tup xs) S
  | _ => False
theorem cc_tuple : CallR X (.type "tuple") (upC X.K B rcTuple) := CallR.imp call_tuple_of fun x H Q ⟨φ, S, ds, Q', hr, r, q, k⟩ => by
  unfold rcTuple at q
  split at q
  · obtain ⟨v, w', rfl, r1, r2⟩ := r
    cases r2
    obtain ⟨xs, h1, q⟩ := q.get
    obtain ⟨p, vs, rfl, h2, h3⟩ := hr.items h1 r1
    rcases h2 with h2 | h2
    · exact ⟨p, vs, rfl, .inl ⟨h2, fun l hl => k.tup hr hl h3 q⟩⟩
    · exact ⟨p, vs, rfl, .inr ⟨h2, k.here (d := D.tup xs) hr (show RV _ _ _ _ _ from ⟨p, vs, rfl, h2, h3⟩) q⟩⟩
  · exact q.elim
/-- min, max of two numbers -/
def rcMax2 (mx : Bool) : QC := fun ds S Q => match ds with
  | [.int i, .int j] => Q (.int (if mx then (if j > i then j else i) else (if j < i then j else i))) S
  | _ => False
theorem cc_min2 (hc : X.calm = true) : CallR X (.builtin "min") (upC X.K B (rcMax2 false)) := CallR.imp (call_min2 hc) fun x H Q ⟨φ, S, ds, Q', hr, r, q, k⟩ => by
  unfold rcMax2 at q
  split at q
  · obtain ⟨v, w', rfl, r1, v2, w2, rfl, r2, r3⟩ := r
    cases r1; cases r2; cases r3
    exact ⟨_, _, rfl, k.here (d := D.int _) hr rfl q⟩
  · exact q.elim
/-- sum of whole numbers -/
def asIs : List D → Option (List Int)
  | [] => some []
  | .int b :: r => (asIs r).map (b :: ·)
  | _ => none
theorem asIs_ok {K : PySem.W.Frag} {φ : Ph} {H : Hp} : ∀ {ds : List D} {vs : List V} {bs : List Int}, asIs ds = some bs → RVs K φ H ds vs → vs = bs.map V.int
  | [], _, _, h, r => by cases h; cases r; rfl
  | d :: ds, _, bs, h, ⟨v, ws, e, r1, r2⟩ => by
    subst e
    cases d <;> first | (cases h; done) | skip
    cases e2 : asIs ds with
    | none => simp [asIs, e2] at h
    | some cs =>
      simp [asIs, e2] at h
      subst h
      cases r1
      rw [asIs_ok e2 r2]; rfl
theorem asIs_ints (l : List Int) : asIs (l.map D.int) = some l := by
  induction l with
  | nil => rfl
  | cons x r ih => simp [asIs, ih]
/-! ### isinstance -/
/-- what the written part says of an own class for isinstance -/
structure IsC (K : PySem.W.Frag) (C : Addr) : Prop where
  cl : Cls K C
  ha : PySem.W.findIn K (.ref C) "__class__" =
    some (some (.builtin "object.__class__"))
  hn : PySem.W.specialIn K (.builtin "object.__class__") "__get__" =
    some (some (.builtin "getset_descriptor.__get__"))
  htk : PySem.W.takesIn K (.builtin "object.__class__") =
    some true
  hm : PySem.W.mroIn K C (.type "object") =
    some true
def tyOf (S : List O) : D → Option Value
  | .non => some (.type "NoneType")
  | .bl _ => some (.type "bool")
  | .int _ => some (.type "int")
  | .str _ => some (.type "str")
  | .tup _ => some (.type "tuple")
  | .lst _ => some (.type "list")
  | .scr _ => some (.type "list")
  | .dK _ _ => some (.type "dict")
  | .dT _ _ => some (.type "dict")
  | .ins C _ _ => some (.ref C)
  | .ref k => match S[k]? with
    | some (.lst _) => some (.type "list")
    | some .drw => some (.type "list")
    | some (.dK _) => some (.type "dict")
    | some (.dT _) => some (.type "dict")
    | some (.ins C _) => some (.ref C)
    | _ => none
  | _ => none
theorem tyOf_ok {φ : Ph} {H : Hp} {S : List O} {d : D} {v : V} {t : Value} (hr : HR X.K B φ H S) (h : tyOf S d = some t) (hc : ∀ C, t = .ref C → IsC X.K C) (r : RV X.K φ H d v) : TyX X.K H v t := by
  cases d with
  | non => cases h; cases r; exact .base .non
  | bl _ => cases h; cases r; exact .base (.bl _)
  | int _ => cases h; cases r; exact .base (.int _)
  | str _ => cases h; cases r; exact .base (.str _)
  | tup xs =>
    cases h
    obtain ⟨p, vs, rfl, h1, h2⟩ := r
    rcases h1 with (h1 | ⟨o, h1⟩) | ⟨o, its, n, h1, h3, _⟩
    · exact .base (.tup h1)
    · exact .fTuple h1
    · exact .kTuple h1 h3
  | lst xs => cases h; obtain ⟨p, vs, rfl, _, h1, h2⟩ := r; exact .base (.lst h1)
  | scr ns =>
    cases h
    obtain ⟨p, rfl, h1⟩ := r
    rcases h1 with ⟨_, h1 | ⟨o, h1⟩⟩ | ⟨o, its, n, h1, h3, _⟩
    · exact .base (.lst h1)
    · exact .base (.frz h1)
    · exact .kList h1 h3
  | dK ks xs => cases h; obtain ⟨p, vs, rfl, _, h1, _⟩ := r; exact .base (.dK h1)
  | dT ks xs => cases h; obtain ⟨p, vs, rfl, _, h1, _⟩ := r; exact .base (.dT h1)
  | ins C ns xs =>
    cases h
    obtain ⟨p, dx, vs, rfl, _, h1, _⟩ := r
    have c := hc C rfl
    exact .base (.ins h1 c.cl c.ha c.hn c.htk c.hm)
  | ref k =>
    obtain ⟨a, ea, rfl⟩ := r
    simp only [tyOf] at h
    cases e : S[k]? with
    | none => rw [e] at h; cases h
    | some o =>
      rw [e] at h
      obtain ⟨b, eb, ho⟩ := hr.rel.ob k _ e
      rw [ea] at eb; cases eb
      cases o with
      | lst xs => cases h; obtain ⟨vs, h1, h2⟩ := ho; exact .base (.lst h1)
      | drw => cases h; obtain ⟨l, vs, _, h1, h2⟩ := ho; exact .base (.lst h1)
      | dK l => cases h; obtain ⟨vs, h1, h2⟩ := ho; exact .base (.dK h1)
      | dT l => cases h; obtain ⟨vs, h1, h2⟩ := ho; exact .base (.dT h1)
      | ins C fs =>
        cases h
        obtain ⟨dx, gs, h1, h2⟩ := ho
        have c := hc C rfl
        exact .base (.ins h1 c.cl c.ha c.hn c.htk c.hm)
      | non => cases h
  | ty _ => cases h
  | adr _ => cases h
  | bad => cases h
def clsOf : D → Option Value
  | .ty n => some (.type n)
  | .adr C => some (.ref C)
  | _ => none
theorem clsOf_ok {K : PySem.W.Frag} {φ : Ph} {H : Hp} : ∀ {c : D} {v : V} {u : Value}, clsOf c = some u → RV K φ H c v → ClsV v u
  | .ty n, _, _, h, r => by cases h; cases r; exact .ty n
  | .adr C, _, _, h, r => by cases h; cases r; exact .own C
inductive rcIsi (K : PySem.W.Frag) : List D → List O → (D → List O → Prop) → Prop
  | mk {d c : D} {S : List O} {Q : D → List O → Prop} {t u : Value} {b : Bool} (h1 : tyOf S d = some t) (h2 : clsOf c = some u) (h3 : ∀ C, t = .ref C → IsC K C) (h4 : PySem.W.kitOne K t u = some b) (q : Q (.bl b) S) : rcIsi K [d, c] S Q
theorem cc_isi : CallR X (.builtin "isinstance") (upC X.K B (rcIsi X.K)) := CallR.imp call_isi fun x H Q ⟨φ, S, ds, Q', hr, r, q, k⟩ => by
  obtain ⟨h1, h2, h3, h4, q⟩ := q
  obtain ⟨v, w', rfl, r1, v2, w2, rfl, r2, r3⟩ := r
  cases r3
  exact ⟨v, v2, _, _, _, rfl, clsOf_ok h2 r2, tyOf_ok hr h1 h3 r1, h4, k.here (d := D.bl _) hr rfl q⟩

/-! ### methods -/
abbrev QM := D → List D → List O → (D → List O → Prop) → Prop
def upM (K : PySem.W.Frag) (B : Bs) (rm : QM) : V → List V → Hp → VK → Prop := fun x vs H Q => ∃ φ S d ds Q', HR K B φ H S ∧ RV K φ H d x ∧ RVs K φ H ds vs ∧ rm d ds S Q' ∧ Kont K B (rD K) φ H Q' Q
theorem MtR.imp {id : String} {r r' : V → List V → Hp → VK → Prop} (h : MtR X id r) (i : ∀ x xs H Q, r' x xs H Q → r x xs H Q) : MtR X id r' :=
  fun pins s σ H x xs v us Q I rx rs q => h pins s σ H x xs v us Q I rx rs (i _ _ _ _ q)
/-- a value of the built-in type T -/
def tyM (T : String) (d : D) (S : List O) : Prop := match d with
  | .str _ => T = "str"
  | .int _ => T = "int"
  | .lst _ => T = "list"
  | .scr _ => T = "list"
  | .dK _ _ => T = "dict"
  | .dT _ _ => T = "dict"
  | .ref k => match S[k]? with
    | some (.lst _) => T = "list"
    | some .drw => T = "list"
    | some (.dK _) => T = "dict"
    | some (.dT _) => T = "dict"
    | _ => False
  | _ => False
theorem tyM_ok {T : String} {φ : Ph} {H : Hp} {S : List O} {d : D} {v : V} (hr : HR X.K B φ H S) (h : tyM T d S) (r : RV X.K φ H d v) : tyV X.K T v H := by
  cases d with
  | str x => cases r; exact h
  | int x => cases r; exact h
  | lst xs => obtain ⟨p, vs, rfl, _, h1, _⟩ := r; exact .inl ⟨h, vs, .inl (.inl h1)⟩
  | scr ns => obtain ⟨p, rfl, h1⟩ := r; exact .inl ⟨h, _, h1.sql⟩
  | dK ks xs => obtain ⟨p, vs, rfl, _, h1, _⟩ := r; exact .inr (.inr (.inl ⟨h, .inl ⟨_, h1⟩⟩))
  | dT ks xs => obtain ⟨p, vs, rfl, _, h1, _⟩ := r; exact .inr (.inr (.inl ⟨h, .inr ⟨_, h1⟩⟩))
  | ref k =>
    obtain ⟨a, ea, rfl⟩ := r
    simp only [tyM] at h
    cases e : S[k]? with
    | none => rw [e] at h; exact h.elim
    | some o =>
      rw [e] at h
      obtain ⟨b, eb, ho⟩ := hr.rel.ob k _ e
      rw [ea] at eb; cases eb
      cases o with
      | lst xs => obtain ⟨vs, h1, h2⟩ := ho; exact .inl ⟨h, vs, .inl (.inl h1)⟩
      | drw => obtain ⟨l, vs, _, h1, h2⟩ := ho; exact .inl ⟨h, vs, .inl (.inl h1)⟩
      | dK l => obtain ⟨vs, h1, h2⟩ := ho; exact .inr (.inr (.inl ⟨h, .inl ⟨vs, h1⟩⟩))
      | dT l => obtain ⟨vs, h1, h2⟩ := ho; exact .inr (.inr (.inl ⟨h, .inr ⟨vs, h1⟩⟩))
      | ins C fs => exact h.elim
      | non => exact h.elim
  | _ => exact h.elim
def qBM (T : String) (rm : QM) (qo : QE) (q : QA) : QE := fun s S Q => qo s S fun d S1 => Need (tyM T d S1) (q s S1 fun ds S2 => rm d ds S2 Q)
theorem le_bm {T id : String} {rm : QM} {o : Expr} {qo : QE} {name : Str} {apos cpos : Pos} (pa : PlainAttrs T) (slot : Slot T name id) (hty : typeOf (.builtin id) = pure (.type "method_descriptor")) (hm : MtR X id (upM X.K B rm)) (ho : LE X B o qo) (ha : LA X B (e :: es) q)
    (hB0 :
      attributeBase o name X.env (eval o X.env) = eval o X.env := by rfl)
    (hF0 : ((backTo cpos (starEach (e :: es) X.env)).all (fun x => !x.1) && (backToKw cpos (keywordEach [] X.env)).all (fun x => x.1.isSome)  &&
      decide ((e :: es).length + ([] : List Keyword).length + (if ([] : List Keyword).isEmpty then 0 else 1) < 30)) = true := by rfl)
    (hL0 : (apos.endLine == cpos.line) = true := by rfl)
    (hs : starEach (e :: es) X.env = (false, eval e X.env) :: starEach es X.env := by rfl) (hP0 : (backTo cpos (starEach es X.env)).any (·.1) = false := by rfl) :
    LE X B (.Call (.Attribute o name apos) (e :: es) [] cpos) (qBM T rm qo q) := PE.imp (pe_bm pa slot hty hm ho ha hB0 hF0 hL0 hs hP0) fun σ H Q ⟨φ, s, S, Q', hr, ev, q, k⟩ =>
  ⟨φ, s, S, _, hr, ev, q, fun φ1 d S1 v H1 e1 hr1 r1 q1 => ⟨tyM_ok hr1 q1.c r1, ⟨φ1, s, S1, _, hr1, ev.mono e1, q1.q, fun φ2 ds S2 vs H2 e2 hr2 r2 q2 => ⟨φ2, S2, d, ds, Q', hr2, r1.mono e2, r2, q2, k.ext (e1.trans e2)⟩⟩⟩⟩
/-- a list of one's own -/
def lsM (S : List O) (d : D) : Option (Nat × List D) := match d with
  | .ref k => match S[k]? with
    | some (.lst xs) => some (k, xs)
    | _ => none
  | _ => none
theorem HR.lsW {φ : Ph} {H : Hp} {S : List O} {d : D} {k : Nat} {xs : List D} (hr : HR X.K B φ H S) (h : lsM S d = some (k, xs)) {v : V} (r : RV X.K φ H d v) : d = .ref k ∧ S[k]? = some (.lst xs) ∧ ∃ a vs, v = .ref a ∧ φ.own[k]? = some a ∧ H a = some (.lst vs) ∧ RVs X.K φ H xs vs := by
  unfold lsM at h
  split at h
  · split at h
    · rename_i ys e
      cases h
      obtain ⟨a, ea, rfl⟩ := r
      obtain ⟨b, vs, eb, h1, h2⟩ := hr.lstO e
      rw [ea] at eb; cases eb
      exact ⟨rfl, e, a, vs, rfl, ea, h1, h2⟩
    · cases h
  · cases h
/-- append -/
def rmAppend : QM := fun d ds S Q => match ds with
  | [x] => Opt (lsM S d) fun p => Need (p.2.length < sizeLine) (Q .non (S.set p.1 (.lst (p.2 ++ [x]))))
  | _ => False
theorem mm_append : MtR X "list.append" (upM X.K B rmAppend) := MtR.imp mt_append fun x xs H Q ⟨φ, S, d, ds, Q', hr, r, rs, q, k⟩ => by
  unfold rmAppend at q
  split at q
  · obtain ⟨v, w', rfl, r1, r2⟩ := rs
    cases r2
    obtain ⟨⟨kk, ys⟩, h1, h2, q2⟩ := q.get; clear q
    obtain ⟨rfl, hS, a, vs, rfl, ea, h3, h4⟩ := hr.lsW h1 r
    exact ⟨a, vs, v, rfl, rfl, h3, by rw [h4.len]; exact h2, k.write (x := O.lst ys) (y := O.lst _) (d := D.non) hr hS rfl ea (fun e => ⟨_, upd_same, (RVs.app (es := [_]) (ws := [v]) h4 ⟨v, [], rfl, r1, rfl⟩).mono e⟩) (fun _ _ => rfl) q2⟩
  · exact q.elim
theorem RVs.ofStrs {K : PySem.W.Frag} {φ : Ph} {H : Hp} : ∀ {ns : List Str}, RVs K φ H (ns.map D.str) (ns.map V.str)
  | [] => rfl
  | n :: _ => ⟨.str n, _, rfl, rfl, RVs.ofStrs⟩
def rmSplit : QM := fun d ds S Q => match d, ds with
  | .str a, [.str b] => Need ((b.length == 0) = false ∧ a.length + 2 ≤ sizeLine) (Q (.lst ((Txt.split a b).map D.str)) S)
  | _, _ => False
theorem mm_split : MtR X "str.split" (upM X.K B rmSplit) := MtR.imp mt_split fun x xs H Q ⟨φ, S, d, ds, Q', hr, r, rs, q, k⟩ => by
  unfold rmSplit at q
  split at q
  · obtain ⟨v, w', rfl, r1, r2⟩ := rs
    cases r2; cases r1; cases r
    exact ⟨_, _, rfl, rfl, q.c.1, q.c.2, fun p hp => k.lst hr hp .ofStrs q.q⟩
  · exact q.elim
end
end LC

set_option Elab.async false
set_option linter.all false
set_option maxRecDepth 100000
set_option maxHeartbeats 5000000
/-! LD4: statements, targets, calls of own defs, fields, instances. -/
namespace LC
open PySem PySem.Spec
open PyProof.Rows L2

/-! ### statements -/
section
variable {X : Cx} {B : Bs} {st : Stmt} {rest body : List Stmt} {qs qt : QS} {e : Expr} {qe : QE} {pos : Pos}
theorem EV.set {φ : Ph} {H : Hp} {s : Sl} {σ : L2.St} {i : Nat} {d : D} {v : V} (ev : EV X.K φ H s σ) (r : RV X.K φ H d v) : EV X.K φ H (s.set i (some d)) (σ.set i (some v)) := by
  refine ⟨by simp [ev.len], fun j x q => ?_⟩
  by_cases hj : j = i
  · subst hj
    have hl : j < s.length := by
      have := (List.getElem?_eq_some_iff.mp q).1
      simpa using this
    rw [List.getElem?_set_self hl] at q
    cases q
    exact ⟨v, by rw [List.getElem?_set_self (by rw [ev.len]; exact hl)], r⟩
  · rw [List.getElem?_set_ne (Ne.symm hj)] at q
    obtain ⟨u, h1, h2⟩ := ev.at' j x q
    exact ⟨u, by rw [List.getElem?_set_ne (Ne.symm hj)]; exact h1, h2⟩
theorem EV.wipe {φ : Ph} {H : Hp} {s : Sl} {σ : L2.St} {i : Nat} (ev : EV X.K φ H s σ) : EV X.K φ H (s.set i none) (σ.set i none) := by
  refine ⟨by simp [ev.len], fun j x q => ?_⟩
  by_cases hj : j = i
  · subst hj
    have hl : j < s.length := by
      have := (List.getElem?_eq_some_iff.mp q).1
      simpa using this
    rw [List.getElem?_set_self hl] at q
    cases q
  · rw [List.getElem?_set_ne (Ne.symm hj)] at q
    obtain ⟨u, h1, h2⟩ := ev.at' j x q
    exact ⟨u, by rw [List.getElem?_set_ne (Ne.symm hj)]; exact h1, h2⟩
def qNext : QS := fun D s S => D.nx s S
def qSeq (a b : QS) : QS := fun D s S => a { D with nx := b D } s S
theorem lss_nil : LSs X B [] qNext := PSs.imp pss_nil fun D σ H ⟨φ, s, S, D', hr, ev, q, ek⟩ => ek.nx _ _ _ _ _ Ext.refl hr ev q
theorem lss_cons (h1 : LS X B st qs) (h2 : LSs X B rest qt) : LSs X B (st :: rest) (qSeq qs qt) := PSs.imp (pss_cons h1 h2) fun D σ H ⟨φ, s, S, D', hr, ev, q, ek⟩ =>
  ⟨φ, s, S, { D' with nx := qt D' }, hr, ev, q, ek.seq (fun φ' H' S' s' σ' ek' hr' ev' q' => ⟨φ', s', S', D', hr', ev', q', ek'⟩) rfl rfl rfl⟩
/-- dead slots are forgotten -/
def wipeD (s : Sl) : List Nat → Sl
  | [] => s
  | v :: vs => (wipeD s vs).set v none
theorem EV.forget {φ : Ph} {H : Hp} {s : Sl} {σ : L2.St} {i : Nat} (ev : EV X.K φ H s σ) : EV X.K φ H (s.set i none) σ := by
  refine ⟨by simp [ev.len], fun j x q => ?_⟩
  by_cases hj : j = i
  · subst hj
    have hl : j < s.length := by
      have := (List.getElem?_eq_some_iff.mp q).1
      simpa using this
    rw [List.getElem?_set_self hl] at q
    cases q
  · rw [List.getElem?_set_ne (Ne.symm hj)] at q
    exact ev.at' j x q
theorem EV.forgets {φ : Ph} {H : Hp} {s : Sl} {σ : L2.St} (ev : EV X.K φ H s σ) : ∀ {vs : List Nat}, EV X.K φ H (wipeD s vs) σ
  | [] => ev
  | _ :: _ => (EV.forgets ev).forget
def qSeqW (vs : List Nat) (a b : QS) : QS := fun D s S => a { D with nx := fun s' S' => b D (wipeD s' vs) S' } s S
theorem lss_consW (vs : List Nat) (h1 : LS X B st qs) (h2 : LSs X B rest qt) : LSs X B (st :: rest) (qSeqW vs qs qt) := PSs.imp (pss_cons h1 h2) fun D σ H ⟨φ, s, S, D', hr, ev, q, ek⟩ =>
  ⟨φ, s, S, { D' with nx := fun s' S' => qt D' (wipeD s' vs) S' }, hr, ev, q, ek.seq (fun φ' H' S' s' σ' ek' hr' ev' q' => ⟨φ', _, S', D', hr', ev'.forgets, q', ek'⟩) rfl rfl rfl⟩
def qDrop (qe : QE) : QS := fun D s S => qe s S fun _ S1 => D.nx s S1
theorem ls_expr (he : LE X B e qe) (hs : swapsWith e none pos.line X.env = pure false := by rfl) : LS X B (.Expr e pos) (qDrop qe) := PS.imp (ps_expr he hs) fun D σ H ⟨φ, s, S, D', hr, ev, q, ek⟩ =>
  ⟨φ, s, S, _, hr, ev, q, fun φ1 d S1 v H1 e1 hr1 r1 q1 => ek.nx _ _ _ _ _ e1 hr1 (ev.mono e1) q1⟩
def qRet (qe : QE) : QS := fun D s S => qe s S D.rt
theorem ls_ret (he : LE X B e qe) : LS X B (.Return (some e) pos) (qRet qe) := PS.imp (ps_ret he) fun D σ H ⟨φ, s, S, D', hr, ev, q, ek⟩ =>
  ⟨φ, s, S, _, hr, ev, q, fun φ1 d S1 v H1 e1 hr1 r1 q1 => ek.rt _ _ _ _ _ e1 hr1 r1 q1⟩
def qIfS (t : QT) (a b : QS) : QS := fun D s S => t s S fun c S1 => Br c (a D s S1) (b D s S1)
theorem ls_if {c : Expr} {a b : List Stmt} {t : QT} {qa qb : QS} (hc : LT X B c t) (ha : LSs X B a qa) (hb : LSs X B b qb) : LS X B (.If c a b pos) (qIfS t qa qb) := PS.imp (ps_if hc ha hb) fun D σ H ⟨φ, s, S, D', hr, ev, q, ek⟩ =>
  ⟨φ, s, S, _, hr, ev, q, fun φ1 d S1 v H1 e1 hr1 r1 q1 => by
    cases r1
    cases d with
    | true => exact ⟨φ1, s, S1, D', hr1, ev.mono e1, q1.t rfl, ek.ext e1⟩
    | false => exact ⟨φ1, s, S1, D', hr1, ev.mono e1, q1.f rfl, ek.ext e1⟩⟩

/-! ### targets -/
abbrev QG := D → Sl → List O → (Sl → List O → Prop) → Prop
def KontG (K : PySem.W.Frag) (B : Bs) (φ : Ph) (H : Hp) (Q' : Sl → List O → Prop) (Q : L2.St → Hp → Prop) : Prop :=
  ∀ φ' s' S' σ' H', Ext K φ φ' H H' → HR K B φ' H' S' → EV K φ' H' s' σ' → Q' s' S' → Q σ' H'
def UG (K : PySem.W.Frag) (B : Bs) (g : QG) : TG := fun v σ H Q => ∃ φ d s S Q', HR K B φ H S ∧ EV K φ H s σ ∧ RV K φ H d v ∧ g d s S Q' ∧ KontG K B φ H Q' Q
abbrev LG (X : Cx) (B : Bs) (e : Expr) (g : QG) : Prop := PG X e (UG X.K B g)
theorem PG.imp {e : Expr} {t t' : TG} (h : PG X e t) (i : ∀ v σ H Q, t' v σ H Q → t v σ H Q) : PG X e t' := ⟨fun pins s σ H v u Q I r w => h.run pins s σ H v u Q I r (i _ _ _ _ w)⟩
def qgName (i : Nat) : QG := fun d s S Q => Q (s.set i (some d)) S
theorem lg_name {i : Nat} {x : Str} (hN : X.N.Nodup) (hi : X.N[i]? = some x) (hx : Loc X.env.scope x := by first | exact .inl rfl | exact .inr rfl) (hf : X.fn x = true ∨ X.env.scope.names.lookup x = some .local := by first | exact .inl rfl | exact .inr rfl | assumption) : LG X B (.Name x pos) (qgName i) :=
  PG.imp (pg_name hN hi hx hf) fun v σ H Q ⟨φ, d, s, S, Q', hr, ev, r, q, k⟩ => k _ _ _ _ _ Ext.refl hr (ev.set r) q
/-- target = e -/
def qAsg (qe : QE) (g : QG) : QS := fun D s S => qe s S fun d S1 => g d s S1 D.nx
theorem up_asg {g : QG} {D : Ends} {σ : L2.St} {H : Hp} (h : US X.K B (qAsg qe g) D σ H) : tAsg (UP X.K B (rD X.K) qe) (UG X.K B g) D σ H := by
  obtain ⟨φ, s, S, D', hr, ev, q, ek⟩ := h
  exact ⟨φ, s, S, _, hr, ev, q, fun φ1 d S1 v H1 e1 hr1 r1 q1 => ⟨φ1, d, s, S1, D'.nx, hr1, ev.mono e1, r1, q1, fun φ2 s2 S2 σ2 H2 e2 hr2 ev2 q2 => ek.nx _ _ _ _ _ (e1.trans e2) hr2 ev2 q2⟩⟩
theorem ls_asg {tg : Expr} {g : QG} (he : LE X B e qe) (hg : LG X B tg g) (hs : swapsWithSole [tg] e pos.line X.env = pure false := by rfl) (hw : swappedStores [tg] e X.env = pure none := by rfl)
    (h1 : (assignEach [tg] X.env).map (·.2) = [assign tg X.env] := by rfl) : LS X B (.Assign [tg] e pos) (qAsg qe g) := PS.imp (ps_asg he hg hs hw h1) fun _ _ _ => up_asg
def qSet (i : Nat) (qe : QE) : QS := fun D s S => qe s S fun d S1 => D.nx (s.set i (some d)) S1
theorem ls_set (i : Nat) {x : Str} {pos' : Pos} (he : LE X B e qe) (hN : X.N.Nodup) (hi : X.N[i]? = some x := by rfl) (hx : Loc X.env.scope x := by first | exact .inl rfl | exact .inr rfl) (hs : swapsWith e (some (.Name x pos')) pos.line X.env = pure false := by rfl) (hf : X.fn x = true ∨ X.env.scope.names.lookup x = some .local := by first | exact .inl rfl | exact .inr rfl | assumption) :
    LS X B (.Assign [.Name x pos'] e pos) (qSet i qe) := PS.imp (ps_set hN hi hx he hs hf) fun D σ H ⟨φ, s, S, D', hr, ev, q, ek⟩ =>
  ⟨φ, s, S, _, hr, ev, q, fun φ1 d S1 v H1 e1 hr1 r1 q1 => ek.nx _ _ _ _ _ e1 hr1 ((ev.mono e1).set r1) q1⟩
/-- o[i] = .. -/
abbrev QSt := D → D → D → List O → (List O → Prop) → Prop
def upSet (K : PySem.W.Frag) (B : Bs) (t : QSt) : TSet := fun o i v H Q => ∃ φ S do' di dv Q', HR K B φ H S ∧ RV K φ H do' o ∧ RV K φ H di i ∧ RV K φ H dv v ∧ t do' di dv S Q' ∧ ∀ φ' S' H', Ext K φ φ' H H' → HR K B φ' H' S' → Q' S' → Q H'
theorem PSet.imp {t t' : TSet} (h : PSet X t) (i : ∀ o j v H Q, t' o j v H Q → t o j v H Q) : PSet X t' := fun pins s σ H o j v ov iv u Q I r1 r2 r3 w => h pins s σ H o j v ov iv u Q I r1 r2 r3 (i _ _ _ _ _ w)
def qgSub (qo qi : QE) (t : QSt) : QG := fun d s S Q => qo s S fun o S1 => qi s S1 fun i S2 => t o i d S2 fun S3 => Q s S3
theorem lg_sub {o i : Expr} {qo qi : QE} {t : QSt} (ho : LE X B o qo) (hi : LE X B i qi) (hs : PSet X (upSet X.K B t))
    (ha : ∀ v,
      assign (.Subscript o i pos) X.env v = (do
      let v1 ← holding [v] (eval o X.env); let v2 ← holding [v, v1] (eval i X.env)
      standAt pos
      holding [v, v1, v2] (setItem v1 v2 v)
      release [v, v1, v2] []) := by intro _; rfl) : LG X B (.Subscript o i pos) (qgSub qo qi t) := PG.imp (pg_sub ho hi hs ha) fun v σ H Q ⟨φ, d, s, S, Q', hr, ev, r, q, k⟩ =>
  ⟨φ, s, S, _, hr, ev, q, fun φ1 d1 S1 v1 H1 e1 hr1 r1 q1 => ⟨φ1, s, S1, _, hr1, ev.mono e1, q1, fun φ2 d2 S2 v2 H2 e2 hr2 r2 q2 =>
    ⟨φ2, S2, d1, d2, d, _, hr2, r1.mono e2, r2, r.mono (e1.trans e2), q2, fun φ3 S3 H3 e3 hr3 q3 => k _ _ _ _ _ (e1.trans (e2.trans e3)) hr3 (ev.mono (e1.trans (e2.trans e3))) q3⟩⟩⟩
def otList : QSt := fun o i d S Q => match i with
  | .int z => Opt (lsM S o) fun p => Opt (ixN p.2.length z) fun j => Q (S.set p.1 (.lst (p.2.set j d)))
  | _ => False
theorem st_list : PSet X (upSet X.K B otList) := PSet.imp set_list fun o i v H Q ⟨φ, S, d1, d2, d3, Q', hr, r1, r2, r3, q, k⟩ => by
  unfold otList at q
  split at q
  · cases r2
    obtain ⟨⟨kk, xs⟩, h1, q1⟩ := q.get; clear q
    obtain ⟨j, h2, q2⟩ := q1.get; clear q1
    obtain ⟨rfl, hS, a, vs, rfl, ea, h3, h4⟩ := hr.lsW h1 r1
    obtain ⟨e, hr'⟩ := hr.write (o := .lst (vs.set j v)) (x := O.lst xs) (y := O.lst (xs.set j d3)) hS rfl ea fun e => ⟨_, upd_same, (RVs.set r3 j h4).mono e⟩
    exact ⟨a, vs, _, j, rfl, rfl, h3, by rw [h4.len]; exact h2, k _ _ _ e hr' q2⟩
  · exact q.elim
end

/-! ### own defs: promises over data -/
abbrev EDt := Addr → List (Str × D) → List O → Prop
abbrev SpD := List D → List O → (D → List O → Prop) → EDt → Prop
/-- an exception of the class at C with its fields -/
def XRel (K : PySem.W.Frag) (φ : Ph) (H : Hp) (C : Addr) (fs : List (Str × D)) (cls : Value) (d : Option Addr) : Prop := cls = .ref C ∧ ∃ dx gs, d = some dx ∧ H dx = some (.xd gs) ∧ RKV K φ H fs gs
def upF (K : PySem.W.Frag) (sp : SpD) : Sp := fun vs H Q E => ∃ φ ds S Q' E' T, Rel K φ H S ∧ RVs K φ H ds vs ∧ LamX.Tabs T H ∧ sp ds S Q' E' ∧ (∀ φ' d S' v H', Ext K φ φ' H H' → Rel K φ' H' S' → LamX.Tabs T H' → RV K φ' H' d v → Q' d S' → Q v H') ∧
  (∀ φ' C fs S' cls d H', Ext K φ φ' H H' → Rel K φ' H' S' → LamX.Tabs T H' → XRel K φ' H' C fs cls d → E' C fs S' → E cls d H')
/-- the wish about exceptions, with slots -/
abbrev WD := Addr → List (Str × D) → Sl → List O → Prop
def WL (K : PySem.W.Frag) (B : Bs) (W' : WD) (W : WX) : Prop := ∀ φ' C fs s S' cls d σ H', HR K B φ' H' S' → EV K φ' H' s σ → XRel K φ' H' C fs cls d → W' C fs s S' → W cls d σ H'
def W0 : WD := fun _ _ _ _ => False
theorem WL0 {X : Cx} {B : Bs} {W : WX} : WL X.K B W0 W := fun _ _ _ _ _ _ _ _ _ _ _ _ h => h.elim
section
variable {X : Cx} {B : Bs} {k : Nat} {f C : Addr} {fd : FuncData} {ps : List Str} {sp : SpD} {dds : List D} {dvs : List V} {ds : List Value} {W : WX} {W' : WD} {x m : Str} {p pos apos : Pos} {e o : Expr} {es : List Expr} {q : QA} {qo : QE}
def qCall (sp : SpD) (dds : List D) (W' : WD) (q : QA) : QE := fun s S Q => q s S fun ds S1 => sp (ds ++ dds) S1 Q fun C fs S' => W' C fs s S'
/-- data that stand for values anywhere -/
def RVc (K : PySem.W.Frag) (ds : List D) (vs : List V) : Prop := ∀ φ H, RVs K φ H ds vs
theorem RVc.nil {K : PySem.W.Frag} : RVc K [] [] := fun _ _ => rfl
theorem upF_at {φ : Ph} {H : Hp} {S : List O} {s : Sl} {σ : L2.St} {ds : List D} {vs : List V} {Q' : D → List O → Prop} {Q : VK} (hr : HR X.K B φ H S) (ev : EV X.K φ H s σ) (r : RVs X.K φ H ds vs) (wl : WL X.K B W' W)
    (h : sp ds S Q' fun C fs S' => W' C fs s S') (k : Kont X.K B (rD X.K) φ H Q' Q) : upF X.K sp vs H Q (WE W σ) :=
  ⟨φ, ds, S, Q', _, B.T, hr.rel, r, hr.tab, h, fun φ' d S' v H' e1 r1 t1 rv q => k _ _ _ _ _ e1 (hr.mono e1 r1 t1) rv q, fun φ' C fs S' cls d H' e1 r1 t1 xr q => wl _ _ _ _ _ _ _ _ _ (hr.mono e1 r1 t1) (ev.mono e1) xr q⟩
theorem le_call (F : FnOk X.prog X.w X.K X.mg X.base (L2.CX X.prog X.w) k f fd ps (upF X.K sp)) (hr : Room k X.A) (hg : Gl X x) (hm : X.mg x = some (.ref f)) (hk : PySem.W.keepIn X.K (.ref f) = true) (hb : Binds X.K fd ps ds) (hd : Vals dvs ds) (hdd : RVc X.K dds dvs) (tk : Takes X W) (wl : WL X.K B W' W)
    (ha : LA X B (e :: es) q) (hdb : (x == ("__debug__" : Str)) = false := by decide) (he : starEach (e :: es) X.env = (false, eval e X.env) :: starEach es X.env := by rfl) (hpl : (backTo pos (starEach es X.env)).any (·.1) = false := by rfl) :
    LE X B (.Call (.Name x p) (e :: es) [] pos) (qCall sp dds W' q) := PE.imp (pe_callSD F hr hg hm hk hb hd (E := WE W) (fun σ => passAt tk σ) ha hdb he hpl) fun σ H Q ⟨φ, s, S, Q', hr, ev, q, k⟩ =>
  ⟨φ, s, S, _, hr, ev, q, fun φ1 ds S1 vs H1 e1 hr1 r1 q1 => upF_at hr1 (ev.mono e1) (r1.app (hdd _ _)) wl q1 (k.ext e1)⟩
theorem RKV.lookup {K : PySem.W.Frag} {φ : Ph} {H : Hp} {m : Str} : ∀ {fs : List (Str × D)} {gs : List (Str × V)}, RKV K φ H fs gs → (match fs.lookup m with | some d => ∃ v, gs.lookup m = some v ∧ RV K φ H d v | none => gs.lookup m = none)
  | [], _, h => by cases h; rfl
  | (n, d) :: fs, _, ⟨v, r, e, h1, h2⟩ => by
    subst e
    have ih := RKV.lookup (m := m) h2
    by_cases hm : m = n
    · subst hm
      simp [List.lookup]
      exact h1
    · have hb : (m == n) = false := by simpa using hm
      simp only [List.lookup, hb]
      exact ih
theorem RKV.lookup_some {K : PySem.W.Frag} {φ : Ph} {H : Hp} {m : Str} {d : D} {fs : List (Str × D)} {gs : List (Str × V)} (r : RKV K φ H fs gs) (h : fs.lookup m = some d) : ∃ v, gs.lookup m = some v ∧ RV K φ H d v := by
  have := RKV.lookup (m := m) r
  rw [h] at this
  exact this
end

/-! ### methods, instances -/
section
variable {X : Cx} {B : Bs} {k : Nat} {f C : Addr} {fd : FuncData} {ps : List Str} {sp : Sp} {spd : SpD} {dds : List D} {dvs : List V} {ds : List Value} {W : WX} {W' : WD} {x m : Str} {p pos apos : Pos} {e o : Expr} {es : List Expr} {q : QA} {qo : QE}
/-! ### fields -/
end
end LC

set_option Elab.async false
set_option linter.all false
set_option maxRecDepth 100000
set_option maxHeartbeats 5000000
/-! LD5: what is dropped, what no longer changes, loops. -/
namespace LC
open PySem PySem.Spec
open PyProof.Rows L2

/-! ### data that speak of numbers below n alone -/
mutual
def D.lt (n : Nat) : D → Prop
  | .ref k => k < n
  | .tup xs => D.lts n xs
  | .lst xs => D.lts n xs
  | .ins _ _ xs => D.lts n xs
  | .dK _ xs => D.lts n xs
  | .dT _ xs => D.lts n xs
  | _ => True
def D.lts (n : Nat) : List D → Prop
  | [] => True
  | d :: r => D.lt n d ∧ D.lts n r
end
theorem D.lts_mem {n : Nat} {ds : List D} : D.lts n ds ↔ ∀ d ∈ ds, D.lt n d := by
  induction ds with
  | nil => exact ⟨fun _ d h => absurd h (List.not_mem_nil), fun _ => trivial⟩
  | cons d r ih =>
    constructor
    · rintro ⟨h1, h2⟩ x hx
      rcases (List.mem_cons).mp hx with rfl | hx
      · exact h1
      · exact ih.mp h2 x hx
    · intro h
      exact ⟨h d List.mem_cons_self, ih.mpr fun x hx => h x (List.mem_cons_of_mem _ hx)⟩
theorem D.lts_map {α : Type} {f : α → D} {n : Nat} {l : List α} (h : ∀ a ∈ l, D.lt n (f a)) : D.lts n (l.map f) := D.lts_mem.mpr fun d hd => by
  obtain ⟨a, ha, rfl⟩ := List.mem_map.mp hd
  exact h a ha
theorem D.lts_ints {n : Nat} (ns : List Int) : D.lts n (ns.map D.int) := D.lts_map fun _ _ => trivial
theorem D.lts_app {n : Nat} {ds es : List D} (h : D.lts n ds) (g : D.lts n es) : D.lts n (ds ++ es) := by
  rw [D.lts_mem] at h g ⊢
  intro d hd
  rcases List.mem_append.mp hd with hd | hd
  · exact h d hd
  · exact g d hd
mutual
theorem D.lt.mono {n m : Nat} (hm : n ≤ m) : ∀ {d : D}, D.lt n d → D.lt m d
  | .ref _, h => Nat.lt_of_lt_of_le h hm
  | .tup _, h => D.lts.mono hm h
  | .lst _, h => D.lts.mono hm h
  | .ins _ _ _, h => D.lts.mono hm h
  | .dK _ _, h => D.lts.mono hm h
  | .dT _ _, h => D.lts.mono hm h
  | .non, _ => trivial
  | .bl _, _ => trivial
  | .int _, _ => trivial
  | .str _, _ => trivial
  | .ty _, _ => trivial
  | .adr _, _ => trivial
  | .scr _, _ => trivial
  | .bad, _ => trivial
theorem D.lts.mono {n m : Nat} (hm : n ≤ m) : ∀ {d : List D}, D.lts n d → D.lts m d
  | [], _ => trivial
  | _ :: _, h => ⟨D.lt.mono hm h.1, D.lts.mono hm h.2⟩
end
mutual
theorem D.pl.lt : ∀ {d : D} {n m : Nat}, D.pl d n → D.lt m d
  | .non, _, _, _ => trivial
  | .bl _, _, _, _ => trivial
  | .int _, _, _, _ => trivial
  | .str _, _, _, _ => trivial
  | .tup xs, n + 1, _, h => D.pls.lt (ds := xs) (n := n) h
  | .lst xs, n + 1, _, h => D.pls.lt (ds := xs) (n := n) h
theorem D.pls.lt : ∀ {ds : List D} {n m : Nat}, D.pls ds n → D.lts m ds
  | [], _, _, _ => trivial
  | d :: r, _, _, h => ⟨D.pl.lt h.1, D.pls.lt h.2⟩
end
/-! ### what is numbered m and above, by value -/
section
variable (m : Nat) (S : List O)
mutual
def Rs : D → D → Prop
  | .ref k, d => d = .ref k ∧ k < m
  | .tup ys, d => ∃ xs, d = .tup xs ∧ RsL ys xs
  | .lst ys, d => (∃ xs, d = .lst xs ∧ RsL ys xs) ∨ ∃ k xs, d = .ref k ∧ m ≤ k ∧ S[k]? = some (.lst xs) ∧ RsL ys xs
  | .ins C ns ys, d => (∃ xs, d = .ins C ns xs ∧ RsL ys xs) ∨ ∃ k fs, d = .ref k ∧ m ≤ k ∧ S[k]? = some (.ins C fs) ∧ ns = fs.map (·.1) ∧ RsL ys (fs.map (·.2))
  | .dK ks ys, d => (∃ xs, d = .dK ks xs ∧ RsL ys xs) ∨ ∃ k fs, d = .ref k ∧ m ≤ k ∧ S[k]? = some (.dK fs) ∧ ks = fs.map (·.1) ∧ RsL ys (fs.map (·.2))
  | .dT ks ys, d => (∃ xs, d = .dT ks xs ∧ RsL ys xs) ∨ ∃ k fs, d = .ref k ∧ m ≤ k ∧ S[k]? = some (.dT fs) ∧ ks = fs.map (·.1) ∧ RsL ys (fs.map (·.2))
  | .non, d => d = .non
  | .bl b, d => d = .bl b
  | .int i, d => d = .int i
  | .str x, d => d = .str x
  | .ty x, d => d = .ty x
  | .adr x, d => d = .adr x
  | .scr x, d => d = .scr x
  | .bad, d => d = .bad
def RsL : List D → List D → Prop
  | [], xs => xs = []
  | y :: ys, xs => ∃ x r, xs = x :: r ∧ Rs y x ∧ RsL ys r
end
end
mutual
theorem Rs.same {m : Nat} {S : List O} : ∀ {d : D}, D.lt m d → Rs m S d d
  | .ref k, h => ⟨rfl, h⟩
  | .tup xs, h => ⟨xs, rfl, RsL.same h⟩
  | .lst xs, h => .inl ⟨xs, rfl, RsL.same h⟩
  | .ins _ _ xs, h => .inl ⟨xs, rfl, RsL.same h⟩
  | .dK _ xs, h => .inl ⟨xs, rfl, RsL.same h⟩
  | .dT _ xs, h => .inl ⟨xs, rfl, RsL.same h⟩
  | .non, _ => rfl
  | .bl _, _ => rfl
  | .int _, _ => rfl
  | .str _, _ => rfl
  | .ty _, _ => rfl
  | .adr _, _ => rfl
  | .scr _, _ => rfl
  | .bad, _ => rfl
theorem RsL.same {m : Nat} {S : List O} : ∀ {ds : List D}, D.lts m ds → RsL m S ds ds
  | [], _ => rfl
  | d :: r, h => ⟨d, r, rfl, Rs.same h.1, RsL.same h.2⟩
end
theorem Rs.ofL {m : Nat} {S : List O} {k : Nat} {xs ys : List D} (hm : m ≤ k) (h : S[k]? = some (.lst xs)) (r : RsL m S ys xs) : Rs m S (.lst ys) (.ref k) := .inr ⟨k, xs, rfl, hm, h, r⟩
/-- a list that was one's own, handed on as it is -/
theorem Rs.ofL' {m : Nat} {S : List O} {k : Nat} {xs : List D} (hm : m ≤ k) (h : S[k]? = some (.lst xs)) (r : D.lts m xs) : Rs m S (.lst xs) (.ref k) := Rs.ofL hm h (RsL.same r)
/-- the first m numbers -/
def Ph.cut (φ : Ph) (m : Nat) : Ph := ⟨φ.hid, φ.own.take m⟩
theorem Fz.cut {φ : Ph} {m : Nat} {a : Addr} (h : Fz φ a) : Fz (φ.cut m) a := ⟨h.1, fun z => h.2 (List.mem_of_mem_take z)⟩
section
variable {K : PySem.W.Frag} {φ : Ph} {H : Hp} {S : List O}
theorem LsA.cut {m : Nat} {a : Addr} {xs : List V} (h : LsA K φ H a xs) : LsA K (φ.cut m) H a xs := h.imp (fun ⟨f, g⟩ => ⟨f.cut, g⟩) id
/-- from the m-th on: no number of the first -/
theorem Rel.above (r : Rel K φ H S) {m k : Nat} {a : Addr} (hm : m ≤ k) (h : φ.own[k]? = some a) : Fz (φ.cut m) a := by
  refine ⟨fun z => r.dj a z (List.mem_of_getElem? h), fun z => ?_⟩
  obtain ⟨j, hj⟩ := List.getElem?_of_mem z
  have hjm : j < m := by
    have := (List.getElem?_eq_some_iff.mp hj).1
    simp only [Ph.cut, List.length_take] at this; omega
  have hj' : φ.own[j]? = some a := by
    have : (φ.own.take m)[j]? = some a := hj
    rwa [List.getElem?_take_of_lt hjm] at this
  obtain ⟨l1, g1⟩ := List.getElem?_eq_some_iff.mp hj'
  obtain ⟨l2, g2⟩ := List.getElem?_eq_some_iff.mp h
  have := (List.getElem_inj r.nd).mp (g1.trans g2.symm)
  omega
mutual
theorem Rs.rv {m : Nat} (r : Rel K φ H S) : ∀ {d' d : D} {v : V}, Rs m S d' d → RV K φ H d v → RV K (φ.cut m) H d' v
  | .ref k, _, _, ⟨e, hk⟩, h => by
    subst e
    obtain ⟨a, h1, h2⟩ := h
    exact ⟨a, by show (φ.own.take m)[k]? = _; rw [List.getElem?_take_of_lt hk]; exact h1, h2⟩
  | .tup ys, _, _, ⟨xs, e, q⟩, h => by
    subst e
    obtain ⟨p, vs, h1, h2, h3⟩ := h
    exact ⟨p, vs, h1, h2, RsL.rv r q h3⟩
  | .lst ys, _, _, q, h => by
    rcases q with ⟨xs, e, q⟩ | ⟨k, xs, e, hk, hS, q⟩
    · subst e
      obtain ⟨p, vs, h1, h2, h3, h4⟩ := h
      exact ⟨p, vs, h1, h2.cut, h3, RsL.rv r q h4⟩
    · subst e
      obtain ⟨a, h1, h2⟩ := h
      obtain ⟨b, g1, vs, g2, g3⟩ := r.ob k _ hS
      rw [h1] at g1; cases g1
      exact ⟨a, vs, h2, r.above hk h1, g2, RsL.rv r q g3⟩
  | .ins C ns ys, _, _, q, h => by
    rcases q with ⟨xs, e, q⟩ | ⟨k, fs, e, hk, hS, en, q⟩
    · subst e
      obtain ⟨p, dx, vs, h1, h2, h3, h4, h5⟩ := h
      exact ⟨p, dx, vs, h1, h2.cut, h3, h4.trans (RsL.len q), RsL.rv r q h5⟩
    · subst e en
      obtain ⟨a, h1, h2⟩ := h
      obtain ⟨b, g1, dx, gs, g2, g3⟩ := r.ob k _ hS
      rw [h1] at g1; cases g1
      obtain ⟨vs, e1, g4⟩ := g3.split
      subst e1
      exact ⟨a, dx, vs, h2, r.above hk h1, g2, by rw [← RsL.len q]; simp, RsL.rv r q g4⟩
  | .dK ns ys, _, _, q, h => by
    rcases q with ⟨xs, e, q⟩ | ⟨k, fs, e, hk, hS, en, q⟩
    · subst e
      obtain ⟨p, vs, h1, h2, h3, h4, h5⟩ := h
      exact ⟨p, vs, h1, h2.cut, h3, h4.trans (RsL.len q), RsL.rv r q h5⟩
    · subst e en
      obtain ⟨a, h1, h2⟩ := h
      obtain ⟨b, g1, gs, g2, g3⟩ := r.ob k _ hS
      rw [h1] at g1; cases g1
      obtain ⟨vs, e1, g4⟩ := g3.split
      subst e1
      exact ⟨a, vs, h2, r.above hk h1, g2, by rw [← RsL.len q]; simp, RsL.rv r q g4⟩
  | .dT ns ys, _, _, q, h => by
    rcases q with ⟨xs, e, q⟩ | ⟨k, fs, e, hk, hS, en, q⟩
    · subst e
      obtain ⟨p, vs, h1, h2, h3, h4, h5⟩ := h
      exact ⟨p, vs, h1, h2.cut, h3, h4.trans (RsL.len q), RsL.rv r q h5⟩
    · subst e en
      obtain ⟨a, h1, h2⟩ := h
      obtain ⟨b, g1, gs, g2, g3⟩ := r.ob k _ hS
      rw [h1] at g1; cases g1
      obtain ⟨vs, e1, g4⟩ := g3.split
      subst e1
      exact ⟨a, vs, h2, r.above hk h1, g2, by rw [← RsL.len q]; simp, RsL.rv r q g4⟩
  | .non, _, _, e, h => by cases e; exact h
  | .bl _, _, _, e, h => by cases e; exact h
  | .int _, _, _, e, h => by cases e; exact h
  | .str _, _, _, e, h => by cases e; exact h
  | .ty _, _, _, e, h => by cases e; exact h
  | .adr _, _, _, e, h => by cases e; exact h
  | .scr _, _, _, e, h => by cases e; obtain ⟨p, h1, h2⟩ := h; exact ⟨p, h1, h2.cut⟩
  | .bad, _, _, e, h => by cases e; exact h
theorem RsL.rv {m : Nat} (r : Rel K φ H S) : ∀ {ys xs : List D} {vs : List V}, RsL m S ys xs → RVs K φ H xs vs → RVs K (φ.cut m) H ys vs
  | [], _, _, e, h => by cases e; exact h
  | y :: ys, _, _, ⟨x, t, e, q1, q2⟩, h => by
    subst e
    obtain ⟨v, ws, e2, h1, h2⟩ := h
    exact ⟨v, ws, e2, Rs.rv r q1 h1, RsL.rv r q2 h2⟩
theorem RsL.len {m : Nat} {S : List O} : ∀ {ys xs : List D}, RsL m S ys xs → xs.length = ys.length
  | [], _, e => by cases e; rfl
  | y :: ys, _, ⟨x, t, e, q1, q2⟩ => by subst e; simp [RsL.len q2]
end
/-- as an object -/
def RsO (m : Nat) (S : List O) : O → O → Prop
  | .lst ys, .lst xs => RsL m S ys xs
  | .drw, .drw => True
  | .drw, .lst xs => ∃ l, RsL m S l xs ∧ DrawL l
  | .ins C fs', .ins C2 fs => C = C2 ∧ fs'.map (·.1) = fs.map (·.1) ∧ RsL m S (fs'.map (·.2)) (fs.map (·.2))
  | .dK fs', .dK fs => fs'.map (·.1) = fs.map (·.1) ∧ RsL m S (fs'.map (·.2)) (fs.map (·.2))
  | .dT fs', .dT fs => fs'.map (·.1) = fs.map (·.1) ∧ RsL m S (fs'.map (·.2)) (fs.map (·.2))
  | .non, _ => True
  | _, _ => False
def RsS (m : Nat) (S : List O) : List O → List O → Prop
  | [], l => l = []
  | o' :: r, l => ∃ o t, l = o :: t ∧ RsO m S o' o ∧ RsS m S r t
theorem RKV.join {κ : Type} : ∀ {fs : List (κ × D)} {vs : List V}, RVs K φ H (fs.map (·.2)) vs → RKV K φ H fs ((fs.map (·.1)).zip vs)
  | [], _, h => by cases h; rfl
  | p :: fs, _, ⟨v, ws, e, h1, h2⟩ => by subst e; exact ⟨v, _, rfl, h1, RKV.join h2⟩
theorem RsO.ro {m : Nat} (r : Rel K φ H S) {o' o : O} {a : Addr} (q : RsO m S o' o) (h : RO K φ H o a) : RO K (φ.cut m) H o' a := by
  cases o' with
  | lst ys => cases o <;> first | exact q.elim | (obtain ⟨vs, h1, h2⟩ := h; exact ⟨vs, h1, RsL.rv r q h2⟩)
  | drw =>
    cases o <;> first | exact q.elim | skip
    · obtain ⟨l, q1, q2⟩ := q
      obtain ⟨vs, h1, h2⟩ := h
      exact ⟨l, vs, q2, h1, RsL.rv r q1 h2⟩
    · obtain ⟨l, vs, h0, h1, h2⟩ := h
      refine ⟨l, vs, h0, h1, ?_⟩
      obtain ⟨ns, i, z, s, rfl, _⟩ := h0
      have lt : D.lts m [D.lst (ns.map D.int), D.int i, D.int z, D.int s] := ⟨D.lts_ints ns, trivial, trivial, trivial, trivial⟩
      exact RsL.rv r (RsL.same lt) h2
  | ins C fs' =>
    cases o <;> first | exact q.elim | skip
    obtain ⟨rfl, e, q⟩ := q
    obtain ⟨dx, gs, h1, h2⟩ := h
    obtain ⟨vs, e2, h3⟩ := h2.split
    subst e2
    exact ⟨dx, _, h1, by rw [← e]; exact RKV.join (RsL.rv r q h3)⟩
  | dK fs' =>
    cases o <;> first | exact q.elim | skip
    obtain ⟨e, q⟩ := q
    obtain ⟨gs, h1, h2⟩ := h
    obtain ⟨vs, e2, h3⟩ := h2.split
    subst e2
    exact ⟨_, h1, by rw [← e]; exact RKV.join (RsL.rv r q h3)⟩
  | dT fs' =>
    cases o <;> first | exact q.elim | skip
    obtain ⟨e, q⟩ := q
    obtain ⟨gs, h1, h2⟩ := h
    obtain ⟨vs, e2, h3⟩ := h2.split
    subst e2
    exact ⟨_, h1, by rw [← e]; exact RKV.join (RsL.rv r q h3)⟩
  | non => exact h.is_some
theorem RsS.len {m : Nat} : ∀ {l' l : List O}, RsS m S l' l → l'.length = l.length
  | [], _, e => by cases e; rfl
  | _ :: _, _, ⟨o, t, e, _, q⟩ => by subst e; simp [RsS.len q]
theorem RsS.get {m : Nat} : ∀ {l' l : List O} {i : Nat} {o' : O}, RsS m S l' l → l'[i]? = some o' → ∃ o, l[i]? = some o ∧ RsO m S o' o
  | [], _, _, _, _, h => by simp at h
  | x :: r, _, 0, _, ⟨o, t, e, q1, q2⟩, h => by subst e; simp at h; subst h; exact ⟨o, rfl, q1⟩
  | x :: r, _, i + 1, _, ⟨o, t, e, q1, q2⟩, h => by subst e; exact RsS.get (i := i) q2 (by simpa using h)
theorem Rel.cut {m : Nat} {S2 : List O} (r : Rel K φ H S) (hm : m ≤ S.length) (q : RsS m S S2 (S.take m)) : Rel K (φ.cut m) H S2 := by
  refine ⟨(List.take_sublist m φ.own).nodup r.nd, fun a ha z => r.dj a ha (List.mem_of_mem_take z), r.hd, ?_, fun i o h => ?_⟩
  · rw [q.len]; simp only [Ph.cut, List.length_take, r.len]
  · obtain ⟨o1, h1, h2⟩ := q.get h
    have hi : i < m := by
      have := (List.getElem?_eq_some_iff.mp h1).1
      rw [List.length_take] at this; omega
    rw [List.getElem?_take_of_lt hi] at h1
    obtain ⟨a, g1, g2⟩ := r.ob i o1 h1
    exact ⟨a, by show (φ.own.take m)[i]? = _; rw [List.getElem?_take_of_lt hi]; exact g1, RsO.ro r h2 g2⟩
theorem Ext.cut {φ' : Ph} {H' : Hp} {m : Nat} (e : Ext K φ φ' H H') (hm : φ.own.length ≤ m) : Ext K φ (φ'.cut m) H H' := ⟨e.hid, by
  obtain ⟨t, ht⟩ := e.pre
  show φ.own <+: φ'.own.take m
  rw [← ht, List.take_append, List.take_of_length_le hm]
  exact List.prefix_append _ _, e.tup, e.xd, fun a u h g n => let ⟨h1, g1⟩ := e.fz a u h g n; ⟨fun z => h1 (List.mem_of_mem_take z), g1⟩⟩
mutual
theorem RV.lt : ∀ {d : D} {v : V}, RV K φ H d v → D.lt φ.own.length d
  | .non, _, _ => trivial
  | .bl _, _, _ => trivial
  | .int _, _, _ => trivial
  | .str _, _, _ => trivial
  | .ty _, _, _ => trivial
  | .adr _, _, _ => trivial
  | .scr _, _, _ => trivial
  | .ref k, _, ⟨a, h1, h2⟩ => (List.getElem?_eq_some_iff.mp h1).1
  | .tup _, _, ⟨p, vs, h1, h2, h3⟩ => RVs.lt h3
  | .lst _, _, ⟨p, vs, h1, h2, h3, h4⟩ => RVs.lt h4
  | .ins _ _ _, _, ⟨p, dx, vs, h1, h2, h3, h4, h5⟩ => RVs.lt h5
  | .dK _ _, _, ⟨p, vs, h1, h2, h3, h4, h5⟩ => RVs.lt h5
  | .dT _ _, _, ⟨p, vs, h1, h2, h3, h4, h5⟩ => RVs.lt h5
  | .bad, _, h => h.elim
theorem RVs.lt : ∀ {ds : List D} {vs : List V}, RVs K φ H ds vs → D.lts φ.own.length ds
  | [], _, h => trivial
  | _ :: _, _, ⟨v, ws, h1, h2, h3⟩ => ⟨RV.lt h2, RVs.lt h3⟩
end
end

/-! ### dropping what was made behind the n-th -/
def RsSl (m : Nat) (S : List O) : Sl → Sl → Prop
  | [], l => l = []
  | none :: r, l => ∃ x t, l = x :: t ∧ RsSl m S r t
  | some d' :: r, l => ∃ d t, l = some d :: t ∧ Rs m S d' d ∧ RsSl m S r t
theorem RsSl.ev {X : Cx} {φ : Ph} {H : Hp} {S : List O} {m : Nat} (r : Rel X.K φ H S) : ∀ {s t : Sl} {σ : L2.St}, RsSl m S s t → EV X.K φ H t σ → EV X.K (φ.cut m) H s σ
  | [], t, σ, e, ev => by cases e; exact ⟨ev.len, fun i d h => by simp at h⟩
  | none :: s, _, σ, ⟨y, t, e, q⟩, ev => by
    subst e
    cases σ with
    | nil => have := ev.len; simp at this
    | cons x σ =>
      have ih := RsSl.ev (σ := σ) r q ⟨by have := ev.len; simpa using this, fun i d q => ev.at' (i + 1) d (by simpa using q)⟩
      refine ⟨by have := ih.len; simp [this], fun i d q => ?_⟩
      cases i with
      | zero => simp at q
      | succ i => exact ih.at' i d (by simpa using q)
  | some d' :: s, _, σ, ⟨d, t, e, q1, q⟩, ev => by
    subst e
    cases σ with
    | nil => have := ev.len; simp at this
    | cons x σ =>
      have ih := RsSl.ev (σ := σ) r q ⟨by have := ev.len; simpa using this, fun i d q => ev.at' (i + 1) d (by simpa using q)⟩
      refine ⟨by have := ih.len; simp [this], fun i z q => ?_⟩
      cases i with
      | zero =>
        have q' : d' = z := by simpa using q
        subst q'
        obtain ⟨v, e1, e2⟩ := ev.at' 0 d (by simp)
        exact ⟨v, e1, Rs.rv r q1 e2⟩
      | succ i => exact ih.at' i z (by simpa using q)
/-- P holds, or holds where all behind the m-th object is dropped -/
def Wk (n : Nat) (P : Sl → List O → Prop) (s : Sl) (S : List O) : Prop := P s S ∨ ∃ m s2 S2, n ≤ m ∧ m ≤ S.length ∧ RsSl m S s2 s ∧ RsS m S S2 (S.take m) ∧ P s2 S2
section
variable {X : Cx} {B : Bs}
theorem HR.cut {φ φ' : Ph} {H H' : Hp} {S S' S2 : List O} {m : Nat} (hr : HR X.K B φ H S) (e : Ext X.K φ φ' H H') (hr' : HR X.K B φ' H' S') (hm : S.length ≤ m) (hl : m ≤ S'.length) (l : RsS m S' S2 (S'.take m)) : Ext X.K φ (φ'.cut m) H H' ∧ HR X.K B (φ'.cut m) H' S2 := by
  have e2 : Ext X.K φ (φ'.cut m) H H' := e.cut (by rw [hr.rel.len]; exact hm)
  exact ⟨e2, hr.ext.trans e2, hr'.rel.cut hl l, hr'.tab⟩
theorem Wk.at {φ φ' : Ph} {H H' : Hp} {S S' : List O} {P : Sl → List O → Prop} {s : Sl} {σ : L2.St} (hr : HR X.K B φ H S) (e : Ext X.K φ φ' H H') (hr' : HR X.K B φ' H' S') (ev : EV X.K φ' H' s σ) (w : Wk S.length P s S') :
    ∃ φ2 s2 S2, Ext X.K φ φ2 H H' ∧ HR X.K B φ2 H' S2 ∧ EV X.K φ2 H' s2 σ ∧ P s2 S2 := by
  rcases w with w | ⟨m, s2, S2, h1, h2, h3, h4, h5⟩
  · exact ⟨φ', s, S', e, hr', ev, w⟩
  · obtain ⟨e2, hr2⟩ := hr.cut e hr' h1 h2 h4
    exact ⟨_, s2, _, e2, hr2, h3.ev hr'.rel ev, h5⟩
/-! ### what is walked -/
/-- J yields the values xs while keep stands -/
def ItOk (K : PySem.W.Frag) (B : Bs) (φ1 : Ph) (H1 : Hp) (xs : List D) (keep : List O → Prop) (J : It) : Prop := ∀ (i : Nat) (φ : Ph) (H : Hp) (S : List O), Ext K φ1 φ H1 H → HR K B φ H S → keep S →
  (i < xs.length → J.go i H) ∧ (i = xs.length → J.stop i H) ∧ ∀ x H' d, J.yld i H x H' → xs[i]? = some d → ∃ φ', Ext K φ φ' H H' ∧ HR K B φ' H' S ∧ RV K φ' H' d x
abbrev QI := Sl → List O → (List D → (List O → Prop) → List O → Prop) → Prop
def UI (K : PySem.W.Frag) (B : Bs) (q : QI) : TI := fun σ H R => ∃ φ s S R', HR K B φ H S ∧ EV K φ H s σ ∧ q s S R' ∧
  ∀ φ' xs keep S' J H', Ext K φ φ' H H' → HR K B φ' H' S' → ItOk K B φ' H' xs keep J → R' xs keep S' → R J H'
abbrev LI (X : Cx) (B : Bs) (tg iter : Expr) (q : QI) : Prop := PI X tg iter (UI X.K B q)
theorem PI.imp {tg iter : Expr} {t t' : TI} (h : PI X tg iter t) (i : ∀ σ H R, t' σ H R → t σ H R) : PI X tg iter t' := ⟨fun pins s σ H R I w => h.run pins s σ H R I (i _ _ _ w)⟩
variable {tg e : Expr} {qe : QE} {qa : QA} {p pos : Pos}
/-- a list -/
def qiList (qe : QE) : QI := fun s S R => qe s S fun d S1 => match d with
  | .tup _ => False
  | d => Opt (itemsOf S1 d) fun xs => R xs (fun S' => itemsOf S' d = some xs) S1
theorem li_list (he : LE X B e qe) : LI X B tg e (qiList qe) := PI.imp (pi_list he) fun σ H R ⟨φ, s, S, R', hr, ev, q, k⟩ =>
  ⟨φ, s, S, _, hr, ev, q, fun φ1 d S1 v H1 e1 hr1 r1 q1 => by
    split at q1
    · exact q1.elim
    · rename_i hd
      obtain ⟨xs, h1, q1⟩ := q1.get
      have at_ : ∀ (φ2 : Ph) (H2 : Hp) (S2 : List O) (p : Addr), RV X.K φ2 H2 d (.ref p) → HR X.K B φ2 H2 S2 → itemsOf S2 d = some xs → ∃ vs, SqL X.K H2 p vs ∧ RVs X.K φ2 H2 xs vs := fun φ2 H2 S2 p r2 hr2 hk => by
        unfold itemsOf at hk
        split at hk
        · exact absurd rfl (hd _)
        · cases hk
          obtain ⟨p', e, h1⟩ := r2
          cases e
          exact ⟨_, h1.sql, .ofInts⟩
        · obtain ⟨a, vs, e, h1, h2⟩ := hr2.ls hk r2
          cases e
          exact ⟨vs, .inl (.inl h1), h2⟩
      obtain ⟨p, vs0, rfl, _, _⟩ := hr1.items h1 r1
      obtain ⟨vs, h3, h4⟩ := at_ φ1 H1 S1 p r1 hr1 h1
      refine ⟨p, rfl, ⟨vs, h3⟩, k _ _ _ _ _ _ e1 hr1 (fun i φ2 H2 S2 e2 hr2 hk => ?_) q1⟩
      obtain ⟨ws, h5, h6⟩ := at_ φ2 H2 S2 p (r1.mono e2) hr2 hk
      refine ⟨fun hi => ⟨ws, ws[i]'(by rw [h6.len]; exact hi), h5, by simp [h6.len, hi]⟩, fun hi => ⟨ws, h5, by rw [h6.len, hi]; exact Nat.le_refl _⟩, fun x H' d' y hd => ?_⟩
      obtain ⟨rfl, y⟩ := y
      obtain ⟨v, g1, g2⟩ := h6.get hd
      have := y ws h5
      rw [g1] at this; cases this
      exact ⟨φ2, Ext.refl, hr2, g2⟩⟩
def qiTup (qe : QE) : QI := fun s S R => qe s S fun d S1 => match d with
  | .tup xs => R xs (fun _ => True) S1
  | _ => False
theorem li_tup (he : LE X B e qe) : LI X B tg e (qiTup qe) := PI.imp (pi_tup he) fun σ H R ⟨φ, s, S, R', hr, ev, q, k⟩ =>
  ⟨φ, s, S, _, hr, ev, q, fun φ1 d S1 v H1 e1 hr1 r1 q1 => by
    split at q1
    · obtain ⟨a, vs, rfl, h3, h4⟩ := r1
      refine ⟨a, rfl, ⟨vs, h3⟩, k _ _ _ _ _ _ e1 hr1 (fun i φ2 H2 S2 e2 hr2 hk => ?_) q1⟩
      have h5 := e2.tup _ _ h3
      have h6 := h4.mono e2
      refine ⟨fun hi => ⟨vs, vs[i]'(by rw [h6.len]; exact hi), h5, by simp [h6.len, hi]⟩, fun hi => ⟨vs, h5, by rw [h6.len, hi]; exact Nat.le_refl _⟩, fun x H' d y hd => ?_⟩
      obtain ⟨rfl, y⟩ := y
      obtain ⟨v, g1, g2⟩ := h6.get hd
      have := y vs h5
      rw [g1] at this; cases this
      exact ⟨φ2, Ext.refl, hr2, g2⟩
    · exact q1.elim⟩
/-- lo, lo + 1, .. -/
def rngD (lo : Int) (n : Nat) : List D := (List.range n).map fun i => D.int (lo + (i : Nat))
theorem rngD_get {lo : Int} {n i : Nat} {d : D} (h : (rngD lo n)[i]? = some d) : i < n ∧ d = .int (lo + i) := by
  unfold rngD at h
  rw [List.getElem?_map] at h
  by_cases hi : i < n
  · rw [List.getElem?_range hi] at h
    simp at h
    exact ⟨hi, h.symm⟩
  · rw [List.getElem?_eq_none (by simpa using hi)] at h; cases h
theorem rngD_len {lo : Int} {n : Nat} : (rngD lo n).length = n := by unfold rngD; simp
theorem itOk_rng {φ1 : Ph} {H1 : Hp} (lo : Int) (n : Nat) : ItOk X.K B φ1 H1 (rngD lo n) (fun _ => True) (Itr lo n) := fun i φ H S e hr _ =>
  ⟨fun hi => by rw [rngD_len] at hi; exact hi, fun hi => by rw [rngD_len] at hi; exact Nat.le_of_eq hi.symm, fun x H' d y hd => by
    obtain ⟨rfl, rfl⟩ := y
    obtain ⟨_, rfl⟩ := rngD_get hd
    exact ⟨φ, Ext.refl, hr, rfl⟩⟩
def qiRng1 (qa : QA) : QI := fun s S R => qa s S fun ds S1 => match ds with
  | [.int j] => -(2 ^ 62) ≤ j ∧ j < 2 ^ 62 ∧ R (rngD 0 j.toNat) (fun _ => True) S1
  | _ => False
theorem li_rng1 {a : Expr} (hg : Gl X "range") (hm : X.mg "range" = none) (ha : LA X B [a] qa) (hs : starEach [a] X.env = [(false, eval a X.env)] := by rfl) : LI X B tg (.Call (.Name "range" p) [a] [] pos) (qiRng1 qa) := PI.imp (pi_range1 hg hm ha hs) fun σ H R ⟨φ, s, S, R', hr, ev, q, k⟩ =>
  ⟨φ, s, S, _, hr, ev, q, fun φ1 d S1 v H1 e1 hr1 r1 q1 => by
    split at q1
    · obtain ⟨v1, ws, rfl, r1, r2⟩ := r1
      cases r1; cases r2
      exact ⟨_, rfl, q1.1, q1.2.1, k _ _ _ _ _ _ e1 hr1 (itOk_rng 0 _) q1.2.2⟩
    · exact q1.elim⟩
/-! ### for -/
inductive forBody (g : QG) (qb : QS) (D : Ed) (s : Sl) (xs : List LC.D) (keep : List O → Prop) (S1 : List O) : Prop
  | mk (P : Nat → Sl → List O → Prop) (h0 : P 0 s S1) (hk : ∀ i s' S', i ≤ xs.length → P i s' S' → keep S')
    (st : ∀ i x s' S', xs[i]? = some x → P i s' S' → g x s' S' fun s2 S2 => qb { nx := Wk S1.length (P (i + 1)), ct := Wk S1.length (P (i + 1)), bk := D.nx, rt := D.rt, n := S1.length } s2 S2)
    (he : ∀ s' S', P xs.length s' S' → D.nx s' S')
def qFor (qi : QI) (g : QG) (qb : QS) : QS := fun D s S => qi s S fun xs keep S1 => forBody g qb D s xs keep S1
theorem ls_for {iter : Expr} {body : List Stmt} {qi : QI} {g : QG} {qb : QS} (hp : PassesOwn (model X.prog X.w) X.A X.env X.xe) (hc : X.calm = true) (hi : LI X B tg iter qi) (hg : LG X B tg g) (hb : LSs X B body qb)
    (hs : ∀ x, foldedSetIterable iter X.env x = pure x := by intro _; rfl) : LS X B (.For tg iter body [] pos) (qFor qi g qb) := PS.imp (ps_for hp hc hi hg hb hs) fun D σ H ⟨φ, s, S, D', hr, ev, q, ek⟩ =>
  ⟨φ, s, S, _, hr, ev, q, fun φ1 xs keep S1 J H1 e1 hr1 ok q1 => by
    obtain ⟨P, p0, pk, ps, pe⟩ := q1
    refine ⟨fun i m σ H => m = xs.length - i ∧ i ≤ xs.length ∧ ∃ φ s S, Ext X.K φ1 φ H1 H ∧ HR X.K B φ H S ∧ EV X.K φ H s σ ∧ P i s S, ⟨xs.length, rfl, Nat.zero_le _, φ1, s, S1, Ext.refl, hr1, ev.mono e1, p0⟩, ?_⟩
    rintro i m σ2 H2 ⟨rfl, hi, φ2, s2, S2, e2, hr2, ev2, p2⟩
    have o := ok i φ2 H2 S2 e2 hr2 (pk i s2 S2 hi p2)
    by_cases hlt : i < xs.length
    · refine .inr ⟨o.1 hlt, fun σ' H' => ∃ φ s S, Ext X.K φ1 φ H1 H' ∧ HR X.K B φ H' S ∧ EV X.K φ H' s σ' ∧ P (i + 1) s S, fun σ' H' ⟨φ3, s3, S3, e3, hr3, ev3, p3⟩ => ⟨xs.length - (i + 1), by omega, rfl, hlt, φ3, s3, S3, e3, hr3, ev3, p3⟩, fun x H' y => ?_⟩
      have hx : xs[i]? = some xs[i] := List.getElem?_eq_getElem hlt
      obtain ⟨φ3, e3, hr3, r3⟩ := o.2.2 x H' _ y hx
      refine ⟨φ3, xs[i], s2, S2, _, hr3, ev2.mono e3, r3, ps i _ s2 S2 hx p2, fun φ4 s4 S4 σ4 H4 e4 hr4 ev4 q4 => ?_⟩
      refine ⟨φ4, s4, S4, _, hr4, ev4, q4, ?_⟩
      have e14 := e2.trans (e3.trans e4)
      exact ⟨φ1, H1, e14, by rw [← hr1.rel.len]; exact hr1.ext.pre.length_le, by rw [hr1.rel.len]; exact Nat.le_refl _, fun φ' H' S' s' σ' e' hr' ev' w => Wk.at hr1 e' hr' ev' w, fun φ' H' S' d v e' hr' r w => ek.rt _ _ _ _ _ (e1.trans e') hr' r w,
        fun φ' H' S' s' σ' e' hr' ev' w => ek.nx _ _ _ _ _ (e1.trans e') hr' ev' w, fun φ' H' S' s' σ' e' hr' ev' w => Wk.at hr1 e' hr' ev' w⟩
    · have hi' : i = xs.length := by omega
      subst hi'
      exact .inl ⟨o.2.1 rfl, ek.nx _ _ _ _ _ (e1.trans e2) hr2 ev2 (pe s2 S2 p2)⟩⟩

/-! ### while -/
end
end LC

set_option Elab.async false
set_option linter.all false
set_option maxRecDepth 100000
set_option maxHeartbeats 5000000
/-! LD6: targets of names, list comprehensions, own defs. -/
namespace LC
open PySem PySem.Spec
open PyProof.Rows L2

/-! ### targets that are names, or tuples of such -/
inductive Tgt where
  | nm (i : Nat) | tp (ts : List Tgt)
mutual
def gT (K : PySem.W.Frag) : Tgt → TG
  | .nm i => gName i
  | .tp ts => gTup K ts.length (gTs K ts)
def gTs (K : PySem.W.Frag) : List Tgt → TGs
  | [] => gNil
  | t :: r => gCons (gT K t) (gTs K r)
end
mutual
def stT : Tgt → D → Sl → Option Sl
  | .nm i, d, s => some (s.set i (some d))
  | .tp ts, .tup xs, s => stTs ts xs s
  | .tp _, _, _ => none
def stTs : List Tgt → List D → Sl → Option Sl
  | [], [], s => some s
  | t :: ts, d :: ds, s => (stT t d s).bind (stTs ts ds)
  | _, _, _ => none
end
mutual
def Tgt.ix : Tgt → List Nat
  | .nm i => [i]
  | .tp ts => Tgt.ixs ts
def Tgt.ixs : List Tgt → List Nat
  | [] => []
  | t :: r => t.ix ++ Tgt.ixs r
end
theorem wipe_at {σ : L2.St} {j : Nat} : ∀ {vs : List Nat}, (wipe σ vs)[j]? = if j ∈ vs ∧ j < σ.length then some none else σ[j]?
  | [] => by simp [wipe]
  | v :: vs => by
    show ((wipe σ vs).set v none)[j]? = _
    by_cases hv : v = j
    · subst hv
      by_cases hl : v < σ.length
      · rw [List.getElem?_set_self (by rw [wipe_length]; exact hl), if_pos ⟨List.mem_cons_self, hl⟩]
      · rw [if_neg (fun h => hl h.2), List.getElem?_eq_none (by simp [wipe_length]; omega), List.getElem?_eq_none (by omega)]
    · rw [List.getElem?_set_ne hv, wipe_at (vs := vs)]
      by_cases hm : j ∈ vs ∧ j < σ.length
      · rw [if_pos hm, if_pos ⟨List.mem_cons_of_mem _ hm.1, hm.2⟩]
      · rw [if_neg hm, if_neg fun h => hm ⟨(List.mem_cons.mp h.1).resolve_left fun e => hv e.symm, h.2⟩]
theorem wipe_set {σ : L2.St} {i : Nat} {x : Option V} {vs : List Nat} (h : i ∈ vs) : wipe (σ.set i x) vs = wipe σ vs := by
  apply List.ext_getElem?
  intro j
  rw [wipe_at, wipe_at, List.length_set]
  by_cases hm : j ∈ vs ∧ j < σ.length
  · rw [if_pos hm, if_pos hm]
  · rw [if_neg hm, if_neg hm]
    by_cases hij : i = j
    · subst hij
      have hl : ¬ i < σ.length := fun q => hm ⟨h, q⟩
      rw [List.getElem?_eq_none (by simp; omega), List.getElem?_eq_none (by omega)]
    · rw [List.getElem?_set_ne hij]
section
variable {X : Cx} {B : Bs}
mutual
theorem gT_ok {φ : Ph} {H : Hp} {vs : List Nat} : ∀ {t : Tgt} {d : D} {s s2 : Sl} {v : V} {σ : L2.St} {Q : L2.St → Hp → Prop}, stT t d s = some s2 → RV X.K φ H d v → EV X.K φ H s σ → (∀ i ∈ t.ix, i ∈ vs) → (∀ σ2, EV X.K φ H s2 σ2 → wipe σ2 vs = wipe σ vs → Q σ2 H) → gT X.K t v σ H Q
  | .nm i, d, s, _, v, σ, Q, h, r, ev, hi, q => by
    cases h
    exact q _ (ev.set r) (wipe_set (hi i (by simp [Tgt.ix])))
  | .tp ts, d, s, s2, v, σ, Q, h, r, ev, hi, q => by
    cases d with
    | tup xs =>
      obtain ⟨p, vs', rfl, h1, h2⟩ := r
      have hl := stTs_len h
      exact ⟨p, vs', rfl, h1, by rw [h2.len, hl], gTs_ok h h2 ev hi q⟩
    | _ => cases h
theorem gTs_ok {φ : Ph} {H : Hp} {vs : List Nat} : ∀ {ts : List Tgt} {ds : List D} {s s2 : Sl} {us : List V} {σ : L2.St} {Q : L2.St → Hp → Prop}, stTs ts ds s = some s2 → RVs X.K φ H ds us → EV X.K φ H s σ → (∀ i ∈ Tgt.ixs ts, i ∈ vs) → (∀ σ2, EV X.K φ H s2 σ2 → wipe σ2 vs = wipe σ vs → Q σ2 H) → gTs X.K ts us σ H Q
  | [], [], s, s2, us, σ, Q, h, r, ev, hi, q => by
    cases h; cases r
    exact ⟨rfl, q _ ev rfl⟩
  | t :: ts, d :: ds, s, s2, us, σ, Q, h, r, ev, hi, q => by
    obtain ⟨v, ws, rfl, r1, r2⟩ := r
    cases e : stT t d s with
    | none => simp [stTs, e] at h
    | some s1 =>
      have h' : stTs ts ds s1 = some s2 := by simpa [stTs, e] using h
      exact ⟨v, ws, rfl, gT_ok e r1 ev (fun i m => hi i (by simp [Tgt.ixs, m])) fun σ1 ev1 w1 => gTs_ok h' r2 ev1 (fun i m => hi i (by simp [Tgt.ixs, m])) fun σ2 ev2 w2 => q σ2 ev2 (w2.trans w1)⟩
  | [], _ :: _, _, _, _, _, _, h, _, _, _, _ => by cases h
  | _ :: _, [], _, _, _, _, _, h, _, _, _, _ => by cases h
theorem stTs_len : ∀ {ts : List Tgt} {ds : List D} {s s2 : Sl}, stTs ts ds s = some s2 → ds.length = ts.length
  | [], [], _, _, _ => rfl
  | t :: ts, d :: ds, s, s2, h => by
    cases e : stT t d s with
    | none => simp [stTs, e] at h
    | some s1 =>
      have h' : stTs ts ds s1 = some s2 := by simpa [stTs, e] using h
      simp [stTs_len h']
  | [], _ :: _, _, _, h => by cases h
  | _ :: _, [], _, _, h => by cases h
end
/-- d goes to the target's names -/
def qgT (t : Tgt) : QG := fun d s S Q => ∃ s2, stT t d s = some s2 ∧ Q s2 S
theorem lg_T {tg : Expr} {t : Tgt} (h : PG X tg (gT X.K t)) : LG X B tg (qgT t) := PG.imp h fun v σ H Q ⟨φ, d, s, S, Q', hr, ev, r, ⟨s2, h1, q⟩, k⟩ =>
  gT_ok (vs := t.ix) h1 r ev (fun _ m => m) fun σ2 ev2 _ => k _ _ _ _ _ Ext.refl hr ev2 q
/-- a target of one name -/
theorem tg_nm (i : Nat) {x : Str} {pos : Pos} (hN : X.N.Nodup) (hi : X.N[i]? = some x := by rfl) (hx : Loc X.env.scope x := by first | exact .inl rfl | exact .inr rfl) (hf : X.fn x = true ∨ X.env.scope.names.lookup x = some .local := by first | exact .inl rfl | exact .inr rfl | assumption) : PG X (.Name x pos) (gT X.K (.nm i)) := pg_name hN hi hx hf
theorem tg_nil : PGs X [] (gTs X.K []) := pgs_nil
theorem tg_cons {e : Expr} {es : List Expr} {t : Tgt} {ts : List Tgt} (h1 : PG X e (gT X.K t)) (h2 : PGs X es (gTs X.K ts)) (hs : (assignEach (e :: es) X.env).map (·.2) = assign e X.env :: (assignEach es X.env).map (·.2) := by rfl) : PGs X (e :: es) (gTs X.K (t :: ts)) := pgs_cons h1 h2 hs
theorem tg_tp {es : List Expr} {k : Nat} {pos : Pos} {ts : List Tgt} (hc : X.calm = true) (h : PGs X es (gTs X.K ts)) (hn : (assignEach es X.env).length = ts.length := by rfl) (hst : (assignEach es X.env).findIdx? (·.1) = none := by rfl) : PG X (.Tuple es k pos) (gT X.K (.tp ts)) := pg_tup hc h hn hst

/-! ### list comprehensions -/
abbrev LTs (X : Cx) (B : Bs) (ifs : List Expr) (q : QT) : Prop := PTs X ifs (UP X.K B rB q)
def qYes : QT := fun _ S Q => Q true S
theorem PTs.imp {ifs : List Expr} {t t' : TT} (h : PTs X ifs t) (i : ∀ σ H Q, t' σ H Q → t σ H Q) : PTs X ifs t' := ⟨fun pins s σ H Q I w => h.run pins s σ H Q I (i _ _ _ w)⟩
theorem lts_nil : LTs X B [] qYes := PTs.imp pts_nil fun σ H Q ⟨φ, s, S, Q', hr, ev, q, k⟩ => k _ _ _ _ _ Ext.refl hr rfl q
theorem lts_one {c : Expr} {t : QT} (h : LT X B c t) : LTs X B [c] t := pts_one h
theorem EV.wipes {φ : Ph} {H : Hp} {s : Sl} {σ : L2.St} (ev : EV X.K φ H s σ) : ∀ {vs : List Nat}, EV X.K φ H (wipeD s vs) (L2.wipe σ vs)
  | [] => ev
  | _ :: _ => (EV.wipes ev).wipe
theorem Rel.lts {K : PySem.W.Frag} {φ : Ph} {H : Hp} {S : List O} (r : Rel K φ H S) (T : List O) : RsS S.length (S ++ T) S S := by
  have key : ∀ (l : List O) (j : Nat), (∀ i o, l[i]? = some o → S[j + i]? = some o) → RsS S.length (S ++ T) l l := fun l => by
    induction l with
    | nil => intro _ _; rfl
    | cons o t ih =>
      intro j h
      refine ⟨o, t, rfl, ?_, ih (j + 1) fun i x hx => by have := h (i + 1) x (by simpa using hx); rwa [show j + (i + 1) = j + 1 + i by omega] at this⟩
      obtain ⟨a, h1, h2⟩ := r.ob (j + 0) o (h 0 o rfl)
      rw [← r.len]
      cases o with
      | lst xs => obtain ⟨vs, h3, h4⟩ := h2; exact RsL.same h4.lt
      | drw => trivial
      | ins C fs => obtain ⟨dx, gs, h3, h4⟩ := h2; obtain ⟨vs, _, h5⟩ := h4.split; exact ⟨rfl, rfl, RsL.same h5.lt⟩
      | dK l' => obtain ⟨gs, h3, h4⟩ := h2; obtain ⟨vs, _, h5⟩ := h4.split; exact ⟨rfl, RsL.same h5.lt⟩
      | dT l' => obtain ⟨gs, h3, h4⟩ := h2; obtain ⟨vs, _, h5⟩ := h4.split; exact ⟨rfl, RsL.same h5.lt⟩
      | non => trivial
  exact key S 0 fun i o h => by rw [Nat.zero_add]; exact h
/-- [e for t in .. if ..]: P tells what is made so far; the objects stay as they are -/
inductive lcV (t : Tgt) (qt : QT) (qe : QE) (vs : List Nat) (s : Sl) (Q : List D → Prop) (xs : List D) (keep : List O → Prop) (S1 : List O) : Prop
  | mk (P : Nat → List D → Prop) (h0 : P 0 []) (hk : ∀ acc, keep (S1 ++ [.lst acc])) (hl : xs.length < sizeLine)
    (st : ∀ i x acc, xs[i]? = some x → acc.length ≤ i → P i acc → ∃ s2, stT t x (wipeD s vs) = some s2 ∧ qt s2 (S1 ++ [.lst acc]) fun b S3 => S3 = S1 ++ [.lst acc] ∧ Br b (qe s2 (S1 ++ [.lst acc]) fun y S4 => S4 = S1 ++ [.lst acc] ∧ D.lt S1.length y ∧ P (i + 1) (acc ++ [y]))
      (P (i + 1) acc))
    (he : ∀ acc, P xs.length acc → acc.length ≤ xs.length → Q acc)
def qLc (mu : Bool) (qi : QI) (t : Tgt) (qt : QT) (qe : QE) (vs : List Nat) : QE := fun s S Q => qi s S fun xs keep S1 => lcV t qt qe vs s (fun acc => if mu then Q (.ref S1.length) (S1 ++ [.lst acc]) else Q (.lst acc) S1) xs keep S1
theorem up_lc {mu : Bool} {qi : QI} {t : Tgt} {qt : QT} {qe : QE} {vs : List Nat} (hv : ∀ i ∈ t.ix, i ∈ vs) {σ : L2.St} {H : Hp} {Q : VK} (h : UP X.K B (rD X.K) (qLc mu qi t qt qe vs) σ H Q) : tLc (UI X.K B qi) (gT X.K t) (UP X.K B rB qt) (UP X.K B (rD X.K) qe) vs σ H Q := by
  obtain ⟨φ, s, S, Q', hr, ev, q, k⟩ := h
  refine ⟨φ, s, S, _, hr, ev, q, fun φ1 xs keep S1 J H1 e1 hr1 ok q1 D hD => ?_⟩
  obtain ⟨P, p0, pk, hsz, ps, pe⟩ := q1
  have e2 : Ext X.K φ1 (φ1.add D) H1 (upd H1 D (.lst [])) := ext_add hD
  have hr2 : HR X.K B (φ1.add D) (upd H1 D (.lst [])) (S1 ++ [.lst []]) := hr1.new (x := O.lst []) hD ⟨[], upd_same, rfl⟩
  have hDn : (φ1.add D).own[S1.length]? = some D := hr1.rel.last D
  refine ⟨fun i m H => m = xs.length - i ∧ i ≤ xs.length ∧ ∃ φ acc, Ext X.K (φ1.add D) φ (upd H1 D (.lst [])) H ∧ HR X.K B φ H (S1 ++ [.lst acc]) ∧ acc.length ≤ i ∧ LC.D.lts S1.length acc ∧ P i acc, ⟨xs.length, rfl, Nat.zero_le _, φ1.add D, [], Ext.refl, hr2, Nat.le_refl _, trivial, p0⟩, ?_⟩
  rintro i m H2 ⟨rfl, hi, φ2, acc, e3, hr3, hac, hlt', p2⟩
  have o := ok i φ2 H2 (S1 ++ [.lst acc]) (e2.trans e3) hr3 (pk acc)
  by_cases hlt : i < xs.length
  · refine .inr ⟨o.1 hlt, fun H' => ∃ φ acc, Ext X.K (φ1.add D) φ (upd H1 D (.lst [])) H' ∧ HR X.K B φ H' (S1 ++ [.lst acc]) ∧ acc.length ≤ i + 1 ∧ LC.D.lts S1.length acc ∧ P (i + 1) acc, fun H' ⟨φ3, S3, a1, a2, a3⟩ => ⟨xs.length - (i + 1), by omega, rfl, hlt, φ3, S3, a1, a2, a3⟩, fun x H' y => ?_⟩
    have hx : xs[i]? = some xs[i] := List.getElem?_eq_getElem hlt
    obtain ⟨φ3, e4, hr4, r4⟩ := o.2.2 x H' _ y hx
    obtain ⟨s2, hs2, q2⟩ := ps i _ acc hx hac p2
    have ev4 : EV X.K φ3 H' (wipeD s vs) (wipe σ vs) := (ev.mono (e1.trans (e2.trans (e3.trans e4)))).wipes
    refine gT_ok (vs := vs) hs2 r4 ev4 hv fun σ5 ev5 w5 => ⟨?_, ?_⟩
    · rw [w5]
      have : ∀ (σ : L2.St), wipe (wipe σ vs) vs = wipe σ vs := fun σ => by
        apply List.ext_getElem?
        intro j
        rw [wipe_at, wipe_at, wipe_length]
        by_cases hm : j ∈ vs ∧ j < σ.length
        · simp [hm]
        · rw [if_neg hm]
      exact this σ
    · refine ⟨φ3, s2, _, _, hr4, ev5, q2, fun φ6 b S6 v6 H6 e6 hr6 r6 q6 => ?_⟩
      cases r6
      obtain ⟨rfl, q6⟩ := q6
      have e06 := e3.trans (e4.trans e6)
      cases b with
      | false => exact ⟨φ6, acc, e06, hr6, Nat.le_succ_of_le hac, hlt', q6⟩
      | true =>
        refine ⟨φ6, s2, _, _, hr6, ev5.mono e6, q6, fun φ7 y S7 v7 H7 e7 hr7 r7 q7 => ?_⟩
        obtain ⟨rfl, hy, q7⟩ := q7
        have e07 := e06.trans e7
        have h8 : (S1 ++ [O.lst acc])[S1.length]? = some (.lst acc) := by simp
        obtain ⟨a, av, ea, h10, h11⟩ := hr7.lstO h8
        have : a = D := by
          have := e07.get hDn
          rw [ea] at this; exact Option.some.inj this
        subst this
        refine ⟨av, h10, by rw [h11.len]; omega, ?_⟩
        obtain ⟨e8, hr8⟩ := hr7.write (o := .lst (av ++ [v7])) (x := O.lst acc) (y := O.lst (acc ++ [y])) h8 rfl ea fun e8 => ⟨_, upd_same, (RVs.app (es := [y]) (ws := [v7]) h11 ⟨v7, [], rfl, r7, rfl⟩).mono e8⟩
        have es : (S1 ++ [O.lst acc]).set S1.length (.lst (acc ++ [y])) = S1 ++ [.lst (acc ++ [y])] := by rw [List.set_append_right _ _ (Nat.le_refl _)]; simp
        rw [es] at hr8
        exact ⟨φ7, acc ++ [y], e07.trans e8, hr8, by simp; omega, LC.D.lts_app hlt' ⟨hy, trivial⟩, q7⟩
  · have hi' : i = xs.length := by omega
    subst hi'
    have fin := pe acc p2 hac
    have hn : S1.length ≤ (S1 ++ [O.lst acc]).length := by simp
    have h8 : (S1 ++ [O.lst acc])[S1.length]? = some (.lst acc) := by simp
    refine .inl ⟨o.2.1 rfl, ?_⟩
    cases mu with
    | true => exact k _ (.ref S1.length) _ _ _ (e1.trans (e2.trans e3)) hr3 (show RV _ _ _ _ _ from ⟨D, e3.get hDn, rfl⟩) (by simpa using fin)
    | false =>
      obtain ⟨e9, hr9⟩ := hr1.cut (e2.trans e3) hr3 (Nat.le_refl _) hn (S2 := S1) (by rw [List.take_left]; exact hr1.rel.lts _)
      have rv : RV X.K (φ2.cut S1.length) H2 (.lst acc) (.ref D) := Rs.rv hr3.rel (Rs.ofL' (Nat.le_refl _) h8 hlt') ⟨D, e3.get hDn, rfl⟩
      exact k _ (.lst acc) _ _ _ (e1.trans e9) hr9 rv (by simpa using fin)
section
variable {elt tg iter : Expr} {ifs : List Expr} {scope : Scope} {own : List (Str × Nat)} {pos : Pos} {qi : QI} {t : Tgt} {qt : QT} {qe : QE}
/-- the block's context -/
abbrev Blk (X : Cx) (scope : Scope) (C : Cx → Prop) : Prop := ∀ (s : Shared) (H : Hp) (A : Addr) (cl : List (Str × Addr)) (fp : List Addr), C (X.blk s H scope (compEnvC scope cl A X.env) fp)
theorem le_lc (mu : Bool) (own : List (Str × Nat)) (t : Tgt) (hc : X.calm = true) (hN : X.N.Nodup) (hi : LI X B tg iter qi) (ok : BlkOk X.N X.env.scope scope own)
    (hg : Blk X scope fun Y => PG Y tg (gT X.K t)) (ht : Blk X scope fun Y => LTs Y B ifs qt) (he : Blk X scope fun Y => LE Y B elt qe) (hv : ∀ i ∈ t.ix, i ∈ own.map (·.2) := by decide) (hs : ∀ x, foldedSetIterable iter X.env x = pure x := by intro _; rfl) :
    LE X B (.ListComp elt [⟨tg, iter, ifs, 0⟩] scope pos) (qLc mu qi t qt qe (own.map (·.2))) := PE.imp (pe_lc hc hN hi ok hg ht he hs) fun _ _ _ => up_lc hv
end
end
end LC

set_option Elab.async false
set_option linter.all false
set_option maxRecDepth 100000
set_option maxHeartbeats 5000000
/-! LD7: own defs: their bodies, and what the caller's objects have to do with them. -/
namespace LC
open PySem PySem.Spec
open PyProof.Rows L2
/-- what is handed back from a def that was entered with n objects -/
def Rt (n : Nat) (Q' : D → List O → Prop) (d : D) (S : List O) : Prop := ∃ m d' S2, n ≤ m ∧ m ≤ S.length ∧ RsS m S S2 (S.take m) ∧ Rs m S d' d ∧ Q' d' S2
def Xt (n : Nat) (E' : EDt) (C : Addr) (fs : List (Str × D)) (S : List O) : Prop := ∃ m fs' S2, n ≤ m ∧ m ≤ S.length ∧ RsS m S S2 (S.take m) ∧ fs'.map (·.1) = fs.map (·.1) ∧ RsL m S (fs'.map (·.2)) (fs.map (·.2)) ∧ E' C fs' S2
section
variable {P : Program} {w : World} {K : PySem.W.Frag}
variable {mg : Str → Option Value} {base : Heap}
/-- the slots at a def's entry -/
def startD (N : List Str) (ds : List D) : Sl := ds.map some ++ List.replicate (N.length - ds.length) none
theorem start_ok {X : Cx} {φ : Ph} {H : Hp} {N : List Str} {ds : List D} {vs : List V} (r : RVs X.K φ H ds vs) : EV X.K φ H (startD N ds) (L2.start N vs) := by
  refine ⟨by simp [startD, L2.start, r.len], fun i d h => ?_⟩
  unfold startD at h
  by_cases hi : i < ds.length
  · rw [List.getElem?_append_left (by simpa using hi), List.getElem?_map] at h
    cases e : ds[i]? with
    | none => (rw [e] at h; cases h)
    | some x =>
      rw [e] at h
      cases h
      obtain ⟨v, h1, h2⟩ := r.get e
      refine ⟨v, ?_, h2⟩
      unfold L2.start
      rw [List.getElem?_append_left (by simpa [r.len] using hi), List.getElem?_map, h1]; rfl
  · rw [List.getElem?_append_right (by simpa using hi), List.getElem?_replicate] at h
    split at h <;> cases h
/-- a body, by what holds at its entry and at its ends -/
abbrev OkG := List D → List O → (D → List O → Prop) → EDt → Nat → Prop
abbrev BodyG (P : Program) (w : World) (K : PySem.W.Frag) (mg : Str → Option Value) (base : Heap) (qual : Str) (st : Stmt) (f : Addr) (N : List Str) (k : Nat) (ok : OkG) : Prop :=
  ∀ (cdv : Value) (A : Around) (outer : List Env) (s : Shared) (H : Hp) (E : XK) (φ : Ph) (T : List (Addr × Str)) (W' : WD), Room k (A.deeper (envOfC qual (defScope st) s.heap.objs.size f cdv)) → WL K ⟨φ, H, T⟩ W' (fun cls d _ H => E cls d H) →
      ∃ q, LSs (cxOf (L2.CX P w) P w K mg base N qual (defScope st) f cdv A outer s H E) ⟨φ, H, T⟩ (defBody st) q ∧
        ∀ ds S R X n, ok ds S R X n → W' = (fun C fs _ S' => X C fs S') → q { nx := fun _ S' => R .non S', rt := R, n := n } (startD N ds) S
/-- what is promised, by such ends -/
def Conv (sp : SpD) (ok : OkG) : Prop := ∀ ds S Q' E', sp ds S Q' E' → D.lts S.length ds → ∃ R X, ok ds S R X S.length ∧ (∀ d S', R d S' → Rt S.length Q' d S') ∧ ∀ C fs S', X C fs S' → Xt S.length E' C fs S'
section
variable {X : Cx} {φ : Ph} {H : Hp} {T : List (Addr × Str)} {S' : List O} {Q' : D → List O → Prop} {E' : EDt} {Q : VK} {E : XK}
theorem ends_cut (r : Rel K φ H S') {φ' : Ph} {H' : Hp} {S1 S2 : List O} {m : Nat} (hr' : HR K ⟨φ, H, T⟩ φ' H' S1) (h1 : S'.length ≤ m) (h2 : m ≤ S1.length) (h3 : RsS m S1 S2 (S1.take m)) : Ext K φ (φ'.cut m) H H' ∧ Rel K (φ'.cut m) H' S2 :=
  ⟨hr'.ext.cut (by show φ.own.length ≤ m; rw [r.len]; exact h1), hr'.rel.cut h2 h3⟩
theorem ends_x (r : Rel K φ H S') (ke : ∀ φ' C fs S'' cls d H', Ext K φ φ' H H' → Rel K φ' H' S'' → LamX.Tabs T H' → XRel K φ' H' C fs cls d → E' C fs S'' → E cls d H') {φ' : Ph} {H' : Hp} {S1 : List O} {C : Addr} {fs : List (Str × D)} {cls : Value} {d : Option Addr} (hr' : HR K ⟨φ, H, T⟩ φ' H' S1) (xr : XRel K φ' H' C fs cls d) (h : Xt S'.length E' C fs S1) : E cls d H' := by
  obtain ⟨m, fs2, S2, h1, h2, h3, h4, h5, he⟩ := h
  obtain ⟨e1, r1⟩ := ends_cut r hr' h1 h2 h3
  obtain ⟨rfl, dx, gs, rfl, g1, g2⟩ := xr
  obtain ⟨us, eu, g3⟩ := g2.split
  subst eu
  exact ke _ _ fs2 S2 _ _ _ e1 r1 hr'.tab ⟨rfl, dx, _, rfl, g1, by rw [← h4]; exact RKV.join (RsL.rv hr'.rel h5 g3)⟩ he
theorem ends_r (r : Rel K φ H S') (kq : ∀ φ' d S'' v H', Ext K φ φ' H H' → Rel K φ' H' S'' → LamX.Tabs T H' → RV K φ' H' d v → Q' d S'' → Q v H') {φ' : Ph} {H' : Hp} {S1 : List O} {d : D} {v : V} (hr' : HR K ⟨φ, H, T⟩ φ' H' S1) (rv : RV K φ' H' d v) (h : Rt S'.length Q' d S1) : Q v H' := by
  obtain ⟨m, d2, S2, h1, h2, h3, h4, hd⟩ := h
  obtain ⟨e1, r1⟩ := ends_cut r hr' h1 h2 h3
  exact kq _ d2 S2 _ _ e1 r1 hr'.tab (Rs.rv hr'.rel h4 rv) hd
end
theorem body_at {qual : Str} {st : Stmt} {f : Addr} {N : List Str} {k : Nat} {sp : SpD} {ok : OkG} (cv : Conv sp ok) (hb : BodyG P w K mg base qual st f N k ok) (cdv : Value) (A : Around) (outer : List Env) (s : Shared) (H : Hp) (vs : List V) (Q : VK) (E : XK) (hr : Room k (A.deeper (envOfC qual (defScope st) s.heap.objs.size f cdv)))
    (h : upF K sp vs H Q E) : ∃ t, PSs (cxOf (L2.CX P w) P w K mg base N qual (defScope st) f cdv A outer s H E) (defBody st) t ∧ t { nx := fun _ H' => Q .non H', rt := Q } (L2.start N vs) H := by
  obtain ⟨φ, ds, S', Q', E', T, r, rs, tt, h, kq, ke⟩ := h
  have lts := rs.lt
  rw [r.len] at lts
  obtain ⟨R, Xe, hok, cR, cX⟩ := cv _ _ _ _ h lts
  obtain ⟨q, hq, hh⟩ := hb cdv A outer s H E φ T (fun C fs _ S1 => Xe C fs S1) hr (fun φ' C fs s' S1 cls d σ H' hr' ev xr x => ends_x r ke hr' xr (cX _ _ _ x))
  refine ⟨_, hq, φ, startD N ds, S', { nx := fun _ S1 => R .non S1, rt := R, n := S'.length }, ⟨Ext.refl, r, tt⟩, start_ok rs, hh ds S' R Xe _ hok rfl, φ, H, Ext.refl, ?_⟩
  exact ⟨by show φ.own.length ≤ S'.length; rw [r.len]; exact Nat.le_refl _, by show φ.own.length ≤ S'.length; rw [r.len]; exact Nat.le_refl _, fun φ' H' S1 s' σ' e hr' ev x => ends_r r kq hr' (show RV K φ' H' .non .non from rfl) (cR _ _ x), fun φ' H' S1 d v e hr' rv x => ends_r r kq hr' rv (cR _ _ x), fun _ _ _ _ _ _ _ _ h => h.elim, fun _ _ _ _ _ _ _ _ h => h.elim⟩
/-- a def's body, by a promise over data -/
theorem FunD.ok {x qual : Str} {st : Stmt} {f : Addr} {fd : FuncData} {N ps : List Str} {k : Nat} {sp : SpD} {ok : OkG} (cv : Conv sp ok) (F : Fun K x qual st f fd) (S : FnScope N ps (defScope st)) (len : ∀ ds S Q E, sp ds S Q E → ds.length = ps.length) (hb : BodyG P w K mg base qual st f N k ok) : FnOk P w K mg base (L2.CX P w) (k + 1) f fd ps (upF K sp) :=
  F.okX S (fun vs H Q E ⟨φ, ds, S, Q', E', T, r, rs, tt, h, _⟩ => by rw [rs.len]; exact len _ _ _ _ h) fun cdv A outer s H vs Q E hr h => body_at cv hb cdv A outer s H vs Q E hr h
theorem FunD.okD {x qual : Str} {st : Stmt} {f : Addr} {fd : FuncData} {N ps : List Str} {k : Nat} {sp : SpD} {ok : OkG} {dvs : List V} (cv : Conv sp ok) (F : L2.FunD K x qual (defArgs st) (defBody st) (defScope st) dvs [] f fd) (S : FnScope N ps (defScope st)) (len : ∀ ds S Q E, sp ds S Q E → ds.length = ps.length) (hb : BodyG P w K mg base qual st f N k ok) : FnOk P w K mg base (L2.CX P w) (k + 1) f fd ps (upF K sp) :=
  L2.FunD.ok F S (fun vs H Q E ⟨φ, ds, S, Q', E', T, r, rs, tt, h, _⟩ => by rw [rs.len]; exact len _ _ _ _ h) fun cdv A outer s H vs Q E hr h => body_at cv hb cdv A outer s H vs Q E hr h
end

/-! ### what a caller sees -/
section
variable {K : PySem.W.Frag} {φ1 φ2 : Ph} {H : Hp}
mutual
theorem RV.tr {m : Nat} (hk : ∀ (k : Nat) (a : Addr), k < m → φ1.own[k]? = some a → φ2.own[k]? = some a) (hf : ∀ a, Fz φ1 a → Fz φ2 a) : ∀ {d : D} {v : V}, D.lt m d → RV K φ1 H d v → RV K φ2 H d v
  | .non, _, _, h => h
  | .bl _, _, _, h => h
  | .int _, _, _, h => h
  | .str _, _, _, h => h
  | .ty _, _, _, h => h
  | .adr _, _, _, h => h
  | .ref k, _, l, ⟨a, h1, h2⟩ => ⟨a, hk k a l h1, h2⟩
  | .tup _, _, l, ⟨p, vs, h1, h2, h3⟩ => ⟨p, vs, h1, h2, RVs.tr hk hf l h3⟩
  | .lst _, _, l, ⟨p, vs, h1, h2, h3, h4⟩ => ⟨p, vs, h1, hf _ h2, h3, RVs.tr hk hf l h4⟩
  | .ins _ _ _, _, l, ⟨p, dx, vs, h1, h2, h3, h4, h5⟩ => ⟨p, dx, vs, h1, hf _ h2, h3, h4, RVs.tr hk hf l h5⟩
  | .dK _ _, _, l, ⟨p, vs, h1, h2, h3, h4, h5⟩ => ⟨p, vs, h1, hf _ h2, h3, h4, RVs.tr hk hf l h5⟩
  | .dT _ _, _, l, ⟨p, vs, h1, h2, h3, h4, h5⟩ => ⟨p, vs, h1, hf _ h2, h3, h4, RVs.tr hk hf l h5⟩
  | .scr _, _, _, ⟨p, h1, h2⟩ => ⟨p, h1, h2.imp (fun ⟨f, g⟩ => ⟨hf _ f, g⟩) id⟩
  | .bad, _, _, h => h.elim
theorem RVs.tr {m : Nat} (hk : ∀ (k : Nat) (a : Addr), k < m → φ1.own[k]? = some a → φ2.own[k]? = some a) (hf : ∀ a, Fz φ1 a → Fz φ2 a) : ∀ {ds : List D} {vs : List V}, D.lts m ds → RVs K φ1 H ds vs → RVs K φ2 H ds vs
  | [], _, _, h => h
  | _ :: _, _, l, ⟨v, ws, h1, h2, h3⟩ => ⟨v, ws, h1, RV.tr hk hf l.1 h2, RVs.tr hk hf l.2 h3⟩
end
theorem RKV.tr {m : Nat} (hk : ∀ (k : Nat) (a : Addr), k < m → φ1.own[k]? = some a → φ2.own[k]? = some a) (hf : ∀ a, Fz φ1 a → Fz φ2 a) {fs : List (Str × D)} {gs : List (Str × V)} (l : D.lts m (fs.map (·.2))) (r : RKV K φ1 H fs gs) : RKV K φ2 H fs gs := by
  obtain ⟨us, eu, g3⟩ := r.split
  subst eu
  exact RKV.join (g3.tr hk hf l)
end
abbrev XD := Addr → List (Str × D) → Prop
abbrev SpP := List D → (D → Prop) → XD → Prop
/-- a def that changes nothing -/
def lp (sp : SpP) : SpD := fun ds S Q E => sp ds (fun d => Q d S) fun C fs => E C fs S
def at0 (sp : SpP) : SpD := fun ds S Q E => S = [] ∧ sp ds (fun d => Q d []) fun C fs => E C fs []
/-- the objects of the outer defs, all hidden -/
def Ph.all (φ : Ph) : Ph := ⟨φ.hid ++ φ.own, []⟩
section
variable {K : PySem.W.Frag}
theorem Rel.all {φ : Ph} {H : Hp} {S : List O} (r : Rel K φ H S) : Rel K φ.all H [] :=
  ⟨List.nodup_nil, fun _ _ z => (List.not_mem_nil z), fun a ha => (List.mem_append.mp ha).elim (r.hd a) fun h => r.own_some h, rfl, fun i o h => by simp at h⟩
theorem Fz.all {φ : Ph} {a : Addr} (h : Fz φ a) : Fz φ.all a := ⟨fun z => (List.mem_append.mp z).elim h.1 h.2, List.not_mem_nil⟩
theorem Fz.unall {φ : Ph} {a : Addr} (h : a ∉ φ.all.hid) : Fz φ a := ⟨fun z => h (List.mem_append_left _ z), fun z => h (List.mem_append_right _ z)⟩
theorem Ext.unall {φ φ' : Ph} {H H' : Hp} (e : Ext K φ.all φ' H H') : Ext K φ φ H H' := ⟨rfl, List.prefix_refl _, e.tup, e.xd, fun a u h g n => ⟨h, (e.fz a u List.not_mem_nil g n).2⟩⟩
theorem Rel.unall {φ φ' : Ph} {H H' : Hp} {S : List O} (r : Rel K φ H S) (e : Ext K φ.all φ' H H') : Rel K φ H' S := r.kept e.unall fun b u g n => (e.fz b u List.not_mem_nil g n).2
theorem upF_pure {sp : SpP} (hp : ∀ ds Q E, sp ds Q E → D.lts 0 ds) {vs : List V} {H : Hp} {Q : VK} {E : XK} (h : upF K (lp sp) vs H Q E) : upF K (at0 sp) vs H Q E := by
  obtain ⟨φ, ds, S, Q', E', T, r, rs, tt, h, kq, ke⟩ := h
  refine ⟨φ.all, ds, [], fun d S1 => S1 = [] ∧ Q' d S, fun C fs S1 => S1 = [] ∧ E' C fs S, T, r.all, rs.tr (fun k a hk => absurd hk (Nat.not_lt_zero k)) (fun a => Fz.all) (hp _ _ _ h), tt, ⟨rfl, ?_⟩, ?_, ?_⟩
  · have e1 : (fun d => [] = ([] : List O) ∧ Q' d S) = fun d => Q' d S := funext fun d => propext ⟨fun z => z.2, fun z => ⟨rfl, z⟩⟩
    have e2 : (fun C fs => [] = ([] : List O) ∧ E' C fs S) = fun C fs => E' C fs S := funext fun C => funext fun fs => propext ⟨fun z => z.2, fun z => ⟨rfl, z⟩⟩
    show sp ds (fun d => [] = ([] : List O) ∧ Q' d S) (fun C fs => [] = ([] : List O) ∧ E' C fs S)
    rw [e1, e2]
    exact h
  · rintro φ' d S1 v H' e r1 t1 rv ⟨rfl, q⟩
    have e0 : φ'.own.length = 0 := r1.len
    refine kq φ d S v H' e.unall (r.unall e) t1 (rv.tr (m := 0) (fun k a hk => absurd hk (Nat.not_lt_zero k)) (fun a z => Fz.unall (by rw [← e.hid]; exact z.1)) ?_) q
    have := rv.lt
    rwa [e0] at this
  · rintro φ' C fs S1 cls d H' e r1 t1 ⟨hc, dx, gs, hd, h1, h2⟩ ⟨rfl, q⟩
    have e0 : φ'.own.length = 0 := r1.len
    refine ke φ C fs S cls d H' e.unall (r.unall e) t1 ⟨hc, dx, gs, hd, h1, h2.tr (m := 0) (fun k a hk => absurd hk (Nat.not_lt_zero k)) (fun a z => Fz.unall (by rw [← e.hid]; exact z.1)) ?_⟩ q
    obtain ⟨us, eu, g3⟩ := h2.split
    have := g3.lt
    rwa [e0] at this
/-! with the drawing -/
def ld (sp : SpP) : SpD := fun ds S Q E => match ds, S with
  | .ref 0 :: r, .drw :: _ => sp r (fun d => Q d S) fun C fs => E C fs S
  | _, _ => False
def at1 (sp : SpP) : SpD := fun ds S Q E => ∃ r, ds = .ref 0 :: r ∧ S = [.drw] ∧ sp r (fun d => Q d [.drw]) fun C fs => E C fs [.drw]
/-- one object handed on, the others hidden -/
def Ph.one (φ : Ph) (a : Addr) : Ph := ⟨φ.hid ++ φ.own.filter (· ≠ a), [a]⟩
section
variable {φ : Ph} {H : Hp} {S : List O} {a : Addr} {k : Nat}
theorem Rel.one {o o' : O} (r : Rel K φ H S) (hk : φ.own[k]? = some a) (h : RO K (φ.one a) H o' a) : Rel K (φ.one a) H [o'] := by
  refine ⟨(by show [a].Nodup; simp), fun b hb z => ?_, fun b hb => ?_, rfl, fun i x hx => ?_⟩
  · rw [List.mem_singleton.mp z] at hb
    rcases List.mem_append.mp hb with hb | hb
    · exact r.dj a hb (List.mem_of_getElem? hk)
    · simpa using (List.mem_filter.mp hb).2
  · rcases List.mem_append.mp hb with hb | hb
    · exact r.hd b hb
    · exact r.own_some (List.mem_filter.mp hb).1
  · cases i with
    | zero => simp at hx; subst hx; exact ⟨a, rfl, h⟩
    | succ i => simp at hx
theorem Fz.one (h : Fz φ b) (ha : a ∈ φ.own) : Fz (φ.one a) b := ⟨fun z => (List.mem_append.mp z).elim h.1 fun z => h.2 (List.mem_filter.mp z).1, fun z => h.2 (List.mem_singleton.mp z ▸ ha)⟩
theorem Fz.unone {b : Addr} (h : b ∉ (φ.one a).hid) (hn : b ≠ a) : Fz φ b := ⟨fun z => h (List.mem_append_left _ z), fun z => h (List.mem_append_right _ (List.mem_filter.mpr ⟨z, by simpa using hn⟩))⟩
theorem Ext.unone {φ' : Ph} {H' : Hp} (e : Ext K (φ.one a) φ' H H') (ha : a ∈ φ.own) : Ext K φ φ H H' := ⟨rfl, List.prefix_refl _, e.tup, e.xd, fun b u h g n => ⟨h, (e.fz b u (fun z => h (List.mem_singleton.mp z ▸ ha)) g n).2⟩⟩
theorem DrawL.lts {l : List D} {m : Nat} (h : DrawL l) : D.lts m l := by
  obtain ⟨ns, i, r, s, rfl, _⟩ := h
  exact ⟨D.lts_ints ns, trivial, trivial, trivial, trivial⟩
/-- the one object is again as it was: a drawing's list -/
theorem Rel.unone {φ' : Ph} {H' : Hp} {S1 : List O} (r : Rel K φ H S) (hk : φ.own[k]? = some a) (hS : S[k]? = some .drw) (e : Ext K (φ.one a) φ' H H') (r1 : Rel K φ' H' S1) (h1 : S1[0]? = some .drw) : Rel K φ H' S := by
  have ha := List.mem_of_getElem? hk
  refine ⟨r.nd, r.dj, fun b hb => ?_, r.len, fun i x hx => ?_⟩
  · obtain ⟨u, g, n⟩ := r.hd b hb
    exact ⟨u, (e.fz b u (fun z => r.dj b hb (List.mem_singleton.mp z ▸ ha)) g n).2, n⟩
  · by_cases hi : i = k
    · subst hi
      rw [hS] at hx; cases hx
      refine ⟨a, hk, ?_⟩
      obtain ⟨b, g1, l, vs, g2, g3, g4⟩ := r1.ob 0 _ h1
      have : φ'.own[0]? = some a := e.get (k := 0) rfl
      rw [this] at g1; cases g1
      exact ⟨l, vs, g2, g3, g4.tr (m := 0) (fun k a hk => absurd hk (Nat.not_lt_zero k)) (fun b z => Fz.unone (by rw [← e.hid]; exact z.1) fun y => z.2 (y ▸ List.mem_of_getElem? this)) g2.lts⟩
    · obtain ⟨b, g1, g2⟩ := r.ob i x hx
      refine ⟨b, g1, g2.mono (e.unone ha) fun u hu n => (e.fz b u (fun z => ?_) hu n).2⟩
      have hz := List.mem_singleton.mp z
      subst hz
      obtain ⟨l1, f1⟩ := List.getElem?_eq_some_iff.mp g1
      obtain ⟨l2, f2⟩ := List.getElem?_eq_some_iff.mp hk
      exact hi ((List.getElem_inj r.nd).mp (f1.trans f2.symm))
end
theorem upF_draw {sp : SpP} (hp : ∀ ds Q E, sp ds Q E → D.lts 0 ds) {vs : List V} {H : Hp} {Q : VK} {E : XK} (h : upF K (ld sp) vs H Q E) : upF K (at1 sp) vs H Q E := by
  obtain ⟨φ, ds, S, Q', E', T, r, rs, tt, h, kq, ke⟩ := h
  unfold ld at h
  split at h
  · rename_i rest S'
    have hS : (O.drw :: S')[0]? = some .drw := rfl
    obtain ⟨v0, ws, rfl, ⟨a, hk, rfl⟩, rs⟩ := rs
    have ha := List.mem_of_getElem? hk
    obtain ⟨b, hb, l, vs, g2, g3, g4⟩ := r.ob 0 _ hS
    rw [hk] at hb; cases hb
    have tr0 : ∀ {ds : List D} {vs : List V}, D.lts 0 ds → RVs K φ H ds vs → RVs K (φ.one a) H ds vs := fun l h => h.tr (m := 0) (fun k a hk => absurd hk (Nat.not_lt_zero k)) (fun b z => z.one ha) l
    have own1 : ∀ {φ' : Ph} {H' : Hp}, Ext K (φ.one a) φ' H H' → φ'.own.length = 1 → ∀ (k : Nat) (x : Addr), k < 1 → φ'.own[k]? = some x → φ.own[k]? = some x := fun e h1 k x hk' hx => by
      have : k = 0 := by omega
      subst this
      rw [e.get (k := 0) (a := a) rfl] at hx; cases hx; exact hk
    have fz1 : ∀ {φ' : Ph} {H' : Hp}, Ext K (φ.one a) φ' H H' → ∀ b, Fz φ' b → Fz φ b := fun e b z => Fz.unone (by rw [← e.hid]; exact z.1) fun y => z.2 (y ▸ List.mem_of_getElem? (e.get (k := 0) (a := a) rfl))
    have e1 : ∀ (p : Prop) , (([O.drw] : List O) = [.drw] ∧ p) = p := fun p => propext ⟨fun z => z.2, fun z => ⟨rfl, z⟩⟩
    refine ⟨φ.one a, .ref 0 :: rest, [.drw], fun d S1 => S1 = [.drw] ∧ Q' d (.drw :: S'), fun C fs S1 => S1 = [.drw] ∧ E' C fs (.drw :: S'), T, r.one (o := .drw) hk ⟨l, vs, g2, g3, tr0 g2.lts g4⟩, ⟨_, _, rfl, ⟨a, rfl, rfl⟩, tr0 (hp _ _ _ h) rs⟩, tt, ?_, ?_, ?_⟩
    · refine ⟨rest, rfl, rfl, ?_⟩
      show sp rest (fun d => ([O.drw] : List O) = [.drw] ∧ Q' d (.drw :: S')) (fun C fs => ([O.drw] : List O) = [.drw] ∧ E' C fs (.drw :: S'))
      rw [funext fun d => e1 (Q' d (.drw :: S')), funext fun C => funext fun fs => e1 (E' C fs (.drw :: S'))]
      exact h
    · rintro φ' d S1 v H' e r1 t1 rv ⟨rfl, q⟩
      have e0 : φ'.own.length = 1 := r1.len
      have l1 := rv.lt
      rw [e0] at l1
      exact kq φ d _ v H' (e.unone ha) (r.unone hk hS e r1 rfl) t1 (rv.tr (own1 e e0) (fz1 e) l1) q
    · rintro φ' C fs S1 cls d H' e r1 t1 ⟨hc, dx, gs, hd, h1, h2⟩ ⟨rfl, q⟩
      have e0 : φ'.own.length = 1 := r1.len
      have l1 : D.lts 1 (fs.map (·.2)) := by
        obtain ⟨us, eu, g3⟩ := h2.split
        have := g3.lt
        rwa [e0] at this
      exact ke φ C fs _ cls d H' (e.unone ha) (r.unone hk hS e r1 rfl) t1 ⟨hc, dx, gs, hd, h1, h2.tr (own1 e e0) (fz1 e) l1⟩ q
  · exact h.elim
/-! an __init__: one's own instance, new -/
end
section
variable {X : Cx} {B : Bs} {k : Nat} {f C : Addr} {fd : FuncData} {ps : List Str} {sp : SpI} {dds : List D} {dvs : List V} {ds : List Value} {W : WX} {W' : WD} {x m : Str} {p pos apos : Pos} {e o : Expr} {es : List Expr} {q : QA}
end
end LC

set_option Elab.async false
set_option linter.all false
set_option maxRecDepth 100000
set_option maxHeartbeats 5000000
/-! LD8: exceptions: classes with an own __init__, raise, try .. except. -/
namespace LC
open PySem PySem.Spec
open PyProof.Rows L2

/-! ### C.m(..), m a plain def of the class -/
section
variable {X : Cx} {k : Nat} {f C : Addr} {fd : FuncData} {ps : List Str} {sp : Sp} {E : XK} {x m : Str} {p1 p2 pos : Pos} {e : Expr} {es : List Expr} {t : TA} {mc : Value}
theorem pe_clsm {pl : Sem Bool} (hg : Gl X x) (hm : X.mg x = some (.ref C)) (r : ClX.CRead X.K C mc) (hc : PySem.W.findCls X.K (.ref C) mc m = some (.val (.ref f))) (F : FnOk X.prog X.w X.K X.mg X.base (L2.CX X.prog X.w) k f fd ps sp) (hk : PySem.W.keepIn X.K (.ref f) = true) (hr : Room k X.A) (hb : Binds X.K fd ps [])
    (hx : Passes (L2.CX X.prog X.w) X E) (ha : PA X (e :: es) t) (hdb : (x == ("__debug__" : Str)) = false := by decide)
    (hst : starEach (e :: es) X.env = (false, eval e X.env) :: starEach es X.env := by rfl) 
    (hpl : (backTo pos (starEach es X.env)).any (·.1) = false := by rfl)
    (ht : eval (.Call (.Attribute (.Name x p1) m p2) (e :: es) [] pos) X.env = (do
      let ov ← eval (.Name x p1) X.env
      standAt p2.atName
      let (fn, pre) ← holding [ov] (getMethod ov m pl)
      callWith pos fn pre (backTo pos (starEach (e :: es) X.env)) (backToKw pos (keywordEach [] X.env))) := by rfl) :
    PE X (.Call (.Attribute (.Name x p1) m p2) (e :: es) [] pos) (tCall sp [] E t) := by
  refine ⟨fun pn s σ H Q I hh => ?_⟩
  refine PySem.W.methodCall_KW (pl := pl) (ld_glob I hg hm ?_ hdb) ht
  refine PySem.W.method_cls I.kIn r.ga (ClX.getcval_ok (v := .ref f) I r ⟨hc, rfl⟩ fun s' I' => ?_)
  refine PySem.W.callWith_K (first := []) (h₀ := X.base) I.ok.mod.kin hk (thn (ha.run pos pn s' σ H _ I' hh) fun ws t2 ⟨vs, M2, J2, r2, q2⟩ => ⟨J2.kIn, ?_⟩) hst hpl
  exact run_fn (us := ws) (vs := vs) F hr hb .nil hx J2 r2 q2
end

/-! ### an exception's __init__ -/
/-- self gets its own dict with the fields fl; all else stays -/
def spX (C : Addr) (n : Nat) (fl : List V → List (Str × V)) : Sp := fun vs H Q _ => ∃ (a : Addr) (us : List V), vs = .ref a :: us ∧ us.length = n ∧ H a = some (exo a C none) ∧
  ∀ (d : Addr) (Hf : Hp), H d = none → d ≠ a → Hf a = some (exo a C (some d)) → Hf d = some (exd d (fl us)) → (∀ b, b ≠ a → b ≠ d → Hf b = H b) → Q .non Hf
/-- the base's: called with any of the classes -/
def spX0 (K : PySem.W.Frag) : Sp := fun vs H Q _ => ∃ (a C : Addr) (y : V), vs = [.ref a, y] ∧ OexC K C ∧ PySem.W.findIn K (.ref C) "called" = some none ∧ H a = some (exo a C none) ∧
  ∀ d, H d = none → d ≠ a → Q .non (upd (upd H d (exd d [("called", y)])) a (exo a C (some d)))
section
variable {X : Cx} {B : Bs} {x : Str} {C fI : Addr} {k : Nat} {fd : FuncData} {ps : List Str} {ds : List Value} {dvs : List V} {p pos : Pos} {e : Expr} {es : List Expr} {q : QA}
/-- as HandS's pmk_oex, without arguments -/
theorem pmk_oex0 {sp : Sp} (T : OexC X.K C) (iC : PySem.W.findIn X.K (.ref C) "__init__" = some (some (.ref fI))) (tI : PySem.W.typeIn X.K (.ref fI) = some (.type "function"))
    (F1 : FnOk X.prog X.w X.K X.mg X.base (L2.CX X.prog X.w) k fI fd ps sp) (hr : Room (k + 1) X.A) (hb : Binds X.K fd ps ds) (hd : Vals dvs ds) (hx : Passes (L2.CX X.prog X.w) X (fun _ _ _ => False)) (hg : Gl X x) (hm : X.mg x = some (.ref C))
    (hdb : (x == ("__debug__" : Str)) = false := by decide) :
    PMk X (.Call (.Name x p) [] [] pos) (tMkO C sp dvs tNil) := by
  intro pn s σ H Q I h
  obtain ⟨hz, q1⟩ := h
  obtain ⟨m0, q, N, bs, bm, sn, sub, ab, col, dd, k0, k1, k2, k3, k5, gC, gbm⟩ := T.cls
  apply wpAny_Call_Name_kw; refine ld_glob I hg hm ?_ hdb
  refine PySem.W.callWith_K0 I.kIn T.kC ?_
  show wpAny _ _ (call (.ref C) []) _ _ _
  obtain ⟨hpo, gg, dd0, tt, oo⟩ := s
  have hSz : hpo.objs.size ≤ hpo.objs.size + 1 := Nat.le_succ _
  have hq := q1 (hpo.objs.size + 1) (I.hok.fresh hSz)
  have kp : ∀ b o, hpo.get? b = some o → ((hpo.push (PySem.W.kdv_tup [])).push (PySem.HandSPX.excO C hpo.objs.size)).get? b = some o := fun b o e => Heap.get?_push_of_some _ (Heap.get?_push_of_some _ e)
  have hGet : ((hpo.push (PySem.W.kdv_tup [])).push (PySem.HandSPX.excO C hpo.objs.size)).get? (hpo.objs.size + 1) = some (PySem.HandSPX.excO C hpo.objs.size) := by heap_get
  have J2 : Inv X pn σ (upd H (hpo.objs.size + 1) (exo (hpo.objs.size + 1) C none)) ⟨(hpo.push (PySem.W.kdv_tup [])).push (PySem.HandSPX.excO C hpo.objs.size), gg, dd0, tt, oo⟩ :=
    I.laid (t' := tt) (a := hpo.objs.size + 1) (o := exo (hpo.objs.size + 1) C none) (h' := (hpo.push (PySem.W.kdv_tup [])).push (PySem.HandSPX.excO C hpo.objs.size)) kp hSz (exo_ok hGet)
  have rr : Vals (V.ref (hpo.objs.size + 1) :: ([] ++ dvs)) (Value.ref (hpo.objs.size + 1) :: ([] ++ ds)) := .cons rfl hd
  have hLen : (Value.ref (hpo.objs.size + 1) :: ([] : List Value) ++ ds).length = ps.length := by
    have e := rr.length
    rw [F1.len _ _ _ _ hq] at e
    exact e.symm
  refine wpAny_call (PySem.HandSPX.call_own F.excBase_ValueError (fun Y => PySem.HandSPX.refsVE_contains Y bm gbm) (I.kIn _ _ gC) (PySem.W.looks_findIn I.kIn iC) (fun self => PySem.W.bind_fn I.kIn self tI) (by show 0 ≤ sizeLine; exact Nat.zero_le _)
    (codeAny_mono (F1.run _ X.stack _ _ ⟨Value.ref (hpo.objs.size + 1) :: [], []⟩ (Value.ref (hpo.objs.size + 1) :: ([] ++ ds)) _ _ (fun _ _ _ => False) (hr.make C [] []) (J2.env0.make C [] []) (by have z := hb ⟨(hpo.push (PySem.W.kdv_tup [])).push (PySem.HandSPX.excO C hpo.objs.size), gg, dd0, tt, oo⟩ [Value.ref (hpo.objs.size + 1)] J2.kIn hLen; simpa using z) rr hq) fun r s' hq' => ?_))
  cases r with
  | error ex => exact hx pn σ _ _ ex s' J2 hq'
  | ok fl =>
    cases fl with
    | ret u =>
      obtain ⟨v, M2, o2, b2, u2, k2, rv, ev, d, fs, e1, e2, e3, q2⟩ := hq'
      subst ev
      obtain ⟨h2, g2, dd2, t2, oo'⟩ := s'
      exact ⟨rv, mk_end (raises_own T.exC T.tyC) I hSz kp u2 k2 o2 b2 e1 e2 e3 q2⟩
    | next => exact hq'.elim
    | brk => exact False.elim hq'
    | cont => exact hq'.elim
/-- the fields of such an exception, over data -/
def FlD (K : PySem.W.Frag) (fl : List V → List (Str × V)) (flD : List D → List (Str × D)) : Prop := ∀ φ H ds us, RVs K φ H ds us → RKV K φ H (flD ds) (fl us)
theorem mk_at {φ : Ph} {H : Hp} {S : List O} {dl dds : List D} {vs : List V} {n : Nat} {fl : List V → List (Str × V)} {flD : List D → List (Str × D)} {Q : XK} (hfl : FlD X.K fl flD) (hr : HR X.K B φ H S) (r : RVs X.K φ H dl vs) (hdd : RVc X.K dds dvs) (hn : dl.length + dds.length = n)
    (q : ∀ φ' H' cls d, Ext X.K φ φ' H H' → HR X.K B φ' H' S → XRel X.K φ' H' C (flD (dl ++ dds)) cls d → Q cls d H') :
    ∀ a, H a = none → spX C n fl (.ref a :: (vs ++ dvs)) (upd H a (exo a C none)) (fun v H2 => v = .non ∧ ∃ (d : Addr) (fs : List (Str × V)), H2 a = some (exo a C (some d)) ∧ H2 d = some (exd d fs) ∧ H d = none ∧ Q (.ref C) (some d) (upd (del H2 a) d (.xd fs))) (fun _ _ _ => False) := fun a ha => by
  have rr := r.app (hdd φ H)
  refine ⟨a, vs ++ dvs, rfl, by rw [rr.len, List.length_append]; exact hn, upd_same, fun d Hf hd hne h1 h2 h3 => ⟨rfl, d, fl (vs ++ dvs), h1, h2, by rw [upd_ne hne] at hd; exact hd, ?_⟩⟩
  rw [upd_ne hne] at hd
  have at_ : ∀ b u, H b = some u → upd (del Hf a) d (.xd (fl (vs ++ dvs))) b = some u := fun b u hb => by
    have h4 : b ≠ a := ne_of_none hb ha
    have h5 : b ≠ d := ne_of_none hb hd
    rw [upd_ne h5, del_ne h4, h3 b h4 h5, upd_ne h4]; exact hb
  have e : Ext X.K φ φ H (upd (del Hf a) d (.xd (fl (vs ++ dvs)))) := ext_at at_
  exact q φ _ _ _ e (hr.mono e (hr.rel.kept e fun b u h _ => at_ b u h) (hr.tab.ext at_)) ⟨rfl, d, _, rfl, upd_same, hfl _ _ _ _ (rr.mono e)⟩
/-- raise C(..) -/
def qRaise (C : Addr) (flD : List D → List (Str × D)) (n : Nat) (dds : List D) (W' : WD) (q : QA) : QS := fun _ s S => q s S fun ds S1 => Br (lenLe 1000 ds && Nat.beq (ds ++ dds).length n) (W' C (flD (ds ++ dds)) s S1) False
theorem raise_ok {ds dds : List D} {n : Nat} (h : (lenLe 1000 ds && Nat.beq (ds ++ dds).length n) = true) : ds.length ≤ 1000 ∧ ds.length + dds.length = n := by
  rw [Bool.and_eq_true] at h
  exact ⟨lenLe_ok h.1, by rw [← List.length_append]; exact Nat.eq_of_beq_eq_true h.2⟩
theorem ls_raise {W : WX} {W' : WD} {n : Nat} {fl : List V → List (Str × V)} {flD : List D → List (Str × D)} {dds : List D} {rpos : Pos} (hfl : FlD X.K fl flD) (hc : X.calm = true) (T : OexC X.K C) (iC : PySem.W.findIn X.K (.ref C) "__init__" = some (some (.ref fI))) (tI : PySem.W.typeIn X.K (.ref fI) = some (.type "function"))
    (F1 : FnOk X.prog X.w X.K X.mg X.base (L2.CX X.prog X.w) k fI fd ps (spX C n fl)) (hr : Room (k + 1) X.A) (hb : Binds X.K fd ps ds) (hd : Vals dvs ds) (hdd : RVc X.K dds dvs) (tk : Takes X W) (wl : WL X.K B W' W) (hx : Passes (L2.CX X.prog X.w) X (fun _ _ _ => False)) (hg : Gl X x) (hm : X.mg x = some (.ref C))
    (ha : LA X B (e :: es) q) (hdb : (x == ("__debug__" : Str)) = false := by decide) (he : starEach (e :: es) X.env = (false, eval e X.env) :: starEach es X.env := by rfl) (hpl : (backTo pos (starEach es X.env)).any (·.1) = false := by rfl) :
    LS X B (.Raise (some (.Call (.Name x p) (e :: es) [] pos)) none rpos) (qRaise C flD n dds W' q) := PS.imp (ps_raise hc tk (pmk_oex T iC tI F1 hr hb hd hx hg hm ha hdb he hpl)) fun D σ H ⟨φ, s, S, D', hr', ev, q, ek⟩ =>
  ⟨φ, s, S, _, hr', ev, q, fun φ1 dl S1 vs H1 e1 hr1 r1 qq => let ⟨hb, q1⟩ := Br.get qq; let ⟨h1, h2⟩ := raise_ok hb; ⟨by rw [r1.len]; exact h1, mk_at hfl hr1 r1 hdd h2 fun φ' H' cls d e2 hr2 xr => wl _ _ _ _ _ _ _ _ _ hr2 (ev.mono (e1.trans e2)) xr q1⟩⟩
theorem ls_raise0 {W : WX} {W' : WD} {n : Nat} {fl : List V → List (Str × V)} {flD : List D → List (Str × D)} {dds : List D} {rpos : Pos} (hfl : FlD X.K fl flD) (hc : X.calm = true) (T : OexC X.K C) (iC : PySem.W.findIn X.K (.ref C) "__init__" = some (some (.ref fI))) (tI : PySem.W.typeIn X.K (.ref fI) = some (.type "function"))
    (F1 : FnOk X.prog X.w X.K X.mg X.base (L2.CX X.prog X.w) k fI fd ps (spX C n fl)) (hr : Room (k + 1) X.A) (hb : Binds X.K fd ps ds) (hd : Vals dvs ds) (hdd : RVc X.K dds dvs) (tk : Takes X W) (wl : WL X.K B W' W) (hx : Passes (L2.CX X.prog X.w) X (fun _ _ _ => False)) (hg : Gl X x) (hm : X.mg x = some (.ref C))
    (hdb : (x == ("__debug__" : Str)) = false := by decide) :
    LS X B (.Raise (some (.Call (.Name x p) [] [] pos)) none rpos) (qRaise C flD n dds W' qNil) := PS.imp (ps_raise hc tk (pmk_oex0 T iC tI F1 hr hb hd hx hg hm hdb)) fun D σ H ⟨φ, s, S, D', hr', ev, qq, ek⟩ => let ⟨hb, q⟩ := Br.get qq; let ⟨h1, h2⟩ := raise_ok hb
  ⟨Nat.zero_le _, mk_at (dl := []) hfl hr' rfl hdd h2 fun φ' H' cls d e2 hr2 xr => wl _ _ _ _ _ _ _ _ _ hr2 (ev.mono e2) xr q⟩

/-! ### try .. except X as n -/
/-- a later ground -/
structure BLe (K : PySem.W.Frag) (B B' : Bs) : Prop where
  ext : Ext K B.φ0 B'.φ0 B.H0 B'.H0
  tab : B'.T = B.T
/-- n.f in the suite -/
def qXf (K : PySem.W.Frag) (a C : Addr) (fs : List (Str × D)) (m : Str) (qe : QE) : QE := fun s S Q => qe s S fun d S1 => Need (d = .adr a ∧ XfC K C ∧ PySem.W.findIn K (.ref C) m = some none) (Opt (fs.lookup m) fun v => Q v S1)
theorem pe_xfA {a : Addr} {oe : Obj} {cls : Value} {d : Option Addr} {pn : List (Addr × Obj)} {e : Expr} {te : TE} {pos : Pos} {n : Str}
    (hz : Zc cls d oe)
    (hf : ∃ vs, oe.data = .fields vs) (he : PE (X.suite a ((a, oe) :: pn)) e te) (hb : attributeBase e n X.env (eval e X.env) = eval e X.env := by rfl) :
    PE (X.suite a ((a, oe) :: pn)) (.Attribute e n pos) (fun σ H Q => te σ H fun x H1 => x = .ref a ∧ ∃ (C dd : Addr) (fs : List (Str × V)) (v : V), cls = .ref C ∧ XfC X.K C ∧ PySem.W.findIn X.K (.ref C) n = some none ∧ d = some dd ∧ H1 dd = some (.xd fs) ∧ fs.lookup n = some v ∧ Q v H1) := by
  refine ⟨fun pn s σ H Q I h => ?_⟩
  refine attr_of hb (thn (he.run pn s σ H _ I h) fun u t1 hz1 => ?_)
  obtain ⟨x, H1, J1, rx, ex, C, dd, fs, v, ec, T, hno, ed, ea, l, q⟩ := hz1
  subst ex
  have eu : u = Value.ref a := rx
  subst eu
  subst ec
  subst ed
  obtain ⟨ha, _⟩ := J1.pin (a, oe) (List.mem_append_left _ List.mem_cons_self)
  obtain ⟨vs, hd⟩ := hf
  have hOb : ObjOk X.prog X.w H1 t1.heap dd (.xd fs) := J1.hok dd _ ea
  obtain ⟨mm, hN, hr⟩ := hOb
  obtain ⟨o2, hO2, hL2⟩ := lookIn_ns hN
  obtain ⟨u, hu, rr⟩ := RelO.some_of (v := v) (o := mm n) (by rw [← l]; exact hr n)
  have JJ : PySem.W.InstAt t1.heap a oe C (some o2) := ⟨ha, hz.1, by unfold PySem.W.notCls; rw [hd] <;> rfl, by rw [hz.2]; exact hO2⟩
  exact HandSPX.exc_get J1.kIn JJ T.ga T.gg T.exC (PySem.W.findObj_own T.hdC hno rfl (by rw [hL2, hu])) (handed_of rr) ⟨v, H1, J1.tok _, rr, q⟩
theorem le_xf {a : Addr} {oe : Obj} {cls : Value} {d : Option Addr} {pn : List (Addr × Obj)} {e : Expr} {qe : QE} {pos : Pos} {n : Str} {fs : List (Str × D)}
    (hz : Zc cls d oe) (hf : ∃ vs, oe.data = .fields vs) (xr : XRel X.K B.φ0 B.H0 C fs cls d) (he : LE (X.suite a ((a, oe) :: pn)) B e qe) (hb : attributeBase e n X.env (eval e X.env) = eval e X.env := by rfl) :
    LE (X.suite a ((a, oe) :: pn)) B (.Attribute e n pos) (qXf X.K a C fs n qe) := PE.imp (pe_xfA hz hf he hb) fun σ H Q ⟨φ, s, S, Q', hr, ev, q, k⟩ =>
  ⟨φ, s, S, _, hr, ev, q, fun φ1 d1 S1 v1 H1 e1 hr1 r1 ⟨⟨h1, h2, h3⟩, qq⟩ => by
    obtain ⟨v, h4, q1⟩ := Opt.get qq
    subst h1
    obtain ⟨rfl, dd, gs, rfl, h5, h6⟩ := xr
    have h7 := h6.mono hr1.ext
    obtain ⟨u, h8, h9⟩ := h7.lookup_some h4
    exact ⟨r1, C, dd, gs, u, rfl, h2, h3, rfl, hr1.ext.xd _ _ h5, h8, k _ _ _ _ _ e1 hr1 h9 q1⟩⟩
/-- the suite, over the exception that came -/
def tsX (K : PySem.W.Frag) (B : Bs) (qs : Addr → Addr → List (Str × D) → QS) (a : Addr) (cls : Value) (d : Option Addr) : TS := fun D σ H => ∃ φ C fs s S D', D'.n = S.length ∧ XRel K φ H C fs cls d ∧ HR K B φ H S ∧ EV K φ H s σ ∧ qs a C fs D' s S ∧ EK K B φ H D' D
def qTryAs (K : PySem.W.Frag) (c : Value) (i : Nat) (qb : WD → QS) (qs : Addr → Addr → List (Str × D) → QS) (Wo : WD) : QS := fun D s S => qb (fun C fs s1 S1 => ∃ b, PySem.W.exmOne K (.ref C) c = some b ∧
  (b = true → ∀ a, qs a C fs { nx := fun s' S' => D.nx (s'.set i none) S', rt := D.rt, bk := fun s' S' => D.bk (s'.set i none) S', ct := fun s' S' => D.ct (s'.set i none) S', n := S1.length } (s1.set i (some (.adr a))) S1) ∧ (b = false → Wo C fs s1 S1)) { D with n := S.length } s S
theorem ls_try_as {n : Str} {c : Value} {i : Nat} {body suite : List Stmt} {b₀ : Stmt} {np pos' : Pos} {qb : WD → QS} {qs : Addr → Addr → List (Str × D) → QS} {Wout : WX} {Wo : WD}
    (hs : X.stack = X.env :: X.outer) (hf : X.env.frame = some X.env.locals) (hN : X.N.Nodup) (hi : X.N[i]? = some n) (hln : X.env.kindOf n = some .local) (hc : Names X x c) (tk : Takes X Wout) (wl : WL X.K B Wo Wout)
    (hb : ∀ (W : WX) (W' : WD) (pn : List (Addr × Obj)) (xe : Value → Shared → Prop) (B' : Bs), BLe X.K B B' → Takes (X.tr pn xe) W → WL X.K B' W' W → PassesOwn (model X.prog X.w) X.A X.env xe → LSs (X.tr pn xe) B' body (qb W'))
    (hsu : ∀ (a : Addr) (oe : Obj) (cls : Value) (d : Option Addr) (pn : List (Addr × Obj)) (C : Addr) (fs : List (Str × D)) (B' : Bs), Zc cls d oe → (∃ vs, oe.data = .fields vs) → BLe X.K B B' → XRel X.K B'.φ0 B'.H0 C fs cls d → LSs (X.suite a ((a, oe) :: pn)) B' (b₀ :: suite) (qs a C fs)) :
    LS X B (.Try body [.ExceptHandler (some (.Name x np)) (some n) (b₀ :: suite) pos'] [] [] pos) (qTryAs X.K c i qb qs Wo) := by
  have key := ps_try_as (X := X) (Wout := Wout) (tb := fun W D σ H => ∃ (W' : WD) (B' : Bs), BLe X.K B B' ∧ WL X.K B' W' W ∧ US X.K B' (qb W') D σ H) (ts := tsX X.K B qs) (pos := pos) (np := np) (pos' := pos') (body := body) (suite := suite) (b₀ := b₀) hs hf hN hi hln hc tk ?_ ?_
  · refine PS.imp key ?_
    rintro D σ H ⟨φ, s, S, D', hr, ev, q, ek⟩
    refine ⟨_, ⟨φ, H, B.T⟩, ⟨hr.ext, rfl⟩, ?_, φ, s, S, { D' with n := S.length }, ⟨Ext.refl, hr.rel, hr.tab⟩, ev, q, ?_⟩
    · rintro φ' C fs s1 S1 cls d σ1 H1 hr1 ev1 xr ⟨b, h1, h2, h3⟩
      have hrB : HR X.K B φ' H1 S1 := ⟨hr.ext.trans hr1.ext, hr1.rel, hr1.tab⟩
      obtain ⟨rfl, rest⟩ := id xr
      refine ⟨b, h1, fun hb a na => ⟨φ', C, fs, s1.set i (some (.adr a)), S1, _, rfl, xr, hrB, ev1.set rfl, h2 hb a, ?_⟩, fun hb => wl _ _ _ _ _ _ _ _ _ hrB ev1 xr (h3 hb)⟩
      have ek1 := ek.ext hr1.ext
      refine ⟨φ', H1, Ext.refl, ?_⟩
      exact ⟨by rw [← hr1.rel.len]; exact hrB.ext.pre.length_le, by rw [hr1.rel.len]; exact Nat.le_refl _, fun φ'' H'' S'' s' σ' e' hr' ev' w => ek1.nx _ _ _ _ _ e' hr' ev'.wipe w, fun φ'' H'' S'' d' v' e' hr' r w => ek1.rt _ _ _ _ _ e' hr' r w,
        fun φ'' H'' S'' s' σ' e' hr' ev' w => ek1.bk _ _ _ _ _ e' hr' ev'.wipe w, fun φ'' H'' S'' s' σ' e' hr' ev' w => ek1.ct _ _ _ _ _ e' hr' ev'.wipe w⟩
    · have up : ∀ {φ' : Ph} {H' : Hp} {S' : List O}, HR X.K ⟨φ, H, B.T⟩ φ' H' S' → HR X.K B φ' H' S' := fun h => ⟨hr.ext.trans h.ext, h.rel, h.tab⟩
      refine ⟨φ, H, Ext.refl, ?_⟩
      exact ⟨by rw [← hr.rel.len]; exact Nat.le_refl _, by rw [hr.rel.len]; exact Nat.le_refl _, fun φ' H' S' s' σ' e' hr' => ek.nx _ _ _ _ _ e' (up hr'), fun φ' H' S' d' v' e' hr' => ek.rt _ _ _ _ _ e' (up hr'), fun φ' H' S' s' σ' e' hr' => ek.bk _ _ _ _ _ e' (up hr'), fun φ' H' S' s' σ' e' hr' => ek.ct _ _ _ _ _ e' (up hr')⟩
  · intro W pn xe tk' ps'
    refine ⟨fun pins s σ H D I ⟨W', B', eB, wl', h⟩ => ?_⟩
    exact (hb W W' pn xe B' eB tk' wl' ps').run pins s σ H D I h
  · intro a oe cls d pn hz hfl
    refine ⟨fun pins s σ H D I ⟨φ, C, fs, sl, S, D', hn, xr, hr, ev, q, ek⟩ => ?_⟩
    refine (hsu a oe cls d pn C fs ⟨φ, H, B.T⟩ hz hfl ⟨hr.ext, rfl⟩ xr).run pins s σ H D I ⟨φ, sl, S, D', ⟨Ext.refl, hr.rel, hr.tab⟩, ev, q, ?_⟩
    have up : ∀ {φ' : Ph} {H' : Hp} {S' : List O}, HR X.K ⟨φ, H, B.T⟩ φ' H' S' → HR X.K B φ' H' S' := fun h => ⟨hr.ext.trans h.ext, h.rel, h.tab⟩
    refine ⟨φ, H, Ext.refl, ?_⟩
    exact ⟨by rw [hn, ← hr.rel.len]; exact Nat.le_refl _, by rw [hn, hr.rel.len]; exact Nat.le_refl _, fun φ' H' S' s' σ' e' hr' => ek.nx _ _ _ _ _ e' (up hr'), fun φ' H' S' d' v' e' hr' => ek.rt _ _ _ _ _ e' (up hr'), fun φ' H' S' s' σ' e' hr' => ek.bk _ _ _ _ _ e' (up hr'), fun φ' H' S' s' σ' e' hr' => ek.ct _ _ _ _ _ e' (up hr')⟩
end
end LC

set_option Elab.async false
set_option linter.all false
set_option maxRecDepth 100000
set_option maxHeartbeats 5000000
/-! LD9: why(lambda: e). -/
namespace LC
open PySem PySem.Spec
open PyProof.Rows L2

section
variable {X : Cx} {B : Bs}
end
end LC

set_option Elab.async false
set_option linter.all false
set_option maxRecDepth 100000
set_option maxHeartbeats 5000000
/-! LD10: the __init__ of exceptions. -/
namespace LC
open PySem PySem.Spec
open PyProof.Rows L2
section
variable {P : Program} {w : World} {K : PySem.W.Frag} {mg : Str → Option Value} {base : Heap} {q : Str} {st : Stmt} {f : Addr} {fd : FuncData} {p1 p2 p3 p4 p5 p6 p7 p8 p9 p10 p11 p12 p13 : Pos}
theorem passN {X : Cx} : Passes (L2.CX X.prog X.w) X (fun _ _ _ => False) := fun _ _ _ _ _ _ _ ⟨_, _, _, _, _, _, _, _, _, _, _, _, h⟩ => h.elim
/-- C.m(..) is read as such at these positions -/
def McOk (o : Expr) (m : Str) (es : List Expr) (p2 p5 : Pos) : Prop := ∃ pl : Env → Sem Bool, ∀ env : Env, eval (.Call (.Attribute o m p2) es [] p5) env = (do
      let ov ← eval o env
      standAt p2.atName
      let (f, first) ← holding [ov] (getMethod ov m (pl env))
      callWith p5 f first (backTo p5 (starEach es env)) (backToKw p5 (keywordEach [] env)))
/-- the base's own -/
theorem ok_lime (F : Fun K "__init__" q st f fd) (Sc : FnScope ["self", "called"] ["self", "called"] (defScope st))
    (hb : defBody st = [.Expr (.Call (.Attribute (.Name "ValueError" p1) "__init__" p2) [.Name "self" p3, .Name "called" p4] [] p5) p6, .Assign [.Attribute (.Name "self" p7) "called" p8] (.Name "called" p9) p10])
    (l1 : (defScope st).names.lookup ("self" : Str) = some .local) (l2 : (defScope st).names.lookup ("called" : Str) = some .local) (l3 : (defScope st).names.lookup ("ValueError" : Str) = some .globalImplicit) (hm : mg "ValueError" = none)
    (hc : McOk (.Name "ValueError" p1) "__init__" [.Name "self" p3, .Name "called" p4] p2 p5) (vV : PySem.W.findCls K (.type "ValueError") (.type "type") "__init__" = some (.val (.builtin "ValueError.__init__"))) : FnOk P w K mg base (L2.CX P w) 1 f fd ["self", "called"] (spX0 K) := by
  refine F.okX Sc (fun vs H Q E ⟨a, C, y, h, _⟩ => by subst h; rfl) fun cdv A outer s H vs Q E hr ⟨a, C, y, hv, T, hno, ha, k⟩ => ?_
  subst hv
  rw [hb]
  obtain ⟨pl, hc⟩ := hc
  refine ⟨_, pss_cons (ps_expr (pe_veinit l3 hm vV (pa_cons (pe_var (i := 0) rfl (.inl l1) (by decide) (by decide)) (pa_cons (pe_var (i := 1) rfl (.inl l2) (by decide) (by decide)) pa_nil)) (hc _)) rfl)
    (pss_one (ps_ost (pe_var (i := 0) rfl (.inl l1) (by decide) (by decide)) (pe_var (i := 1) rfl (.inl l2) (by decide) (by decide)))), ?_⟩
  refine ⟨.ref a, rfl, y, rfl, a, C, [y], rfl, (by show (1:Nat) ≤ 1000; decide), T, ha, y, rfl, .ref a, rfl, a, C, rfl, T, hno, .inl ⟨ha, fun d hd hne => ?_⟩⟩
  exact k d hd hne
end
section
variable {P : Program} {w : World} {K : PySem.W.Frag} {mg : Str → Option Value} {base : Heap} {q wd m n : Str} {st : Stmt} {f fB C B : Addr} {mc : Value} {fd fdB : FuncData} {j : Nat} {p1 p2 p3 p4 p5 p6 p7 p8 p9 p10 p11 p12 p13 p14 : Pos}
/-- what a class of the kind has -/
structure XcOk (K : PySem.W.Frag) (mg : Str → Option Value) (B fB : Addr) (fdB : FuncData) (mc : Value) : Prop where
  gB : mg "LimeError" = some (.ref B)
  rB : ClX.CRead K B mc
  iB : PySem.W.findCls K (.ref B) mc "__init__" = some (.val (.ref fB))
  kB : PySem.W.keepIn K (.ref fB) = true
  bB : Binds K fdB ["self", "called"] []
abbrev sup (wd : Str) (j : Nat) (p1 p2 p3 p4 p5 p6 : Pos) : Stmt := .Expr (.Call (.Attribute (.Name "LimeError" p1) "__init__" p2) [.Name "self" p3, .Constant (.str wd) j p4] [] p5) p6
theorem ok_exc0 (F : Fun K "__init__" q st f fd) (Sc : FnScope ["self"] ["self"] (defScope st)) (hb : defBody st = [sup wd j p1 p2 p3 p4 p5 p6]) (hc : McOk (.Name "LimeError" p1) "__init__" [.Name "self" p3, .Constant (.str wd) j p4] p2 p5)
    (l1 : (defScope st).names.lookup ("self" : Str) = some .local) (l3 : (defScope st).names.lookup ("LimeError" : Str) = some .globalImplicit) (G : XcOk K mg B fB fdB mc) (FB : FnOk P w K mg base (L2.CX P w) 1 fB fdB ["self", "called"] (spX0 K))
    (T : OexC K C) (nc : PySem.W.findIn K (.ref C) "called" = some none) : FnOk P w K mg base (L2.CX P w) 2 f fd ["self"] (spX C 0 fun _ => [("called", .str wd)]) := by
  refine F.okX Sc (fun vs H Q E ⟨a, us, h, hl, _⟩ => by subst h; simp [hl]) fun cdv A outer s H vs Q E hr ⟨a, us, hv, hl, ha, k⟩ => ?_
  subst hv
  rw [hb]
  obtain ⟨pl, hc⟩ := hc
  obtain rfl : us = [] := List.length_eq_zero_iff.mp hl
  refine ⟨_, pss_one (ps_expr (pe_clsm l3 G.gB G.rB G.iB FB G.kB hr G.bB passN (pa_cons (pe_var (i := 0) rfl (.inl l1) (by decide) (by decide)) (pa_cons pe_str pa_nil)) (ht := hc _)) rfl), ?_⟩
  refine ⟨.ref a, rfl, a, C, .str wd, rfl, T, nc, ha, fun d hd hne => ?_⟩
  exact k d _ hd hne upd_same (by rw [upd_ne hne, upd_same]) fun b h1 h2 => by rw [upd_ne h1, upd_ne h2]
/-- with one field -/
theorem ok_exc1 (F : Fun K "__init__" q st f fd) (Sc : FnScope ["self", m] ["self", m] (defScope st)) (hb : defBody st = [sup wd j p1 p2 p3 p4 p5 p6, .Assign [.Attribute (.Name "self" p7) m p8] (.Name m p9) p10]) (hc : McOk (.Name "LimeError" p1) "__init__" [.Name "self" p3, .Constant (.str wd) j p4] p2 p5)
    (l1 : (defScope st).names.lookup ("self" : Str) = some .local) (l2 : (defScope st).names.lookup m = some .local) (l3 : (defScope st).names.lookup ("LimeError" : Str) = some .globalImplicit) (G : XcOk K mg B fB fdB mc) (FB : FnOk P w K mg base (L2.CX P w) 1 fB fdB ["self", "called"] (spX0 K))
    (T : OexC K C) (nc : PySem.W.findIn K (.ref C) "called" = some none) (nm : PySem.W.findIn K (.ref C) m = some none) (dm : (m == ("__debug__" : Str)) = false) (cm : (m == ("__classdict__" : Str)) = false) : FnOk P w K mg base (L2.CX P w) 2 f fd ["self", m] (spX C 1 fun us => us.map (fun x => (m, x)) ++ [(("called" : Str), V.str wd)]) := by
  refine F.okX Sc (fun vs H Q E ⟨a, us, h, hl, _⟩ => by subst h; simp [hl]) fun cdv A outer s H vs Q E hr ⟨a, us, hv, hl, ha, k⟩ => ?_
  subst hv
  rw [hb]
  obtain ⟨pl, hc⟩ := hc
  obtain ⟨x, rfl⟩ : ∃ x, us = [x] := List.length_eq_one_iff.mp hl
  refine ⟨_, pss_cons (ps_expr (pe_clsm l3 G.gB G.rB G.iB FB G.kB hr G.bB passN (pa_cons (pe_var (i := 0) rfl (.inl l1) (by decide) (by decide)) (pa_cons pe_str pa_nil)) (ht := hc _)) rfl)
    (pss_one (ps_ost (pe_var (i := 0) rfl (.inl l1) (by decide) (by decide)) (pe_var (i := 1) rfl (.inl l2) dm cm))), ?_⟩
  refine ⟨.ref a, rfl, a, C, .str wd, rfl, T, nc, ha, fun d hd hne => ?_⟩
  refine ⟨x, rfl, .ref a, rfl, a, C, rfl, T, nm, .inr ⟨d, _, upd_same, by rw [upd_ne hne, upd_same], by show (1:Nat) ≤ 900; decide, ?_⟩⟩
  refine k d _ hd hne (by rw [upd_ne (Ne.symm hne), upd_same]) upd_same fun b h1 h2 => by rw [upd_ne h2, upd_ne h1, upd_ne h2]
end
end LC

set_option Elab.async false
set_option linter.all false
set_option maxRecDepth 100000
set_option maxHeartbeats 5000000
/-! LD11: further words; the law's own def; the end. -/
namespace LC
open PySem PySem.Spec
open PyProof.Rows L2
section
variable {prog : Program}
variable {w : World} {A : Around}
variable {E : Value → Shared → Prop} {s : Shared}
end
section
variable {X : Cx} {B : Bs}
/-! ### a def that is known -/
structure Fx (P : Program) (w : World) (K : PySem.W.Frag) (mg : Str → Option Value) (base : Heap) (k : Nat) (f : Addr) (fd : FuncData) (x : Str) (ps : List Str) (sp : SpD) : Prop where
  ok : FnOk P w K mg base (L2.CX P w) k f fd ps (upF K sp)
  gm : mg x = some (.ref f)
  kp : PySem.W.keepIn K (Value.ref f) = true
  bi : Binds K fd ps []
theorem le_fx {k : Nat} {f : Addr} {fd : FuncData} {x : Str} {ps : List Str} {sp : SpD} {W : WX} {W' : WD} {e : Expr} {es : List Expr} {p pos : Pos} {q : QA} (F : Fx X.prog X.w X.K X.mg X.base k f fd x ps sp) (hr : Room k X.A) (tk : Takes X W) (wl : WL X.K B W' W) (ha : LA X B (e :: es) q) (hg : Gl X x := by rfl)
    (hdb : (x == ("__debug__" : Str)) = false := by decide) (he : starEach (e :: es) X.env = (false, eval e X.env) :: starEach es X.env := by rfl) (hpl : (backTo pos (starEach es X.env)).any (·.1) = false := by rfl) : LE X B (.Call (.Name x p) (e :: es) [] pos) (qCall sp [] W' q) :=
  le_call F.ok hr hg F.gm F.kp F.bi .nil RVc.nil tk wl ha hdb he hpl
end
/-- a promise over the tables T0 -/
def upFT (K : PySem.W.Frag) (T0 : List (Addr × Str)) (sp : SpD) : Sp := fun vs H Q E => ∃ φ ds S Q' E', Rel K φ H S ∧ RVs K φ H ds vs ∧ LamX.Tabs T0 H ∧ sp ds S Q' E' ∧ (∀ φ' d S' v H', Ext K φ φ' H H' → Rel K φ' H' S' → LamX.Tabs T0 H' → RV K φ' H' d v → Q' d S' → Q v H') ∧
  (∀ φ' C fs S' cls d H', Ext K φ φ' H H' → Rel K φ' H' S' → LamX.Tabs T0 H' → XRel K φ' H' C fs cls d → E' C fs S' → E cls d H')
/-- a def whose code object stands at c -/
structure FunC (K : PySem.W.Frag) (x qual : Str) (st : Stmt) (f : Addr) (fd : FuncData) (c : Addr) : Prop where
  ex : ∃ (oc : Value) (od : Option Addr) (kV doc pm : Value) (an : Option Addr) (ct : Value) (osl : Array (Option Value)),
    fd = PySem.W.fnOf x qual (defArgs st) (defBody st) (defScope st) .none kV doc pm an (.ref c) ct ∧ K.lookup f = some ⟨oc, od, .func fd, osl⟩ ∧ PySem.W.codeIn K (.ref c) qual = true
section
variable {P : Program} {w : World} {K : PySem.W.Frag} {mg : Str → Option Value} {base : Heap} {T0 : List (Addr × Str)}
theorem FunC.ok {x qual : Str} {st : Stmt} {f c : Addr} {fd : FuncData} {N ps : List Str} {k : Nat} {sp : SpD} {ok : OkG} (cv : Conv sp ok) (F : FunC K x qual st f fd c) (Sc : FnScope N ps (defScope st)) (len : ∀ ds S Q E, sp ds S Q E → ds.length = ps.length)
    (hbody : ∀ (A : Around) (outer : List Env) (s : Shared) (H : Hp) (E : XK) (φ : Ph) (W' : WD), Room k (A.deeper (envOfC qual (defScope st) s.heap.objs.size f (.ref c))) → WL K ⟨φ, H, T0⟩ W' (fun cls d _ H => E cls d H) →
      ∃ q, LSs (cxOf (L2.CX P w) P w K mg base N qual (defScope st) f (.ref c) A outer s H E) ⟨φ, H, T0⟩ (defBody st) q ∧
        ∀ ds S R X n, ok ds S R X n → W' = (fun C fs _ S' => X C fs S') → q { nx := fun _ S' => R .non S', rt := R, n := n } (startD N ds) S) :
    FnOk P w K mg base (L2.CX P w) (k + 1) f fd ps (upFT K T0 sp) := by
  obtain ⟨oc, od, kV, doc, pm, an, ct, osl, rfl, lk, hcd⟩ := F.ex
  refine fn_of lk hcd Sc (fun vs H Q E ⟨φ, ds, S, Q', E', r, rs, tt, h, _⟩ => by rw [rs.len]; exact len _ _ _ _ h) fun A outer s H vs Q E hr ⟨φ, ds, S', Q', E', r, rs, tt, h, kq, ke⟩ => ?_
  have lts := rs.lt
  rw [r.len] at lts
  obtain ⟨R, Xe, hok, cR, cX⟩ := cv _ _ _ _ h lts
  obtain ⟨q, hq, hh⟩ := hbody A outer s H E φ (fun C fs _ S1 => Xe C fs S1) hr (fun φ' C fs s' S1 cls d σ H' hr' ev xr x => ends_x r ke hr' xr (cX _ _ _ x))
  refine ⟨_, hq, φ, startD N ds, S', { nx := fun _ S1 => R .non S1, rt := R, n := S'.length }, ⟨Ext.refl, r, tt⟩, start_ok rs, hh ds S' R Xe _ hok rfl, φ, H, Ext.refl, ?_⟩
  exact ⟨by show φ.own.length ≤ S'.length; rw [r.len]; exact Nat.le_refl _, by show φ.own.length ≤ S'.length; rw [r.len]; exact Nat.le_refl _, fun φ' H' S1 s' σ' e hr' ev x => ends_r r kq hr' (show RV K φ' H' .non .non from rfl) (cR _ _ x), fun φ' H' S1 d v e hr' rv x => ends_r r kq hr' rv (cR _ _ x), fun _ _ _ _ _ _ _ _ h => h.elim, fun _ _ _ _ _ _ _ _ h => h.elim⟩
/-- what the law is handed: the script -/
def spLaw : SpD := fun ds S Q _ => ∃ (ns : List Int), ds = [.scr ns] ∧ S = [] ∧ ns.length ≤ 63 ∧ (∀ z ∈ ns, Builtin.Int.intBits z ≤ 1048576) ∧ ∀ S', Q (.bl true) S'
theorem law_at {ns : List Int} {H : Hp} {a : Addr} (hl : ns.length ≤ 63) (hb : ∀ z ∈ ns, Builtin.Int.intBits z ≤ 1048576) (t : LamX.Tabs T0 H) (h : SqL K H a (ns.map V.int)) : upFT K T0 spLaw [.ref a] H (fun v _ => v = .bl true) fun _ _ _ => False :=
  ⟨⟨[], []⟩, [.scr ns], [], fun d _ => d = .bl true, fun _ _ _ => False, ⟨List.nodup_nil, fun _ h => (List.not_mem_nil h).elim, fun _ h => (List.not_mem_nil h).elim, rfl, fun i o h => (nomatch (show (none : Option O) = some o from h))⟩,
    ⟨.ref a, [], rfl, ⟨a, rfl, h.imp (fun z => ⟨⟨List.not_mem_nil, List.not_mem_nil⟩, z⟩) id⟩, rfl⟩, t, ⟨ns, rfl, rfl, hl, hb, fun _ => rfl⟩, fun φ' d S' v H' _ _ _ rv e => by subst e; exact rv, fun _ _ _ _ _ _ _ _ _ _ _ z => z⟩
end
/-- the end, over the tables cs with the name q -/
theorem walk_end {l : PySem.W.OpenLaw} {k : Nat} {q : Program} {loose : List Str} {XP : (Str → Option Value) → Heap → Prop} {YP : World → Heap → Prop} {d : DefRec} {K : Params → PySem.W.Frag} {x : Str} (hn : l.most = some 63) (hdf : d.params.defaults = []) (hr : Room k callerA) (hY : ∀ (w : World) (h : Heap), YP w h → (K w.params).In h)
    (F : ∀ (w : World) (mg : Str → Option Value) (fa : Addr) (h : Heap), YP w h → (K w.params).In h → h.Ns mainGlobals mg → mg d.name = some (.ref fa) → ∃ (fd : FuncData) (cs : List (Addr × Addr)) (qn : Str), (∀ p ∈ cs, h.get? p.2 = some { cls := .none, data := .fields #[] }) ∧ (∀ p ∈ cs, (K w.params).lookup p.2 = none) ∧ (∀ p ∈ cs, PySem.W.CodeHd h p.1 p.2) ∧
      (∀ (s : Shared) (u : Value), BindsTo s fd ⟨[u], []⟩ [(x, u)]) ∧ ∀ base : Heap, (K w.params).In base → base.Ns mainGlobals mg → (∀ p ∈ cs, LamX.TabB base mg p.1 p.2) → FnOk l.prog w (K w.params) mg base (L2.CX l.prog w) k fa fd [x] (upFT (K w.params) (cs.map fun p => (p.2, qn)) spLaw)) :
    PySem.W.WalkO q loose XP YP l.row.toRowW d []
      (fun f vs => PySem.call f vs) := by
  refine LamX.walk_ofTs (n := 63) (k := k) (x := x) (CX := fun w => L2.CX l.prog w) hn (by decide) hdf hr hY (fun w mg fa h Y X G hmg => ?_) fun w H s e s' ⟨_, _, _, _, _, _, _, _, _, _, _, _, h⟩ => h
  obtain ⟨fd, cs, qn, h1, h2, h3, h4, h5⟩ := F w mg fa h Y X G hmg
  refine ⟨fd, cs, _, h1, h2, h3, h4, fun H a ns hl hb ht hs => law_at (T0 := cs.map fun p => (p.2, qn)) hl hb (fun p hp => ?_) hs, h5⟩
  obtain ⟨r, hr', rfl⟩ := List.mem_map.mp hp
  exact LamX.TabS.nil (ht r hr')
end LC

set_option Elab.async false
set_option linter.all false
set_option maxRecDepth 100000
set_option maxHeartbeats 5000000
/-! LD12: len, str, repr, ==, isinstance of own classes. -/
namespace LC
open PySem PySem.Spec
open PyProof.Rows L2
section
variable {X : Cx} {B : Bs} {k : Nat} {f C : Addr} {fd : FuncData} {ps : List Str} {sp : Sp} {spp : SpP}
end

/-! ### readings -/
section
variable {X : Cx} {B : Bs} {k : Nat} {f C : Addr} {fd : FuncData} {ps : List Str} {sp : SpP}
end
end LC

set_option Elab.async false
set_option linter.all false
set_option maxRecDepth 100000
set_option maxHeartbeats 5000000
/-! LD13: what a printed text asks. -/
namespace LC
open PySem PySem.Spec
open PyProof.Rows L2
/-- a name of a module that holds plain data -/
def GlD (K : PySem.W.Frag) (mg : Str → Option Value) (x : Str) (d : D) : Prop := ∃ v u, mg x = some u ∧ RelV v u ∧ ∀ φ H, RV K φ H d v
theorem GlD.le {X : Cx} {B : Bs} {x : Str} {d : D} {pos : Pos} (h : GlD X.K X.mg x d) (hg : Gl X x) (hd : (x == ("__debug__" : Str)) = false := by decide) : LE X B (.Name x pos) (qC d) :=
  let ⟨_, _, h1, h2, h3⟩ := h
  le_glob hg h1 h2 h3 hd
theorem GlD.int {K : PySem.W.Frag} {mg : Str → Option Value} {x : Str} {i : Int} {t : Tok} (h : mg x = some (.int i t)) : GlD K mg x (.int i) := ⟨.int i, _, h, ⟨t, rfl⟩, fun _ _ => rfl⟩
def fl0 (w : Str) : List V → List (Str × V) := fun _ => [("called", .str w)]
def fd0 (w : Str) : List D → List (Str × D) := fun _ => [("called", .str w)]
def fl1 (w m : Str) : List V → List (Str × V) := fun us => us.map (fun x => (m, x)) ++ [(("called" : Str), V.str w)]
def fd1 (w m : Str) : List D → List (Str × D) := fun us => us.map (fun x => (m, x)) ++ [(("called" : Str), D.str w)]
theorem fl0_ok {K : PySem.W.Frag} {w : Str} : FlD K (fl0 w) (fd0 w) := fun _ _ _ _ _ => ⟨_, _, rfl, rfl, rfl⟩
theorem fl1_ok {K : PySem.W.Frag} {w m : Str} : FlD K (fl1 w m) (fd1 w m) := fun φ H ds => by
  induction ds with
  | nil => intro us r; cases r; exact ⟨_, _, rfl, rfl, rfl⟩
  | cons d ds ih =>
    rintro us ⟨v, ws, rfl, r1, r2⟩
    exact ⟨v, _, rfl, r1, ih ws r2⟩
/-- a class of exceptions -/
structure XcD (P : Program) (w : World) (K : PySem.W.Frag) (mg : Str → Option Value) (base : Heap) (x : Str) (C fI : Addr) (fd : FuncData) (ps : List Str) (n : Nat) (fl : List V → List (Str × V)) (flD : List D → List (Str × D)) (dvs : List V) (dds : List D) : Prop where
  hfl : FlD K fl flD
  T : OexC K C
  xf : XfC K C
  iC : PySem.W.findIn K (.ref C) "__init__" = some (some (.ref fI))
  tI : PySem.W.typeIn K (.ref fI) = some (.type "function")
  ok : FnOk P w K mg base (L2.CX P w) 2 fI fd ps (spX C n fl)
  bi : ∃ ds, Vals dvs ds ∧ Binds K fd ps ds
  dd : RVc K dds dvs
  gm : mg x = some (.ref C)
  nc : PySem.W.findIn K (.ref C) "called" = some none
section
variable {X : Cx} {B : Bs} {x : Str} {C fI : Addr} {fd : FuncData} {ps : List Str} {dvs : List V} {dds : List D} {n : Nat} {fl : List V → List (Str × V)} {flD : List D → List (Str × D)} {W : WX} {W' : WD} {e : Expr} {es : List Expr} {q : QA} {p pos rpos : Pos}
theorem ls_rz (Z : XcD X.prog X.w X.K X.mg X.base x C fI fd ps n fl flD dvs dds) (hc : X.calm = true) (hr : Room 3 X.A) (tk : Takes X W) (wl : WL X.K B W' W) (ha : LA X B (e :: es) q) (hg : Gl X x := by rfl)
    (hdb : (x == ("__debug__" : Str)) = false := by decide) (he : starEach (e :: es) X.env = (false, eval e X.env) :: starEach es X.env := by rfl) (hpl : (backTo pos (starEach es X.env)).any (·.1) = false := by rfl) :
    LS X B (.Raise (some (.Call (.Name x p) (e :: es) [] pos)) none rpos) (qRaise C flD n dds W' q) :=
  let ⟨_, vd, b⟩ := Z.bi
  ls_raise Z.hfl hc Z.T Z.iC Z.tI Z.ok hr b vd Z.dd tk wl passN hg Z.gm ha hdb he hpl
theorem ls_rz0 (Z : XcD X.prog X.w X.K X.mg X.base x C fI fd ps n fl flD dvs dds) (hc : X.calm = true) (hr : Room 3 X.A) (tk : Takes X W) (wl : WL X.K B W' W) (hg : Gl X x := by rfl)
    (hdb : (x == ("__debug__" : Str)) = false := by decide) :
    LS X B (.Raise (some (.Call (.Name x p) [] [] pos)) none rpos) (qRaise C flD n dds W' qNil) :=
  let ⟨_, vd, b⟩ := Z.bi
  ls_raise0 Z.hfl hc Z.T Z.iC Z.tI Z.ok hr b vd Z.dd tk wl passN hg Z.gm hdb
end
/-! ### defs that change nothing -/
def RtP (Q : D → Prop) (d : D) (S : List O) : Prop := ∃ d', Rs 0 S d' d ∧ Q d'
def XtP (E : XD) (C : Addr) (fs : List (Str × D)) (S : List O) : Prop := ∃ fs', fs'.map (·.1) = fs.map (·.1) ∧ RsL 0 S (fs'.map (·.2)) (fs.map (·.2)) ∧ E C fs'
theorem Rp {Q : D → Prop} {d : D} {S : List O} (q : Q d) (l : D.lt 0 d := by trivial) : RtP Q d S := ⟨d, Rs.same l, q⟩
theorem Xp {E : XD} {C : Addr} {fs : List (Str × D)} {S : List O} (q : E C fs) (l : D.lts 0 (fs.map (·.2)) := by exact ⟨trivial, trivial⟩) : XtP E C fs S := ⟨fs, rfl, RsL.same l, q⟩
def RtW (Q : D → Prop) (d : D) (S : List O) : Prop := match S with
  | .drw :: _ => ∃ d', Rs 1 S d' d ∧ Q d'
  | _ => False
def XtW (E : XD) (C : Addr) (fs : List (Str × D)) (S : List O) : Prop := match S with
  | .drw :: _ => ∃ fs', fs'.map (·.1) = fs.map (·.1) ∧ RsL 1 S (fs'.map (·.2)) (fs.map (·.2)) ∧ E C fs'
  | _ => False
theorem Rw {Q : D → Prop} {d : D} {S : List O} (q : Q d) (l : D.lt 1 d := by trivial) : RtW Q d (.drw :: S) := ⟨d, Rs.same l, q⟩
def okP (sp : SpP) : OkG := fun ds S R X n => ∃ Q E, sp ds Q E ∧ S = [] ∧ R = RtP Q ∧ X = XtP E ∧ n = 0
def okW (sp : SpP) : OkG := fun ds S R X n => ∃ r Q E, sp r Q E ∧ ds = .ref 0 :: r ∧ S = [.drw] ∧ R = RtW Q ∧ X = XtW E ∧ n = 1
def okS (sp : SpD) : OkG := fun ds S R X n => ∃ Q E, sp ds S Q E ∧ D.lts S.length ds ∧ R = Rt S.length Q ∧ X = Xt S.length E ∧ n = S.length
theorem conv_P {sp : SpP} : Conv (at0 sp) (okP sp) := by
  rintro ds S Q' E' ⟨rfl, h⟩ _
  refine ⟨_, _, ⟨_, _, h, rfl, rfl, rfl, rfl⟩, ?_, ?_⟩
  · rintro d S' ⟨d', h1, h2⟩
    exact ⟨0, d', [], Nat.le_refl _, Nat.zero_le _, rfl, h1, h2⟩
  · rintro C fs S' ⟨fs', h1, h2, h3⟩
    exact ⟨0, fs', [], Nat.le_refl _, Nat.zero_le _, rfl, h1, h2, h3⟩
theorem conv_W {sp : SpP} : Conv (at1 sp) (okW sp) := by
  rintro ds S Q' E' ⟨r, rfl, rfl, h⟩ _
  refine ⟨_, _, ⟨_, _, _, h, rfl, rfl, rfl, rfl, rfl⟩, ?_, ?_⟩
  · intro d S' h
    unfold RtW at h
    split at h
    · obtain ⟨d', h1, h2⟩ := h
      exact ⟨1, d', [.drw], Nat.le_refl _, by simp, ⟨_, _, rfl, trivial, rfl⟩, h1, h2⟩
    · exact h.elim
  · intro C fs S' h
    unfold XtW at h
    split at h
    · obtain ⟨fs', h1, h2, h3⟩ := h
      exact ⟨1, fs', [.drw], Nat.le_refl _, by simp, ⟨_, _, rfl, trivial, rfl⟩, h1, h2, h3⟩
    · exact h.elim
theorem conv_S {sp : SpD} : Conv sp (okS sp) := fun ds S Q' E' h l => ⟨_, _, ⟨_, _, h, l, rfl, rfl, rfl⟩, fun _ _ h => h, fun _ _ _ h => h⟩
/-! the drawing's list itself -/
def atL (sp : SpP) : SpD := fun ds S Q E => ∃ r l, ds = .ref 0 :: r ∧ S = [.lst l] ∧ DrawL l ∧ sp r (fun d => ∀ l', DrawL l' → Q d [.lst l']) fun _ _ => False
theorem drawL0 : DrawL [.lst [], .int 0, .int 0, .int 0] := ⟨[], 0, 0, 0, rfl, by decide, by decide, by decide, by decide⟩
theorem upF_open {K : PySem.W.Frag} {sp : SpP} (hE : ∀ ds Q E, sp ds Q E → sp ds Q fun _ _ => False) {vs : List V} {H : Hp} {Q : VK} {E : XK} (h : upF K (at1 sp) vs H Q E) : upF K (atL sp) vs H Q E := by
  obtain ⟨φ, ds, S, Q', E', T, r, rs, tt, ⟨rr, rfl, rfl, h⟩, kq, ke⟩ := h
  obtain ⟨a, h1, l, vs', h2, h3, h4⟩ := r.ob 0 .drw rfl
  refine ⟨φ, _, [.lst l], fun d S1 => ∃ l', S1 = [.lst l'] ∧ DrawL l' ∧ Q' d [.drw], fun _ _ _ => False, T, ⟨r.nd, r.dj, r.hd, r.len, fun i o hi => ?_⟩, rs, tt, ⟨rr, l, rfl, rfl, h2, ?_⟩, ?_, fun _ _ _ _ _ _ _ _ _ _ _ z => z.elim⟩
  · cases i with
    | zero => cases hi; exact ⟨a, h1, vs', h3, h4⟩
    | succ i => cases hi
  · have e : (fun d => ∀ l', DrawL l' → ∃ l'', [O.lst l'] = [O.lst l''] ∧ DrawL l'' ∧ Q' d [.drw]) = fun d => Q' d [.drw] := funext fun d => propext ⟨fun z => (z _ drawL0).elim fun _ y => y.2.2, fun z l' hl => ⟨l', rfl, hl, z⟩⟩
    rw [e]
    exact hE _ _ _ h
  · rintro φ' d S1 v H' e r1 t1 rv ⟨l', rfl, hl, q⟩
    refine kq φ' d [.drw] v H' e ⟨r1.nd, r1.dj, r1.hd, r1.len, fun i o hi => ?_⟩ t1 rv q
    obtain ⟨b, g1, vs2, g2, g3⟩ := r1.ob 0 _ rfl
    cases i with
    | zero => cases hi; exact ⟨b, g1, l', vs2, hl, g2, g3⟩
    | succ i => cases hi
def okL (sp : SpP) : OkG := fun ds S R X n => ∃ r Q E l, sp r Q E ∧ ds = .ref 0 :: r ∧ S = [.lst l] ∧ DrawL l ∧ (R = fun d S' => match S' with | .lst l' :: _ => DrawL l' ∧ D.lt 0 d ∧ Q d | _ => False) ∧ (X = fun _ _ _ => False) ∧ n = 1
theorem conv_L {sp : SpP} : Conv (atL sp) (okL sp) := by
  rintro ds S Q' E' ⟨r, l, rfl, rfl, hl, h⟩ _
  refine ⟨_, _, ⟨_, _, _, _, h, rfl, rfl, hl, rfl, rfl, rfl⟩, ?_, fun _ _ _ z => z.elim⟩
  intro d S' h
  split at h
  · rename_i l' rest
    exact ⟨1, d, [.lst l'], Nat.le_refl _, by simp, ⟨_, _, rfl, RsL.same h.1.lts, rfl⟩, Rs.same (h.2.1.mono (Nat.zero_le _)), h.2.2 l' h.1⟩
  · exact h.elim
section
variable {P : Program} {w : World} {K : PySem.W.Frag} {mg : Str → Option Value} {base : Heap}
theorem fn_P {x qual : Str} {st : Stmt} {f : Addr} {fd : FuncData} {N ps : List Str} {k : Nat} {sp : SpP} (F : Fun K x qual st f fd) (S : FnScope N ps (defScope st)) (hp : ∀ ds Q E, sp ds Q E → ds.length = ps.length ∧ D.lts 0 ds) (hb : BodyG P w K mg base qual st f N k (okP sp)) : FnOk P w K mg base (L2.CX P w) (k + 1) f fd ps (upF K (lp sp)) :=
  (FunD.ok conv_P F S (fun ds S Q E h => (hp _ _ _ h.2).1) hb).imp fun vs H Q E h => upF_pure (fun ds Q E h => (hp _ _ _ h).2) h
theorem fn_PD {x qual : Str} {st : Stmt} {f : Addr} {fd : FuncData} {N ps : List Str} {k : Nat} {sp : SpP} {dvs : List V} (F : L2.FunD K x qual (defArgs st) (defBody st) (defScope st) dvs [] f fd) (S : FnScope N ps (defScope st)) (hp : ∀ ds Q E, sp ds Q E → ds.length = ps.length ∧ D.lts 0 ds) (hb : BodyG P w K mg base qual st f N k (okP sp)) : FnOk P w K mg base (L2.CX P w) (k + 1) f fd ps (upF K (lp sp)) :=
  (FunD.okD conv_P F S (fun ds S Q E h => (hp _ _ _ h.2).1) hb).imp fun vs H Q E h => upF_pure (fun ds Q E h => (hp _ _ _ h).2) h
theorem len_W {sp : SpP} {ps : List Str} (hp : ∀ ds Q E, sp ds Q E → ds.length + 1 = ps.length ∧ D.lts 0 ds) : ∀ ds S Q E, at1 sp ds S Q E → ds.length = ps.length := fun ds S Q E ⟨r, e, _, h⟩ => by rw [e]; exact (hp _ _ _ h).1
theorem fn_W {x qual : Str} {st : Stmt} {f : Addr} {fd : FuncData} {N ps : List Str} {k : Nat} {sp : SpP} (F : Fun K x qual st f fd) (S : FnScope N ps (defScope st)) (hp : ∀ ds Q E, sp ds Q E → ds.length + 1 = ps.length ∧ D.lts 0 ds) (hb : BodyG P w K mg base qual st f N k (okW sp)) : FnOk P w K mg base (L2.CX P w) (k + 1) f fd ps (upF K (ld sp)) :=
  (FunD.ok conv_W F S (len_W hp) hb).imp fun vs H Q E h => upF_draw (fun ds Q E h => (hp _ _ _ h).2) h
theorem fn_L {x qual : Str} {st : Stmt} {f : Addr} {fd : FuncData} {N ps : List Str} {k : Nat} {sp : SpP} (F : Fun K x qual st f fd) (S : FnScope N ps (defScope st)) (hp : ∀ ds Q E, sp ds Q E → ds.length + 1 = ps.length ∧ D.lts 0 ds) (hE : ∀ ds Q E, sp ds Q E → sp ds Q fun _ _ => False) (hb : BodyG P w K mg base qual st f N k (okL sp)) : FnOk P w K mg base (L2.CX P w) (k + 1) f fd ps (upF K (ld sp)) :=
  (FunD.ok conv_L F S (fun ds S Q E ⟨r, l, e, _, _, h⟩ => by rw [e]; exact (hp _ _ _ h).1) hb).imp fun vs H Q E h => upF_open hE (upF_draw (fun ds Q E h => (hp _ _ _ h).2) h)
theorem fn_S {x qual : Str} {st : Stmt} {f : Addr} {fd : FuncData} {N ps : List Str} {k : Nat} {sp : SpD} (F : Fun K x qual st f fd) (S : FnScope N ps (defScope st)) (hp : ∀ ds S Q E, sp ds S Q E → ds.length = ps.length) (hb : BodyG P w K mg base qual st f N k (okS sp)) : FnOk P w K mg base (L2.CX P w) (k + 1) f fd ps (upF K sp) :=
  FunD.ok conv_S F S hp hb
end
/-- drawing a number below many -/
def spPull : SpP := fun r Q _ => ∃ many : Int, r = [.int many] ∧ (1 ≤ many ∧ many < 1073741824) ∧ ∀ n : Int, 0 ≤ n → n < many → Q (.int n)
/-- st, then rest, by what holds between -/
inductive sqM (a b : QS) (D : Ed) (s : Sl) (S : List O) : Prop
  | mk (P : Sl → List O → Prop) (h1 : a { D with nx := P } s S) (h3 : ∀ s' S', P s' S' → b D s' S')
theorem sM {a b : QS} {D : Ed} {s : Sl} {S : List O} (P : Sl → List O → Prop) (h : a { D with nx := P } s S) (k : ∀ s' S', P s' S' → b D s' S') : sqM a b D s S := ⟨P, h, k⟩
theorem sD {a b : QS} {D : Ed} {s : Sl} {S : List O} (h : qSeq a b D s S) : sqM a b D s S := ⟨_, h, fun _ _ h => h⟩
theorem lss_consM {X : Cx} {B : Bs} {st : Stmt} {rest : List Stmt} {qs qt : QS} (h1 : LS X B st qs) (h2 : LSs X B rest qt) : LSs X B (st :: rest) (sqM qs qt) := PSs.imp (pss_cons h1 h2) fun D σ H ⟨φ, s, S, D', hr, ev, ⟨P, q, hp⟩, ek⟩ =>
  ⟨φ, s, S, { D' with nx := P }, hr, ev, q, ek.seq (fun φ' H' S' s' σ' ek' hr' ev' q' => ⟨φ', s', S', D', hr', ev', hp _ _ q', ek'⟩) rfl rfl rfl⟩
def qW (vs : List Nat) (b : QS) : QS := fun D s S => b D (wipeD s vs) S
theorem lss_w {X : Cx} {B : Bs} {ss : List Stmt} {q : QS} (vs : List Nat) (h : LSs X B ss q) : LSs X B ss (qW vs q) := PSs.imp h fun D σ H ⟨φ, s, S, D', hr, ev, q, ek⟩ => ⟨φ, _, S, D', hr, ev.forgets, q, ek⟩
/-! ### isinstance -/
def tyN (S : List O) : D → Option String
  | .non => some "NoneType"
  | .bl _ => some "bool"
  | .int _ => some "int"
  | .str _ => some "str"
  | .tup _ => some "tuple"
  | .lst _ => some "list"
  | .scr _ => some "list"
  | .dK _ _ => some "dict"
  | .dT _ _ => some "dict"
  | .ref k => match S[k]? with
    | some (.lst _) => some "list"
    | some .drw => some "list"
    | some (.dK _) => some "dict"
    | some (.dT _) => some "dict"
    | _ => none
  | _ => none
def tys : List String := ["NoneType", "bool", "int", "str", "tuple", "list", "dict"]
def subTy (t c : String) : Bool := t == c || (t == "bool" && c == "int")
theorem kit_b {K : PySem.W.Frag} {t c : String} (ht : t ∈ tys) (hc : c ∈ ["bool", "int", "str", "tuple", "list"]) : PySem.W.kitOne K (.type t) (.type c) = some (subTy t c) := by
  simp only [tys, List.mem_cons, List.not_mem_nil, or_false] at ht hc
  rcases ht with rfl | rfl | rfl | rfl | rfl | rfl | rfl <;> rcases hc with rfl | rfl | rfl | rfl | rfl <;> rfl
theorem tyN_ty {S : List O} {d : D} {t : String} (h : tyN S d = some t) : tyOf S d = some (.type t) ∧ t ∈ tys := by
  cases d with
  | ref k =>
    simp only [tyN] at h
    simp only [tyOf]
    cases e : S[k]? with
    | none => (rw [e] at h; cases h)
    | some o => rw [e] at h; cases o <;> first | (cases h; done) | (cases h; exact ⟨rfl, by decide⟩)
  | _ => first | (cases h; done) | (cases h; exact ⟨rfl, by decide⟩)
def okTy : String → Bool
  | "bool" => true
  | "int" => true
  | "str" => true
  | "tuple" => true
  | "list" => true
  | _ => false
/-- isinstance of a built-in class -/
def rcIsiB : QC := fun ds S Q => match ds with
  | [d, .ty c] => Opt (tyN S d) fun t => Br (okTy c) (Q (.bl (subTy t c)) S) False
  | _ => False
theorem okTy_mem {c : String} (h : okTy c = true) : c ∈ ["bool", "int", "str", "tuple", "list"] := by
  unfold okTy at h
  split at h <;> first | (cases h; done) | simp
theorem cc_isiB {X : Cx} {B : Bs} : CallR X (.builtin "isinstance") (upC X.K B rcIsiB) := CallR.imp cc_isi fun x H Q ⟨φ, S, ds, Q', hr, r, q, k⟩ => by
  refine ⟨φ, S, ds, Q', hr, r, ?_, k⟩
  unfold rcIsiB at q
  split at q
  · obtain ⟨t, h1, q1⟩ := q.get
    obtain ⟨h2, q2⟩ := q1.get
    obtain ⟨h3, h4⟩ := tyN_ty h1
    exact ⟨h3, rfl, (fun C z => nomatch z), kit_b h4 (okTy_mem h2), q2⟩
  · exact q.elim
/-! ### classes -/
section
variable {X : Cx} {B : Bs} {k : Nat} {f C : Addr} {fd : FuncData} {ps : List Str} {spi : SpI} {spd : SpD} {dds : List D} {dvs : List V} {W : WX} {W' : WD} {x m : Str} {p pos apos : Pos} {e o : Expr} {es : List Expr} {q : QA} {qo : QE}
end
/-! ### what the top has written -/
section
variable {K : PySem.W.Frag}
theorem exm_by {C B : Addr} {nm q : Str} {N : Addr} {bs bm : List Value} {hd : Bool} {sn} {sub} {ab} {col} {dd} {k0 k1 k2 k3 k5} {id : String} (lB : K.lookup B = some (excClassObj nm q B N bs bm hd sn sub ab col dd k0 k1 k2 k3 k5 id)) (tB : PySem.W.typeIn K (.ref B) = some (.type "type")) (sB : PySem.W.subIn K (.ref B) (.type "BaseException") = some true)
    (s : PySem.W.subIn K (.ref C) (.ref B) = some true) : PySem.W.exmOne K (.ref C) (.ref B) = some true := by
  have hc : (PySem.W.clsIn K B).isSome = true := by unfold PySem.W.clsIn; rw [lB] <;> rfl
  unfold PySem.W.exmOne
  rw [sB, if_pos (by decide)]
  show (if ((PySem.W.clsIn K B).isSome && PySem.W.typeIn K (.ref B) == some (.type "type")) = true then PySem.W.subIn K (.ref C) (.ref B) else none) = some true
  rw [hc, tB, if_pos (by decide), s]
theorem GlD.tup {mg : Str → Option Value} {x : Str} {v : Addr} {n : Nat} {sl : Array (Option Value)} {its : Array Value} {ds : List D} {vs : List V} (h : mg x = some (.ref v)) (l : K.lookup v = some ⟨.type "tuple", none, .seq its n, sl⟩) (hz : its.size ≤ sizeLine) (r : Vals vs its.toList) (rd : RVc K ds vs) : GlD K mg x (.tup ds) :=
  ⟨.ref v, _, h, rfl, fun φ H => ⟨v, vs, rfl, .inr ⟨_, its, n, l, rfl, rfl, hz, r⟩, rd φ H⟩⟩
/-- a def with defaults as it stands -/
theorem fund_mk {x qual : Str} {st : Stmt} {f dv : Addr} {oc : Value} {od an : Option Addr} {osl : Array (Option Value)} {kV doc pm cdv ct : Value} {dvs : List V} {o2 : Value} {d2 : Option Addr} {its : Array Value} {n : Nat} {s2 : Array (Option Value)}
    (l : K.lookup f = some ⟨oc, od, .func (PySem.W.fnOf x qual (defArgs st) (defBody st) (defScope st) (.ref dv) kV doc pm an cdv ct), osl⟩) (c : PySem.W.codeIn K cdv qual = true) (k : PySem.W.keepIn K (.ref f) = true)
    (ld : K.lookup dv = some ⟨o2, d2, .seq its n, s2⟩) (hd : dvs ≠ []) (r : Vals dvs its.toList) :
    L2.FunD K x qual (defArgs st) (defBody st) (defScope st) dvs [] f (PySem.W.fnOf x qual (defArgs st) (defBody st) (defScope st) (.ref dv) kV doc pm an cdv ct) :=
  ⟨⟨oc, od, .ref dv, kV, doc, pm, an, cdv, ct, osl, rfl, l, c, .inr ⟨hd, dv, _, its.toList, n, rfl, ld, by rw [Array.toArray_toList], r⟩, .inl rfl⟩, k⟩
end
end LC

set_option Elab.async false
set_option linter.all false
set_option maxRecDepth 100000
set_option maxHeartbeats 5000000
/-! LD14: int(t, 2) of four signs. -/
namespace LC
open PySem PySem.Spec
open PyProof.Rows L2
section
variable {X : Cx} {B : Bs}
end
theorem sIx_to {n k : Nat} (h : n ≤ k) : HT.sIx n n (some (k : Int)) = n := by rw [HT.sIx_nat]; omega
theorem cutD_to {xs : List D} {k : Nat} (h : xs.length ≤ k) : cutD xs none (some (k : Int)) = xs := cutD_whole xs _ _ ⟨rfl, sIx_to h⟩
theorem atI_get {α : Type} {ds : List α} {i : Int} {d : α} (h0 : 0 ≤ i) (h : ds[i.toNat]? = some d) : L2.atI ds i = some d := by
  have hl := (List.getElem?_eq_some_iff.mp h).1
  have : ixN ds.length i = some i.toNat := by
    unfold ixN
    rw [if_pos h0, if_pos (by omega)]
  unfold L2.atI
  rw [this]
  exact h
theorem atI_map {α β : Type} (f : α → β) (ns : List α) (i : Int) : L2.atI (ns.map f) i = (L2.atI ns i).map f := by
  unfold L2.atI
  rw [List.length_map]
  cases ixN ns.length i with
  | none => rfl
  | some j => simp
theorem atI_in {α : Type} {ns : List α} {i : Int} (h0 : 0 ≤ i) (h : i < ns.length) : ∃ z, z ∈ ns ∧ L2.atI ns i = some z := by
  have hl : i.toNat < ns.length := by omega
  exact ⟨ns[i.toNat], List.getElem_mem hl, atI_get h0 (by simp [List.getElem?_eq_getElem hl])⟩
theorem atI_ints {ns : List Int} {i : Int} (h0 : 0 ≤ i) (h : i < ns.length) : ∃ z, z ∈ ns ∧ L2.atI (ns.map D.int) i = some (.int z) := by
  obtain ⟨z, h1, h2⟩ := atI_in h0 h
  exact ⟨z, h1, by rw [atI_map, h2]; rfl⟩
theorem atI_nat {α : Type} {ds : List α} {i : Nat} {d : α} (h : ds[i]? = some d) : L2.atI ds (0 + (i : Int)) = some d := atI_get (by omega) (by rw [show ((0 : Int) + (i : Int)).toNat = i by omega]; exact h)
mutual
/-- plain data that the law's like goes through, n levels deep -/
def D.dp : D → Nat → Prop
  | .non, _ => True
  | .bl _, _ => True
  | .int _, _ => True
  | .str _, _ => True
  | .tup xs, n + 1 => xs.length ≤ 1000000 ∧ D.dps xs n
  | .lst xs, n + 1 => xs.length ≤ 1000000 ∧ D.dps xs n
  | _, _ => False
def D.dps : List D → Nat → Prop
  | [], _ => True
  | d :: r, n => D.dp d n ∧ D.dps r n
end
theorem D.dps_mem {n : Nat} {ds : List D} : D.dps ds n ↔ ∀ d ∈ ds, D.dp d n := by
  induction ds with
  | nil => simp [D.dps]
  | cons d r ih => simp [D.dps, ih]
mutual
theorem D.dp.lt : ∀ {d : D} {n m : Nat}, D.dp d n → D.lt m d
  | .non, _, _, _ => trivial
  | .bl _, _, _, _ => trivial
  | .int _, _, _, _ => trivial
  | .str _, _, _, _ => trivial
  | .tup xs, n + 1, _, h => D.dps.lt (ds := xs) (n := n) h.2
  | .lst xs, n + 1, _, h => D.dps.lt (ds := xs) (n := n) h.2
theorem D.dps.lt : ∀ {ds : List D} {n m : Nat}, D.dps ds n → D.lts m ds
  | [], _, _, _ => trivial
  | d :: r, _, _, h => ⟨D.dp.lt h.1, D.dps.lt h.2⟩
end
theorem fn_no {P : Program} {w : World} {K : PySem.W.Frag} {mg : Str → Option Value} {base : Heap} {k : Nat} {f : Addr} {fd : FuncData} {ps : List Str} {sp : SpD} (h : ∀ ds S Q E, ¬ sp ds S Q E) : FnOk P w K mg base (L2.CX P w) k f fd ps (upF K sp) :=
  ⟨fun vs H Q E ⟨_, _, _, _, _, _, _, _, _, z, _⟩ => (h _ _ _ _ z).elim, fun A outer s H args us vs Q E _ _ _ _ ⟨_, _, _, _, _, _, _, _, _, z, _⟩ => (h _ _ _ _ z).elim⟩
/-- a comprehension without a test, whose items are told one by one -/
theorem lc_map {t : Tgt} {qe : QE} {vs : List Nat} {s : Sl} {Q : List D → Prop} {xs : List D} {keep : List O → Prop} {S1 : List O} (g : D → D) (hl : xs.length < sizeLine) (hk : ∀ acc, keep (S1 ++ [.lst acc]))
    (st : ∀ (i : Nat) (x : D) (acc : List D), xs[i]? = some x → ∃ s2, stT t x (wipeD s vs) = some s2 ∧ D.lt S1.length (g x) ∧ ∀ R : D → List O → Prop, R (g x) (S1 ++ [.lst acc]) → qe s2 (S1 ++ [.lst acc]) R) (q : Q (xs.map g)) : lcV t qYes qe vs s Q xs keep S1 := by
  refine ⟨fun i acc => acc = (xs.take i).map g, rfl, hk, hl, ?_, fun acc h _ => by rw [h, List.take_length]; exact q⟩
  rintro i x acc hi _ rfl
  obtain ⟨s2, h1, h2, h3⟩ := st i x ((xs.take i).map g) hi
  refine ⟨s2, h1, rfl, h3 _ ⟨rfl, h2, ?_⟩⟩
  rw [List.take_add_one, hi]
  simp
/-- with a test -/
theorem lc_filter {t : Tgt} {qt : QT} {qe : QE} {vs : List Nat} {s : Sl} {Q : List D → Prop} {xs : List D} {keep : List O → Prop} {S1 : List O} (f : D → Bool) (g : D → D) (hl : xs.length < sizeLine) (hk : ∀ acc, keep (S1 ++ [.lst acc]))
    (st : ∀ (i : Nat) (x : D) (acc : List D), xs[i]? = some x → ∃ s2, stT t x (wipeD s vs) = some s2 ∧ D.lt S1.length (g x) ∧ (∀ R : Bool → List O → Prop, R (f x) (S1 ++ [.lst acc]) → qt s2 (S1 ++ [.lst acc]) R) ∧ (f x = true → ∀ R : D → List O → Prop, R (g x) (S1 ++ [.lst acc]) → qe s2 (S1 ++ [.lst acc]) R))
    (q : Q ((xs.filter f).map g)) : lcV t qt qe vs s Q xs keep S1 := by
  refine ⟨fun i acc => acc = ((xs.take i).filter f).map g, rfl, hk, hl, ?_, fun acc h _ => by rw [h, List.take_length]; exact q⟩
  rintro i x acc hi _ rfl
  obtain ⟨s2, h1, h2, h3, h4⟩ := st i x (((xs.take i).filter f).map g) hi
  have tk : xs.take (i + 1) = xs.take i ++ [x] := by rw [List.take_add_one, hi]; rfl
  refine ⟨s2, h1, h3 _ ⟨rfl, lif (fun hf => h4 hf _ ⟨rfl, h2, ?_⟩) (fun hf => ?_)⟩⟩
  · rw [tk, List.filter_append, List.map_append]; simp [hf]
  · rw [tk, List.filter_append, List.map_append]; simp [hf]
/-- a comprehension by what holds of its list so far -/
theorem lc_inv {t : Tgt} {qe : QE} {vs : List Nat} {s : Sl} {Q : List D → Prop} {xs : List D} {keep : List O → Prop} {S1 : List O} (P : Nat → List D → Prop) (h0 : P 0 []) (hl : xs.length < sizeLine) (hk : ∀ acc, keep (S1 ++ [.lst acc]))
    (st : ∀ (i : Nat) (x : D) (acc : List D), xs[i]? = some x → P i acc → ∃ s2, stT t x (wipeD s vs) = some s2 ∧ qe s2 (S1 ++ [.lst acc]) fun y S4 => S4 = S1 ++ [.lst acc] ∧ D.lt S1.length y ∧ P (i + 1) (acc ++ [y])) (q : ∀ acc, P xs.length acc → Q acc) : lcV t qYes qe vs s Q xs keep S1 := by
  refine ⟨P, h0, hk, hl, ?_, fun acc h _ => q acc h⟩
  rintro i x acc hi _ hP
  obtain ⟨s2, h1, h2⟩ := st i x acc hi hP
  exact ⟨s2, h1, rfl, h2⟩
/-- the items of ints -/
theorem int_at {ns : List Int} {i : Nat} {x : D} (h : (ns.map D.int)[i]? = some x) : ∃ z, ns[i]? = some z ∧ x = .int z := by
  rw [List.getElem?_map] at h
  obtain ⟨z, hz, e⟩ := Option.map_eq_some_iff.mp h
  exact ⟨z, hz, e.symm⟩
end LC

set_option Elab.async false
set_option linter.all false
set_option maxRecDepth 100000
set_option maxHeartbeats 5000000
/-! LD15: signs of shades. -/
namespace LC
open PySem PySem.Spec
open PyProof.Rows L2
def goodN (ns : List Int) : Prop := ∀ z ∈ ns, 0 ≤ z ∧ z ≤ 6
instance goodN_dec (ns : List Int) : Decidable (goodN ns) := inferInstanceAs (Decidable (∀ z ∈ ns, 0 ≤ z ∧ z ≤ 6))
end LC

set_option Elab.async false
set_option linter.all false
set_option maxRecDepth 100000
set_option maxHeartbeats 5000000
/-! LD16: dicts by plain keys; sorted; pop by place; index. -/
namespace LC
open PySem PySem.Spec
open PyProof.Rows L2
section
variable {κ : Type} [DecidableEq κ]
def valD (l : List (κ × D)) (k : κ) : Option D := (l.find? fun p => decide (p.1 = k)).map (·.2)
def putE (l : List (κ × D)) (k : κ) (d : D) : List (κ × D) := if (l.any fun p => decide (p.1 = k)) = true then l.map (fun p => if p.1 = k then (p.1, d) else p) else l ++ [(k, d)]
def mergeD (l more : List (κ × D)) : List (κ × D) := more.foldl (fun a p => putE a p.1 p.2) l
variable {K : PySem.W.Frag} {φ : Ph} {H : Hp}
theorem RKV.any : ∀ {l : List (κ × D)} {g : List (κ × V)} (k : κ), RKV K φ H l g → (g.any fun p => decide (p.1 = k)) = l.any fun p => decide (p.1 = k)
  | [], _, _, h => by cases h; rfl
  | _ :: _, _, k, ⟨v, r, e, _, h2⟩ => by subst e; simp only [List.any_cons]; rw [RKV.any k h2]
theorem RKV.val : ∀ {l : List (κ × D)} {g : List (κ × V)} (k : κ), RKV K φ H l g → (match valD l k with | some d => ∃ v, valV g k = some v ∧ RV K φ H d v | none => valV g k = none)
  | [], _, _, h => by cases h; rfl
  | p :: l, _, k, ⟨v, r, e, h1, h2⟩ => by
    subst e
    have ih := RKV.val k h2
    unfold valD valV at ih ⊢
    by_cases hk : p.1 = k
    · simp [List.find?_cons, hk]; exact h1
    · simp only [List.find?_cons, decide_eq_false hk]; exact ih
theorem RKV.app {α : Type} : ∀ {l m : List (α × D)} {g h : List (α × V)}, RKV K φ H l g → RKV K φ H m h → RKV K φ H (l ++ m) (g ++ h)
  | [], _, _, _, a, b => by cases a; exact b
  | _ :: _, _, _, _, ⟨v, r, e, h1, h2⟩, b => by subst e; exact ⟨v, _, rfl, h1, RKV.app h2 b⟩
theorem RKV.dput {l : List (κ × D)} {g : List (κ × V)} {d : D} {v : V} (k : κ) (h : RKV K φ H l g) (r : RV K φ H d v) : RKV K φ H (putE l k d) (putK g k v) := by
  unfold putE putK
  rw [RKV.any k h]
  split
  · have : ∀ {l : List (κ × D)} {g : List (κ × V)}, RKV K φ H l g → RKV K φ H (l.map fun p => if p.1 = k then (p.1, d) else p) (g.map fun p => if p.1 = k then (p.1, v) else p) := by
      intro l
      induction l with
      | nil => intro g h; cases h; rfl
      | cons p l ih =>
        rintro g ⟨u, t, e, h1, h2⟩
        subst e
        simp only [List.map_cons]
        by_cases hk : p.1 = k
        · simp only [if_pos hk]; exact ⟨v, _, rfl, r, ih h2⟩
        · simp only [if_neg hk]; exact ⟨u, _, rfl, h1, ih h2⟩
    exact this h
  · exact h.app ⟨v, [], rfl, r, rfl⟩
end
theorem RKV.merge {K : PySem.W.Frag} {φ : Ph} {H : Hp} : ∀ {m : List (Key × D)} {h : List (Key × V)} {l : List (Key × D)} {g : List (Key × V)}, RKV K φ H m h → RKV K φ H l g → RKV K φ H (mergeD l m) (mergeK g h)
  | [], _, _, _, a, b => by cases a; exact b
  | p :: m, _, l, g, ⟨v, r, e, h1, h2⟩, b => by subst e; exact (RKV.merge (m := m) (h := r) (l := putE l p.1 p.2) (g := putK g p.1 v) h2 (RKV.dput p.1 b h1) : _)
/-- a thing as a key -/
def keyD : D → Option Key
  | .int i => some (.inl i)
  | .str x => some (.inr x)
  | _ => none
theorem keyD_ok {K : PySem.W.Frag} {φ : Ph} {H : Hp} {d : D} {k : Key} {v : V} (h : keyD d = some k) (r : RV K φ H d v) : v = kV k := by
  cases d with
  | int i => cases h; cases r; rfl
  | str i => cases h; cases r; rfl
  | _ => cases h
/-- a dict by plain keys -/
def dkOf (S : List O) (d : D) : Option (List (Key × D)) := match d with
  | .dK ks xs => some (ks.zip xs)
  | .ref k => match S[k]? with
    | some (.dK l) => some l
    | _ => none
  | _ => none
section
variable {X : Cx} {B : Bs} {φ : Ph} {H : Hp} {S : List O}
theorem HR.dk {d : D} {v : V} {l : List (Key × D)} (hr : HR X.K B φ H S) (h : dkOf S d = some l) (r : RV X.K φ H d v) : ∃ a g, v = .ref a ∧ H a = some (.dK g) ∧ RKV X.K φ H l g := by
  cases d with
  | dK ks xs => cases h; obtain ⟨p, vs, rfl, _, h1, h2, h3⟩ := r; exact ⟨p, _, rfl, h1, h3.zip h2⟩
  | ref k =>
    obtain ⟨a, ea, rfl⟩ := r
    simp only [dkOf] at h
    split at h
    · rename_i l' e
      cases h
      obtain ⟨b, eb, g, h1, h2⟩ := hr.rel.ob k _ e
      rw [ea] at eb; cases eb
      exact ⟨a, g, rfl, h1, h2⟩
    · cases h
  | _ => cases h
end
section
variable {X : Cx} {B : Bs} {o e f : Expr} {qo qe qf : QE} {pos apos cpos : Pos}
/-- d.get(k, x) -/
def qDGet2 (qo qe qf : QE) : QE := fun s S Q => qo s S fun d S1 => Need ((dkOf S1 d).isSome = true) (qe s S1 fun y S2 => qf s S2 fun z S3 => Opt (keyD y) fun k => Opt (dkOf S3 d) fun l => Q ((valD l k).getD z) S3)
theorem le_dget2 (hu : X.A.units + 1 < cLine) (ho : LE X B o qo) (he : LE X B e qe) (hf : LE X B f qf)
    (mm : M2 X o "get" apos e f cpos := by exact ⟨rfl, rfl, rfl, rfl⟩) : LE X B (.Call (.Attribute o "get" apos) [e, f] [] cpos) (qDGet2 qo qe qf) := PE.imp (pe_dget2 hu ho he hf mm) fun σ H Q ⟨φ, s, S, Q', hr, ev, q, k⟩ =>
  ⟨φ, s, S, _, hr, ev, q, fun φ1 d S1 v H1 e1 hr1 r1 q1 => by
    obtain ⟨l0, h0⟩ := Option.isSome_iff_exists.mp q1.c
    obtain ⟨a, g, rfl, h1, _⟩ := hr1.dk h0 r1
    refine ⟨a, rfl, .inl ⟨g, .inl h1⟩, φ1, s, S1, _, hr1, ev.mono e1, q1.q, fun φ2 y S2 w H2 e2 hr2 r2 q2 => ⟨φ2, s, S2, _, hr2, ev.mono (e1.trans e2), q2, fun φ3 z S3 u H3 e3 hr3 r3 q3 => ?_⟩⟩
    obtain ⟨kk, h4, q4⟩ := q3.get
    obtain ⟨l, h5, q5⟩ := q4.get
    obtain ⟨a', g', e6, h6, h7⟩ := hr3.dk h5 (r1.mono (e2.trans e3))
    cases e6
    refine ⟨_, .inl ⟨g', kk, .inl h6, keyD_ok h4 (r2.mono e3), rfl⟩, ?_⟩
    have hv := RKV.val kk h7
    split at hv
    · rename_i d0 hd
      obtain ⟨v0, h8, h9⟩ := hv
      rw [h8]
      rw [hd] at q5
      exact (k.ext (e1.trans (e2.trans e3))).here hr3 h9 q5
    · rename_i hd
      rw [hv]
      rw [hd] at q5
      exact (k.ext (e1.trans (e2.trans e3))).here hr3 r3 q5⟩
/-- where a number stands in a list of numbers -/
def rmIndex : QM := fun d ds S Q => match ds with
  | [.int i] => Opt (lsOf S d) fun xs => Opt (asIs xs) fun ns => Opt (ns.idxOf? i) fun j => Q (.int (j : Nat)) S
  | _ => False
theorem eqV_int (i j : Int) : eqV (.int i) (.int j) = decide (i = j) := by
  first | rfl | (unfold eqV; simp [beq_eq_decide]) | simp [eqV]
theorem mm_index : MtR X "list.index" (upM X.K B rmIndex) := MtR.imp mt_index fun x xs H Q ⟨φ, S, d, ds, Q', hr, r, rs, q, k⟩ => by
  unfold rmIndex at q
  split at q
  · rename_i i
    obtain ⟨v, w', rfl, r1, r2⟩ := rs
    cases r2
    cases r1
    obtain ⟨xs, h1, q⟩ := q.get
    obtain ⟨ns, h2, q⟩ := q.get
    obtain ⟨j, h5, q⟩ := q.get
    obtain ⟨a, vs, rfl, h3, h4⟩ := hr.ls h1 r
    rw [asIs_ok h2 h4] at h3
    obtain ⟨hj, e1, e2⟩ := List.findIdx?_eq_some_iff_getElem.mp h5
    have gi : ∀ (m : Nat) (z : V), (ns.map V.int)[m]? = some z → ∃ (hm : m < ns.length), z = .int ns[m] := fun m z hz => by
      rw [List.getElem?_map] at hz
      obtain ⟨n, hn, rfl⟩ := Option.map_eq_some_iff.mp hz
      obtain ⟨hm, rfl⟩ := List.getElem?_eq_some_iff.mp hn
      exact ⟨hm, rfl⟩
    refine ⟨a, ns.map V.int, .int i, j, .int ns[j], rfl, rfl, .inl (.inl h3), rfl, ?_, by simp [hj], ?_, fun m z hm hz => ?_, k.here (d := D.int _) hr rfl q⟩
    · rw [List.all_map]; exact List.all_eq_true.mpr fun _ _ => rfl
    · rw [eqV_int]; exact decide_eq_true (by simpa using e1)
    · obtain ⟨hml, rfl⟩ := gi m z hz
      rw [eqV_int]
      exact decide_eq_false (by simpa using e2 m hm)
  · exact q.elim
end
end LC

set_option Elab.async false
set_option linter.all false
set_option maxRecDepth 100000
set_option maxHeartbeats 5000000
/-! LD17: defs that hand back a new list that is changed later. -/
namespace LC
open PySem PySem.Spec
open PyProof.Rows L2
section
variable {K : PySem.W.Frag} {φ φ' : Ph} {H H' : Hp} {S : List O} {a b : Addr}
end
section
variable {P : Program} {w : World} {K : PySem.W.Frag} {mg : Str → Option Value} {base : Heap}
end
end LC

set_option Elab.async false
set_option linter.all false
set_option maxRecDepth 100000
set_option maxHeartbeats 5000000
/-! LD18: sorted; displays of dicts. -/
namespace LC
open PySem PySem.Spec PySem.Calls
open PyProof.Rows L2
section
variable {prog : Program} {w : World} {A : Around} {E : Value → Shared → Prop} {s : Shared} {T : String} {r d : Addr} {n : Nat} {P : Nat → Value → Prop} {OK : Heap → Prop}
end
section
variable {X : Cx} {B : Bs}
/-! ### displays -/
abbrev QPs := Sl → List O → (List (D × D) → List O → Prop) → Prop
abbrev rDD (K : PySem.W.Frag) : Ph → Hp → List (D × D) → List (V × V) → Prop := fun φ H ds vs => RVs K φ H (ds.map (·.1)) (vs.map (·.1)) ∧ RVs K φ H (ds.map (·.2)) (vs.map (·.2))
theorem rDD_nil {K : PySem.W.Frag} {φ : Ph} {H : Hp} : rDD K φ H [] [] := ⟨rfl, rfl⟩
theorem rDD_cons {K : PySem.W.Frag} {φ : Ph} {H : Hp} {d e : D} {v u : V} {ps : List (D × D)} {ws : List (V × V)} (r1 : RV K φ H d v) (r2 : RV K φ H e u) (r : rDD K φ H ps ws) : rDD K φ H ((d, e) :: ps) ((v, u) :: ws) := ⟨⟨_, _, rfl, r1, r.1⟩, ⟨_, _, rfl, r2, r.2⟩⟩
structure LPs (X : Cx) (B : Bs) (pos : Pos) (ks : List (Option Expr)) (vs : List Expr) (q : QPs) : Prop where
  ex : ∃ trs, PPs X pos ks vs trs ∧ ∀ σ H Q, UP X.K B (rDD X.K) q σ H Q → tPairs trs σ H Q
def qPNil : QPs := fun _ S Q => Q [] S
def qPCons (qk qv : QE) (r : QPs) : QPs := fun s S Q => qk s S fun k S1 => qv s S1 fun v S2 => r s S2 fun ps S3 => Q ((k, v) :: ps) S3
theorem lps_nil {pos : Pos} : LPs X B pos [] [] qPNil := ⟨[], pps_nil, fun σ H Q ⟨φ, s, S, Q', hr, ev, q, k⟩ => k.here (d := []) hr rDD_nil q⟩
theorem lps_cons {pos : Pos} {k v : Expr} {ks : List (Option Expr)} {vs : List Expr} {qk qv : QE} {r : QPs} (hk : LE X B k qk) (hv : LE X B v qv) (hr : LPs X B pos ks vs r) : LPs X B pos (some k :: ks) (v :: vs) (qPCons qk qv r) :=
  let ⟨trs, h1, h2⟩ := hr.ex
  ⟨_, pps_cons hk hv h1, fun σ H Q ⟨φ, s, S, Q', hr, ev, q, k⟩ => ⟨φ, s, S, _, hr, ev, q, fun φ1 d S1 v1 H1 e1 hr1 r1 q1 => ⟨φ1, s, S1, _, hr1, ev.mono e1, q1, fun φ2 d2 S2 v2 H2 e2 hr2 r2 q2 => h2 _ _ _ ⟨φ2, s, S2, _, hr2, ev.mono (e1.trans e2), q2, fun φ3 ps S3 ws H3 e3 hr3 r3 q3 =>
    k _ _ _ _ _ (e1.trans (e2.trans e3)) hr3 (rDD_cons (r1.mono (e2.trans e3)) (r2.mono e3) r3) q3⟩⟩⟩⟩
def keysD : List D → Option (List Key)
  | [] => some []
  | d :: r => match keyD d, keysD r with
    | some k, some ks => some (k :: ks)
    | _, _ => none
theorem keysD_ok {K : PySem.W.Frag} {φ : Ph} {H : Hp} : ∀ {ps : List (D × D)} {ws : List (V × V)} {ks : List Key}, keysD (ps.map (·.1)) = some ks → rDD K φ H ps ws → ∃ g : List (Key × V), ws = g.map (fun p => (kV p.1, p.2)) ∧ RKV K φ H (ks.zip (ps.map (·.2))) g ∧ g.length = ps.length
  | [], ws, ks, h, ⟨r1, r2⟩ => by
    cases h
    have : ws = [] := List.map_eq_nil_iff.mp r1
    subst this
    exact ⟨[], rfl, rfl, rfl⟩
  | (d, e) :: ps, ws, ks, h, ⟨⟨v1, t1, e1, a1, a2⟩, ⟨v2, t2, e2, b1, b2⟩⟩ => by
    cases ws with
    | nil => cases e1
    | cons w ws =>
      obtain ⟨x, y⟩ := w
      simp only [List.map_cons, List.cons.injEq] at e1 e2
      obtain ⟨rfl, rfl⟩ := e1
      obtain ⟨rfl, rfl⟩ := e2
      simp only [List.map_cons, keysD] at h
      split at h
      · rename_i k ks' h1 h2
        cases h
        obtain ⟨g, rfl, h3, h4⟩ := keysD_ok h2 ⟨a2, b2⟩
        refine ⟨(k, y) :: g, ?_, ⟨y, g, rfl, b1, h3⟩, by simp [h4]⟩
        rw [keyD_ok h1 a1]; rfl
      · cases h
/-- {k: v, ..} -/
def afterDisp (S : List O) (Q : D → List O → Prop) : List (D × D) → List O → Prop := fun ps S2 => Need (S2[S.length]? = some (.dK []) ∧ ps.length ≤ 15) (Opt (keysD (ps.map (·.1))) fun ks => Q (.ref S.length) (S2.set S.length (.dK (mergeD [] (ks.zip (ps.map (·.2)))))))
def qDisp (q : QPs) : QE := fun s S Q => q s (S ++ [.dK []]) (afterDisp S Q)
theorem le_disp {pos : Pos} {ks : List (Option Expr)} {vs : List Expr} {q : QPs} (h : LPs X B pos ks vs q) (hall : ks.all (·.isSome) = true := by rfl) (hl : ks.length = vs.length := by rfl) (h0 : ks ≠ [] := by simp) (h15 : ks.length ≤ 15 := by decide) : LE X B (.Dict ks vs pos) (qDisp q) := by
  obtain ⟨trs, h1, h2⟩ := h.ex
  refine PE.imp (pe_disp h1 hall hl h0 h15) fun σ H Q ⟨φ, s, S, Q', hr, ev, qq, k⟩ p hp => h2 _ _ _ ⟨φ.add p, s, S ++ [O.dK []], afterDisp S Q', hr.new (x := .dK []) hp ⟨[], upd_same, rfl⟩, ev.mono (ext_add hp), qq, fun φ1 ps S1 ws H1 e1 hr1 r1 q1 => ?_⟩
  obtain ⟨⟨g1, g2⟩, q2⟩ := q1
  obtain ⟨kl, g3, q3⟩ := q2.get
  obtain ⟨g, e2, g4, g5⟩ := keysD_ok g3 r1
  have hl : (φ.add p).own[S.length]? = some p := hr.rel.last p
  have o1 := e1.get hl
  obtain ⟨a, o2, l, k1, k2⟩ := hr1.rel.ob _ _ g1
  rw [o1] at o2; cases o2
  cases k2
  obtain ⟨e3, hr3⟩ := hr1.write (o := .dK (mergeK [] g)) (x := O.dK []) (y := O.dK (mergeD [] (kl.zip (ps.map (·.2))))) g1 rfl o1 fun e => ⟨_, upd_same, RKV.merge (g4.mono e) (show RKV X.K _ _ [] [] from rfl)⟩
  refine ⟨k1, g, e2, by rw [g5]; exact g2, k _ _ _ _ _ ((ext_add hp).trans (e1.trans e3)) hr3 (show RV X.K _ _ (.ref S.length) _ from ⟨p, o1, rfl⟩) q3⟩
end
end LC

set_option Elab.async false
set_option linter.all false
set_option maxRecDepth 100000
set_option maxHeartbeats 5000000
/-! LD19: findings as data. -/
namespace LC
open PySem PySem.Spec
open PyProof.Rows L2
theorem u1 {n m : Nat} (h : n + 64 < m) : n + 1 < m := by omega
inductive Fc where
  | scrape (p c : Int) (sh : List Int)
  | cover (p l d : Int)
  | moved (p c l d : Int)
  | year (p c f l : Int)
  | sold (s y : Int)
  | ahead (p c o d : Int)
  | same (p c o d : Int)
  | apart (p c o d : Int)
def Fc.d : Fc → D
  | .scrape p c sh => .tup [.str "scrape", .int p, .int c, .tup (sh.map D.int)]
  | .cover p l d => .tup [.str "cover", .int p, .int l, .int d]
  | .moved p c l d => .tup [.str "moved", .int p, .int c, .int l, .int d]
  | .year p c f l => .tup [.str "year", .int p, .int c, .int f, .int l]
  | .sold s y => .tup [.str "sold", .int s, .int y]
  | .ahead p c o d => .tup [.str "ahead", .int p, .int c, .int o, .int d]
  | .same p c o d => .tup [.str "same", .int p, .int c, .int o, .int d]
  | .apart p c o d => .tup [.str "apart", .int p, .int c, .int o, .int d]
/-- as a law draws them: of these parts, of so many coats at most -/
def Fc.good (ps : List Int) (m : Int) : Fc → Prop
  | .scrape p c sh => p ∈ ps ∧ 0 ≤ c ∧ 1 ≤ sh.length ∧ c + sh.length ≤ m ∧ goodN sh
  | .cover p l d => p ∈ ps ∧ l ∈ ps ∧ p ≠ l ∧ 0 ≤ d ∧ d ≤ m
  | .moved p c l d => p ∈ ps ∧ 1 ≤ c ∧ c ≤ m ∧ l ∈ ps ∧ p ≠ l ∧ 0 ≤ d ∧ d ≤ m
  | .year p c f l => p ∈ ps ∧ 0 ≤ c ∧ c < m ∧ 0 ≤ f ∧ f ≤ l ∧ l ≤ 999
  | .sold s y => 1 ≤ s ∧ s ≤ 6 ∧ 0 ≤ y ∧ y ≤ 999
  | .ahead p c o d => p ∈ ps ∧ 0 ≤ c ∧ c < m ∧ o ∈ ps ∧ 0 ≤ d ∧ d < m ∧ ¬ (p = o ∧ c = d)
  | .same p c o d => p ∈ ps ∧ 0 ≤ c ∧ c < m ∧ o ∈ ps ∧ 0 ≤ d ∧ d < m ∧ p ≠ o
  | .apart p c o d => p ∈ ps ∧ 0 ≤ c ∧ c < m ∧ o ∈ ps ∧ 0 ≤ d ∧ d < m ∧ p ≠ o
theorem Fc.lt {f : Fc} {n : Nat} : D.lt n f.d := by
  cases f with
  | scrape p c sh => exact ⟨trivial, trivial, trivial, D.lts_ints sh, trivial⟩
  | sold s y => exact ⟨trivial, trivial, trivial, trivial⟩
  | cover p l d => exact ⟨trivial, trivial, trivial, trivial, trivial⟩
  | _ => exact ⟨trivial, trivial, trivial, trivial, trivial, trivial⟩
theorem map_at {α : Type} {g : α → D} {l : List α} {i : Nat} {x : D} (h : (l.map g)[i]? = some x) : ∃ p, l[i]? = some p ∧ x = g p := by
  rw [List.getElem?_map] at h
  obtain ⟨p, hp, e⟩ := Option.map_eq_some_iff.mp h
  exact ⟨p, hp, e.symm⟩
theorem idx_mem {ps : List Int} {p : Int} (h : p ∈ ps) : ∃ (j : Nat) (hj : j < ps.length), ps.idxOf? p = some j ∧ ps[j] = p := by
  cases e : ps.idxOf? p with
  | none =>
    have := List.findIdx?_eq_none_iff.mp e p h
    simp at this
  | some j =>
    obtain ⟨hj, e1, _⟩ := List.findIdx?_eq_some_iff_getElem.mp e
    exact ⟨j, hj, rfl, by simpa using e1⟩
theorem next_part {ps : List Int} {p : Int} (hn : ps.Nodup) (h2 : 2 ≤ ps.length) (h : p ∈ ps) : ∃ j : Nat, j < ps.length ∧ ps.idxOf? p = some j ∧ ∃ o : Int, o ∈ ps ∧ o ≠ p ∧ L2.atI (ps.map D.int) (((j : Int) + 1) % (ps.length : Int)) = some (.int o) := by
  obtain ⟨j, hj, e1, e2⟩ := idx_mem h
  have hp : (0 : Int) < ps.length := by omega
  have m0 := Int.emod_nonneg ((j : Int) + 1) (Int.ne_of_gt hp)
  have m1 := Int.emod_lt_of_pos ((j : Int) + 1) hp
  have hk : (((j : Int) + 1) % (ps.length : Int)).toNat < ps.length := by omega
  refine ⟨j, hj, e1, ps[(((j : Int) + 1) % (ps.length : Int)).toNat], List.getElem_mem hk, fun z => ?_, atI_get m0 (by rw [List.getElem?_map, List.getElem?_eq_getElem hk]; rfl)⟩
  have q := (List.getElem_inj hn).mp (z.trans e2.symm)
  have q2 : ((j : Int) + 1) % (ps.length : Int) = j := by omega
  by_cases hl : (j : Int) + 1 < ps.length
  · rw [Int.emod_eq_of_lt (by omega) hl] at q2; omega
  · have : (j : Int) + 1 = ps.length := by omega
    rw [this, Int.emod_self] at q2; omega
theorem atI_two {b x y lo hi : Int} (h0 : 0 ≤ b) (h1 : b < 2) (hx : lo ≤ x ∧ x ≤ hi) (hy : lo ≤ y ∧ y ≤ hi) : ∃ k : Int, (lo ≤ k ∧ k ≤ hi) ∧ L2.atI [D.int x, D.int y] b = some (.int k) := by
  have : b = 0 ∨ b = 1 := by omega
  rcases this with rfl | rfl
  · exact ⟨x, hx, rfl⟩
  · exact ⟨y, hy, rfl⟩
theorem eqd_pair (p c o d : Int) : D.eqd (.tup [.int p, .int c]) (.tup [.int o, .int d]) = decide (p = o ∧ c = d) := by
  rw [Bool.eq_iff_iff]; simp [D.eqd, D.eqds]
theorem cutD_take {xs : List D} {k : Nat} : cutD xs none (some (k : Int)) = xs.take k := by
  unfold cutD
  rw [HT.sIx_nat]
  show (xs.drop 0).take (min k xs.length - 0) = _
  rw [List.drop_zero, Nat.sub_zero, List.take_eq_take_iff]
  omega
end LC

set_option Elab.async false
set_option linter.all false
set_option maxRecDepth 100000
set_option maxHeartbeats 5000000
/-! LD20: lists that may change later are lent to a def that changes nothing. -/
namespace LC
open PySem PySem.Spec
open PyProof.Rows L2
section
variable {K : PySem.W.Frag} {φ1 φ2 : Ph} {H : Hp}
end
theorem Fc.pl {f : Fc} {n : Nat} : D.pl f.d (n + 2) := by
  cases f with
  | scrape p c sh => exact ⟨by show PyData.strOk _ = true; decide +kernel, trivial, trivial, D.pls_ints sh, trivial⟩
  | sold s y => exact ⟨by show PyData.strOk _ = true; decide +kernel, trivial, trivial, trivial⟩
  | cover p l d => exact ⟨by show PyData.strOk _ = true; decide +kernel, trivial, trivial, trivial, trivial⟩
  | _ => exact ⟨by show PyData.strOk _ = true; decide +kernel, trivial, trivial, trivial, trivial, trivial⟩
section
variable {K : PySem.W.Frag}
end
end LC

set_option Elab.async false
set_option linter.all false
set_option maxRecDepth 100000
set_option maxHeartbeats 5000000
/-! LD21: the objects behind the n-th in another order. -/
namespace LC
open PySem PySem.Spec
open PyProof.Rows L2
section
variable {K : PySem.W.Frag} {φ1 φ2 : Ph} {H : Hp} {π : Nat → Nat}
end
section
variable {K : PySem.W.Frag} {φ : Ph} {H : Hp} {S : List O} {n : Nat} {is : List Nat} {π : Nat → Nat}
end
end LC

set_option Elab.async false
set_option linter.all false
set_option maxRecDepth 100000
set_option maxHeartbeats 5000000
/-! LD22: the __init__ of exceptions while another one is handled. -/
namespace LC
open PySem PySem.Spec
open PyProof.Rows L2
open L2H (FnH RoomH Hot1 HotC cxH)
section
variable {P : Program} {w : World} {K : PySem.W.Frag} {mg : Str → Option Value} {base : Heap}
theorem okH {x qual : Str} {st : Stmt} {f : Addr} {fd : FuncData} {N ps : List Str} {k : Nat} {sp : Sp} (F : Fun K x qual st f fd) (Sc : FnScope N ps (defScope st)) (len : ∀ vs H Q E, sp vs H Q E → vs.length = ps.length)
    (hb : ∀ (cdv : Value) (A : Around) (outer : List Env) (s : Shared) (H : Hp) (vs : List V) (Q : VK) (E : XK) (p : Addr × Obj), Hot1 A p → RoomH k (A.deeper (envOfC qual (defScope st) s.heap.objs.size f cdv)) → sp vs H Q E →
      ∃ t, PSs (cxH (L2.CX P w) P w K mg base N qual (defScope st) f cdv A outer s H E p) (defBody st) t ∧ t { nx := fun _ H' => Q .non H', rt := Q } (L2.start N vs) H) : FnH P w K mg base (L2.CX P w) (k + 1) f fd ps sp := by
  obtain ⟨oc, od, kV, doc, pm, an, cdv, ct, osl, rfl, lk, hcd⟩ := F.ex
  exact L2H.fn_ofH lk hcd Sc len fun A outer s H vs Q E p h1 h2 h3 => hb cdv A outer s H vs Q E p h1 h2 h3
end
section
variable {X : Cx} {k : Nat} {f C : Addr} {fd : FuncData} {ps : List Str} {sp : Sp} {x m : Str} {p1 p2 pos : Pos} {e : Expr} {es : List Expr} {t : TA} {mc : Value}
theorem pe_clsmH {pl : Sem Bool} (hg : Gl X x) (hm : X.mg x = some (.ref C)) (r : ClX.CRead X.K C mc) (hcl : PySem.W.findCls X.K (.ref C) mc m = some (.val (.ref f))) (F : FnH X.prog X.w X.K X.mg X.base (L2.CX X.prog X.w) k f fd ps sp) (hk : PySem.W.keepIn X.K (.ref f) = true) (hr : RoomH k X.A) (hc : HotC X) (hb : Binds X.K fd ps [])
    (ha : PA X (e :: es) t) (hdb : (x == ("__debug__" : Str)) = false := by decide)
    (hst : starEach (e :: es) X.env = (false, eval e X.env) :: starEach es X.env := by rfl) (hpl : (backTo pos (starEach es X.env)).any (·.1) = false := by rfl)
    (ht : eval (.Call (.Attribute (.Name x p1) m p2) (e :: es) [] pos) X.env = (do
      let ov ← eval (.Name x p1) X.env
      standAt p2.atName
      let (fn, pre) ← holding [ov] (getMethod ov m pl)
      callWith pos fn pre (backTo pos (starEach (e :: es) X.env)) (backToKw pos (keywordEach [] X.env))) := by rfl) :
    PE X (.Call (.Attribute (.Name x p1) m p2) (e :: es) [] pos) (tCall sp [] (fun _ _ _ => False) t) := by
  refine ⟨fun pn s σ H Q I hh => ?_⟩
  refine PySem.W.methodCall_KW (pl := pl) (ld_glob I hg hm ?_ hdb) ht
  refine PySem.W.method_cls I.kIn r.ga (ClX.getcval_ok (v := .ref f) I r ⟨hcl, rfl⟩ fun s' I' => ?_)
  refine PySem.W.callWith_K (first := []) (h₀ := X.base) I.ok.mod.kin hk (thn (ha.run pos pn s' σ H _ I' hh) fun ws t2 ⟨vs, M2, J2, r2, q2⟩ => ⟨J2.kIn, ?_⟩) hst hpl
  have q2 : sp (vs ++ []) M2 Q (fun _ _ _ => False) := q2
  rw [List.append_nil] at q2
  exact L2H.run_fnH (us := ws) (vs := vs) (E := fun _ _ _ _ => False) F hr hc hb (fun _ _ _ _ _ _ ⟨_, _, _, _, _, _, _, _, _, _, _, _, h⟩ => h.elim) J2 r2 q2
end
section
variable {P : Program} {w : World} {K : PySem.W.Frag} {mg : Str → Option Value} {base : Heap} {q : Str} {st : Stmt} {f : Addr} {fd : FuncData} {p1 p2 p3 p4 p5 p6 p7 p8 p9 p10 p11 p12 p13 : Pos}
theorem hot_lime (F : Fun K "__init__" q st f fd) (Sc : FnScope ["self", "called"] ["self", "called"] (defScope st))
    (hb : defBody st = [.Expr (.Call (.Attribute (.Name "ValueError" p1) "__init__" p2) [.Name "self" p3, .Name "called" p4] [] p5) p6, .Assign [.Attribute (.Name "self" p7) "called" p8] (.Name "called" p9) p10])
    (l1 : (defScope st).names.lookup ("self" : Str) = some .local) (l2 : (defScope st).names.lookup ("called" : Str) = some .local) (l3 : (defScope st).names.lookup ("ValueError" : Str) = some .globalImplicit) (hm : mg "ValueError" = none)
    (hc : McOk (.Name "ValueError" p1) "__init__" [.Name "self" p3, .Name "called" p4] p2 p5) (vV : PySem.W.findCls K (.type "ValueError") (.type "type") "__init__" = some (.val (.builtin "ValueError.__init__"))) : FnH P w K mg base (L2.CX P w) 1 f fd ["self", "called"] (spX0 K) := by
  refine okH F Sc (fun vs H Q E ⟨a, C, y, h, _⟩ => by subst h; rfl) fun cdv A outer s H vs Q E p hot hr ⟨a, C, y, hv, T, hno, ha, k⟩ => ?_
  subst hv
  rw [hb]
  obtain ⟨pl, hc⟩ := hc
  refine ⟨_, pss_cons (ps_expr (pe_veinit l3 hm vV (pa_cons (pe_var (i := 0) rfl (.inl l1) (by decide) (by decide)) (pa_cons (pe_var (i := 1) rfl (.inl l2) (by decide) (by decide)) pa_nil)) (hc _)) rfl)
    (pss_one (ps_ost (pe_var (i := 0) rfl (.inl l1) (by decide) (by decide)) (pe_var (i := 1) rfl (.inl l2) (by decide) (by decide)))), ?_⟩
  refine ⟨.ref a, rfl, y, rfl, a, C, [y], rfl, (by show (1:Nat) ≤ 1000; decide), T, ha, y, rfl, .ref a, rfl, a, C, rfl, T, hno, .inl ⟨ha, fun d hd hne => ?_⟩⟩
  exact k d hd hne
end
section
variable {P : Program} {w : World} {K : PySem.W.Frag} {mg : Str → Option Value} {base : Heap} {q wd m n : Str} {st : Stmt} {f fB C B : Addr} {mc : Value} {fd fdB : FuncData} {j : Nat} {p1 p2 p3 p4 p5 p6 p7 p8 p9 p10 p11 p12 p13 p14 : Pos}
theorem hot_body1 (Sc : FnScope ["self", m] ["self", m] (defScope st)) (hb : defBody st = [sup wd j p1 p2 p3 p4 p5 p6, .Assign [.Attribute (.Name "self" p7) m p8] (.Name m p9) p10]) (hc : McOk (.Name "LimeError" p1) "__init__" [.Name "self" p3, .Constant (.str wd) j p4] p2 p5)
    (l1 : (defScope st).names.lookup ("self" : Str) = some .local) (l2 : (defScope st).names.lookup m = some .local) (l3 : (defScope st).names.lookup ("LimeError" : Str) = some .globalImplicit) (G : XcOk K mg B fB fdB mc) (FB : FnH P w K mg base (L2.CX P w) 1 fB fdB ["self", "called"] (spX0 K))
    (T : OexC K C) (nc : PySem.W.findIn K (.ref C) "called" = some none) (nm : PySem.W.findIn K (.ref C) m = some none) (dm : (m == ("__debug__" : Str)) = false) (cm : (m == ("__classdict__" : Str)) = false)
    (cdv : Value) (A : Around) (outer : List Env) (s : Shared) (H : Hp) (vs : List V) (Q : VK) (E : XK) (p : Addr × Obj) (hot : Hot1 A p) (hr : RoomH 1 (A.deeper (envOfC q (defScope st) s.heap.objs.size f cdv))) (h : spX C 1 (fun us => us.map (fun x => (m, x)) ++ [(("called" : Str), V.str wd)]) vs H Q E) :
    ∃ t, PSs (cxH (L2.CX P w) P w K mg base ["self", m] q (defScope st) f cdv A outer s H E p) (defBody st) t ∧ t { nx := fun _ H' => Q .non H', rt := Q } (L2.start ["self", m] vs) H := by
  obtain ⟨a, us, hv, hl, ha, k⟩ := h
  subst hv
  rw [hb]
  obtain ⟨pl, hc⟩ := hc
  obtain ⟨x, rfl⟩ : ∃ x, us = [x] := List.length_eq_one_iff.mp hl
  have hotC : HotC (cxH (L2.CX P w) P w K mg base ["self", m] q (defScope st) f cdv A outer s H E p) := ⟨p, ⟨hot.1, hot.2⟩, List.mem_singleton.mpr rfl⟩
  refine ⟨_, pss_cons (ps_expr (pe_clsmH l3 G.gB G.rB G.iB FB G.kB hr hotC G.bB (pa_cons (pe_var (i := 0) rfl (.inl l1) (by decide) (by decide)) (pa_cons pe_str pa_nil)) (ht := hc _)) rfl)
    (pss_one (ps_ost (pe_var (i := 0) rfl (.inl l1) (by decide) (by decide)) (pe_var (i := 1) rfl (.inl l2) dm cm))), ?_⟩
  refine ⟨.ref a, rfl, a, C, .str wd, rfl, T, nc, ha, fun d hd hne => ?_⟩
  refine ⟨x, rfl, .ref a, rfl, a, C, rfl, T, nm, .inr ⟨d, _, upd_same, by rw [upd_ne hne, upd_same], by show (1:Nat) ≤ 900; decide, ?_⟩⟩
  refine k d _ hd hne (by rw [upd_ne (Ne.symm hne), upd_same]) upd_same fun b h1 h2 => by rw [upd_ne h2, upd_ne h1, upd_ne h2]
theorem hot_exc1 (F : Fun K "__init__" q st f fd) (Sc : FnScope ["self", m] ["self", m] (defScope st)) (hb : defBody st = [sup wd j p1 p2 p3 p4 p5 p6, .Assign [.Attribute (.Name "self" p7) m p8] (.Name m p9) p10]) (hc : McOk (.Name "LimeError" p1) "__init__" [.Name "self" p3, .Constant (.str wd) j p4] p2 p5)
    (l1 : (defScope st).names.lookup ("self" : Str) = some .local) (l2 : (defScope st).names.lookup m = some .local) (l3 : (defScope st).names.lookup ("LimeError" : Str) = some .globalImplicit) (G : XcOk K mg B fB fdB mc) (FB : FnH P w K mg base (L2.CX P w) 1 fB fdB ["self", "called"] (spX0 K))
    (T : OexC K C) (nc : PySem.W.findIn K (.ref C) "called" = some none) (nm : PySem.W.findIn K (.ref C) m = some none) (dm : (m == ("__debug__" : Str)) = false) (cm : (m == ("__classdict__" : Str)) = false) : FnH P w K mg base (L2.CX P w) 2 f fd ["self", m] (spX C 1 fun us => us.map (fun x => (m, x)) ++ [(("called" : Str), V.str wd)]) :=
  okH F Sc (fun vs H Q E ⟨a, us, h, hl, _⟩ => by subst h; simp [hl]) fun cdv A outer s H vs Q E p hot hr h => hot_body1 Sc hb hc l1 l2 l3 G FB T nc nm dm cm cdv A outer s H vs Q E p hot hr h
end
/-! ### dicts of the top -/
/-- the entries of such a dict -/
def EntL (K : PySem.W.Frag) : List DictEntry → List (Str × D) → Prop
  | [], l => l = []
  | e :: es, l => ∃ x d t r, l = (x, d) :: r ∧ e.key = .str x t ∧ (∃ v, RelV v e.val ∧ ∀ φ H, RV K φ H d v) ∧ EntL K es r
structure DctK (K : PySem.W.Frag) (Pm : Params) (a : Addr) (l : List (Str × D)) : Prop where
  ex : ∃ es n, K.lookup a = some ⟨.type "dict", none, .dict es n, #[]⟩ ∧ PySem.W.KeysLit Pm es.toList ∧ EntL K es.toList l
  low : (a == sysModules) = false
theorem EntL.find {K : PySem.W.Frag} {x : Str} : ∀ {es : List DictEntry} {l : List (Str × D)}, EntL K es l → (match l.lookup x with
    | some d => ∃ e, es.find? (·.key.isStr x) = some e ∧ ∃ v, RelV v e.val ∧ ∀ φ H, RV K φ H d v
    | none => es.find? (·.key.isStr x) = none ∧ es.any (·.refKey) = false)
  | [], _, h => by cases h; exact ⟨rfl, rfl⟩
  | e :: es, _, ⟨y, d, t, r, e1, e2, hv, h⟩ => by
    subst e1
    have ih := EntL.find (x := x) h
    have hk : e.key.isStr x = (x == y) := by rw [e2]; show (y == x) = (x == y); rw [Bool.eq_iff_iff, beq_iff_eq, beq_iff_eq]; exact eq_comm
    have hr : e.refKey = false := by unfold DictEntry.refKey; rw [e2]
    rw [List.lookup_cons, List.find?_cons, hk]
    cases hx : x == y with
    | true => exact ⟨e, rfl, hv⟩
    | false =>
      simp only
      split at ih
      · exact ih
      · exact ⟨ih.1, by rw [List.any_cons, hr, ih.2]; rfl⟩
theorem DctK.at {K : PySem.W.Frag} {w : World} {a : Addr} {l : List (Str × D)} (h : DctK K w.params a l) (x : Str) : match l.lookup x with
    | some d => ∃ v, KDct K w a x v ∧ ∀ φ H, RV K φ H d v
    | none => KMiss K w a x := by
  obtain ⟨es, n, h1, h2, h3⟩ := h.ex
  have f := EntL.find (x := x) h3
  split at f
  · obtain ⟨e, g1, v, g2, g3⟩ := f
    refine ⟨v, ⟨es, n, e.val, h1, h2, ?_, g2⟩, g3⟩
    unfold PySem.W.nsIn
    rw [h1]
    simp only [g1]
  · refine ⟨es, n, h1, h2, h.low, ?_⟩
    unfold PySem.W.nsIn
    rw [h1]
    simp only [f.1, f.2]
    rfl
end LC

set_option Elab.async false
set_option linter.all false
set_option maxRecDepth 100000
set_option maxHeartbeats 5000000
/-! LD23: x = T[e], T a dict of the top; where e is none of its keys, another exception is raised. -/
namespace LC
open PySem PySem.Spec
open PyProof.Rows L2
open L2H (FnH RoomH HotC suiteX)
/-- the value at the key; or raise C(..) -/
def qTryKey (l : List (Str × D)) (i : Nat) (qe : QE) (C : Addr) (flD : List D → List (Str × D)) (n : Nat) (W' : WD) (qa : QA) : QS := fun D s S => qe s S fun d S1 => match d with
  | .str x => match l.lookup x with
    | some v => D.nx (s.set i (some v)) S1
    | none => qa s S1 fun ds S2 => Br (lenLe 1000 ds && Nat.beq ds.length n) (W' C (flD ds) s S2) False
  | _ => False
section
variable {X : Cx} {B : Bs}
theorem ls_tryKey {l : List (Str × D)} {T : Str} {dT C fI : Addr} {i n k : Nat} {x y : Str} {fd : FuncData} {ps : List Str} {fl : List V → List (Str × V)} {flD : List D → List (Str × D)} {Wout : WX} {Wo : WD} {e a1 : Expr} {es : List Expr} {qe : QE} {qa : QA} {p1 p2 p3 p4 p5 p6 p7 p8 p9 p10 p11 : Pos} {j : Nat}
    (hT : DctK X.K X.w.params dT l) (gT : X.mg T = some (.ref dT)) (hfl : FlD X.K fl flD)
    (hs : X.stack = X.env :: X.outer) (hf : X.env.frame = some X.env.locals) (hcalm : X.calm = true) (hN : X.N.Nodup) (hi : X.N[i]? = some x) (hloc : Loc X.env.scope x) (hff : X.fn x = true ∨ X.env.scope.names.lookup x = some .local) (hc : Names X "KeyError" (.type "KeyError")) (hex : PySem.W.exmOne X.K (.type "KeyError") (.type "KeyError") = some true)
    (hpa : ∀ hd : Option Value, PassesOwnAt (model X.prog X.w) (X.A.mark hd) X.A X.env X.xe) (tk : Takes X Wout) (wl : WL X.K B Wo Wout)
    (xT : OexC X.K C) (iC : PySem.W.findIn X.K (.ref C) "__init__" = some (some (.ref fI))) (tI : PySem.W.typeIn X.K (.ref fI) = some (.type "function")) (F1 : FnH X.prog X.w X.K X.mg X.base (L2.CX X.prog X.w) k fI fd ps (spX C n fl)) (hr : Room (k + 1) X.A) (hb : Binds X.K fd ps []) (gC : X.mg y = some (.ref C)) (hgT : Gl X T) (hgy : Gl X y)
    (he : ∀ (W : WX) (pn : List (Addr × Obj)) (xe : Value → Shared → Prop), LE (X.tr pn xe) B e qe)
    (ha : ∀ (a : Addr) (pn : List (Addr × Obj)), LA (suiteX X a pn) B (a1 :: es) qa)
    (hdT : (T == ("__debug__" : Str)) = false) (hdy : (y == ("__debug__" : Str)) = false) (hpl1 : PlainIx e)
    (hsw : ∀ (pn : List (Addr × Obj)) (xe : Value → Shared → Prop), swapsWith (.Subscript (.Name T p1) e p2) (some (.Name x p3)) p4.line (X.tr pn xe).env = pure false)
    (hst : ∀ (a : Addr) (pn : List (Addr × Obj)), starEach (a1 :: es) (suiteX X a pn).env = (false, eval a1 (suiteX X a pn).env) :: starEach es (suiteX X a pn).env) (hpl : ∀ (a : Addr) (pn : List (Addr × Obj)), (backTo p7 (starEach es (suiteX X a pn).env)).any (·.1) = false) :
    LS X B (.Try [.Assign [.Name x p3] (.Subscript (.Name T p1) e p2) p4] [.ExceptHandler (some (.Name "KeyError" p5)) none [.Raise (some (.Call (.Name y p6) (a1 :: es) [] p7)) (some (.Constant .none j p8)) p9] p10] [] [] p11) (qTryKey l i qe C flD n Wo qa) := by
  refine PS.imp (L2H.ps_try_onlyX (X := X) (Wout := Wout)
    (tb := fun W D σ H => tIxDX X.K X.w W (tC (.ref dT)) (UP X.K B (rD X.K) qe) σ H fun v H' => D.nx (σ.set i (some v)) H')
    (ts := fun _ _ _ => fun _ σ H => tMkO C (spX C n fl) [] (UP X.K B (rDs X.K) qa) σ H fun cls d H' => Wout cls d σ H') hs hf hc hpa tk ?_ ?_) ?_
  · intro W pn xe tkN _ _
    exact pss_one (ps_set (X := X.tr pn xe) hN hi hloc (L2H.pe_ixDXN (X := X.tr pn xe) hcalm tkN (pe_glob (X := X.tr pn xe) (v := .ref dT) hgT gT rfl hdT) (he W pn xe) hpl1) (hsw pn xe) hff)
  · intro a oe cls d pn hz hfo tkS hot
    exact pss_one (L2H.ps_raiseHN hot tkS (L2H.pmk5_oexH (X := suiteX X a ((a, oe) :: pn)) (CX := L2.CX X.prog X.w) xT iC tI F1 (L2H.roomH_mark hr _) hot hb (fun _ _ _ _ _ _ _ ⟨_, _, _, _, _, _, _, _, _, _, _, _, h⟩ => h.elim) hgy gC (ha a _) hdy (hst a _) (hpl a _)))
  · rintro D σ H ⟨φ, s, S, D', hrr, ev, q, ek⟩
    refine ⟨φ, s, S, _, hrr, ev, q, fun φ1 d S1 v H1 e1 hr1 r1 q1 => ?_⟩
    split at q1
    · rename_i z
      cases r1
      refine ⟨dT, z, rfl, rfl, ?_⟩
      have at_ := hT.at (w := X.w) z
      split at q1
      · rename_i dv hl
        rw [hl] at at_
        obtain ⟨v0, h1, h2⟩ := at_
        exact .inl ⟨v0, h1, ek.nx _ _ _ _ _ e1 hr1 ((ev.mono e1).set (h2 _ _)) q1⟩
      · rename_i hl
        rw [hl] at at_
        refine .inr ⟨at_, fun d => ⟨true, hex, fun _ a _ => ?_, fun h => nomatch h⟩⟩
        refine ⟨φ1, s, S1, _, hr1, ev.mono e1, q1, fun φ2 dl S2 vs H2 e2 hr2 r2 qq => ?_⟩
        obtain ⟨hbb, q2⟩ := Br.get qq
        rw [Bool.and_eq_true] at hbb
        exact ⟨by rw [r2.len]; exact lenLe_ok hbb.1, mk_at (dds := []) (dvs := []) hfl hr2 r2 RVc.nil (by simpa using Nat.eq_of_beq_eq_true hbb.2) fun φ' H' cls d e3 hr3 xr => wl _ _ _ _ _ _ _ _ _ hr3 (ev.mono (e1.trans (e2.trans e3))) (by rw [List.append_nil] at xr; exact xr) q2⟩
    · exact q1.elim
end
end LC

set_option Elab.async false
set_option linter.all false
set_option maxRecDepth 100000
set_option maxHeartbeats 5000000
/-! LD24: T[e] of a dict of the top; a local name that holds a def. -/
namespace LC
open PySem PySem.Spec
open PyProof.Rows L2
/-- T[e], the key is there -/
def oIxK (dT : Addr) (l : List (Str × D)) : QO := fun d e S Q => match d, e with
  | .adr a, .str x => Need (a = dT) (Opt (l.lookup x) fun v => Q v S)
  | _, _ => False
section
variable {X : Cx} {B : Bs}
theorem ox_kd {dT : Addr} {l : List (Str × D)} (hT : DctK X.K X.w.params dT l) : IxR X (upR X.K B (oIxK dT l)) := IxR.imp ix_kdict fun x y H Q ⟨φ, S, d, e, Q', hr, r1, r2, q, k⟩ => by
  unfold oIxK at q
  split at q
  · rename_i a z
    obtain ⟨rfl, q⟩ := q
    obtain ⟨v, hv, q⟩ := q.get
    have at_ := hT.at (w := X.w) z
    rw [hv] at at_
    obtain ⟨u, h1, h2⟩ := at_
    cases r1; cases r2
    exact ⟨a, z, u, rfl, rfl, h1, k.here hr (h2 _ _) q⟩
  · exact q.elim
end
/-- defs that a name may hold -/
structure HeldD (P : Program) (w : World) (K : PySem.W.Frag) (mg : Str → Option Value) (base : Heap) (k : Nat) (f : Addr) (sp : SpD) : Prop where
  ex : ∃ (fd : FuncData) (ps : List Str), FnOk P w K mg base (L2.CX P w) k f fd ps (upF K sp) ∧ PySem.W.keepIn K (.ref f) = true ∧ Binds K fd ps []
theorem Fx.held {P : Program} {w : World} {K : PySem.W.Frag} {mg : Str → Option Value} {base : Heap} {j k : Nat} {f : Addr} {fd : FuncData} {x : Str} {ps : List Str} {sp : SpD} (G : Fx P w K mg base j f fd x ps sp) (h : j ≤ k) : HeldD P w K mg base k f sp := ⟨fd, ps, G.ok.mono h, G.kp, G.bi⟩
def qCallA (i : Nat) (L : List (Addr × SpD)) (W' : WD) (q : QA) : QE := fun s S Q => ∃ (f : Addr) (sp : SpD) (j : Nat), s[i]? = some (some (.adr f)) ∧ L[j]? = some (f, sp) ∧ q s S fun ds S1 => sp ds S1 Q fun C fs S' => W' C fs s S'
section
variable {X : Cx} {B : Bs} {k i : Nat} {L : List (Addr × SpD)} {W : WX} {W' : WD} {x : Str} {p pos : Pos} {e : Expr} {es : List Expr} {q : QA}
theorem le_callA (hL : ∀ z ∈ L, HeldD X.prog X.w X.K X.mg X.base k z.1 z.2) (hr : Room k X.A) (hN : X.N[i]? = some x) (hv : Vis X.env.scope x) (tk : Takes X W) (wl : WL X.K B W' W) (ha : LA X B (e :: es) q)
    (hdb : (x == ("__debug__" : Str)) = false := by decide) (hcd : (x == ("__classdict__" : Str)) = false := by decide)
    (st : starEach (e :: es) X.env = (false, eval e X.env) :: starEach es X.env := by rfl) (pn : (backTo pos (starEach es X.env)).any (·.1) = false := by rfl) : LE X B (.Call (.Name x p) (e :: es) [] pos) (qCallA i L W' q) := ⟨fun pins s σ H Q I ⟨φ, sl, S, Q', hr', ev, ⟨f, sp, j, h1, h2, qq⟩, kk⟩ => by
  obtain ⟨fd, ps, F, hk, hb⟩ := (hL _ (List.mem_of_getElem? h2)).ex
  obtain ⟨v, g1, g2⟩ := ev.at' i _ h1
  cases g2
  refine wpAny_Call_Name_kw (thn ((pe_var (pos := p) hN hv hdb hcd).run pins s σ H (fun v H1 => v = .ref f ∧ H1 = H) I ⟨.ref f, g1, rfl, rfl⟩) fun u s1 ⟨v, H1, I1, r1, e1, e2⟩ => ?_)
  subst e1 e2
  cases r1
  refine PySem.W.callWith_K (h₀ := X.base) I.ok.mod.kin hk (thn (ha.run pos pins s1 σ _ (fun vs H2 => ∃ φ1 dl S1, Ext X.K φ φ1 H1 H2 ∧ HR X.K B φ1 H2 S1 ∧ RVs X.K φ1 H2 dl vs ∧ sp dl S1 Q' fun C fs S' => W' C fs sl S') I1
    ⟨φ, sl, S, _, hr', ev, qq, fun φ1 dl S1 vs H2 e1 hr1 r1 q1 => ⟨φ1, dl, S1, e1, hr1, r1, q1⟩⟩) fun us s2 ⟨vs, H2, I2, r, φ1, dl, S1, e1, hr1, r1, q1⟩ => ⟨I2.kIn, ?_⟩) st pn
  exact run_fnSD (ds := []) (dvs := []) (E := WE W) F hr hb .nil (passAt tk σ) I2 r (by rw [List.append_nil]; exact upF_at hr1 (ev.mono e1) r1 wl q1 (kk.ext e1))⟩
end
end LC

set_option Elab.async false
set_option linter.all false
set_option maxRecDepth 100000
set_option maxHeartbeats 5000000
/-! LD25: calls with keywords that stand in the parameters' order and fill all of them. -/
namespace LC
open PySem PySem.Spec
open PyProof.Rows L2
/-- n values by place, then those of the names ks -/
def KbA (K : PySem.W.Frag) (fd : FuncData) (ps : List Str) (n : Nat) (ks : List Str) : Prop := ∀ (s : Shared) (us ws : List Value), K.In s.heap → us.length = n → ws.length = ks.length → BindsTo s fd ⟨us, ks.zip ws⟩ (ps.zip (us ++ ws))
section
variable {K : PySem.W.Frag} {x qual : Str} {params : Arguments} {body : List Stmt} {scope : Scope} {dvs : List V} {f : Addr} {fd : FuncData} {ps ks : List Str} {n : Nat}
/-- a def without defaults -/
theorem kb_plain {ct cdv kV doc pm : Value} {an : Option Addr} (h : ∀ (us ws : List Value), us.length = n → ws.length = ks.length → bindArgs (PySem.W.fnOf x qual params body scope .none kV doc pm an cdv ct) ⟨us, ks.zip ws⟩ = pure (ps.zip (us ++ ws))) : KbA K (PySem.W.fnOf x qual params body scope .none kV doc pm an cdv ct) ps n ks :=
  fun s us ws _ l1 l2 => .of_eq (h us ws l1 l2)
/-- a def with defaults -/
theorem kb_dflt (F : L2.FunD K x qual params body scope dvs [] f fd) (hd : dvs ≠ [])
    (h : ∀ (T : Addr) (kV doc pm : Value) (an : Option Addr) (cdv ct : Value) (us its ws : List Value), us.length = n → its.length = dvs.length → ws.length = ks.length →
      ∃ k, bindArgs (PySem.W.fnOf x qual params body scope (.ref T) kV doc pm an cdv ct) ⟨us, ks.zip ws⟩ = seqItems? (.ref T) >>= k ∧ k (some its.toArray) = pure (ps.zip (us ++ ws))) : KbA K fd ps n ks := by
  obtain ⟨oc, od, dV, kV, doc, pm, an, cdv, ct, osl, rfl, lk, hcd, hD, hK⟩ := F.ex
  rcases hD with ⟨e, _⟩ | ⟨_, T, o, its, m, rfl, lT, oT, rT⟩
  · exact absurd e hd
  · intro s us ws X l1 l2
    obtain ⟨k, e1, e2⟩ := h T kV doc pm an cdv ct us its ws l1 rT.length.symm l2
    refine BindsTo.of_looks fun M => ?_
    rw [e1]
    exact looks_items X lT oT (.of_pure e2)
end
section
variable {X : Cx} {B : Bs} {k n : Nat} {f : Addr} {fd : FuncData} {ps ks : List Str} {sp : SpD} {W : WX} {W' : WD} {x : Str} {p pos kpos : Pos} {e : Expr} {es : List Expr} {kws : List Keyword} {qe : QE} {q qk : QA} {nm : Option Str}
theorem lkw_nil : LKw X B [] qNil := ⟨fun pos pins s σ H Q I ⟨φ, sl, S, Q', hr, ev, qq, kk⟩ => pk_nil.run pos pins s σ H Q I (kk.here (d := []) hr (show RVs X.K _ _ [] [] from rfl) qq)⟩
theorem lkw_cons (ha : LE X B e qe) (hr : LKw X B kws qk) : LKw X B (⟨nm, e, kpos⟩ :: kws) (qCons qe qk) := ⟨fun pos pins s σ H Q I ⟨φ, sl, S, Q', hr', ev, qq, kk⟩ => (pk_cons ha hr).run pos pins s σ H Q I
  ⟨φ, sl, S, _, hr', ev, qq, fun φ1 d S1 v H1 e1 hr1 r1 q1 => ⟨φ1, sl, S1, _, hr1, ev.mono e1, q1, fun φ2 ds S2 vs H2 e2 hr2 r2 q2 => kk _ _ _ _ _ (e1.trans e2) hr2 (show RVs X.K _ _ (d :: ds) (v :: vs) from ⟨v, vs, rfl, r1.mono e2, r2⟩) q2⟩⟩⟩
theorem run_kw {pins : List (Addr × Obj)} {σ : L2.St} {H : Hp} {s : Shared} {Q : VK} {us ws : List Value} {vs zs : List V} {sq : Sp} {E : L2.St → XK} (F : FnOk X.prog X.w X.K X.mg X.base (L2.CX X.prog X.w) k f fd ps sq) (hr : Room k X.A) (hb : KbA X.K fd ps n ks) (hx : PassesAt (L2.CX X.prog X.w) X σ (E σ))
    (I : Inv X pins σ H s) (r : Vals vs us) (rz : Vals zs ws) (l1 : vs.length = n) (l2 : zs.length = ks.length) (h : sq (vs ++ zs) H Q (E σ)) : wpAny (model X.prog X.w) X.A (call (.ref f) us (ks.zip ws)) (EP X pins σ Q) X.xe s := by
  refine wpAny_call (codeAny_mono (F.run X.A X.stack s H ⟨us, ks.zip ws⟩ (us ++ ws) (vs ++ zs) Q (E σ) hr I.env0 (hb s us ws I.kIn (r.length.symm.trans l1) (rz.length.symm.trans l2)) (r.append rz) h) fun fin s' hq => ?_)
  match fin, hq with
  | .error ex, hq => exact hx pins H s ex s' I hq
  | .ok (.ret u), hq => exact I.after hq
  | .ok .next, hq => exact hq.elim
  | .ok .brk, hq => exact hq.elim
  | .ok .cont, hq => exact hq.elim
def qCallK (sp : SpD) (W' : WD) (n m : Nat) (q qk : QA) : QE := fun s S Q => q s S fun ds S1 => qk s S1 fun es S2 => Need (ds.length = n ∧ es.length = m) (sp (ds ++ es) S2 Q fun C fs S' => W' C fs s S')
theorem le_callKw (F : FnOk X.prog X.w X.K X.mg X.base (L2.CX X.prog X.w) k f fd ps (upF X.K sp)) (hr : Room k X.A) (hm : X.mg x = some (.ref f)) (hk : PySem.W.keepIn X.K (.ref f) = true) (hb : KbA X.K fd ps n ks) (tk : Takes X W) (wl : WL X.K B W' W) (ha : LA X B (e :: es) q) (hkw : LKw X B kws qk) (hg : Gl X x := by rfl)
    (hall : (backToKw pos (keywordEach kws X.env)).all (·.1.isSome) = true := by rfl) (hks : (backToKw pos (keywordEach kws X.env)).filterMap (·.1) = ks := by rfl) (hdb : (x == ("__debug__" : Str)) = false := by decide) (st : starEach (e :: es) X.env = (false, eval e X.env) :: starEach es X.env := by rfl)
    (pn : ((backTo pos (starEach (e :: es) X.env)).any (·.1) || (backToKw pos (keywordEach kws X.env)).any (·.1.isNone)) = false := by rfl) : LE X B (.Call (.Name x p) (e :: es) kws pos) (qCallK sp W' n ks.length q qk) := ⟨fun pins s σ H Q I ⟨φ, sl, S, Q', hr', ev, qq, kk⟩ => by
  refine wpAny_Call_Name_kw (ld_glob I hg hm ?_ hdb)
  refine PySem.W.callWith_KW (h₀ := X.base) I.ok.mod.kin hk hall (thn (ha.run pos pins s σ H (fun vs H1 => ∃ φ1 dl S1, Ext X.K φ φ1 H H1 ∧ HR X.K B φ1 H1 S1 ∧ RVs X.K φ1 H1 dl vs ∧ qk sl S1 fun es S2 => Need (dl.length = n ∧ es.length = ks.length) (sp (dl ++ es) S2 Q' fun C fs S' => W' C fs sl S')) I
    ⟨φ, sl, S, _, hr', ev, qq, fun φ1 dl S1 vs H1 e1 hr1 r1 q1 => ⟨φ1, dl, S1, e1, hr1, r1, q1⟩⟩) fun us s1 ⟨vs, H1, I1, r, φ1, dl, S1, e1, hr1, r1, q1⟩ => ?_) pn st
  refine thn (hkw.run pos pins s1 σ H1 (fun zs H2 => ∃ φ2 el S2, Ext X.K φ1 φ2 H1 H2 ∧ HR X.K B φ2 H2 S2 ∧ RVs X.K φ2 H2 el zs ∧ (dl.length = n ∧ el.length = ks.length) ∧ sp (dl ++ el) S2 Q' fun C fs S' => W' C fs sl S') I1
    ⟨φ1, sl, S1, _, hr1, ev.mono e1, q1, fun φ2 el S2 zs H2 e2 hr2 r2 q2 => ⟨φ2, el, S2, e2, hr2, r2, q2.c, q2.q⟩⟩) fun ws s2 ⟨zs, H2, I2, rz, φ2, el, S2, e2, hr2, r2, ⟨l1, l2⟩, q2⟩ => ⟨I2.kIn, ?_⟩
  rw [hks]
  exact run_kw (E := WE W) F hr hb (passAt tk σ) I2 r rz (by rw [r1.len]; exact l1) (by rw [r2.len]; exact l2) (upF_at hr2 (ev.mono (e1.trans e2)) ((r1.mono e2).app r2) wl q2 (kk.ext (e1.trans e2)))⟩
theorem le_callKw0 (F : FnOk X.prog X.w X.K X.mg X.base (L2.CX X.prog X.w) k f fd ps (upF X.K sp)) (hr : Room k X.A) (hm : X.mg x = some (.ref f)) (hk : PySem.W.keepIn X.K (.ref f) = true) (hb : KbA X.K fd ps 0 ks) (tk : Takes X W) (wl : WL X.K B W' W) (hkw : LKw X B kws qk) (hg : Gl X x := by rfl)
    (hall : (backToKw pos (keywordEach kws X.env)).all (·.1.isSome) = true := by rfl) (hks : (backToKw pos (keywordEach kws X.env)).filterMap (·.1) = ks := by rfl) (hdb : (x == ("__debug__" : Str)) = false := by decide)
    (pn : ((backTo pos (starEach [] X.env)).any (·.1) || (backToKw pos (keywordEach kws X.env)).any (·.1.isNone)) = false := by rfl) : LE X B (.Call (.Name x p) [] kws pos) (qCallK sp W' 0 ks.length qNil qk) := ⟨fun pins s σ H Q I ⟨φ, sl, S, Q', hr', ev, qq, kk⟩ => by
  refine wpAny_Call_Name_kw (ld_glob I hg hm ?_ hdb)
  refine PySem.W.callWith_KW0 (h₀ := X.base) I.ok.mod.kin hk hall (thn (hkw.run pos pins s σ H (fun zs H2 => ∃ φ2 el S2, Ext X.K φ φ2 H H2 ∧ HR X.K B φ2 H2 S2 ∧ RVs X.K φ2 H2 el zs ∧ el.length = ks.length ∧ sp el S2 Q' fun C fs S' => W' C fs sl S') I
    ⟨φ, sl, S, _, hr', ev, qq, fun φ2 el S2 zs H2 e2 hr2 r2 q2 => ⟨φ2, el, S2, e2, hr2, r2, q2.c.2, q2.q⟩⟩) fun ws s2 ⟨zs, H2, I2, rz, φ2, el, S2, e2, hr2, r2, l2, q2⟩ => ⟨I2.kIn, ?_⟩) pn
  rw [hks]
  exact run_kw (us := []) (vs := []) (E := WE W) F hr hb (passAt tk σ) I2 .nil rz rfl (by rw [r2.len]; exact l2) (upF_at hr2 (ev.mono e2) r2 wl q2 (kk.ext e2))⟩
end
theorem XcD.b0 {P : Program} {w : World} {K : PySem.W.Frag} {mg : Str → Option Value} {base : Heap} {x : Str} {C fI : Addr} {fd : FuncData} {ps : List Str} {n : Nat} {fl : List V → List (Str × V)} {flD : List D → List (Str × D)} (Z : XcD P w K mg base x C fI fd ps n fl flD [] []) : Binds K fd ps [] := by
  obtain ⟨ds, v, b⟩ := Z.bi
  cases v
  exact b
/-- a def with defaults -/
structure FxD (P : Program) (w : World) (K : PySem.W.Frag) (mg : Str → Option Value) (base : Heap) (k : Nat) (f : Addr) (fd : FuncData) (x : Str) (ps : List Str) (sp : SpD) (dvs : List V) (dds : List D) : Prop where
  ok : FnOk P w K mg base (L2.CX P w) k f fd ps (upF K sp)
  gm : mg x = some (.ref f)
  kp : PySem.W.keepIn K (Value.ref f) = true
  bi : ∃ ds, Vals dvs ds ∧ Binds K fd ps ds
  dd : RVc K dds dvs
theorem le_fxD {X : Cx} {B : Bs} {k : Nat} {f : Addr} {fd : FuncData} {x : Str} {ps : List Str} {sp : SpD} {dvs : List V} {dds : List D} {W : WX} {W' : WD} {e : Expr} {es : List Expr} {p pos : Pos} {q : QA} (F : FxD X.prog X.w X.K X.mg X.base k f fd x ps sp dvs dds) (hr : Room k X.A) (tk : Takes X W) (wl : WL X.K B W' W) (ha : LA X B (e :: es) q) (hg : Gl X x := by rfl)
    (hdb : (x == ("__debug__" : Str)) = false := by decide) (he : starEach (e :: es) X.env = (false, eval e X.env) :: starEach es X.env := by rfl) (hpl : (backTo pos (starEach es X.env)).any (·.1) = false := by rfl) : LE X B (.Call (.Name x p) (e :: es) [] pos) (qCall sp dds W' q) :=
  let ⟨_, vd, bd⟩ := F.bi
  le_call F.ok hr hg F.gm F.kp bd vd F.dd tk wl ha hdb he hpl
theorem any4 (p : Int) : ([D.int 1, D.int 2, D.int 3, D.int 4].any fun y => y.feq (.int p)) = decide (1 ≤ p ∧ p ≤ 4) := by
  rw [Bool.eq_iff_iff]
  simp only [List.any_cons, List.any_nil, Bool.or_false, Bool.or_eq_true, decide_eq_true_eq]
  have h : ∀ a : Int, (D.int a).feq (.int p) = true ↔ a = p := fun a => by
    show (a == p) = true ↔ _
    exact beq_iff_eq
  rw [h, h, h, h]
  omega
end LC

set_option Elab.async false
set_option linter.all false
set_option maxRecDepth 100000
set_option maxHeartbeats 5000000
/-! LD26: what looking at a finding comes to. -/
namespace LC
open PySem PySem.Spec
open PyProof.Rows L2
theorem good_all6 (ns : List Int) : (ns.map fun z => decide (0 ≤ z) && decide (z ≤ 6)).all id = decide (goodN ns) := by
  rw [List.all_map, Bool.eq_iff_iff, List.all_eq_true]
  constructor
  · intro h
    refine decide_eq_true fun z hz => ?_
    have := h z hz
    simp at this
    omega
  · intro h z hz
    have := of_decide_eq_true h z hz
    simp
    omega
inductive Oc where
  | fine | part | coat | shade | year | depth | backward | same
  | fact (w : Str)
def Oc.word : Oc → Str
  | .fine => ""
  | .part => "badpart"
  | .coat => "badcoat"
  | .shade => "badshade"
  | .year => "badyear"
  | .depth => "baddepth"
  | .backward => "backward"
  | .same => "sameone"
  | .fact _ => "badfact"
def Oc.flds : Oc → List (Str × D)
  | .fact w => [("word", .str w), ("called", .str "badfact")]
  | o => [("called", .str o.word)]
def Oc.to (cl : Oc → Addr) (o : Oc) (Q : D → Prop) (E : XD) : Prop := match o with
  | .fine => Q .non
  | o => E (cl o) o.flds
def Oc.then (o p : Oc) : Oc := match o with
  | .fine => p
  | o => o
theorem Oc.run {cl : Oc → Addr} {o : Oc} {Q Q' : D → Prop} {E : XD} {S : List O} (h : o.to cl Q E) (k : Q .non → Q' .non) : o.to cl Q' fun C fs => XtP E C fs S := by
  cases o with
  | fine => exact k h
  | fact w => exact Xp h ⟨trivial, trivial, trivial⟩
  | _ => exact Xp h ⟨trivial, trivial⟩
theorem Oc.then_to {cl : Oc → Addr} {o p : Oc} {Q : D → Prop} {E : XD} (h : (o.then p).to cl Q E) : o.to cl (fun _ => p.to cl Q E) E := by
  cases o with
  | fine => exact h
  | _ => exact h
/-- the first wrong one counts -/
def ocIf (c : Prop) [Decidable c] (o : Oc) : Oc := if c then .fine else o
theorem ocIf_pos {c : Prop} [Decidable c] {o : Oc} (h : c) : ocIf c o = .fine := if_pos h
theorem ocIf_neg {c : Prop} [Decidable c] {o : Oc} (h : ¬ c) : ocIf c o = o := if_neg h
def ocPart (p : Int) : Oc := ocIf (1 ≤ p ∧ p ≤ 4) .part
def ocCoat (p : Int) : Oc := ocIf (0 ≤ p ∧ p < 5) .coat
def ocYear (p : Int) : Oc := ocIf (0 ≤ p ∧ p ≤ 999) .year
def ocDepth (p l : Int) : Oc := ocIf (l ≤ p ∧ p ≤ 5) .depth
def ocTwo (p o : Int) : Oc := ((ocPart p).then (ocPart o)).then (ocIf (p ≠ o) .same)
def ocCover (p l d : Int) : Oc := (ocTwo p l).then (ocDepth d 0)
def ocMoved (p c l d : Int) : Oc := (((ocPart p).then (ocDepth c 1)).then (ocTwo p l)).then (ocDepth d 0)
def ocDated (p c f l : Int) : Oc := ((((ocPart p).then (ocCoat c)).then (ocYear f)).then (ocYear l)).then (ocIf (f ≤ l) .backward)
def ocSold (s y : Int) : Oc := (ocIf (1 ≤ s ∧ s ≤ 6) .shade).then (ocYear y)
def ocCoats (p c o d : Int) : Oc := (((ocPart p).then (ocCoat c)).then (ocPart o)).then (ocCoat d)
def ocAhead (p c o d : Int) : Oc := (ocCoats p c o d).then (ocIf (¬ (p = o ∧ c = d)) .same)
def ocPaired (p c o d : Int) : Oc := (ocCoats p c o d).then (ocIf (p ≠ o) .same)
def ocScrape (p c : Int) (sh : List Int) : Oc := (((ocPart p).then (ocCoat c)).then (ocIf (sh ≠ [] ∧ goodN sh) .shade)).then (ocIf (c + sh.length ≤ 5) .coat)
def Fc.sh : Fc → List Int
  | .scrape _ _ sh => sh
  | _ => []
def ocFc : Fc → Oc
  | .scrape p c sh => ocScrape p c sh
  | .cover p l d => ocCover p l d
  | .moved p c l d => ocMoved p c l d
  | .year p c f l => ocDated p c f l
  | .sold s y => ocSold s y
  | .ahead p c o d => ocAhead p c o d
  | .same p c o d => ocPaired p c o d
  | .apart p c o d => ocPaired p c o d
/-- how many things stand behind each word -/
def things : List (Str × Int) := [("scrape", 4), ("cover", 4), ("moved", 5), ("year", 5), ("sold", 3), ("ahead", 5), ("same", 5), ("apart", 5)]
theorem lookup8 {α : Type} (x : Str) (v1 v2 v3 v4 v5 v6 v7 v8 : α) : (things.lookup x = none ∧ ([("scrape", v1), ("cover", v2), ("moved", v3), ("year", v4), ("sold", v5), ("ahead", v6), ("same", v7), ("apart", v8)] : List (Str × α)).lookup x = none) ∨ ∃ n v, things.lookup x = some n ∧ ([("scrape", v1), ("cover", v2), ("moved", v3), ("year", v4), ("sold", v5), ("ahead", v6), ("same", v7), ("apart", v8)] : List (Str × α)).lookup x = some v := by
  unfold things
  simp only [List.lookup_cons, List.lookup_nil]
  repeat (first | exact .inl ⟨rfl, rfl⟩ | exact .inr ⟨_, _, rfl, rfl⟩ | (split <;> first | exact .inr ⟨_, _, rfl, rfl⟩ | skip))
theorem lookupT {x : Str} {n : Int} (h : things.lookup x = some n) : ([("scrape", .int 4), ("cover", .int 4), ("moved", .int 5), ("year", .int 5), ("sold", .int 3), ("ahead", .int 5), ("same", .int 5), ("apart", .int 5)] : List (Str × D)).lookup x = some (.int n) := by
  have key : ∀ l : List (Str × Int), (l.map fun p => (p.1, D.int p.2)).lookup x = (l.lookup x).map D.int := fun l => by
    induction l with
    | nil => rfl
    | cons p l ih =>
      rw [List.map_cons, List.lookup_cons, List.lookup_cons]
      cases x == p.1 with
      | true => rfl
      | false => exact ih
  have := key things
  rw [h] at this
  exact this
end LC

set_option Elab.async false
set_option linter.all false
set_option maxRecDepth 100000
set_option maxHeartbeats 5000000
/-! LD27: a < b < c of whole numbers where c is a written number: no cases. Checks: a list of (good, name). -/
namespace LC
open PySem PySem.Spec
open PyProof.Rows L2
section
variable {X : Cx} {B : Bs} {a b c : Expr} {qa qb : QE} {pos : Pos}
def qChainC (f g : Int → Int → Bool) (k : Int) (qa qb : QE) : QE := fun s S Q => qa s S fun x S1 => qb s S1 fun y S2 => match x, y with
  | .int i, .int j => Q (.bl (f i j && g j k)) S2
  | _, _ => False
theorem up_chainC {f g : Int → Int → Bool} {k : Int} {σ : L2.St} {H : Hp} {Q : VK} (h : UP X.K B (rD X.K) (qChainC f g k qa qb) σ H Q) :
    tChain (upR X.K B (oIB f)) (upR X.K B (oIB g)) (UP X.K B (rD X.K) qa) (UP X.K B (rD X.K) qb) (UP X.K B (rD X.K) (qC (.int k))) σ H Q := by
  obtain ⟨φ, s, S, Q', hr, ev, q, kk⟩ := h
  refine ⟨φ, s, S, _, hr, ev, q, fun φ1 d S1 v H1 e1 hr1 r1 q1 => ?_⟩
  refine ⟨φ1, s, S1, _, hr1, ev.mono e1, q1, fun φ2 d2 S2 v2 H2 e2 hr2 r2 q2 => ?_⟩
  split at q2
  · rename_i i j
    refine ⟨φ2, S2, _, _, fun z S3 => z = .bl (f i j) ∧ S3 = S2, hr2, r1.mono e2, r2, ⟨rfl, rfl⟩, fun φ3 d3 S3 v3 H3 e3 hr3 r3 ⟨z1, z2⟩ => ?_⟩
    subst z1 z2
    refine ⟨f i j, r3, ?_⟩
    cases hf : f i j with
    | false =>
      rw [hf] at q2
      exact kk _ (.bl false) _ _ _ (e1.trans (e2.trans e3)) hr3 rfl q2
    | true =>
      rw [if_pos rfl]
      rw [hf] at q2
      refine ⟨φ3, s, _, fun z S4 => z = .int k ∧ S4 = _, hr3, ev.mono (e1.trans (e2.trans e3)), ⟨rfl, rfl⟩, fun φ4 d4 S4 v4 H4 e4 hr4 r4 ⟨y1, y2⟩ => ?_⟩
      subst y1 y2
      exact ⟨φ4, _, _, _, Q', hr4, r2.mono (e3.trans e4), r4, q2, kk.ext (e1.trans (e2.trans (e3.trans e4)))⟩
  · exact q2.elim
theorem le_chainC {f g : Int → Int → Bool} {k : Int} {j pk} {op op' : CmpOp} (ho : OpR X (compareOp op) (upR X.K B (oIB f))) (ho' : OpR X (compareOp op') (upR X.K B (oIB g))) (ha : LE X B a qa) (hb : LE X B b qb)
    (hm : lastMarks [op, op'] [b, .Constant (.int k) j pk] = false := by with_unfolding_all rfl) : LE X B (.Compare a [op, op'] [b, .Constant (.int k) j pk] pos) (qChainC f g k qa qb) := PE.imp (pe_chain ho ho' ha hb le_int hm) fun _ _ _ => up_chainC
theorem lt_chainC {f g : Int → Int → Bool} {k : Int} {j pk} {op op' : CmpOp} (ho : OpR X (compareOp op) (upR X.K B (oIB f))) (ho' : OpR X (compareOp op') (upR X.K B (oIB g))) (ha : LE X B a qa) (hb : LE X B b qb)
    (hm : lastMarks [op, op'] [b, .Constant (.int k) j pk] = false := by with_unfolding_all rfl) : LT X B (.Compare a [op, op'] [b, .Constant (.int k) j pk] pos) (qTest (qChainC f g k qa qb)) := PT.imp (pt_chain ho ho' ha hb le_int hm) fun _ _ _ => up_test fun _ _ _ => up_chainC
end
/-- checks: a mark and a word each -/
def ckD (c : Bool × Str) : D := .tup [.bl c.1, .str c.2]
def firstBad (cs : List (Bool × Str)) : Str := ((cs.filter fun c => !c.1).map (·.2) ++ [("" : Str)]).headD ""
theorem firstBad_t {w : Str} {cs : List (Bool × Str)} : firstBad ((true, w) :: cs) = firstBad cs := rfl
theorem firstBad_f {w : Str} {cs : List (Bool × Str)} : firstBad ((false, w) :: cs) = w := rfl
theorem firstBad_at (cs : List (Bool × Str)) : L2.atI (((cs.filter fun c => !c.1).map fun c => D.str c.2) ++ [D.str ""]) 0 = some (.str (firstBad cs)) := by
  unfold firstBad
  cases h : cs.filter fun c => !c.1 with
  | nil => rfl
  | cons c r => exact atI_get (by decide) rfl
end LC

set_option Elab.async false
set_option linter.all false
set_option maxRecDepth 100000
set_option maxHeartbeats 5000000
/-! LD28: the law's checks of a finding. -/
namespace LC
open PySem PySem.Spec
open PyProof.Rows L2
theorem ltN {n : Nat} (h : n ≤ 1000) : n < sizeLine := Nat.lt_of_le_of_lt h (by decide)
theorem leN {n : Nat} (h : n ≤ 1000) : n ≤ sizeLine := Nat.le_trans h (by decide)
theorem Oc.then_assoc (o p r : Oc) : (o.then p).then r = o.then (p.then r) := by cases o <;> rfl
theorem Oc.then_fine (o : Oc) : o.then .fine = o := by cases o <;> rfl
theorem fb_cons {b : Bool} {c : Prop} [Decidable c] {o p : Oc} {w : Str} {cs : List (Bool × Str)} (h : b = true ↔ c) (hw : o.word = w) (ho : o.then p = o) (r : firstBad cs = p.word) : firstBad ((b, w) :: cs) = ((ocIf c o).then p).word := by
  by_cases hc : c
  · rw [h.mpr hc, ocIf_pos hc, firstBad_t]
    exact r
  · have hb : b = false := by cases b with | false => rfl | true => exact absurd (h.mp rfl) hc
    rw [hb, ocIf_neg hc, firstBad_f, ho, hw]
theorem fb_one {b : Bool} {c : Prop} [Decidable c] {o : Oc} {w : Str} (h : b = true ↔ c) (hw : o.word = w) : firstBad [(b, w)] = (ocIf c o).word := by
  rw [← Oc.then_fine (ocIf c o)]
  exact fb_cons h hw (Oc.then_fine o) rfl
theorem and_le {a b c d : Int} : (decide (a ≤ b) && decide (c ≤ d)) = true ↔ (a ≤ b ∧ c ≤ d) := by simp
/-- the law's checks, form by form -/
def cksPart (p : Int) : Bool × Str := (decide (1 ≤ p) && decide (p ≤ 4), "badpart")
def cksCoat (c : Int) : Bool × Str := (decide (0 ≤ c) && decide (c ≤ 4), "badcoat")
def cksDepth (d l : Int) : Bool × Str := (decide (l ≤ d) && decide (d ≤ 5), "baddepth")
theorem fb_part {p : Int} {q : Oc} {cs : List (Bool × Str)} (r : firstBad cs = q.word) : firstBad (cksPart p :: cs) = ((ocPart p).then q).word := fb_cons and_le rfl rfl r
theorem fb_coat {p : Int} {q : Oc} {cs : List (Bool × Str)} (r : firstBad cs = q.word) : firstBad (cksCoat p :: cs) = ((ocCoat p).then q).word := fb_cons (by rw [and_le]; omega) rfl rfl r
theorem fb_depth {p l : Int} {q : Oc} {cs : List (Bool × Str)} (r : firstBad cs = q.word) : firstBad (cksDepth p l :: cs) = ((ocDepth p l).then q).word := fb_cons and_le rfl rfl r
theorem fb_ne {p o : Int} {q : Oc} {cs : List (Bool × Str)} (r : firstBad cs = q.word) : firstBad ((!decide (o = p), "sameone") :: cs) = ((ocIf (p ≠ o) .same).then q).word := fb_cons (by rw [Bool.not_eq_true', decide_eq_false_iff_not]; exact ⟨fun h z => h z.symm, fun h z => h z.symm⟩) rfl rfl r
theorem fb_cover {p l d : Int} : firstBad [cksPart p, cksPart l, (!decide (l = p), "sameone"), cksDepth d 0] = (ocFc (.cover p l d)).word := by
  show _ = (ocCover p l d).word
  unfold ocCover ocTwo
  rw [Oc.then_assoc, Oc.then_assoc]
  exact fb_part (fb_part (fb_ne (fb_one and_le rfl)))
theorem fb_moved {p c l d : Int} : firstBad [cksPart p, cksDepth c 1, cksPart l, (!decide (l = p), "sameone"), cksDepth d 0] = (ocFc (.moved p c l d)).word := by
  show _ = (ocMoved p c l d).word
  unfold ocMoved ocTwo
  simp only [Oc.then_assoc]
  by_cases h : 1 ≤ p ∧ p ≤ 4
  · have e : ocPart p = .fine := ocIf_pos h
    rw [e]
    show _ = ((ocDepth c 1).then ((ocPart l).then _)).word
    have e2 : cksPart p = (true, ("badpart" : Str)) := by unfold cksPart; rw [and_le.mpr h]
    rw [e2, firstBad_t]
    exact fb_depth (fb_part (fb_ne (fb_one and_le rfl)))
  · have e : ocPart p = .part := ocIf_neg h
    have e2 : cksPart p = (false, ("badpart" : Str)) := by
      unfold cksPart
      cases hb : decide (1 ≤ p) && decide (p ≤ 4) with
      | false => rfl
      | true => exact absurd (and_le.mp hb) h
    rw [e, e2]
    rfl
theorem fb_dated {p c f l : Int} : firstBad [cksPart p, cksCoat c, ((decide (0 ≤ f) && decide (f ≤ 999)) && (decide (0 ≤ l) && decide (l ≤ 999)), "badyear"), (decide (f ≤ l), "backward")] = (ocFc (.year p c f l)).word := by
  show _ = (ocDated p c f l).word
  unfold ocDated
  simp only [Oc.then_assoc]
  refine fb_part (fb_coat ?_)
  by_cases h1 : 0 ≤ f ∧ f ≤ 999
  · have e : ocYear f = .fine := ocIf_pos h1
    rw [e, and_le.mpr h1, Bool.true_and]
    exact fb_cons and_le rfl rfl (fb_one decide_eq_true_iff rfl)
  · have e : ocYear f = .year := ocIf_neg h1
    cases hb : decide (0 ≤ f) && decide (f ≤ 999) with
    | false => rw [e]; rfl
    | true => exact absurd (and_le.mp hb) h1
theorem fb_ahead {p c o d : Int} {b : Bool} (hb : b = true ↔ ¬ (p = o ∧ c = d)) : firstBad [cksPart p, cksCoat c, cksPart o, cksCoat d, (b, "sameone")] = (ocFc (.ahead p c o d)).word := by
  show _ = (ocAhead p c o d).word
  unfold ocAhead ocCoats
  simp only [Oc.then_assoc]
  exact fb_part (fb_coat (fb_part (fb_coat (fb_one hb rfl))))
theorem fb_paired {p c o d : Int} {b : Bool} (hb : b = true ↔ p ≠ o) : firstBad [cksPart p, cksCoat c, cksPart o, cksCoat d, (b, "sameone")] = (ocPaired p c o d).word := by
  unfold ocPaired ocCoats
  simp only [Oc.then_assoc]
  exact fb_part (fb_coat (fb_part (fb_coat (fb_one hb rfl))))
theorem fb_scrape {p c : Int} {sh : List Int} : ((([cksPart p, cksCoat c] : List (Bool × Str)).map (·.1)).all id = true → (ocFc (.scrape p c sh)).word = ((ocIf (sh ≠ [] ∧ goodN sh) .shade).then (ocIf (c + sh.length ≤ 5) .coat)).word) ∧
    ((([cksPart p, cksCoat c] : List (Bool × Str)).map (·.1)).all id = false → firstBad [cksPart p, cksCoat c] = (ocFc (.scrape p c sh)).word) := by
  show (_ → (ocScrape p c sh).word = _) ∧ (_ → _ = (ocScrape p c sh).word)
  unfold ocScrape
  simp only [Oc.then_assoc]
  constructor
  · intro h
    simp only [List.map_cons, List.map_nil, List.all_cons, List.all_nil, Bool.and_true, Bool.and_eq_true, id] at h
    have e1 : ocPart p = .fine := ocIf_pos (and_le.mp h.1)
    have e2 : ocCoat c = .fine := ocIf_pos (by have := and_le.mp h.2; omega)
    rw [e1, e2]
    rfl
  · intro h
    by_cases h1 : 1 ≤ p ∧ p ≤ 4
    · have e1 : ocPart p = .fine := ocIf_pos h1
      have f1 : cksPart p = (true, ("badpart" : Str)) := by unfold cksPart; rw [and_le.mpr h1]
      rw [e1, f1, firstBad_t]
      rw [f1] at h
      have h2 : ¬ (0 ≤ c ∧ c < 5) := fun z => by
        have : (cksCoat c).1 = true := and_le.mpr (by omega)
        simp [this] at h
      have e2 : ocCoat c = .coat := ocIf_neg h2
      have f2 : cksCoat c = (false, ("badcoat" : Str)) := by
        unfold cksCoat
        cases hb : decide (0 ≤ c) && decide (c ≤ 4) with
        | false => rfl
        | true => exact absurd (and_le.mp hb) (by omega)
      rw [e2, f2]
      rfl
    · have e1 : ocPart p = .part := ocIf_neg h1
      have f1 : cksPart p = (false, ("badpart" : Str)) := by
        unfold cksPart
        cases hb : decide (1 ≤ p) && decide (p ≤ 4) with
        | false => rfl
        | true => exact absurd (and_le.mp hb) h1
      rw [e1, f1]
      rfl
theorem bad_len {cs : List (Bool × Str)} {e : List D} (h : cs.length + e.length ≤ 1000) : ((cs.filter fun c => !c.1).map fun c => D.str c.2).length + e.length ≤ sizeLine := by
  rw [List.length_map]
  have := List.length_filter_le (fun c : Bool × Str => !c.1) cs
  exact leN (by omega)
/-- the names of the checks that fail -/
theorem lc_bad {t : Tgt} {qt : QT} {qe : QE} {vs : List Nat} {s : Sl} {Q : List D → Prop} {xs : List D} {keep : List O → Prop} {S1 : List O} (cs : List (Bool × Str)) (hx : xs = cs.map ckD) (hl : cs.length ≤ 1000) (hk : ∀ acc, keep (S1 ++ [.lst acc]))
    (st : ∀ (b : Bool) (w : Str) (acc : List D), ∃ s2, stT t (ckD (b, w)) (wipeD s vs) = some s2 ∧ (∀ R : Bool → List O → Prop, R (!b) (S1 ++ [.lst acc]) → qt s2 (S1 ++ [.lst acc]) R) ∧ (∀ R : D → List O → Prop, R (.str w) (S1 ++ [.lst acc]) → qe s2 (S1 ++ [.lst acc]) R))
    (q : Q ((cs.filter fun c => !c.1).map fun c => .str c.2)) : lcV t qt qe vs s Q xs keep S1 := by
  subst hx
  refine lc_filter (fun d => match d with | .tup [.bl b, _] => !b | _ => false) (fun d => match d with | .tup [_, .str w] => .str w | _ => .non) (by rw [List.length_map]; exact ltN hl) hk ?_ ?_
  · intro i x acc hi
    obtain ⟨⟨b, w⟩, hc, rfl⟩ := map_at hi
    obtain ⟨s2, h1, h2, h3⟩ := st b w acc
    exact ⟨s2, h1, trivial, h2, fun _ => h3⟩
  · rw [List.filter_map, List.map_map]
    exact q
theorem lc_good {t : Tgt} {qe : QE} {vs : List Nat} {s : Sl} {Q : List D → Prop} {xs : List D} {keep : List O → Prop} {S1 : List O} (cs : List (Bool × Str)) (hx : xs = cs.map ckD) (hl : cs.length ≤ 1000) (hk : ∀ acc, keep (S1 ++ [.lst acc]))
    (st : ∀ (b : Bool) (w : Str) (acc : List D), ∃ s2, stT t (ckD (b, w)) (wipeD s vs) = some s2 ∧ (∀ R : D → List O → Prop, R (.bl b) (S1 ++ [.lst acc]) → qe s2 (S1 ++ [.lst acc]) R))
    (q : Q (cs.map fun c => .bl c.1)) : lcV t qYes qe vs s Q xs keep S1 := by
  subst hx
  refine lc_map (fun d => match d with | .tup [.bl b, _] => .bl b | _ => .non) (by rw [List.length_map]; exact ltN hl) hk ?_ ?_
  · intro i x acc hi
    obtain ⟨⟨b, w⟩, hc, rfl⟩ := map_at hi
    obtain ⟨s2, h1, h2⟩ := st b w acc
    exact ⟨s2, h1, trivial, h2⟩
  · rw [List.map_map]
    exact q
end LC

set_option Elab.async false
set_option linter.all false
set_option maxRecDepth 100000
set_option maxHeartbeats 5000000
/-! LD29: tuple * int, one and more. -/
namespace LC
open PySem PySem.Spec
open PyProof.Rows L2
theorem tuple_mul1 (l : Addr) (items : Array Value) (n : Nat) (dd : Option Addr) (sl : Array (Option Value)) (u : Tok) :
    Meets (Builtin.«tuple.__mul__» ⟨[.ref l, .int 1 u], []⟩) (fun _ R s => s.heap.get? l = some { cls := .type "tuple", dict := dd, data := .seq items n, slots := sl } ∧ R (.ok (.ret (Value.ref l))) s) :=
  .of_wp fun prog w A R s h => by
    obtain ⟨hp, g, d, tk, os⟩ := s
    obtain ⟨hl, h⟩ := h
    have f1 := AutoSeq1.idx_int
    have c1 : (items.isEmpty || (1 : Int) == 1) = true := by simp
    wp_walk using wpAny_loadPart' hl
    repeat (first
      | (refine wpAny_ite_false (decide_eq_false (by decide)) ?_; wp_walk using wpAny_loadPart' hl)
      | (refine wpAny_ite_true (decide_eq_true c1) ?_; wp_walk using wpAny_loadPart' hl))
    exact ⟨_, rfl, h⟩
def rRep1 (K : PySem.W.Frag) : R2 := fun x y H Q => ∃ l xs, x = .ref l ∧ y = .int 1 ∧ SqT K H l xs ∧ Q (.ref l) H
section
variable {X : Cx} {B : Bs}
theorem op_rep1 : OpR X (binaryOp .Mult) (rRep1 X.K) := by
  intro pins s σ H x y v u Q I rx ry h
  obtain ⟨l, xs, rfl, rfl, hT, q⟩ := h
  cases rx
  obtain ⟨t, rfl⟩ := ry
  obtain ⟨its, r, ⟨⟨cls, dd, data, sl⟩, ho, hc, n, hd⟩, hs⟩ := I.tuple hT
  simp only at hc hd
  subst hc hd
  refine wpAny_binaryOp_repeat_ref (T := "tuple") (U := "int") (by decide) ⟨_, ho, rfl⟩ (fun s' => typeIs_int s' 1 t) noFill_tuple_mul F.fills_int_mul F.slot_int_rmul repeat_tuple F.slot_int_index.lookup
    (call_meets F.slot_int_rmul (typeIs_int s 1 t) F.entry_int_rmul (F.args_int_rmul_2 _ _) (int_rmul_tuple 1 t l its.toArray n dd sl)
      ⟨ho, rfl, ⟨_, ho, rfl⟩, call_meets F.slot_tuple_mul ⟨_, ho, rfl⟩ F.entry_tuple_mul (F.args_tuple_mul_2 _ _) (tuple_mul1 l its.toArray n dd sl t) ⟨ho, ?_⟩⟩)
  exact ⟨.ref l, _, I, rfl, q⟩
/-- * of ints, of a list and an int, of a tuple and an int -/
def oMulX : QO := fun d e S Q => match d, e with
  | .tup xs, .int j => Need (xs ≠ [] ∧ 1 ≤ j ∧ j ≤ 1000 ∧ xs.length ≤ 1000) (Q (.tup (List.replicate j.toNat xs).flatten) S)
  | d, e => oMul d e S Q
theorem oo_mulX : OpR X (binaryOp .Mult) (upR X.K B oMulX) := OpR.imp ((op_mul.or op_rep).or (op_rep1.or op_repT)) fun x y H Q ⟨φ, S, d, e, Q', hr, r1, r2, q, k⟩ => by
  unfold oMulX at q
  split at q
  · rename_i xs j
    obtain ⟨p, vs, rfl, h1, h2⟩ := id r1
    cases r2
    obtain ⟨⟨hne, h3, h4, h5⟩, q⟩ := q
    by_cases hj : j = 1
    · subst hj
      refine .inr (.inl ⟨p, vs, rfl, rfl, h1, ?_⟩)
      have e : (List.replicate (1 : Int).toNat xs).flatten = xs := by simp
      rw [e] at q
      exact k.here hr r1 q
    · refine .inr (.inr ⟨p, j, vs, rfl, rfl, h1, ?_, by omega, h4, by rw [h2.len]; exact h5, fun p' hp => k.tup hr hp (h2.rep _) q⟩)
      intro z
      have := h2.len
      rw [z] at this
      exact hne (List.length_eq_zero_iff.mp this.symm)
  · unfold oMul at q
    split at q
    · cases r1; cases r2
      exact .inl (.inl ⟨_, _, rfl, rfl, q.c, k.here (d := D.int _) hr rfl q.q⟩)
    · cases r2
      split at q
      · rename_i xs e1
        obtain ⟨a, vs, rfl, h5, h6⟩ := hr.ls e1 r1
        exact .inl (.inr ⟨a, _, vs, rfl, rfl, h5, by have := q.c.1; omega, q.c.2.1, by rw [h6.len]; exact q.c.2.2, fun p hp => k.lst hr hp (h6.rep _) q.q⟩)
      · exact q.elim
    · exact q.elim
end
theorem cutD_from1 {d : D} {r : List D} : cutD (d :: r) (some 1) none = r := by
  unfold cutD
  rw [show (1 : Int) = ((1 : Nat) : Int) from rfl, HT.sIx_nat]
  show ((d :: r).drop (min 1 (d :: r).length)).take ((d :: r).length - min 1 (d :: r).length) = r
  rw [show min 1 (d :: r).length = 1 by simp]
  simp
theorem D.pls_app {n : Nat} {xs ys : List D} (h : D.pls xs n) (g : D.pls ys n) : D.pls (xs ++ ys) n := D.pls_mem.mpr fun d hd => (List.mem_append.mp hd).elim (D.pls_mem.mp h d) (D.pls_mem.mp g d)
theorem D.pls_take {n k : Nat} {xs : List D} (h : D.pls xs n) : D.pls (xs.take k) n := D.pls_mem.mpr fun d hd => D.pls_mem.mp h d (List.mem_of_mem_take hd)
mutual
theorem D.pl.mono : ∀ {d : D} {n m : Nat}, n ≤ m → D.pl d n → D.pl d m
  | .non, _, _, _, h => h
  | .bl _, _, _, _, h => h
  | .int _, _, _, _, h => h
  | .str _, _, _, _, h => h
  | .tup xs, n + 1, m + 1, hm, h => D.pls.mono (ds := xs) (n := n) (m := m) (by omega) h
  | .lst xs, n + 1, m + 1, hm, h => D.pls.mono (ds := xs) (n := n) (m := m) (by omega) h
  | .tup xs, n + 1, 0, hm, h => absurd hm (by omega)
  | .lst xs, n + 1, 0, hm, h => absurd hm (by omega)
theorem D.pls.mono : ∀ {ds : List D} {n m : Nat}, n ≤ m → D.pls ds n → D.pls ds m
  | [], _, _, _, _ => trivial
  | d :: r, _, _, hm, h => ⟨D.pl.mono (d := d) hm h.1, D.pls.mono (ds := r) hm h.2⟩
end
mutual
theorem D.dp.mono : ∀ {d : D} {n m : Nat}, n ≤ m → D.dp d n → D.dp d m
  | .non, _, _, _, h => trivial
  | .bl _, _, _, _, h => trivial
  | .int _, _, _, _, h => trivial
  | .str _, _, _, _, h => trivial
  | .tup xs, n + 1, m + 1, hm, h => ⟨h.1, D.dps.mono (ds := xs) (n := n) (m := m) (by omega) h.2⟩
  | .lst xs, n + 1, m + 1, hm, h => ⟨h.1, D.dps.mono (ds := xs) (n := n) (m := m) (by omega) h.2⟩
  | .tup xs, n + 1, 0, hm, h => absurd hm (by omega)
  | .lst xs, n + 1, 0, hm, h => absurd hm (by omega)
theorem D.dps.mono : ∀ {ds : List D} {n m : Nat}, n ≤ m → D.dps ds n → D.dps ds m
  | [], _, _, _, _ => trivial
  | d :: r, _, _, hm, h => ⟨D.dp.mono (d := d) hm h.1, D.dps.mono (ds := r) hm h.2⟩
end
end LC

set_option Elab.async false
set_option linter.all false
set_option maxRecDepth 100000
set_option maxHeartbeats 5000000
namespace LW
open PySem PySem.Spec
open PyProof.Rows L2 LC
/-! ### places -/
def top (i : Nat) : Stmt := PySem.Challenge.pw_limecoat_k07_no_findings.main.body.getD i (.Pass ⟨0, 0, 0, 0⟩)
abbrev s_need_part : Stmt := top 12
abbrev s_need_coat : Stmt := top 17
abbrev s_need_year : Stmt := top 18
abbrev s_need_depth : Stmt := top 19
abbrev s_need_scrape : Stmt := top 20
abbrev s_need_two : Stmt := top 21
abbrev s_need_cover : Stmt := top 22
abbrev s_need_moved : Stmt := top 23
abbrev s_need_dated : Stmt := top 24
abbrev s_need_sold : Stmt := top 25
abbrev s_need_coats : Stmt := top 26
abbrev s_need_ahead : Stmt := top 27
abbrev s_need_paired : Stmt := top 28
abbrev s_scrape_of : Stmt := top 29
abbrev s_cover_of : Stmt := top 30
abbrev s_moved_of : Stmt := top 31
abbrev s_dated_of : Stmt := top 32
abbrev s_sold_of : Stmt := top 33
abbrev s_ahead_of : Stmt := top 34
abbrev s_paired_of : Stmt := top 35
abbrev s_need_fact : Stmt := top 38
abbrev s__law_open : Stmt := top 40
abbrev s__law_pull : Stmt := top 41
abbrev s__law_num : Stmt := top 42
abbrev s__law_like : Stmt := top 43
abbrev s__law_shades : Stmt := top 44
abbrev s__law_fact : Stmt := top 45
abbrev s__law_bad_shades : Stmt := top 46
abbrev s__law_fact_word : Stmt := top 47
abbrev s__law_named : Stmt := top 48
abbrev s_law : Stmt := top 49
abbrev s_LimeError_init : Stmt := inClass (top 1) 0
abbrev s_BadPart_init : Stmt := inClass (top 2) 0
abbrev s_BadCoat_init : Stmt := inClass (top 3) 0
abbrev s_BadShade_init : Stmt := inClass (top 4) 0
abbrev s_BadYear_init : Stmt := inClass (top 5) 0
abbrev s_BadDepth_init : Stmt := inClass (top 6) 0
abbrev s_Backward_init : Stmt := inClass (top 7) 0
abbrev s_SameOne_init : Stmt := inClass (top 8) 0
abbrev s_BadFact_init : Stmt := inClass (top 9) 0
theorem sc_need_part : FnScope ["part"] ["part"] (defScope s_need_part) := ⟨rfl, rfl, rfl, by decide +kernel, rfl, by decide +kernel, by decide +kernel⟩
theorem sc_need_coat : FnScope ["coat"] ["coat"] (defScope s_need_coat) := ⟨rfl, rfl, rfl, by decide +kernel, rfl, by decide +kernel, by decide +kernel⟩
theorem sc_need_year : FnScope ["year"] ["year"] (defScope s_need_year) := ⟨rfl, rfl, rfl, by decide +kernel, rfl, by decide +kernel, by decide +kernel⟩
theorem sc_need_depth : FnScope ["depth", "least"] ["depth", "least"] (defScope s_need_depth) := ⟨rfl, rfl, rfl, by decide +kernel, rfl, by decide +kernel, by decide +kernel⟩
theorem sc_need_scrape : FnScope ["part", "first", "shades", "shade"] ["part", "first", "shades"] (defScope s_need_scrape) := ⟨rfl, rfl, rfl, by decide +kernel, rfl, by decide +kernel, by decide +kernel⟩
theorem sc_need_two : FnScope ["part", "other"] ["part", "other"] (defScope s_need_two) := ⟨rfl, rfl, rfl, by decide +kernel, rfl, by decide +kernel, by decide +kernel⟩
theorem sc_need_cover : FnScope ["part", "lower", "depth"] ["part", "lower", "depth"] (defScope s_need_cover) := ⟨rfl, rfl, rfl, by decide +kernel, rfl, by decide +kernel, by decide +kernel⟩
theorem sc_need_moved : FnScope ["part", "coats", "lower", "depth"] ["part", "coats", "lower", "depth"] (defScope s_need_moved) := ⟨rfl, rfl, rfl, by decide +kernel, rfl, by decide +kernel, by decide +kernel⟩
theorem sc_need_dated : FnScope ["part", "coat", "first", "last"] ["part", "coat", "first", "last"] (defScope s_need_dated) := ⟨rfl, rfl, rfl, by decide +kernel, rfl, by decide +kernel, by decide +kernel⟩
theorem sc_need_sold : FnScope ["shade", "year"] ["shade", "year"] (defScope s_need_sold) := ⟨rfl, rfl, rfl, by decide +kernel, rfl, by decide +kernel, by decide +kernel⟩
theorem sc_need_coats : FnScope ["part", "coat", "other", "second"] ["part", "coat", "other", "second"] (defScope s_need_coats) := ⟨rfl, rfl, rfl, by decide +kernel, rfl, by decide +kernel, by decide +kernel⟩
theorem sc_need_ahead : FnScope ["part", "coat", "other", "second"] ["part", "coat", "other", "second"] (defScope s_need_ahead) := ⟨rfl, rfl, rfl, by decide +kernel, rfl, by decide +kernel, by decide +kernel⟩
theorem sc_need_paired : FnScope ["part", "coat", "other", "second"] ["part", "coat", "other", "second"] (defScope s_need_paired) := ⟨rfl, rfl, rfl, by decide +kernel, rfl, by decide +kernel, by decide +kernel⟩
theorem sc_scrape_of : FnScope ["fact"] ["fact"] (defScope s_scrape_of) := ⟨rfl, rfl, rfl, by decide +kernel, rfl, by decide +kernel, by decide +kernel⟩
theorem sc_cover_of : FnScope ["fact"] ["fact"] (defScope s_cover_of) := ⟨rfl, rfl, rfl, by decide +kernel, rfl, by decide +kernel, by decide +kernel⟩
theorem sc_moved_of : FnScope ["fact"] ["fact"] (defScope s_moved_of) := ⟨rfl, rfl, rfl, by decide +kernel, rfl, by decide +kernel, by decide +kernel⟩
theorem sc_dated_of : FnScope ["fact"] ["fact"] (defScope s_dated_of) := ⟨rfl, rfl, rfl, by decide +kernel, rfl, by decide +kernel, by decide +kernel⟩
theorem sc_sold_of : FnScope ["fact"] ["fact"] (defScope s_sold_of) := ⟨rfl, rfl, rfl, by decide +kernel, rfl, by decide +kernel, by decide +kernel⟩
theorem sc_ahead_of : FnScope ["fact"] ["fact"] (defScope s_ahead_of) := ⟨rfl, rfl, rfl, by decide +kernel, rfl, by decide +kernel, by decide +kernel⟩
theorem sc_paired_of : FnScope ["fact"] ["fact"] (defScope s_paired_of) := ⟨rfl, rfl, rfl, by decide +kernel, rfl, by decide +kernel, by decide +kernel⟩
theorem sc_need_fact : FnScope ["fact", "look"] ["fact"] (defScope s_need_fact) := ⟨rfl, rfl, rfl, by decide +kernel, rfl, by decide +kernel, by decide +kernel⟩
theorem sc__law_open : FnScope ["_law_script"] ["_law_script"] (defScope s__law_open) := ⟨rfl, rfl, rfl, by decide +kernel, rfl, by decide +kernel, by decide +kernel⟩
theorem sc__law_pull : FnScope ["_law_draw", "_law_many", "_law_cell", "_law_got"] ["_law_draw", "_law_many"] (defScope s__law_pull) := ⟨rfl, rfl, rfl, by decide +kernel, rfl, by decide +kernel, by decide +kernel⟩
theorem sc__law_num : FnScope ["_law_found"] ["_law_found"] (defScope s__law_num) := ⟨rfl, rfl, rfl, by decide +kernel, rfl, by decide +kernel, by decide +kernel⟩
theorem sc__law_like : FnScope ["_law_found", "_law_due", "_law_k"] ["_law_found", "_law_due"] (defScope s__law_like) := ⟨rfl, rfl, rfl, by decide +kernel, rfl, by decide +kernel, by decide +kernel⟩
theorem sc__law_shades : FnScope ["_law_draw", "_law_many", "_law_top", "_law_k"] ["_law_draw", "_law_many"] (defScope s__law_shades) := ⟨rfl, rfl, rfl, by decide +kernel, rfl, by decide +kernel, by decide +kernel⟩
theorem sc__law_fact : FnScope ["_law_draw", "_law_parts", "_law_most", "_law_word", "_law_part", "_law_coat", "_law_first", "_law_other", "_law_second"] ["_law_draw", "_law_parts", "_law_most"] (defScope s__law_fact) := ⟨rfl, rfl, rfl, by decide +kernel, rfl, by decide +kernel, by decide +kernel⟩
theorem sc__law_bad_shades : FnScope ["_law_first", "_law_shades_here", "_law_shade"] ["_law_first", "_law_shades_here"] (defScope s__law_bad_shades) := ⟨rfl, rfl, rfl, by decide +kernel, rfl, by decide +kernel, by decide +kernel⟩
theorem sc__law_fact_word : FnScope ["_law_fact_here", "_law_sizes", "_law_word", "_law_one", "_law_checks", "_law_good", "_law_name"] ["_law_fact_here"] (defScope s__law_fact_word) := ⟨rfl, rfl, rfl, by decide +kernel, rfl, by decide +kernel, by decide +kernel⟩
theorem sc__law_named : FnScope ["_law_fact_here", "e"] ["_law_fact_here"] (defScope s__law_named) := ⟨rfl, rfl, rfl, by decide +kernel, rfl, by decide +kernel, by decide +kernel⟩
theorem sc_law : FnScope ["_law_script", "_law_draw", "_law_turn", "_law_fact_here", "_law_way", "_law_words", "_law_due"] ["_law_script"] (defScope s_law) := ⟨rfl, rfl, rfl, by decide +kernel, rfl, by decide +kernel, by decide +kernel⟩
theorem sc_LimeError_init : FnScope ["self", "called"] ["self", "called"] (defScope s_LimeError_init) := ⟨rfl, rfl, rfl, by decide +kernel, rfl, by decide +kernel, by decide +kernel⟩
theorem sc_BadPart_init : FnScope ["self"] ["self"] (defScope s_BadPart_init) := ⟨rfl, rfl, rfl, by decide +kernel, rfl, by decide +kernel, by decide +kernel⟩
theorem sc_BadCoat_init : FnScope ["self"] ["self"] (defScope s_BadCoat_init) := ⟨rfl, rfl, rfl, by decide +kernel, rfl, by decide +kernel, by decide +kernel⟩
theorem sc_BadShade_init : FnScope ["self"] ["self"] (defScope s_BadShade_init) := ⟨rfl, rfl, rfl, by decide +kernel, rfl, by decide +kernel, by decide +kernel⟩
theorem sc_BadYear_init : FnScope ["self"] ["self"] (defScope s_BadYear_init) := ⟨rfl, rfl, rfl, by decide +kernel, rfl, by decide +kernel, by decide +kernel⟩
theorem sc_BadDepth_init : FnScope ["self"] ["self"] (defScope s_BadDepth_init) := ⟨rfl, rfl, rfl, by decide +kernel, rfl, by decide +kernel, by decide +kernel⟩
theorem sc_Backward_init : FnScope ["self"] ["self"] (defScope s_Backward_init) := ⟨rfl, rfl, rfl, by decide +kernel, rfl, by decide +kernel, by decide +kernel⟩
theorem sc_SameOne_init : FnScope ["self"] ["self"] (defScope s_SameOne_init) := ⟨rfl, rfl, rfl, by decide +kernel, rfl, by decide +kernel, by decide +kernel⟩
theorem sc_BadFact_init : FnScope ["self", "word"] ["self", "word"] (defScope s_BadFact_init) := ⟨rfl, rfl, rfl, by decide +kernel, rfl, by decide +kernel, by decide +kernel⟩
/-- where all stands -/
structure Ad where
  a_need_part : Addr
  d_need_part : FuncData
  a_need_coat : Addr
  d_need_coat : FuncData
  a_need_year : Addr
  d_need_year : FuncData
  a_need_depth : Addr
  d_need_depth : FuncData
  a_need_scrape : Addr
  d_need_scrape : FuncData
  a_need_two : Addr
  d_need_two : FuncData
  a_need_cover : Addr
  d_need_cover : FuncData
  a_need_moved : Addr
  d_need_moved : FuncData
  a_need_dated : Addr
  d_need_dated : FuncData
  a_need_sold : Addr
  d_need_sold : FuncData
  a_need_coats : Addr
  d_need_coats : FuncData
  a_need_ahead : Addr
  d_need_ahead : FuncData
  a_need_paired : Addr
  d_need_paired : FuncData
  a_scrape_of : Addr
  d_scrape_of : FuncData
  a_cover_of : Addr
  d_cover_of : FuncData
  a_moved_of : Addr
  d_moved_of : FuncData
  a_dated_of : Addr
  d_dated_of : FuncData
  a_sold_of : Addr
  d_sold_of : FuncData
  a_ahead_of : Addr
  d_ahead_of : FuncData
  a_paired_of : Addr
  d_paired_of : FuncData
  a_need_fact : Addr
  d_need_fact : FuncData
  a__law_open : Addr
  d__law_open : FuncData
  a__law_pull : Addr
  d__law_pull : FuncData
  a__law_num : Addr
  d__law_num : FuncData
  a__law_like : Addr
  d__law_like : FuncData
  a__law_shades : Addr
  d__law_shades : FuncData
  a__law_fact : Addr
  d__law_fact : FuncData
  a__law_bad_shades : Addr
  d__law_bad_shades : FuncData
  a__law_fact_word : Addr
  d__law_fact_word : FuncData
  a__law_named : Addr
  d__law_named : FuncData
  a_law : Addr
  d_law : FuncData
  a_LimeError_init : Addr
  d_LimeError_init : FuncData
  a_BadPart_init : Addr
  d_BadPart_init : FuncData
  a_BadCoat_init : Addr
  d_BadCoat_init : FuncData
  a_BadShade_init : Addr
  d_BadShade_init : FuncData
  a_BadYear_init : Addr
  d_BadYear_init : FuncData
  a_BadDepth_init : Addr
  d_BadDepth_init : FuncData
  a_Backward_init : Addr
  d_Backward_init : FuncData
  a_SameOne_init : Addr
  d_SameOne_init : FuncData
  a_BadFact_init : Addr
  d_BadFact_init : FuncData
  c_LimeError : Addr
  c_BadPart : Addr
  c_BadCoat : Addr
  c_BadShade : Addr
  c_BadYear : Addr
  c_BadDepth : Addr
  c_Backward : Addr
  c_SameOne : Addr
  c_BadFact : Addr
  v_LOOKS : Addr
  v_THINGS : Addr
  code : Addr
  tab : Addr
abbrev T0of (a : Ad) : List (Addr × Str) := [(a.tab, "law.<locals>." ++ "<lambda>")]
structure Txt (K : PySem.W.Frag) (w : World) (mg : Str → Option Value) (a : Ad) : Prop where
  F_need_part : Fun K "need_part" "need_part" s_need_part a.a_need_part a.d_need_part
  b_need_part : Binds K a.d_need_part ["part"] []
  m_need_part : mg "need_part" = some (.ref a.a_need_part)
  F_need_coat : Fun K "need_coat" "need_coat" s_need_coat a.a_need_coat a.d_need_coat
  b_need_coat : Binds K a.d_need_coat ["coat"] []
  m_need_coat : mg "need_coat" = some (.ref a.a_need_coat)
  F_need_year : Fun K "need_year" "need_year" s_need_year a.a_need_year a.d_need_year
  b_need_year : Binds K a.d_need_year ["year"] []
  m_need_year : mg "need_year" = some (.ref a.a_need_year)
  F_need_depth : L2.FunD K "need_depth" "need_depth" (defArgs s_need_depth) (defBody s_need_depth) (defScope s_need_depth) [V.int 0] [] a.a_need_depth a.d_need_depth
  m_need_depth : mg "need_depth" = some (.ref a.a_need_depth)
  F_need_scrape : Fun K "need_scrape" "need_scrape" s_need_scrape a.a_need_scrape a.d_need_scrape
  b_need_scrape : Binds K a.d_need_scrape ["part", "first", "shades"] []
  m_need_scrape : mg "need_scrape" = some (.ref a.a_need_scrape)
  F_need_two : Fun K "need_two" "need_two" s_need_two a.a_need_two a.d_need_two
  b_need_two : Binds K a.d_need_two ["part", "other"] []
  m_need_two : mg "need_two" = some (.ref a.a_need_two)
  F_need_cover : Fun K "need_cover" "need_cover" s_need_cover a.a_need_cover a.d_need_cover
  b_need_cover : Binds K a.d_need_cover ["part", "lower", "depth"] []
  m_need_cover : mg "need_cover" = some (.ref a.a_need_cover)
  F_need_moved : Fun K "need_moved" "need_moved" s_need_moved a.a_need_moved a.d_need_moved
  b_need_moved : Binds K a.d_need_moved ["part", "coats", "lower", "depth"] []
  m_need_moved : mg "need_moved" = some (.ref a.a_need_moved)
  F_need_dated : Fun K "need_dated" "need_dated" s_need_dated a.a_need_dated a.d_need_dated
  b_need_dated : Binds K a.d_need_dated ["part", "coat", "first", "last"] []
  m_need_dated : mg "need_dated" = some (.ref a.a_need_dated)
  F_need_sold : Fun K "need_sold" "need_sold" s_need_sold a.a_need_sold a.d_need_sold
  b_need_sold : Binds K a.d_need_sold ["shade", "year"] []
  m_need_sold : mg "need_sold" = some (.ref a.a_need_sold)
  F_need_coats : Fun K "need_coats" "need_coats" s_need_coats a.a_need_coats a.d_need_coats
  b_need_coats : Binds K a.d_need_coats ["part", "coat", "other", "second"] []
  m_need_coats : mg "need_coats" = some (.ref a.a_need_coats)
  F_need_ahead : Fun K "need_ahead" "need_ahead" s_need_ahead a.a_need_ahead a.d_need_ahead
  b_need_ahead : Binds K a.d_need_ahead ["part", "coat", "other", "second"] []
  m_need_ahead : mg "need_ahead" = some (.ref a.a_need_ahead)
  F_need_paired : Fun K "need_paired" "need_paired" s_need_paired a.a_need_paired a.d_need_paired
  b_need_paired : Binds K a.d_need_paired ["part", "coat", "other", "second"] []
  m_need_paired : mg "need_paired" = some (.ref a.a_need_paired)
  F_scrape_of : Fun K "scrape_of" "scrape_of" s_scrape_of a.a_scrape_of a.d_scrape_of
  b_scrape_of : Binds K a.d_scrape_of ["fact"] []
  m_scrape_of : mg "scrape_of" = some (.ref a.a_scrape_of)
  F_cover_of : Fun K "cover_of" "cover_of" s_cover_of a.a_cover_of a.d_cover_of
  b_cover_of : Binds K a.d_cover_of ["fact"] []
  m_cover_of : mg "cover_of" = some (.ref a.a_cover_of)
  F_moved_of : Fun K "moved_of" "moved_of" s_moved_of a.a_moved_of a.d_moved_of
  b_moved_of : Binds K a.d_moved_of ["fact"] []
  m_moved_of : mg "moved_of" = some (.ref a.a_moved_of)
  F_dated_of : Fun K "dated_of" "dated_of" s_dated_of a.a_dated_of a.d_dated_of
  b_dated_of : Binds K a.d_dated_of ["fact"] []
  m_dated_of : mg "dated_of" = some (.ref a.a_dated_of)
  F_sold_of : Fun K "sold_of" "sold_of" s_sold_of a.a_sold_of a.d_sold_of
  b_sold_of : Binds K a.d_sold_of ["fact"] []
  m_sold_of : mg "sold_of" = some (.ref a.a_sold_of)
  F_ahead_of : Fun K "ahead_of" "ahead_of" s_ahead_of a.a_ahead_of a.d_ahead_of
  b_ahead_of : Binds K a.d_ahead_of ["fact"] []
  m_ahead_of : mg "ahead_of" = some (.ref a.a_ahead_of)
  F_paired_of : Fun K "paired_of" "paired_of" s_paired_of a.a_paired_of a.d_paired_of
  b_paired_of : Binds K a.d_paired_of ["fact"] []
  m_paired_of : mg "paired_of" = some (.ref a.a_paired_of)
  F_need_fact : Fun K "need_fact" "need_fact" s_need_fact a.a_need_fact a.d_need_fact
  b_need_fact : Binds K a.d_need_fact ["fact"] []
  m_need_fact : mg "need_fact" = some (.ref a.a_need_fact)
  F__law_open : Fun K "_law_open" "_law_open" s__law_open a.a__law_open a.d__law_open
  b__law_open : Binds K a.d__law_open ["_law_script"] []
  m__law_open : mg "_law_open" = some (.ref a.a__law_open)
  F__law_pull : Fun K "_law_pull" "_law_pull" s__law_pull a.a__law_pull a.d__law_pull
  b__law_pull : Binds K a.d__law_pull ["_law_draw", "_law_many"] []
  m__law_pull : mg "_law_pull" = some (.ref a.a__law_pull)
  F__law_num : Fun K "_law_num" "_law_num" s__law_num a.a__law_num a.d__law_num
  b__law_num : Binds K a.d__law_num ["_law_found"] []
  m__law_num : mg "_law_num" = some (.ref a.a__law_num)
  F__law_like : Fun K "_law_like" "_law_like" s__law_like a.a__law_like a.d__law_like
  b__law_like : Binds K a.d__law_like ["_law_found", "_law_due"] []
  m__law_like : mg "_law_like" = some (.ref a.a__law_like)
  F__law_shades : Fun K "_law_shades" "_law_shades" s__law_shades a.a__law_shades a.d__law_shades
  b__law_shades : Binds K a.d__law_shades ["_law_draw", "_law_many"] []
  m__law_shades : mg "_law_shades" = some (.ref a.a__law_shades)
  F__law_fact : Fun K "_law_fact" "_law_fact" s__law_fact a.a__law_fact a.d__law_fact
  b__law_fact : Binds K a.d__law_fact ["_law_draw", "_law_parts", "_law_most"] []
  m__law_fact : mg "_law_fact" = some (.ref a.a__law_fact)
  F__law_bad_shades : Fun K "_law_bad_shades" "_law_bad_shades" s__law_bad_shades a.a__law_bad_shades a.d__law_bad_shades
  b__law_bad_shades : Binds K a.d__law_bad_shades ["_law_first", "_law_shades_here"] []
  m__law_bad_shades : mg "_law_bad_shades" = some (.ref a.a__law_bad_shades)
  F__law_fact_word : Fun K "_law_fact_word" "_law_fact_word" s__law_fact_word a.a__law_fact_word a.d__law_fact_word
  b__law_fact_word : Binds K a.d__law_fact_word ["_law_fact_here"] []
  m__law_fact_word : mg "_law_fact_word" = some (.ref a.a__law_fact_word)
  F__law_named : Fun K "_law_named" "_law_named" s__law_named a.a__law_named a.d__law_named
  b__law_named : Binds K a.d__law_named ["_law_fact_here"] []
  m__law_named : mg "_law_named" = some (.ref a.a__law_named)
  F_law : FunC K "law" "law" s_law a.a_law a.d_law a.code
  b_law : Binds K a.d_law ["_law_script"] []
  m_law : mg "law" = some (.ref a.a_law)
  F_LimeError_init : Fun K "__init__" "LimeError.__init__" s_LimeError_init a.a_LimeError_init a.d_LimeError_init
  b_LimeError_init : Binds K a.d_LimeError_init ["self", "called"] []
  i_LimeError_init : PySem.W.findIn K (.ref a.c_LimeError) "__init__" = some (some (.ref a.a_LimeError_init))
  t_LimeError_init : PySem.W.typeIn K (.ref a.a_LimeError_init) = some (.type "function")
  F_BadPart_init : Fun K "__init__" "BadPart.__init__" s_BadPart_init a.a_BadPart_init a.d_BadPart_init
  b_BadPart_init : Binds K a.d_BadPart_init ["self"] []
  i_BadPart_init : PySem.W.findIn K (.ref a.c_BadPart) "__init__" = some (some (.ref a.a_BadPart_init))
  t_BadPart_init : PySem.W.typeIn K (.ref a.a_BadPart_init) = some (.type "function")
  F_BadCoat_init : Fun K "__init__" "BadCoat.__init__" s_BadCoat_init a.a_BadCoat_init a.d_BadCoat_init
  b_BadCoat_init : Binds K a.d_BadCoat_init ["self"] []
  i_BadCoat_init : PySem.W.findIn K (.ref a.c_BadCoat) "__init__" = some (some (.ref a.a_BadCoat_init))
  t_BadCoat_init : PySem.W.typeIn K (.ref a.a_BadCoat_init) = some (.type "function")
  F_BadShade_init : Fun K "__init__" "BadShade.__init__" s_BadShade_init a.a_BadShade_init a.d_BadShade_init
  b_BadShade_init : Binds K a.d_BadShade_init ["self"] []
  i_BadShade_init : PySem.W.findIn K (.ref a.c_BadShade) "__init__" = some (some (.ref a.a_BadShade_init))
  t_BadShade_init : PySem.W.typeIn K (.ref a.a_BadShade_init) = some (.type "function")
  F_BadYear_init : Fun K "__init__" "BadYear.__init__" s_BadYear_init a.a_BadYear_init a.d_BadYear_init
  b_BadYear_init : Binds K a.d_BadYear_init ["self"] []
  i_BadYear_init : PySem.W.findIn K (.ref a.c_BadYear) "__init__" = some (some (.ref a.a_BadYear_init))
  t_BadYear_init : PySem.W.typeIn K (.ref a.a_BadYear_init) = some (.type "function")
  F_BadDepth_init : Fun K "__init__" "BadDepth.__init__" s_BadDepth_init a.a_BadDepth_init a.d_BadDepth_init
  b_BadDepth_init : Binds K a.d_BadDepth_init ["self"] []
  i_BadDepth_init : PySem.W.findIn K (.ref a.c_BadDepth) "__init__" = some (some (.ref a.a_BadDepth_init))
  t_BadDepth_init : PySem.W.typeIn K (.ref a.a_BadDepth_init) = some (.type "function")
  F_Backward_init : Fun K "__init__" "Backward.__init__" s_Backward_init a.a_Backward_init a.d_Backward_init
  b_Backward_init : Binds K a.d_Backward_init ["self"] []
  i_Backward_init : PySem.W.findIn K (.ref a.c_Backward) "__init__" = some (some (.ref a.a_Backward_init))
  t_Backward_init : PySem.W.typeIn K (.ref a.a_Backward_init) = some (.type "function")
  F_SameOne_init : Fun K "__init__" "SameOne.__init__" s_SameOne_init a.a_SameOne_init a.d_SameOne_init
  b_SameOne_init : Binds K a.d_SameOne_init ["self"] []
  i_SameOne_init : PySem.W.findIn K (.ref a.c_SameOne) "__init__" = some (some (.ref a.a_SameOne_init))
  t_SameOne_init : PySem.W.typeIn K (.ref a.a_SameOne_init) = some (.type "function")
  F_BadFact_init : Fun K "__init__" "BadFact.__init__" s_BadFact_init a.a_BadFact_init a.d_BadFact_init
  b_BadFact_init : Binds K a.d_BadFact_init ["self", "word"] []
  i_BadFact_init : PySem.W.findIn K (.ref a.c_BadFact) "__init__" = some (some (.ref a.a_BadFact_init))
  t_BadFact_init : PySem.W.typeIn K (.ref a.a_BadFact_init) = some (.type "function")
  k_LimeError : mg "LimeError" = some (.ref a.c_LimeError)
  k_BadPart : mg "BadPart" = some (.ref a.c_BadPart)
  k_BadCoat : mg "BadCoat" = some (.ref a.c_BadCoat)
  k_BadShade : mg "BadShade" = some (.ref a.c_BadShade)
  k_BadYear : mg "BadYear" = some (.ref a.c_BadYear)
  k_BadDepth : mg "BadDepth" = some (.ref a.c_BadDepth)
  k_Backward : mg "Backward" = some (.ref a.c_Backward)
  k_SameOne : mg "SameOne" = some (.ref a.c_SameOne)
  k_BadFact : mg "BadFact" = some (.ref a.c_BadFact)
  xf_BadPart : XfC K a.c_BadPart
  nc_BadPart : PySem.W.findIn K (.ref a.c_BadPart) "called" = some none
  ex_BadPart : PySem.W.exmOne K (.ref a.c_BadPart) (.ref a.c_LimeError) = some true
  es_BadPart : PySem.W.exmOne K (.ref a.c_BadPart) (.ref a.c_BadPart) = some true
  xf_BadCoat : XfC K a.c_BadCoat
  nc_BadCoat : PySem.W.findIn K (.ref a.c_BadCoat) "called" = some none
  ex_BadCoat : PySem.W.exmOne K (.ref a.c_BadCoat) (.ref a.c_LimeError) = some true
  es_BadCoat : PySem.W.exmOne K (.ref a.c_BadCoat) (.ref a.c_BadCoat) = some true
  xf_BadShade : XfC K a.c_BadShade
  nc_BadShade : PySem.W.findIn K (.ref a.c_BadShade) "called" = some none
  ex_BadShade : PySem.W.exmOne K (.ref a.c_BadShade) (.ref a.c_LimeError) = some true
  es_BadShade : PySem.W.exmOne K (.ref a.c_BadShade) (.ref a.c_BadShade) = some true
  xf_BadYear : XfC K a.c_BadYear
  nc_BadYear : PySem.W.findIn K (.ref a.c_BadYear) "called" = some none
  ex_BadYear : PySem.W.exmOne K (.ref a.c_BadYear) (.ref a.c_LimeError) = some true
  es_BadYear : PySem.W.exmOne K (.ref a.c_BadYear) (.ref a.c_BadYear) = some true
  xf_BadDepth : XfC K a.c_BadDepth
  nc_BadDepth : PySem.W.findIn K (.ref a.c_BadDepth) "called" = some none
  ex_BadDepth : PySem.W.exmOne K (.ref a.c_BadDepth) (.ref a.c_LimeError) = some true
  es_BadDepth : PySem.W.exmOne K (.ref a.c_BadDepth) (.ref a.c_BadDepth) = some true
  xf_Backward : XfC K a.c_Backward
  nc_Backward : PySem.W.findIn K (.ref a.c_Backward) "called" = some none
  ex_Backward : PySem.W.exmOne K (.ref a.c_Backward) (.ref a.c_LimeError) = some true
  es_Backward : PySem.W.exmOne K (.ref a.c_Backward) (.ref a.c_Backward) = some true
  xf_SameOne : XfC K a.c_SameOne
  nc_SameOne : PySem.W.findIn K (.ref a.c_SameOne) "called" = some none
  ex_SameOne : PySem.W.exmOne K (.ref a.c_SameOne) (.ref a.c_LimeError) = some true
  es_SameOne : PySem.W.exmOne K (.ref a.c_SameOne) (.ref a.c_SameOne) = some true
  xf_BadFact : XfC K a.c_BadFact
  nc_BadFact : PySem.W.findIn K (.ref a.c_BadFact) "called" = some none
  ex_BadFact : PySem.W.exmOne K (.ref a.c_BadFact) (.ref a.c_LimeError) = some true
  es_BadFact : PySem.W.exmOne K (.ref a.c_BadFact) (.ref a.c_BadFact) = some true
  nf_BadFact_word : PySem.W.findIn K (.ref a.c_BadFact) "word" = some none
  n_KeyError : mg "KeyError" = none
  n_ValueError : mg "ValueError" = none
  n_all : mg "all" = none
  n_bool : mg "bool" = none
  n_int : mg "int" = none
  n_isinstance : mg "isinstance" = none
  n_len : mg "len" = none
  n_list : mg "list" = none
  n_min : mg "min" = none
  n_range : mg "range" = none
  n_str : mg "str" = none
  n_tuple : mg "tuple" = none
  gm_LOOKS : mg "LOOKS" = some (.ref a.v_LOOKS)
  kd_LOOKS : DctK K w.params a.v_LOOKS [("scrape", .adr a.a_scrape_of), ("cover", .adr a.a_cover_of), ("moved", .adr a.a_moved_of), ("year", .adr a.a_dated_of), ("sold", .adr a.a_sold_of), ("ahead", .adr a.a_ahead_of), ("same", .adr a.a_paired_of), ("apart", .adr a.a_paired_of)]
  gm_THINGS : mg "THINGS" = some (.ref a.v_THINGS)
  kd_THINGS : DctK K w.params a.v_THINGS [("scrape", .int 4), ("cover", .int 4), ("moved", .int 5), ("year", .int 5), ("sold", .int 3), ("ahead", .int 5), ("same", .int 5), ("apart", .int 5)]
  kb_need_dated_2_first_last : KbA K a.d_need_dated ["part", "coat", "first", "last"] 2 ["first", "last"]
  kb_need_depth_1_least : KbA K a.d_need_depth ["depth", "least"] 1 ["least"]
  kb_need_sold_0_shade_year : KbA K a.d_need_sold ["shade", "year"] 0 ["shade", "year"]
  g_PARTS : GlD K mg "PARTS" (.tup [.int 1, .int 2, .int 3, .int 4])
  g_MOST_COATS : GlD K mg "MOST_COATS" (.int 5)
  g_LAST_YEAR : GlD K mg "LAST_YEAR" (.int 999)
  g_LAST_SHADE : GlD K mg "LAST_SHADE" (.int 6)
/-- the classes by what they say -/
def ocA (a : Ad) : Oc → Addr
  | .fine => a.c_LimeError
  | .part => a.c_BadPart
  | .coat => a.c_BadCoat
  | .shade => a.c_BadShade
  | .year => a.c_BadYear
  | .depth => a.c_BadDepth
  | .backward => a.c_Backward
  | .same => a.c_SameOne
  | .fact _ => a.c_BadFact
section
variable {P : Program} {w : World} {K : PySem.W.Frag} {mg : Str → Option Value} {base : Heap} {a : Ad}
def sp_need_part (a : Ad) : SpP := fun ds Q E => ∃ p : Int, ds = [.int p] ∧ (ocPart p).to (ocA a) Q E
theorem ok_need_part (T : Txt K w mg a) (Z_BadPart : XcD P w K mg base "BadPart" a.c_BadPart a.a_BadPart_init a.d_BadPart_init ["self"] 0 (fl0 "badpart") (fd0 "badpart") [] []) : Fx P w K mg base 4 a.a_need_part a.d_need_part "need_part" ["part"] (lp (sp_need_part a)) := by
  refine ⟨fn_P T.F_need_part sc_need_part (by (intro ds Q E h; first | (obtain ⟨h, hr⟩ := h; subst h; (try (obtain ⟨_, hr⟩ := hr)); (try (obtain ⟨_, hr⟩ := hr)); (try (obtain ⟨_, hr⟩ := hr)); (try (obtain ⟨_, hr⟩ := hr)); (all_goals exact ⟨rfl, by (repeat' (first | trivial | exact D.lts_ints _ | exact D.lts_strs _ | exact Fc.lt | exact fcs_lt _ | exact nfs_lt _ | exact nf_lt | exact D.pl.lt (by assumption) | exact D.dp.lt (by assumption) | exact D.dps.lt (by assumption) | exact D.pls.lt (by assumption) | assumption | refine ⟨?_, ?_⟩))⟩)) | (obtain ⟨_, h, hr⟩ := h; subst h; (try (obtain ⟨_, hr⟩ := hr)); (try (obtain ⟨_, hr⟩ := hr)); (try (obtain ⟨_, hr⟩ := hr)); (try (obtain ⟨_, hr⟩ := hr)); (all_goals exact ⟨rfl, by (repeat' (first | trivial | exact D.lts_ints _ | exact D.lts_strs _ | exact Fc.lt | exact fcs_lt _ | exact nfs_lt _ | exact nf_lt | exact D.pl.lt (by assumption) | exact D.dp.lt (by assumption) | exact D.dps.lt (by assumption) | exact D.pls.lt (by assumption) | assumption | refine ⟨?_, ?_⟩))⟩)) | (obtain ⟨_, _, h, hr⟩ := h; subst h; (try (obtain ⟨_, hr⟩ := hr)); (try (obtain ⟨_, hr⟩ := hr)); (try (obtain ⟨_, hr⟩ := hr)); (try (obtain ⟨_, hr⟩ := hr)); (all_goals exact ⟨rfl, by (repeat' (first | trivial | exact D.lts_ints _ | exact D.lts_strs _ | exact Fc.lt | exact fcs_lt _ | exact nfs_lt _ | exact nf_lt | exact D.pl.lt (by assumption) | exact D.dp.lt (by assumption) | exact D.dps.lt (by assumption) | exact D.pls.lt (by assumption) | assumption | refine ⟨?_, ?_⟩))⟩)) | (obtain ⟨_, _, _, h, hr⟩ := h; subst h; (try (obtain ⟨_, hr⟩ := hr)); (try (obtain ⟨_, hr⟩ := hr)); (try (obtain ⟨_, hr⟩ := hr)); (try (obtain ⟨_, hr⟩ := hr)); (all_goals exact ⟨rfl, by (repeat' (first | trivial | exact D.lts_ints _ | exact D.lts_strs _ | exact Fc.lt | exact fcs_lt _ | exact nfs_lt _ | exact nf_lt | exact D.pl.lt (by assumption) | exact D.dp.lt (by assumption) | exact D.dps.lt (by assumption) | exact D.pls.lt (by assumption) | assumption | refine ⟨?_, ?_⟩))⟩)) | (obtain ⟨_, _, _, _, h, hr⟩ := h; subst h; (try (obtain ⟨_, hr⟩ := hr)); (try (obtain ⟨_, hr⟩ := hr)); (try (obtain ⟨_, hr⟩ := hr)); (try (obtain ⟨_, hr⟩ := hr)); (all_goals exact ⟨rfl, by (repeat' (first | trivial | exact D.lts_ints _ | exact D.lts_strs _ | exact Fc.lt | exact fcs_lt _ | exact nfs_lt _ | exact nf_lt | exact D.pl.lt (by assumption) | exact D.dp.lt (by assumption) | exact D.dps.lt (by assumption) | exact D.pls.lt (by assumption) | assumption | refine ⟨?_, ?_⟩))⟩)) | (obtain ⟨_, _, _, _, _, h, hr⟩ := h; subst h; (try (obtain ⟨_, hr⟩ := hr)); (try (obtain ⟨_, hr⟩ := hr)); (try (obtain ⟨_, hr⟩ := hr)); (try (obtain ⟨_, hr⟩ := hr)); (all_goals exact ⟨rfl, by (repeat' (first | trivial | exact D.lts_ints _ | exact D.lts_strs _ | exact Fc.lt | exact fcs_lt _ | exact nfs_lt _ | exact nf_lt | exact D.pl.lt (by assumption) | exact D.dp.lt (by assumption) | exact D.dps.lt (by assumption) | exact D.pls.lt (by assumption) | assumption | refine ⟨?_, ?_⟩))⟩)) | (obtain ⟨h, _⟩ := h; exact (by simp at h)))) fun cdv A outer s H E φ T0 W' room wl => ⟨_, (lss_consW [0] (ls_if (lt_cmp oo_notin (lv 0) (T.g_PARTS.le rfl) (by rfl)) (lss_cons (ls_rz0 Z_BadPart rfl (room.mono (by decide)) (takes_of rfl rfl rfl rfl) wl)
    lss_nil) lss_nil)
    lss_nil), fun ds S R X n h hW => ?_⟩, T.m_need_part, T.F_need_part.kp, T.b_need_part⟩
  obtain ⟨Q, E, h, rfl, rfl, rfl, rfl⟩ := h
  subst hW
  obtain ⟨p, rfl, h⟩ := h
  conv => whnf
  repeat (refine Need.mk ?_ ?_; (focus (first | trivial | rfl | assumption | (exact Nat.le_trans (by assumption) le10) | (exact Nat.lt_of_le_of_lt (by assumption) lt10) | (show (0 : Int) < _; first | decide | omega) | (show (0 : Int) ≤ _; first | decide | omega) | (exact .inl ⟨by omega, by omega⟩) | (exact .inr ⟨by decide, by decide⟩) | (refine ⟨?_, ?_⟩ <;> first | rfl | decide | omega) | (refine ⟨?_, ?_, ?_⟩ <;> first | rfl | decide | omega) | (exact ltN (Nat.le_of_ble_eq_true rfl)) | (exact leN (Nat.le_of_ble_eq_true rfl)))); (conv => whnf))
  by_cases hp : 1 ≤ p ∧ p ≤ 4
  · refine lifF (by show (!([D.int 1, D.int 2, D.int 3, D.int 4].any fun y => y.feq (.int p))) = false; rw [any4, decide_eq_true hp]; rfl) ?_
    conv => whnf
    repeat (refine Need.mk ?_ ?_; (focus (first | trivial | rfl | assumption | (exact Nat.le_trans (by assumption) le10) | (exact Nat.lt_of_le_of_lt (by assumption) lt10) | (show (0 : Int) < _; first | decide | omega) | (show (0 : Int) ≤ _; first | decide | omega) | (exact .inl ⟨by omega, by omega⟩) | (exact .inr ⟨by decide, by decide⟩) | (refine ⟨?_, ?_⟩ <;> first | rfl | decide | omega) | (refine ⟨?_, ?_, ?_⟩ <;> first | rfl | decide | omega) | (exact ltN (Nat.le_of_ble_eq_true rfl)) | (exact leN (Nat.le_of_ble_eq_true rfl)))); (conv => whnf))
    unfold ocPart at h
    rw [ocIf_pos hp] at h
    exact Rp (d := .non) h
  · refine lifT (by show (!([D.int 1, D.int 2, D.int 3, D.int 4].any fun y => y.feq (.int p))) = true; rw [any4, decide_eq_false hp]; rfl) ?_
    conv => whnf
    repeat (refine Need.mk ?_ ?_; (focus (first | trivial | rfl | assumption | (exact Nat.le_trans (by assumption) le10) | (exact Nat.lt_of_le_of_lt (by assumption) lt10) | (show (0 : Int) < _; first | decide | omega) | (show (0 : Int) ≤ _; first | decide | omega) | (exact .inl ⟨by omega, by omega⟩) | (exact .inr ⟨by decide, by decide⟩) | (refine ⟨?_, ?_⟩ <;> first | rfl | decide | omega) | (refine ⟨?_, ?_, ?_⟩ <;> first | rfl | decide | omega) | (exact ltN (Nat.le_of_ble_eq_true rfl)) | (exact leN (Nat.le_of_ble_eq_true rfl)))); (conv => whnf))
    unfold ocPart at h
    rw [ocIf_neg hp] at h
    exact Xp (fs := [("called", .str "badpart")]) h
def sp_need_coat (a : Ad) : SpP := fun ds Q E => ∃ p : Int, ds = [.int p] ∧ (ocCoat p).to (ocA a) Q E
theorem ok_need_coat (T : Txt K w mg a) (Z_BadCoat : XcD P w K mg base "BadCoat" a.c_BadCoat a.a_BadCoat_init a.d_BadCoat_init ["self"] 0 (fl0 "badcoat") (fd0 "badcoat") [] []) : Fx P w K mg base 4 a.a_need_coat a.d_need_coat "need_coat" ["coat"] (lp (sp_need_coat a)) := by
  refine ⟨fn_P T.F_need_coat sc_need_coat (by (intro ds Q E h; first | (obtain ⟨h, hr⟩ := h; subst h; (try (obtain ⟨_, hr⟩ := hr)); (try (obtain ⟨_, hr⟩ := hr)); (try (obtain ⟨_, hr⟩ := hr)); (try (obtain ⟨_, hr⟩ := hr)); (all_goals exact ⟨rfl, by (repeat' (first | trivial | exact D.lts_ints _ | exact D.lts_strs _ | exact Fc.lt | exact fcs_lt _ | exact nfs_lt _ | exact nf_lt | exact D.pl.lt (by assumption) | exact D.dp.lt (by assumption) | exact D.dps.lt (by assumption) | exact D.pls.lt (by assumption) | assumption | refine ⟨?_, ?_⟩))⟩)) | (obtain ⟨_, h, hr⟩ := h; subst h; (try (obtain ⟨_, hr⟩ := hr)); (try (obtain ⟨_, hr⟩ := hr)); (try (obtain ⟨_, hr⟩ := hr)); (try (obtain ⟨_, hr⟩ := hr)); (all_goals exact ⟨rfl, by (repeat' (first | trivial | exact D.lts_ints _ | exact D.lts_strs _ | exact Fc.lt | exact fcs_lt _ | exact nfs_lt _ | exact nf_lt | exact D.pl.lt (by assumption) | exact D.dp.lt (by assumption) | exact D.dps.lt (by assumption) | exact D.pls.lt (by assumption) | assumption | refine ⟨?_, ?_⟩))⟩)) | (obtain ⟨_, _, h, hr⟩ := h; subst h; (try (obtain ⟨_, hr⟩ := hr)); (try (obtain ⟨_, hr⟩ := hr)); (try (obtain ⟨_, hr⟩ := hr)); (try (obtain ⟨_, hr⟩ := hr)); (all_goals exact ⟨rfl, by (repeat' (first | trivial | exact D.lts_ints _ | exact D.lts_strs _ | exact Fc.lt | exact fcs_lt _ | exact nfs_lt _ | exact nf_lt | exact D.pl.lt (by assumption) | exact D.dp.lt (by assumption) | exact D.dps.lt (by assumption) | exact D.pls.lt (by assumption) | assumption | refine ⟨?_, ?_⟩))⟩)) | (obtain ⟨_, _, _, h, hr⟩ := h; subst h; (try (obtain ⟨_, hr⟩ := hr)); (try (obtain ⟨_, hr⟩ := hr)); (try (obtain ⟨_, hr⟩ := hr)); (try (obtain ⟨_, hr⟩ := hr)); (all_goals exact ⟨rfl, by (repeat' (first | trivial | exact D.lts_ints _ | exact D.lts_strs _ | exact Fc.lt | exact fcs_lt _ | exact nfs_lt _ | exact nf_lt | exact D.pl.lt (by assumption) | exact D.dp.lt (by assumption) | exact D.dps.lt (by assumption) | exact D.pls.lt (by assumption) | assumption | refine ⟨?_, ?_⟩))⟩)) | (obtain ⟨_, _, _, _, h, hr⟩ := h; subst h; (try (obtain ⟨_, hr⟩ := hr)); (try (obtain ⟨_, hr⟩ := hr)); (try (obtain ⟨_, hr⟩ := hr)); (try (obtain ⟨_, hr⟩ := hr)); (all_goals exact ⟨rfl, by (repeat' (first | trivial | exact D.lts_ints _ | exact D.lts_strs _ | exact Fc.lt | exact fcs_lt _ | exact nfs_lt _ | exact nf_lt | exact D.pl.lt (by assumption) | exact D.dp.lt (by assumption) | exact D.dps.lt (by assumption) | exact D.pls.lt (by assumption) | assumption | refine ⟨?_, ?_⟩))⟩)) | (obtain ⟨_, _, _, _, _, h, hr⟩ := h; subst h; (try (obtain ⟨_, hr⟩ := hr)); (try (obtain ⟨_, hr⟩ := hr)); (try (obtain ⟨_, hr⟩ := hr)); (try (obtain ⟨_, hr⟩ := hr)); (all_goals exact ⟨rfl, by (repeat' (first | trivial | exact D.lts_ints _ | exact D.lts_strs _ | exact Fc.lt | exact fcs_lt _ | exact nfs_lt _ | exact nf_lt | exact D.pl.lt (by assumption) | exact D.dp.lt (by assumption) | exact D.dps.lt (by assumption) | exact D.pls.lt (by assumption) | assumption | refine ⟨?_, ?_⟩))⟩)) | (obtain ⟨h, _⟩ := h; exact (by simp at h)))) fun cdv A outer s H E φ T0 W' room wl => ⟨_, (lss_consW [0] (ls_if (LW.t (lw_or (lt_cmp oo_lt (lv 0) le_int (by rfl)) (lw_or1 (lt_cmp oo_ge (lv 0) (T.g_MOST_COATS.le rfl) (by rfl))))) (lss_cons (ls_rz0 Z_BadCoat rfl (room.mono (by decide)) (takes_of rfl rfl rfl rfl) wl)
    lss_nil) lss_nil)
    lss_nil), fun ds S R X n h hW => ?_⟩, T.m_need_coat, T.F_need_coat.kp, T.b_need_coat⟩
  obtain ⟨Q, E, h, rfl, rfl, rfl, rfl⟩ := h
  subst hW
  obtain ⟨p, rfl, h⟩ := h
  unfold ocCoat at h
  conv => whnf
  repeat (refine Need.mk ?_ ?_; (focus (first | trivial | rfl | assumption | (exact Nat.le_trans (by assumption) le10) | (exact Nat.lt_of_le_of_lt (by assumption) lt10) | (show (0 : Int) < _; first | decide | omega) | (show (0 : Int) ≤ _; first | decide | omega) | (exact .inl ⟨by omega, by omega⟩) | (exact .inr ⟨by decide, by decide⟩) | (refine ⟨?_, ?_⟩ <;> first | rfl | decide | omega) | (refine ⟨?_, ?_, ?_⟩ <;> first | rfl | decide | omega) | (exact ltN (Nat.le_of_ble_eq_true rfl)) | (exact leN (Nat.le_of_ble_eq_true rfl)))); (conv => whnf))
  refine brd (fun hc => ?_) (fun hc => ?_)
  · have hc : p < 0 := hc
    conv => whnf
    repeat (refine Need.mk ?_ ?_; (focus (first | trivial | rfl | assumption | (exact Nat.le_trans (by assumption) le10) | (exact Nat.lt_of_le_of_lt (by assumption) lt10) | (show (0 : Int) < _; first | decide | omega) | (show (0 : Int) ≤ _; first | decide | omega) | (exact .inl ⟨by omega, by omega⟩) | (exact .inr ⟨by decide, by decide⟩) | (refine ⟨?_, ?_⟩ <;> first | rfl | decide | omega) | (refine ⟨?_, ?_, ?_⟩ <;> first | rfl | decide | omega) | (exact ltN (Nat.le_of_ble_eq_true rfl)) | (exact leN (Nat.le_of_ble_eq_true rfl)))); (conv => whnf))
    rw [ocIf_neg (by omega)] at h
    exact Xp (fs := [("called", .str "badcoat")]) h
  · have hc : ¬ p < 0 := hc
    conv => whnf
    repeat (refine Need.mk ?_ ?_; (focus (first | trivial | rfl | assumption | (exact Nat.le_trans (by assumption) le10) | (exact Nat.lt_of_le_of_lt (by assumption) lt10) | (show (0 : Int) < _; first | decide | omega) | (show (0 : Int) ≤ _; first | decide | omega) | (exact .inl ⟨by omega, by omega⟩) | (exact .inr ⟨by decide, by decide⟩) | (refine ⟨?_, ?_⟩ <;> first | rfl | decide | omega) | (refine ⟨?_, ?_, ?_⟩ <;> first | rfl | decide | omega) | (exact ltN (Nat.le_of_ble_eq_true rfl)) | (exact leN (Nat.le_of_ble_eq_true rfl)))); (conv => whnf))
    refine brd (fun hd => ?_) (fun hd => ?_)
    · have hd : (5 : Int) ≤ p := hd
      conv => whnf
      repeat (refine Need.mk ?_ ?_; (focus (first | trivial | rfl | assumption | (exact Nat.le_trans (by assumption) le10) | (exact Nat.lt_of_le_of_lt (by assumption) lt10) | (show (0 : Int) < _; first | decide | omega) | (show (0 : Int) ≤ _; first | decide | omega) | (exact .inl ⟨by omega, by omega⟩) | (exact .inr ⟨by decide, by decide⟩) | (refine ⟨?_, ?_⟩ <;> first | rfl | decide | omega) | (refine ⟨?_, ?_, ?_⟩ <;> first | rfl | decide | omega) | (exact ltN (Nat.le_of_ble_eq_true rfl)) | (exact leN (Nat.le_of_ble_eq_true rfl)))); (conv => whnf))
      rw [ocIf_neg (by omega)] at h
      exact Xp (fs := [("called", .str "badcoat")]) h
    · have hd : ¬ (5 : Int) ≤ p := hd
      conv => whnf
      repeat (refine Need.mk ?_ ?_; (focus (first | trivial | rfl | assumption | (exact Nat.le_trans (by assumption) le10) | (exact Nat.lt_of_le_of_lt (by assumption) lt10) | (show (0 : Int) < _; first | decide | omega) | (show (0 : Int) ≤ _; first | decide | omega) | (exact .inl ⟨by omega, by omega⟩) | (exact .inr ⟨by decide, by decide⟩) | (refine ⟨?_, ?_⟩ <;> first | rfl | decide | omega) | (refine ⟨?_, ?_, ?_⟩ <;> first | rfl | decide | omega) | (exact ltN (Nat.le_of_ble_eq_true rfl)) | (exact leN (Nat.le_of_ble_eq_true rfl)))); (conv => whnf))
      rw [ocIf_pos (by omega)] at h
      exact Rp (d := .non) h
def sp_need_year (a : Ad) : SpP := fun ds Q E => ∃ p : Int, ds = [.int p] ∧ (ocYear p).to (ocA a) Q E
theorem ok_need_year (T : Txt K w mg a) (Z_BadYear : XcD P w K mg base "BadYear" a.c_BadYear a.a_BadYear_init a.d_BadYear_init ["self"] 0 (fl0 "badyear") (fd0 "badyear") [] []) : Fx P w K mg base 4 a.a_need_year a.d_need_year "need_year" ["year"] (lp (sp_need_year a)) := by
  refine ⟨fn_P T.F_need_year sc_need_year (by (intro ds Q E h; first | (obtain ⟨h, hr⟩ := h; subst h; (try (obtain ⟨_, hr⟩ := hr)); (try (obtain ⟨_, hr⟩ := hr)); (try (obtain ⟨_, hr⟩ := hr)); (try (obtain ⟨_, hr⟩ := hr)); (all_goals exact ⟨rfl, by (repeat' (first | trivial | exact D.lts_ints _ | exact D.lts_strs _ | exact Fc.lt | exact fcs_lt _ | exact nfs_lt _ | exact nf_lt | exact D.pl.lt (by assumption) | exact D.dp.lt (by assumption) | exact D.dps.lt (by assumption) | exact D.pls.lt (by assumption) | assumption | refine ⟨?_, ?_⟩))⟩)) | (obtain ⟨_, h, hr⟩ := h; subst h; (try (obtain ⟨_, hr⟩ := hr)); (try (obtain ⟨_, hr⟩ := hr)); (try (obtain ⟨_, hr⟩ := hr)); (try (obtain ⟨_, hr⟩ := hr)); (all_goals exact ⟨rfl, by (repeat' (first | trivial | exact D.lts_ints _ | exact D.lts_strs _ | exact Fc.lt | exact fcs_lt _ | exact nfs_lt _ | exact nf_lt | exact D.pl.lt (by assumption) | exact D.dp.lt (by assumption) | exact D.dps.lt (by assumption) | exact D.pls.lt (by assumption) | assumption | refine ⟨?_, ?_⟩))⟩)) | (obtain ⟨_, _, h, hr⟩ := h; subst h; (try (obtain ⟨_, hr⟩ := hr)); (try (obtain ⟨_, hr⟩ := hr)); (try (obtain ⟨_, hr⟩ := hr)); (try (obtain ⟨_, hr⟩ := hr)); (all_goals exact ⟨rfl, by (repeat' (first | trivial | exact D.lts_ints _ | exact D.lts_strs _ | exact Fc.lt | exact fcs_lt _ | exact nfs_lt _ | exact nf_lt | exact D.pl.lt (by assumption) | exact D.dp.lt (by assumption) | exact D.dps.lt (by assumption) | exact D.pls.lt (by assumption) | assumption | refine ⟨?_, ?_⟩))⟩)) | (obtain ⟨_, _, _, h, hr⟩ := h; subst h; (try (obtain ⟨_, hr⟩ := hr)); (try (obtain ⟨_, hr⟩ := hr)); (try (obtain ⟨_, hr⟩ := hr)); (try (obtain ⟨_, hr⟩ := hr)); (all_goals exact ⟨rfl, by (repeat' (first | trivial | exact D.lts_ints _ | exact D.lts_strs _ | exact Fc.lt | exact fcs_lt _ | exact nfs_lt _ | exact nf_lt | exact D.pl.lt (by assumption) | exact D.dp.lt (by assumption) | exact D.dps.lt (by assumption) | exact D.pls.lt (by assumption) | assumption | refine ⟨?_, ?_⟩))⟩)) | (obtain ⟨_, _, _, _, h, hr⟩ := h; subst h; (try (obtain ⟨_, hr⟩ := hr)); (try (obtain ⟨_, hr⟩ := hr)); (try (obtain ⟨_, hr⟩ := hr)); (try (obtain ⟨_, hr⟩ := hr)); (all_goals exact ⟨rfl, by (repeat' (first | trivial | exact D.lts_ints _ | exact D.lts_strs _ | exact Fc.lt | exact fcs_lt _ | exact nfs_lt _ | exact nf_lt | exact D.pl.lt (by assumption) | exact D.dp.lt (by assumption) | exact D.dps.lt (by assumption) | exact D.pls.lt (by assumption) | assumption | refine ⟨?_, ?_⟩))⟩)) | (obtain ⟨_, _, _, _, _, h, hr⟩ := h; subst h; (try (obtain ⟨_, hr⟩ := hr)); (try (obtain ⟨_, hr⟩ := hr)); (try (obtain ⟨_, hr⟩ := hr)); (try (obtain ⟨_, hr⟩ := hr)); (all_goals exact ⟨rfl, by (repeat' (first | trivial | exact D.lts_ints _ | exact D.lts_strs _ | exact Fc.lt | exact fcs_lt _ | exact nfs_lt _ | exact nf_lt | exact D.pl.lt (by assumption) | exact D.dp.lt (by assumption) | exact D.dps.lt (by assumption) | exact D.pls.lt (by assumption) | assumption | refine ⟨?_, ?_⟩))⟩)) | (obtain ⟨h, _⟩ := h; exact (by simp at h)))) fun cdv A outer s H E φ T0 W' room wl => ⟨_, (lss_consW [0] (ls_if (LW.t (lw_or (lt_cmp oo_lt (lv 0) le_int (by rfl)) (lw_or1 (lt_cmp oo_gt (lv 0) (T.g_LAST_YEAR.le rfl) (by rfl))))) (lss_cons (ls_rz0 Z_BadYear rfl (room.mono (by decide)) (takes_of rfl rfl rfl rfl) wl)
    lss_nil) lss_nil)
    lss_nil), fun ds S R X n h hW => ?_⟩, T.m_need_year, T.F_need_year.kp, T.b_need_year⟩
  obtain ⟨Q, E, h, rfl, rfl, rfl, rfl⟩ := h
  subst hW
  obtain ⟨p, rfl, h⟩ := h
  unfold ocYear at h
  conv => whnf
  repeat (refine Need.mk ?_ ?_; (focus (first | trivial | rfl | assumption | (exact Nat.le_trans (by assumption) le10) | (exact Nat.lt_of_le_of_lt (by assumption) lt10) | (show (0 : Int) < _; first | decide | omega) | (show (0 : Int) ≤ _; first | decide | omega) | (exact .inl ⟨by omega, by omega⟩) | (exact .inr ⟨by decide, by decide⟩) | (refine ⟨?_, ?_⟩ <;> first | rfl | decide | omega) | (refine ⟨?_, ?_, ?_⟩ <;> first | rfl | decide | omega) | (exact ltN (Nat.le_of_ble_eq_true rfl)) | (exact leN (Nat.le_of_ble_eq_true rfl)))); (conv => whnf))
  refine brd (fun hc => ?_) (fun hc => ?_)
  · have hc : p < 0 := hc
    conv => whnf
    repeat (refine Need.mk ?_ ?_; (focus (first | trivial | rfl | assumption | (exact Nat.le_trans (by assumption) le10) | (exact Nat.lt_of_le_of_lt (by assumption) lt10) | (show (0 : Int) < _; first | decide | omega) | (show (0 : Int) ≤ _; first | decide | omega) | (exact .inl ⟨by omega, by omega⟩) | (exact .inr ⟨by decide, by decide⟩) | (refine ⟨?_, ?_⟩ <;> first | rfl | decide | omega) | (refine ⟨?_, ?_, ?_⟩ <;> first | rfl | decide | omega) | (exact ltN (Nat.le_of_ble_eq_true rfl)) | (exact leN (Nat.le_of_ble_eq_true rfl)))); (conv => whnf))
    rw [ocIf_neg (by omega)] at h
    exact Xp (fs := [("called", .str "badyear")]) h
  · have hc : ¬ p < 0 := hc
    conv => whnf
    repeat (refine Need.mk ?_ ?_; (focus (first | trivial | rfl | assumption | (exact Nat.le_trans (by assumption) le10) | (exact Nat.lt_of_le_of_lt (by assumption) lt10) | (show (0 : Int) < _; first | decide | omega) | (show (0 : Int) ≤ _; first | decide | omega) | (exact .inl ⟨by omega, by omega⟩) | (exact .inr ⟨by decide, by decide⟩) | (refine ⟨?_, ?_⟩ <;> first | rfl | decide | omega) | (refine ⟨?_, ?_, ?_⟩ <;> first | rfl | decide | omega) | (exact ltN (Nat.le_of_ble_eq_true rfl)) | (exact leN (Nat.le_of_ble_eq_true rfl)))); (conv => whnf))
    refine brd (fun hd => ?_) (fun hd => ?_)
    · have hd : (999 : Int) < p := hd
      conv => whnf
      repeat (refine Need.mk ?_ ?_; (focus (first | trivial | rfl | assumption | (exact Nat.le_trans (by assumption) le10) | (exact Nat.lt_of_le_of_lt (by assumption) lt10) | (show (0 : Int) < _; first | decide | omega) | (show (0 : Int) ≤ _; first | decide | omega) | (exact .inl ⟨by omega, by omega⟩) | (exact .inr ⟨by decide, by decide⟩) | (refine ⟨?_, ?_⟩ <;> first | rfl | decide | omega) | (refine ⟨?_, ?_, ?_⟩ <;> first | rfl | decide | omega) | (exact ltN (Nat.le_of_ble_eq_true rfl)) | (exact leN (Nat.le_of_ble_eq_true rfl)))); (conv => whnf))
      rw [ocIf_neg (by omega)] at h
      exact Xp (fs := [("called", .str "badyear")]) h
    · have hd : ¬ (999 : Int) < p := hd
      conv => whnf
      repeat (refine Need.mk ?_ ?_; (focus (first | trivial | rfl | assumption | (exact Nat.le_trans (by assumption) le10) | (exact Nat.lt_of_le_of_lt (by assumption) lt10) | (show (0 : Int) < _; first | decide | omega) | (show (0 : Int) ≤ _; first | decide | omega) | (exact .inl ⟨by omega, by omega⟩) | (exact .inr ⟨by decide, by decide⟩) | (refine ⟨?_, ?_⟩ <;> first | rfl | decide | omega) | (refine ⟨?_, ?_, ?_⟩ <;> first | rfl | decide | omega) | (exact ltN (Nat.le_of_ble_eq_true rfl)) | (exact leN (Nat.le_of_ble_eq_true rfl)))); (conv => whnf))
      rw [ocIf_pos (by omega)] at h
      exact Rp (d := .non) h
def sp_need_depth (a : Ad) : SpP := fun ds Q E => ∃ p l : Int, ds = [.int p, .int l] ∧ (ocDepth p l).to (ocA a) Q E
theorem ok_need_depth (T : Txt K w mg a) (Z_BadDepth : XcD P w K mg base "BadDepth" a.c_BadDepth a.a_BadDepth_init a.d_BadDepth_init ["self"] 0 (fl0 "baddepth") (fd0 "baddepth") [] []) : FxD P w K mg base 4 a.a_need_depth a.d_need_depth "need_depth" ["depth", "least"] (lp (sp_need_depth a)) [V.int 0] [D.int 0] := by
  refine ⟨fn_PD T.F_need_depth sc_need_depth (by (intro ds Q E h; first | (obtain ⟨h, hr⟩ := h; subst h; (try (obtain ⟨_, hr⟩ := hr)); (try (obtain ⟨_, hr⟩ := hr)); (try (obtain ⟨_, hr⟩ := hr)); (try (obtain ⟨_, hr⟩ := hr)); (all_goals exact ⟨rfl, by (repeat' (first | trivial | exact D.lts_ints _ | exact D.lts_strs _ | exact Fc.lt | exact fcs_lt _ | exact nfs_lt _ | exact nf_lt | exact D.pl.lt (by assumption) | exact D.dp.lt (by assumption) | exact D.dps.lt (by assumption) | exact D.pls.lt (by assumption) | assumption | refine ⟨?_, ?_⟩))⟩)) | (obtain ⟨_, h, hr⟩ := h; subst h; (try (obtain ⟨_, hr⟩ := hr)); (try (obtain ⟨_, hr⟩ := hr)); (try (obtain ⟨_, hr⟩ := hr)); (try (obtain ⟨_, hr⟩ := hr)); (all_goals exact ⟨rfl, by (repeat' (first | trivial | exact D.lts_ints _ | exact D.lts_strs _ | exact Fc.lt | exact fcs_lt _ | exact nfs_lt _ | exact nf_lt | exact D.pl.lt (by assumption) | exact D.dp.lt (by assumption) | exact D.dps.lt (by assumption) | exact D.pls.lt (by assumption) | assumption | refine ⟨?_, ?_⟩))⟩)) | (obtain ⟨_, _, h, hr⟩ := h; subst h; (try (obtain ⟨_, hr⟩ := hr)); (try (obtain ⟨_, hr⟩ := hr)); (try (obtain ⟨_, hr⟩ := hr)); (try (obtain ⟨_, hr⟩ := hr)); (all_goals exact ⟨rfl, by (repeat' (first | trivial | exact D.lts_ints _ | exact D.lts_strs _ | exact Fc.lt | exact fcs_lt _ | exact nfs_lt _ | exact nf_lt | exact D.pl.lt (by assumption) | exact D.dp.lt (by assumption) | exact D.dps.lt (by assumption) | exact D.pls.lt (by assumption) | assumption | refine ⟨?_, ?_⟩))⟩)) | (obtain ⟨_, _, _, h, hr⟩ := h; subst h; (try (obtain ⟨_, hr⟩ := hr)); (try (obtain ⟨_, hr⟩ := hr)); (try (obtain ⟨_, hr⟩ := hr)); (try (obtain ⟨_, hr⟩ := hr)); (all_goals exact ⟨rfl, by (repeat' (first | trivial | exact D.lts_ints _ | exact D.lts_strs _ | exact Fc.lt | exact fcs_lt _ | exact nfs_lt _ | exact nf_lt | exact D.pl.lt (by assumption) | exact D.dp.lt (by assumption) | exact D.dps.lt (by assumption) | exact D.pls.lt (by assumption) | assumption | refine ⟨?_, ?_⟩))⟩)) | (obtain ⟨_, _, _, _, h, hr⟩ := h; subst h; (try (obtain ⟨_, hr⟩ := hr)); (try (obtain ⟨_, hr⟩ := hr)); (try (obtain ⟨_, hr⟩ := hr)); (try (obtain ⟨_, hr⟩ := hr)); (all_goals exact ⟨rfl, by (repeat' (first | trivial | exact D.lts_ints _ | exact D.lts_strs _ | exact Fc.lt | exact fcs_lt _ | exact nfs_lt _ | exact nf_lt | exact D.pl.lt (by assumption) | exact D.dp.lt (by assumption) | exact D.dps.lt (by assumption) | exact D.pls.lt (by assumption) | assumption | refine ⟨?_, ?_⟩))⟩)) | (obtain ⟨_, _, _, _, _, h, hr⟩ := h; subst h; (try (obtain ⟨_, hr⟩ := hr)); (try (obtain ⟨_, hr⟩ := hr)); (try (obtain ⟨_, hr⟩ := hr)); (try (obtain ⟨_, hr⟩ := hr)); (all_goals exact ⟨rfl, by (repeat' (first | trivial | exact D.lts_ints _ | exact D.lts_strs _ | exact Fc.lt | exact fcs_lt _ | exact nfs_lt _ | exact nf_lt | exact D.pl.lt (by assumption) | exact D.dp.lt (by assumption) | exact D.dps.lt (by assumption) | exact D.pls.lt (by assumption) | assumption | refine ⟨?_, ?_⟩))⟩)) | (obtain ⟨h, _⟩ := h; exact (by simp at h)))) fun cdv A outer s H E φ T0 W' room wl => ⟨_, (lss_consW [0, 1] (ls_if (LW.t (lw_or (lt_cmp oo_lt (lv 0) (lv 1) (by rfl)) (lw_or1 (lt_cmp oo_gt (lv 0) (T.g_MOST_COATS.le rfl) (by rfl))))) (lss_cons (ls_rz0 Z_BadDepth rfl (room.mono (by decide)) (takes_of rfl rfl rfl rfl) wl)
    lss_nil) lss_nil)
    lss_nil), fun ds S R X n h hW => ?_⟩, T.m_need_depth, T.F_need_depth.kp, (T.F_need_depth.binds1 1 0 (by simp) rfl fun _ _ _ _ _ _ _ us its hu hi => match us, its, hu, hi with | [_], [_], _, _ => ⟨_, rfl, rfl⟩), (fun _ _ => ⟨_, _, rfl, rfl, rfl⟩)⟩
  obtain ⟨Q, E, h, rfl, rfl, rfl, rfl⟩ := h
  subst hW
  obtain ⟨p, l, rfl, h⟩ := h
  unfold ocDepth at h
  conv => whnf
  repeat (refine Need.mk ?_ ?_; (focus (first | trivial | rfl | assumption | (exact Nat.le_trans (by assumption) le10) | (exact Nat.lt_of_le_of_lt (by assumption) lt10) | (show (0 : Int) < _; first | decide | omega) | (show (0 : Int) ≤ _; first | decide | omega) | (exact .inl ⟨by omega, by omega⟩) | (exact .inr ⟨by decide, by decide⟩) | (refine ⟨?_, ?_⟩ <;> first | rfl | decide | omega) | (refine ⟨?_, ?_, ?_⟩ <;> first | rfl | decide | omega) | (exact ltN (Nat.le_of_ble_eq_true rfl)) | (exact leN (Nat.le_of_ble_eq_true rfl)))); (conv => whnf))
  refine brd (fun hc => ?_) (fun hc => ?_)
  · have hc : p < l := hc
    conv => whnf
    repeat (refine Need.mk ?_ ?_; (focus (first | trivial | rfl | assumption | (exact Nat.le_trans (by assumption) le10) | (exact Nat.lt_of_le_of_lt (by assumption) lt10) | (show (0 : Int) < _; first | decide | omega) | (show (0 : Int) ≤ _; first | decide | omega) | (exact .inl ⟨by omega, by omega⟩) | (exact .inr ⟨by decide, by decide⟩) | (refine ⟨?_, ?_⟩ <;> first | rfl | decide | omega) | (refine ⟨?_, ?_, ?_⟩ <;> first | rfl | decide | omega) | (exact ltN (Nat.le_of_ble_eq_true rfl)) | (exact leN (Nat.le_of_ble_eq_true rfl)))); (conv => whnf))
    rw [ocIf_neg (by omega)] at h
    exact Xp (fs := [("called", .str "baddepth")]) h
  · have hc : ¬ p < l := hc
    conv => whnf
    repeat (refine Need.mk ?_ ?_; (focus (first | trivial | rfl | assumption | (exact Nat.le_trans (by assumption) le10) | (exact Nat.lt_of_le_of_lt (by assumption) lt10) | (show (0 : Int) < _; first | decide | omega) | (show (0 : Int) ≤ _; first | decide | omega) | (exact .inl ⟨by omega, by omega⟩) | (exact .inr ⟨by decide, by decide⟩) | (refine ⟨?_, ?_⟩ <;> first | rfl | decide | omega) | (refine ⟨?_, ?_, ?_⟩ <;> first | rfl | decide | omega) | (exact ltN (Nat.le_of_ble_eq_true rfl)) | (exact leN (Nat.le_of_ble_eq_true rfl)))); (conv => whnf))
    refine brd (fun hd => ?_) (fun hd => ?_)
    · have hd : (5 : Int) < p := hd
      conv => whnf
      repeat (refine Need.mk ?_ ?_; (focus (first | trivial | rfl | assumption | (exact Nat.le_trans (by assumption) le10) | (exact Nat.lt_of_le_of_lt (by assumption) lt10) | (show (0 : Int) < _; first | decide | omega) | (show (0 : Int) ≤ _; first | decide | omega) | (exact .inl ⟨by omega, by omega⟩) | (exact .inr ⟨by decide, by decide⟩) | (refine ⟨?_, ?_⟩ <;> first | rfl | decide | omega) | (refine ⟨?_, ?_, ?_⟩ <;> first | rfl | decide | omega) | (exact ltN (Nat.le_of_ble_eq_true rfl)) | (exact leN (Nat.le_of_ble_eq_true rfl)))); (conv => whnf))
      rw [ocIf_neg (by omega)] at h
      exact Xp (fs := [("called", .str "baddepth")]) h
    · have hd : ¬ (5 : Int) < p := hd
      conv => whnf
      repeat (refine Need.mk ?_ ?_; (focus (first | trivial | rfl | assumption | (exact Nat.le_trans (by assumption) le10) | (exact Nat.lt_of_le_of_lt (by assumption) lt10) | (show (0 : Int) < _; first | decide | omega) | (show (0 : Int) ≤ _; first | decide | omega) | (exact .inl ⟨by omega, by omega⟩) | (exact .inr ⟨by decide, by decide⟩) | (refine ⟨?_, ?_⟩ <;> first | rfl | decide | omega) | (refine ⟨?_, ?_, ?_⟩ <;> first | rfl | decide | omega) | (exact ltN (Nat.le_of_ble_eq_true rfl)) | (exact leN (Nat.le_of_ble_eq_true rfl)))); (conv => whnf))
      rw [ocIf_pos (by omega)] at h
      exact Rp (d := .non) h
def sp_need_scrape (a : Ad) : SpP := fun ds Q E => ∃ (p c : Int) (sh : List Int), ds = [.int p, .int c, .tup (sh.map D.int)] ∧ sh.length ≤ 1000 ∧ (ocScrape p c sh).to (ocA a) Q E
theorem ok_need_scrape (T : Txt K w mg a) (G_need_part : Fx P w K mg base 4 a.a_need_part a.d_need_part "need_part" ["part"] (lp (sp_need_part a))) (G_need_coat : Fx P w K mg base 4 a.a_need_coat a.d_need_coat "need_coat" ["coat"] (lp (sp_need_coat a))) (Z_BadShade : XcD P w K mg base "BadShade" a.c_BadShade a.a_BadShade_init a.d_BadShade_init ["self"] 0 (fl0 "badshade") (fd0 "badshade") [] []) (Z_BadCoat : XcD P w K mg base "BadCoat" a.c_BadCoat a.a_BadCoat_init a.d_BadCoat_init ["self"] 0 (fl0 "badcoat") (fd0 "badcoat") [] []) : Fx P w K mg base 5 a.a_need_scrape a.d_need_scrape "need_scrape" ["part", "first", "shades"] (lp (sp_need_scrape a)) := by
  refine ⟨fn_P T.F_need_scrape sc_need_scrape (by (intro ds Q E h; first | (obtain ⟨h, hr⟩ := h; subst h; (try (obtain ⟨_, hr⟩ := hr)); (try (obtain ⟨_, hr⟩ := hr)); (try (obtain ⟨_, hr⟩ := hr)); (try (obtain ⟨_, hr⟩ := hr)); (all_goals exact ⟨rfl, by (repeat' (first | trivial | exact D.lts_ints _ | exact D.lts_strs _ | exact Fc.lt | exact fcs_lt _ | exact nfs_lt _ | exact nf_lt | exact D.pl.lt (by assumption) | exact D.dp.lt (by assumption) | exact D.dps.lt (by assumption) | exact D.pls.lt (by assumption) | assumption | refine ⟨?_, ?_⟩))⟩)) | (obtain ⟨_, h, hr⟩ := h; subst h; (try (obtain ⟨_, hr⟩ := hr)); (try (obtain ⟨_, hr⟩ := hr)); (try (obtain ⟨_, hr⟩ := hr)); (try (obtain ⟨_, hr⟩ := hr)); (all_goals exact ⟨rfl, by (repeat' (first | trivial | exact D.lts_ints _ | exact D.lts_strs _ | exact Fc.lt | exact fcs_lt _ | exact nfs_lt _ | exact nf_lt | exact D.pl.lt (by assumption) | exact D.dp.lt (by assumption) | exact D.dps.lt (by assumption) | exact D.pls.lt (by assumption) | assumption | refine ⟨?_, ?_⟩))⟩)) | (obtain ⟨_, _, h, hr⟩ := h; subst h; (try (obtain ⟨_, hr⟩ := hr)); (try (obtain ⟨_, hr⟩ := hr)); (try (obtain ⟨_, hr⟩ := hr)); (try (obtain ⟨_, hr⟩ := hr)); (all_goals exact ⟨rfl, by (repeat' (first | trivial | exact D.lts_ints _ | exact D.lts_strs _ | exact Fc.lt | exact fcs_lt _ | exact nfs_lt _ | exact nf_lt | exact D.pl.lt (by assumption) | exact D.dp.lt (by assumption) | exact D.dps.lt (by assumption) | exact D.pls.lt (by assumption) | assumption | refine ⟨?_, ?_⟩))⟩)) | (obtain ⟨_, _, _, h, hr⟩ := h; subst h; (try (obtain ⟨_, hr⟩ := hr)); (try (obtain ⟨_, hr⟩ := hr)); (try (obtain ⟨_, hr⟩ := hr)); (try (obtain ⟨_, hr⟩ := hr)); (all_goals exact ⟨rfl, by (repeat' (first | trivial | exact D.lts_ints _ | exact D.lts_strs _ | exact Fc.lt | exact fcs_lt _ | exact nfs_lt _ | exact nf_lt | exact D.pl.lt (by assumption) | exact D.dp.lt (by assumption) | exact D.dps.lt (by assumption) | exact D.pls.lt (by assumption) | assumption | refine ⟨?_, ?_⟩))⟩)) | (obtain ⟨_, _, _, _, h, hr⟩ := h; subst h; (try (obtain ⟨_, hr⟩ := hr)); (try (obtain ⟨_, hr⟩ := hr)); (try (obtain ⟨_, hr⟩ := hr)); (try (obtain ⟨_, hr⟩ := hr)); (all_goals exact ⟨rfl, by (repeat' (first | trivial | exact D.lts_ints _ | exact D.lts_strs _ | exact Fc.lt | exact fcs_lt _ | exact nfs_lt _ | exact nf_lt | exact D.pl.lt (by assumption) | exact D.dp.lt (by assumption) | exact D.dps.lt (by assumption) | exact D.pls.lt (by assumption) | assumption | refine ⟨?_, ?_⟩))⟩)) | (obtain ⟨_, _, _, _, _, h, hr⟩ := h; subst h; (try (obtain ⟨_, hr⟩ := hr)); (try (obtain ⟨_, hr⟩ := hr)); (try (obtain ⟨_, hr⟩ := hr)); (try (obtain ⟨_, hr⟩ := hr)); (all_goals exact ⟨rfl, by (repeat' (first | trivial | exact D.lts_ints _ | exact D.lts_strs _ | exact Fc.lt | exact fcs_lt _ | exact nfs_lt _ | exact nf_lt | exact D.pl.lt (by assumption) | exact D.dp.lt (by assumption) | exact D.dps.lt (by assumption) | exact D.pls.lt (by assumption) | assumption | refine ⟨?_, ?_⟩))⟩)) | (obtain ⟨h, _⟩ := h; exact (by simp at h)))) fun cdv A outer s H E φ T0 W' room wl => ⟨_, (lss_consW [0] (ls_expr (le_fx G_need_part (room.mono (by decide)) (takes_of rfl rfl rfl rfl) wl (la_cons (lv 0) la_nil)))
    (lss_cons (ls_expr (le_fx G_need_coat (room.mono (by decide)) (takes_of rfl rfl rfl rfl) wl (la_cons (lv 1) la_nil)))
    (lss_cons (ls_if (LW.t (lw_or (lt_cmp (oo_eq room.units) (le_callB cc_len rfl T.n_len (by rfl) (la_cons (lv 2) la_nil)) le_int (by rfl)) (lw_or1 (lt_not (lt_truth (le_callB (cc_all rfl) rfl T.n_all (by rfl) (la_cons (le_lc false [("shade", 3)] (.nm 3) rfl sc_need_scrape.nd (li_tup (lv 2)) (by (conv => { arg 1; whnf }); (conv => { arg 2; whnf }); exact ⟨rfl, by decide +kernel, by decide +kernel, by decide +kernel, by decide +kernel⟩) (fun _ _ _ _ _ => (tg_nm 3 sc_need_scrape.nd)) (fun _ _ _ _ _ => lts_nil) (fun _ _ _ _ _ => (le_chain oo_le oo_le le_int (lv 3) (T.g_LAST_SHADE.le rfl)))) la_nil))))))) (lss_cons (ls_rz0 Z_BadShade rfl (room.mono (by decide)) (takes_of rfl rfl rfl rfl) wl)
    lss_nil) lss_nil)
    (lss_consW [1, 2] (ls_if (lt_cmp oo_gt (le_op oo_add (lv 1) (le_callB cc_len rfl T.n_len (by rfl) (la_cons (lv 2) la_nil))) (T.g_MOST_COATS.le rfl) (by rfl)) (lss_cons (ls_rz0 Z_BadCoat rfl (room.mono (by decide)) (takes_of rfl rfl rfl rfl) wl)
    lss_nil) lss_nil)
    lss_nil)))), fun ds S R X n h hW => ?_⟩, T.m_need_scrape, T.F_need_scrape.kp, T.b_need_scrape⟩
  obtain ⟨Q, E, h, rfl, rfl, rfl, rfl⟩ := h
  subst hW
  obtain ⟨p, c, sh, rfl, hl, h⟩ := h
  have h := Oc.then_to (Oc.then_to (Oc.then_to h))
  conv => whnf
  repeat (refine Need.mk ?_ ?_; (focus (first | trivial | rfl | assumption | (exact Nat.le_trans (by assumption) le10) | (exact Nat.lt_of_le_of_lt (by assumption) lt10) | (show (0 : Int) < _; first | decide | omega) | (show (0 : Int) ≤ _; first | decide | omega) | (exact .inl ⟨by omega, by omega⟩) | (exact .inr ⟨by decide, by decide⟩) | (refine ⟨?_, ?_⟩ <;> first | rfl | decide | omega) | (refine ⟨?_, ?_, ?_⟩ <;> first | rfl | decide | omega) | (exact ltN (Nat.le_of_ble_eq_true rfl)) | (exact leN (Nat.le_of_ble_eq_true rfl)))); (conv => whnf))
  refine ⟨p, rfl, Oc.run h fun h => ?_⟩
  conv => whnf
  repeat (refine Need.mk ?_ ?_; (focus (first | trivial | rfl | assumption | (exact Nat.le_trans (by assumption) le10) | (exact Nat.lt_of_le_of_lt (by assumption) lt10) | (show (0 : Int) < _; first | decide | omega) | (show (0 : Int) ≤ _; first | decide | omega) | (exact .inl ⟨by omega, by omega⟩) | (exact .inr ⟨by decide, by decide⟩) | (refine ⟨?_, ?_⟩ <;> first | rfl | decide | omega) | (refine ⟨?_, ?_, ?_⟩ <;> first | rfl | decide | omega) | (exact ltN (Nat.le_of_ble_eq_true rfl)) | (exact leN (Nat.le_of_ble_eq_true rfl)))); (conv => whnf))
  refine ⟨c, rfl, Oc.run h fun h => ?_⟩
  conv => whnf
  repeat (refine Need.mk ?_ ?_; (focus (first | trivial | rfl | assumption | (exact Nat.le_trans (by assumption) le10) | (exact Nat.lt_of_le_of_lt (by assumption) lt10) | (show (0 : Int) < _; first | decide | omega) | (show (0 : Int) ≤ _; first | decide | omega) | (exact .inl ⟨by omega, by omega⟩) | (exact .inr ⟨by decide, by decide⟩) | (refine ⟨?_, ?_⟩ <;> first | rfl | decide | omega) | (refine ⟨?_, ?_, ?_⟩ <;> first | rfl | decide | omega) | (exact ltN (Nat.le_of_ble_eq_true rfl)) | (exact leN (Nat.le_of_ble_eq_true rfl)))); (conv => whnf))
  have e0 : ((sh.map D.int).length : Int) = sh.length := by rw [List.length_map]
  by_cases hs : sh = []
  · subst hs
    conv => whnf
    repeat (refine Need.mk ?_ ?_; (focus (first | trivial | rfl | assumption | (exact Nat.le_trans (by assumption) le10) | (exact Nat.lt_of_le_of_lt (by assumption) lt10) | (show (0 : Int) < _; first | decide | omega) | (show (0 : Int) ≤ _; first | decide | omega) | (exact .inl ⟨by omega, by omega⟩) | (exact .inr ⟨by decide, by decide⟩) | (refine ⟨?_, ?_⟩ <;> first | rfl | decide | omega) | (refine ⟨?_, ?_, ?_⟩ <;> first | rfl | decide | omega) | (exact ltN (Nat.le_of_ble_eq_true rfl)) | (exact leN (Nat.le_of_ble_eq_true rfl)))); (conv => whnf))
    rw [ocIf_neg (fun z => z.1 rfl)] at h
    exact Xp (fs := [("called", .str "badshade")]) h
  have hn : sh.length ≠ 0 := fun z => hs (List.length_eq_zero_iff.mp z)
  refine lifF (by show decide (((sh.map D.int).length : Int) = 0) = false; exact decide_eq_false (by omega)) ?_
  conv => whnf
  repeat (refine Need.mk ?_ ?_; (focus (first | trivial | rfl | assumption | (exact Nat.le_trans (by assumption) le10) | (exact Nat.lt_of_le_of_lt (by assumption) lt10) | (show (0 : Int) < _; first | decide | omega) | (show (0 : Int) ≤ _; first | decide | omega) | (exact .inl ⟨by omega, by omega⟩) | (exact .inr ⟨by decide, by decide⟩) | (refine ⟨?_, ?_⟩ <;> first | rfl | decide | omega) | (refine ⟨?_, ?_, ?_⟩ <;> first | rfl | decide | omega) | (exact ltN (Nat.le_of_ble_eq_true rfl)) | (exact leN (Nat.le_of_ble_eq_true rfl)))); (conv => whnf))
  refine lc_map (fun d => match d with | .int z => .bl (decide (0 ≤ z) && decide (z ≤ 6)) | _ => .non) (by rw [List.length_map]; exact Nat.lt_of_le_of_lt hl (by decide)) (fun _ => trivial) ?_ ?_
  · intro i x acc hi
    obtain ⟨z, hz, rfl⟩ := int_at hi
    refine ⟨_, rfl, trivial, fun R r => ?_⟩
    conv => whnf
    repeat (refine Need.mk ?_ ?_; (focus (first | trivial | rfl | assumption | (exact Nat.le_trans (by assumption) le10) | (exact Nat.lt_of_le_of_lt (by assumption) lt10) | (show (0 : Int) < _; first | decide | omega) | (show (0 : Int) ≤ _; first | decide | omega) | (exact .inl ⟨by omega, by omega⟩) | (exact .inr ⟨by decide, by decide⟩) | (refine ⟨?_, ?_⟩ <;> first | rfl | decide | omega) | (refine ⟨?_, ?_, ?_⟩ <;> first | rfl | decide | omega) | (exact ltN (Nat.le_of_ble_eq_true rfl)) | (exact leN (Nat.le_of_ble_eq_true rfl)))); (conv => whnf))
    refine lif (fun hc => ?_) (fun hc => ?_)
    · conv => whnf
      repeat (refine Need.mk ?_ ?_; (focus (first | trivial | rfl | assumption | (exact Nat.le_trans (by assumption) le10) | (exact Nat.lt_of_le_of_lt (by assumption) lt10) | (show (0 : Int) < _; first | decide | omega) | (show (0 : Int) ≤ _; first | decide | omega) | (exact .inl ⟨by omega, by omega⟩) | (exact .inr ⟨by decide, by decide⟩) | (refine ⟨?_, ?_⟩ <;> first | rfl | decide | omega) | (refine ⟨?_, ?_, ?_⟩ <;> first | rfl | decide | omega) | (exact ltN (Nat.le_of_ble_eq_true rfl)) | (exact leN (Nat.le_of_ble_eq_true rfl)))); (conv => whnf))
      have hc : decide (0 ≤ z) = true := hc
      exact Eq.mp (by simp only [hc]; rfl) r
    · conv => whnf
      repeat (refine Need.mk ?_ ?_; (focus (first | trivial | rfl | assumption | (exact Nat.le_trans (by assumption) le10) | (exact Nat.lt_of_le_of_lt (by assumption) lt10) | (show (0 : Int) < _; first | decide | omega) | (show (0 : Int) ≤ _; first | decide | omega) | (exact .inl ⟨by omega, by omega⟩) | (exact .inr ⟨by decide, by decide⟩) | (refine ⟨?_, ?_⟩ <;> first | rfl | decide | omega) | (refine ⟨?_, ?_, ?_⟩ <;> first | rfl | decide | omega) | (exact ltN (Nat.le_of_ble_eq_true rfl)) | (exact leN (Nat.le_of_ble_eq_true rfl)))); (conv => whnf))
      have hc : decide (0 ≤ z) = false := hc
      exact Eq.mp (by simp only [hc]; rfl) r
  · conv => whnf
    repeat (refine Need.mk ?_ ?_; (focus (first | trivial | rfl | assumption | (exact Nat.le_trans (by assumption) le10) | (exact Nat.lt_of_le_of_lt (by assumption) lt10) | (show (0 : Int) < _; first | decide | omega) | (show (0 : Int) ≤ _; first | decide | omega) | (exact .inl ⟨by omega, by omega⟩) | (exact .inr ⟨by decide, by decide⟩) | (refine ⟨?_, ?_⟩ <;> first | rfl | decide | omega) | (refine ⟨?_, ?_, ?_⟩ <;> first | rfl | decide | omega) | (exact ltN (Nat.le_of_ble_eq_true rfl)) | (exact leN (Nat.le_of_ble_eq_true rfl)))); (conv => whnf))
    rw [List.map_map]
    refine optI (asBs_map (fun z => decide (0 ≤ z) && decide (z ≤ 6)) sh) ?_
    conv => whnf
    repeat (refine Need.mk ?_ ?_; (focus (first | trivial | rfl | assumption | (exact Nat.le_trans (by assumption) le10) | (exact Nat.lt_of_le_of_lt (by assumption) lt10) | (show (0 : Int) < _; first | decide | omega) | (show (0 : Int) ≤ _; first | decide | omega) | (exact .inl ⟨by omega, by omega⟩) | (exact .inr ⟨by decide, by decide⟩) | (refine ⟨?_, ?_⟩ <;> first | rfl | decide | omega) | (refine ⟨?_, ?_, ?_⟩ <;> first | rfl | decide | omega) | (exact ltN (Nat.le_of_ble_eq_true rfl)) | (exact leN (Nat.le_of_ble_eq_true rfl)))); (conv => whnf))
    rw [good_all6]
    by_cases hg : goodN sh
    · rw [decide_eq_true hg]
      rw [ocIf_pos ⟨hs, hg⟩] at h
      have h : (ocIf (c + sh.length ≤ 5) .coat).to (ocA a) Q E := h
      conv => whnf
      repeat (refine Need.mk ?_ ?_; (focus (first | trivial | rfl | assumption | (exact Nat.le_trans (by assumption) le10) | (exact Nat.lt_of_le_of_lt (by assumption) lt10) | (show (0 : Int) < _; first | decide | omega) | (show (0 : Int) ≤ _; first | decide | omega) | (exact .inl ⟨by omega, by omega⟩) | (exact .inr ⟨by decide, by decide⟩) | (refine ⟨?_, ?_⟩ <;> first | rfl | decide | omega) | (refine ⟨?_, ?_, ?_⟩ <;> first | rfl | decide | omega) | (exact ltN (Nat.le_of_ble_eq_true rfl)) | (exact leN (Nat.le_of_ble_eq_true rfl)))); (conv => whnf))
      refine brd (fun hc => ?_) (fun hc => ?_)
      · have hc : (5 : Int) < c + ((sh.map D.int).length : Int) := hc
        conv => whnf
        repeat (refine Need.mk ?_ ?_; (focus (first | trivial | rfl | assumption | (exact Nat.le_trans (by assumption) le10) | (exact Nat.lt_of_le_of_lt (by assumption) lt10) | (show (0 : Int) < _; first | decide | omega) | (show (0 : Int) ≤ _; first | decide | omega) | (exact .inl ⟨by omega, by omega⟩) | (exact .inr ⟨by decide, by decide⟩) | (refine ⟨?_, ?_⟩ <;> first | rfl | decide | omega) | (refine ⟨?_, ?_, ?_⟩ <;> first | rfl | decide | omega) | (exact ltN (Nat.le_of_ble_eq_true rfl)) | (exact leN (Nat.le_of_ble_eq_true rfl)))); (conv => whnf))
        rw [ocIf_neg (by omega)] at h
        exact Xp (fs := [("called", .str "badcoat")]) h
      · have hc : ¬ (5 : Int) < c + ((sh.map D.int).length : Int) := hc
        conv => whnf
        repeat (refine Need.mk ?_ ?_; (focus (first | trivial | rfl | assumption | (exact Nat.le_trans (by assumption) le10) | (exact Nat.lt_of_le_of_lt (by assumption) lt10) | (show (0 : Int) < _; first | decide | omega) | (show (0 : Int) ≤ _; first | decide | omega) | (exact .inl ⟨by omega, by omega⟩) | (exact .inr ⟨by decide, by decide⟩) | (refine ⟨?_, ?_⟩ <;> first | rfl | decide | omega) | (refine ⟨?_, ?_, ?_⟩ <;> first | rfl | decide | omega) | (exact ltN (Nat.le_of_ble_eq_true rfl)) | (exact leN (Nat.le_of_ble_eq_true rfl)))); (conv => whnf))
        rw [ocIf_pos (by omega)] at h
        exact Rp (d := .non) h
    · rw [decide_eq_false hg]
      rw [ocIf_neg (fun z => hg z.2)] at h
      conv => whnf
      repeat (refine Need.mk ?_ ?_; (focus (first | trivial | rfl | assumption | (exact Nat.le_trans (by assumption) le10) | (exact Nat.lt_of_le_of_lt (by assumption) lt10) | (show (0 : Int) < _; first | decide | omega) | (show (0 : Int) ≤ _; first | decide | omega) | (exact .inl ⟨by omega, by omega⟩) | (exact .inr ⟨by decide, by decide⟩) | (refine ⟨?_, ?_⟩ <;> first | rfl | decide | omega) | (refine ⟨?_, ?_, ?_⟩ <;> first | rfl | decide | omega) | (exact ltN (Nat.le_of_ble_eq_true rfl)) | (exact leN (Nat.le_of_ble_eq_true rfl)))); (conv => whnf))
      exact Xp (fs := [("called", .str "badshade")]) h
def sp_need_two (a : Ad) : SpP := fun ds Q E => ∃ p o : Int, ds = [.int p, .int o] ∧ (ocTwo p o).to (ocA a) Q E
theorem ok_need_two (T : Txt K w mg a) (G_need_part : Fx P w K mg base 4 a.a_need_part a.d_need_part "need_part" ["part"] (lp (sp_need_part a))) (Z_SameOne : XcD P w K mg base "SameOne" a.c_SameOne a.a_SameOne_init a.d_SameOne_init ["self"] 0 (fl0 "sameone") (fd0 "sameone") [] []) : Fx P w K mg base 5 a.a_need_two a.d_need_two "need_two" ["part", "other"] (lp (sp_need_two a)) := by
  refine ⟨fn_P T.F_need_two sc_need_two (by (intro ds Q E h; first | (obtain ⟨h, hr⟩ := h; subst h; (try (obtain ⟨_, hr⟩ := hr)); (try (obtain ⟨_, hr⟩ := hr)); (try (obtain ⟨_, hr⟩ := hr)); (try (obtain ⟨_, hr⟩ := hr)); (all_goals exact ⟨rfl, by (repeat' (first | trivial | exact D.lts_ints _ | exact D.lts_strs _ | exact Fc.lt | exact fcs_lt _ | exact nfs_lt _ | exact nf_lt | exact D.pl.lt (by assumption) | exact D.dp.lt (by assumption) | exact D.dps.lt (by assumption) | exact D.pls.lt (by assumption) | assumption | refine ⟨?_, ?_⟩))⟩)) | (obtain ⟨_, h, hr⟩ := h; subst h; (try (obtain ⟨_, hr⟩ := hr)); (try (obtain ⟨_, hr⟩ := hr)); (try (obtain ⟨_, hr⟩ := hr)); (try (obtain ⟨_, hr⟩ := hr)); (all_goals exact ⟨rfl, by (repeat' (first | trivial | exact D.lts_ints _ | exact D.lts_strs _ | exact Fc.lt | exact fcs_lt _ | exact nfs_lt _ | exact nf_lt | exact D.pl.lt (by assumption) | exact D.dp.lt (by assumption) | exact D.dps.lt (by assumption) | exact D.pls.lt (by assumption) | assumption | refine ⟨?_, ?_⟩))⟩)) | (obtain ⟨_, _, h, hr⟩ := h; subst h; (try (obtain ⟨_, hr⟩ := hr)); (try (obtain ⟨_, hr⟩ := hr)); (try (obtain ⟨_, hr⟩ := hr)); (try (obtain ⟨_, hr⟩ := hr)); (all_goals exact ⟨rfl, by (repeat' (first | trivial | exact D.lts_ints _ | exact D.lts_strs _ | exact Fc.lt | exact fcs_lt _ | exact nfs_lt _ | exact nf_lt | exact D.pl.lt (by assumption) | exact D.dp.lt (by assumption) | exact D.dps.lt (by assumption) | exact D.pls.lt (by assumption) | assumption | refine ⟨?_, ?_⟩))⟩)) | (obtain ⟨_, _, _, h, hr⟩ := h; subst h; (try (obtain ⟨_, hr⟩ := hr)); (try (obtain ⟨_, hr⟩ := hr)); (try (obtain ⟨_, hr⟩ := hr)); (try (obtain ⟨_, hr⟩ := hr)); (all_goals exact ⟨rfl, by (repeat' (first | trivial | exact D.lts_ints _ | exact D.lts_strs _ | exact Fc.lt | exact fcs_lt _ | exact nfs_lt _ | exact nf_lt | exact D.pl.lt (by assumption) | exact D.dp.lt (by assumption) | exact D.dps.lt (by assumption) | exact D.pls.lt (by assumption) | assumption | refine ⟨?_, ?_⟩))⟩)) | (obtain ⟨_, _, _, _, h, hr⟩ := h; subst h; (try (obtain ⟨_, hr⟩ := hr)); (try (obtain ⟨_, hr⟩ := hr)); (try (obtain ⟨_, hr⟩ := hr)); (try (obtain ⟨_, hr⟩ := hr)); (all_goals exact ⟨rfl, by (repeat' (first | trivial | exact D.lts_ints _ | exact D.lts_strs _ | exact Fc.lt | exact fcs_lt _ | exact nfs_lt _ | exact nf_lt | exact D.pl.lt (by assumption) | exact D.dp.lt (by assumption) | exact D.dps.lt (by assumption) | exact D.pls.lt (by assumption) | assumption | refine ⟨?_, ?_⟩))⟩)) | (obtain ⟨_, _, _, _, _, h, hr⟩ := h; subst h; (try (obtain ⟨_, hr⟩ := hr)); (try (obtain ⟨_, hr⟩ := hr)); (try (obtain ⟨_, hr⟩ := hr)); (try (obtain ⟨_, hr⟩ := hr)); (all_goals exact ⟨rfl, by (repeat' (first | trivial | exact D.lts_ints _ | exact D.lts_strs _ | exact Fc.lt | exact fcs_lt _ | exact nfs_lt _ | exact nf_lt | exact D.pl.lt (by assumption) | exact D.dp.lt (by assumption) | exact D.dps.lt (by assumption) | exact D.pls.lt (by assumption) | assumption | refine ⟨?_, ?_⟩))⟩)) | (obtain ⟨h, _⟩ := h; exact (by simp at h)))) fun cdv A outer s H E φ T0 W' room wl => ⟨_, (lss_cons (ls_expr (le_fx G_need_part (room.mono (by decide)) (takes_of rfl rfl rfl rfl) wl (la_cons (lv 0) la_nil)))
    (lss_cons (ls_expr (le_fx G_need_part (room.mono (by decide)) (takes_of rfl rfl rfl rfl) wl (la_cons (lv 1) la_nil)))
    (lss_consW [0, 1] (ls_if (lt_cmp (oo_eq room.units) (lv 0) (lv 1) (by rfl)) (lss_cons (ls_rz0 Z_SameOne rfl (room.mono (by decide)) (takes_of rfl rfl rfl rfl) wl)
    lss_nil) lss_nil)
    lss_nil))), fun ds S R X n h hW => ?_⟩, T.m_need_two, T.F_need_two.kp, T.b_need_two⟩
  obtain ⟨Q, E, h, rfl, rfl, rfl, rfl⟩ := h
  subst hW
  obtain ⟨p, o, rfl, h⟩ := h
  have h := Oc.then_to (Oc.then_to h)
  conv => whnf
  repeat (refine Need.mk ?_ ?_; (focus (first | trivial | rfl | assumption | (exact Nat.le_trans (by assumption) le10) | (exact Nat.lt_of_le_of_lt (by assumption) lt10) | (show (0 : Int) < _; first | decide | omega) | (show (0 : Int) ≤ _; first | decide | omega) | (exact .inl ⟨by omega, by omega⟩) | (exact .inr ⟨by decide, by decide⟩) | (refine ⟨?_, ?_⟩ <;> first | rfl | decide | omega) | (refine ⟨?_, ?_, ?_⟩ <;> first | rfl | decide | omega) | (exact ltN (Nat.le_of_ble_eq_true rfl)) | (exact leN (Nat.le_of_ble_eq_true rfl)))); (conv => whnf))
  refine ⟨p, rfl, Oc.run h fun h => ?_⟩
  conv => whnf
  repeat (refine Need.mk ?_ ?_; (focus (first | trivial | rfl | assumption | (exact Nat.le_trans (by assumption) le10) | (exact Nat.lt_of_le_of_lt (by assumption) lt10) | (show (0 : Int) < _; first | decide | omega) | (show (0 : Int) ≤ _; first | decide | omega) | (exact .inl ⟨by omega, by omega⟩) | (exact .inr ⟨by decide, by decide⟩) | (refine ⟨?_, ?_⟩ <;> first | rfl | decide | omega) | (refine ⟨?_, ?_, ?_⟩ <;> first | rfl | decide | omega) | (exact ltN (Nat.le_of_ble_eq_true rfl)) | (exact leN (Nat.le_of_ble_eq_true rfl)))); (conv => whnf))
  refine ⟨o, rfl, Oc.run h fun h => ?_⟩
  conv => whnf
  repeat (refine Need.mk ?_ ?_; (focus (first | trivial | rfl | assumption | (exact Nat.le_trans (by assumption) le10) | (exact Nat.lt_of_le_of_lt (by assumption) lt10) | (show (0 : Int) < _; first | decide | omega) | (show (0 : Int) ≤ _; first | decide | omega) | (exact .inl ⟨by omega, by omega⟩) | (exact .inr ⟨by decide, by decide⟩) | (refine ⟨?_, ?_⟩ <;> first | rfl | decide | omega) | (refine ⟨?_, ?_, ?_⟩ <;> first | rfl | decide | omega) | (exact ltN (Nat.le_of_ble_eq_true rfl)) | (exact leN (Nat.le_of_ble_eq_true rfl)))); (conv => whnf))
  refine brd (fun hc => ?_) (fun hc => ?_)
  · conv => whnf
    repeat (refine Need.mk ?_ ?_; (focus (first | trivial | rfl | assumption | (exact Nat.le_trans (by assumption) le10) | (exact Nat.lt_of_le_of_lt (by assumption) lt10) | (show (0 : Int) < _; first | decide | omega) | (show (0 : Int) ≤ _; first | decide | omega) | (exact .inl ⟨by omega, by omega⟩) | (exact .inr ⟨by decide, by decide⟩) | (refine ⟨?_, ?_⟩ <;> first | rfl | decide | omega) | (refine ⟨?_, ?_, ?_⟩ <;> first | rfl | decide | omega) | (exact ltN (Nat.le_of_ble_eq_true rfl)) | (exact leN (Nat.le_of_ble_eq_true rfl)))); (conv => whnf))
    rw [ocIf_neg (fun z => z hc)] at h
    exact Xp (fs := [("called", .str "sameone")]) h
  · conv => whnf
    repeat (refine Need.mk ?_ ?_; (focus (first | trivial | rfl | assumption | (exact Nat.le_trans (by assumption) le10) | (exact Nat.lt_of_le_of_lt (by assumption) lt10) | (show (0 : Int) < _; first | decide | omega) | (show (0 : Int) ≤ _; first | decide | omega) | (exact .inl ⟨by omega, by omega⟩) | (exact .inr ⟨by decide, by decide⟩) | (refine ⟨?_, ?_⟩ <;> first | rfl | decide | omega) | (refine ⟨?_, ?_, ?_⟩ <;> first | rfl | decide | omega) | (exact ltN (Nat.le_of_ble_eq_true rfl)) | (exact leN (Nat.le_of_ble_eq_true rfl)))); (conv => whnf))
    rw [ocIf_pos hc] at h
    exact Rp (d := .non) h
def sp_need_cover (a : Ad) : SpP := fun ds Q E => ∃ p o d : Int, ds = [.int p, .int o, .int d] ∧ (ocCover p o d).to (ocA a) Q E
theorem ok_need_cover (T : Txt K w mg a) (G_need_two : Fx P w K mg base 5 a.a_need_two a.d_need_two "need_two" ["part", "other"] (lp (sp_need_two a))) (G_need_depth : FxD P w K mg base 4 a.a_need_depth a.d_need_depth "need_depth" ["depth", "least"] (lp (sp_need_depth a)) [V.int 0] [D.int 0]) : Fx P w K mg base 6 a.a_need_cover a.d_need_cover "need_cover" ["part", "lower", "depth"] (lp (sp_need_cover a)) := by
  refine ⟨fn_P T.F_need_cover sc_need_cover (by (intro ds Q E h; first | (obtain ⟨h, hr⟩ := h; subst h; (try (obtain ⟨_, hr⟩ := hr)); (try (obtain ⟨_, hr⟩ := hr)); (try (obtain ⟨_, hr⟩ := hr)); (try (obtain ⟨_, hr⟩ := hr)); (all_goals exact ⟨rfl, by (repeat' (first | trivial | exact D.lts_ints _ | exact D.lts_strs _ | exact Fc.lt | exact fcs_lt _ | exact nfs_lt _ | exact nf_lt | exact D.pl.lt (by assumption) | exact D.dp.lt (by assumption) | exact D.dps.lt (by assumption) | exact D.pls.lt (by assumption) | assumption | refine ⟨?_, ?_⟩))⟩)) | (obtain ⟨_, h, hr⟩ := h; subst h; (try (obtain ⟨_, hr⟩ := hr)); (try (obtain ⟨_, hr⟩ := hr)); (try (obtain ⟨_, hr⟩ := hr)); (try (obtain ⟨_, hr⟩ := hr)); (all_goals exact ⟨rfl, by (repeat' (first | trivial | exact D.lts_ints _ | exact D.lts_strs _ | exact Fc.lt | exact fcs_lt _ | exact nfs_lt _ | exact nf_lt | exact D.pl.lt (by assumption) | exact D.dp.lt (by assumption) | exact D.dps.lt (by assumption) | exact D.pls.lt (by assumption) | assumption | refine ⟨?_, ?_⟩))⟩)) | (obtain ⟨_, _, h, hr⟩ := h; subst h; (try (obtain ⟨_, hr⟩ := hr)); (try (obtain ⟨_, hr⟩ := hr)); (try (obtain ⟨_, hr⟩ := hr)); (try (obtain ⟨_, hr⟩ := hr)); (all_goals exact ⟨rfl, by (repeat' (first | trivial | exact D.lts_ints _ | exact D.lts_strs _ | exact Fc.lt | exact fcs_lt _ | exact nfs_lt _ | exact nf_lt | exact D.pl.lt (by assumption) | exact D.dp.lt (by assumption) | exact D.dps.lt (by assumption) | exact D.pls.lt (by assumption) | assumption | refine ⟨?_, ?_⟩))⟩)) | (obtain ⟨_, _, _, h, hr⟩ := h; subst h; (try (obtain ⟨_, hr⟩ := hr)); (try (obtain ⟨_, hr⟩ := hr)); (try (obtain ⟨_, hr⟩ := hr)); (try (obtain ⟨_, hr⟩ := hr)); (all_goals exact ⟨rfl, by (repeat' (first | trivial | exact D.lts_ints _ | exact D.lts_strs _ | exact Fc.lt | exact fcs_lt _ | exact nfs_lt _ | exact nf_lt | exact D.pl.lt (by assumption) | exact D.dp.lt (by assumption) | exact D.dps.lt (by assumption) | exact D.pls.lt (by assumption) | assumption | refine ⟨?_, ?_⟩))⟩)) | (obtain ⟨_, _, _, _, h, hr⟩ := h; subst h; (try (obtain ⟨_, hr⟩ := hr)); (try (obtain ⟨_, hr⟩ := hr)); (try (obtain ⟨_, hr⟩ := hr)); (try (obtain ⟨_, hr⟩ := hr)); (all_goals exact ⟨rfl, by (repeat' (first | trivial | exact D.lts_ints _ | exact D.lts_strs _ | exact Fc.lt | exact fcs_lt _ | exact nfs_lt _ | exact nf_lt | exact D.pl.lt (by assumption) | exact D.dp.lt (by assumption) | exact D.dps.lt (by assumption) | exact D.pls.lt (by assumption) | assumption | refine ⟨?_, ?_⟩))⟩)) | (obtain ⟨_, _, _, _, _, h, hr⟩ := h; subst h; (try (obtain ⟨_, hr⟩ := hr)); (try (obtain ⟨_, hr⟩ := hr)); (try (obtain ⟨_, hr⟩ := hr)); (try (obtain ⟨_, hr⟩ := hr)); (all_goals exact ⟨rfl, by (repeat' (first | trivial | exact D.lts_ints _ | exact D.lts_strs _ | exact Fc.lt | exact fcs_lt _ | exact nfs_lt _ | exact nf_lt | exact D.pl.lt (by assumption) | exact D.dp.lt (by assumption) | exact D.dps.lt (by assumption) | exact D.pls.lt (by assumption) | assumption | refine ⟨?_, ?_⟩))⟩)) | (obtain ⟨h, _⟩ := h; exact (by simp at h)))) fun cdv A outer s H E φ T0 W' room wl => ⟨_, (lss_consW [0, 1] (ls_expr (le_fx G_need_two (room.mono (by decide)) (takes_of rfl rfl rfl rfl) wl (la_cons (lv 0) (la_cons (lv 1) la_nil))))
    (lss_consW [2] (ls_expr (le_fxD G_need_depth (room.mono (by decide)) (takes_of rfl rfl rfl rfl) wl (la_cons (lv 2) la_nil)))
    lss_nil)), fun ds S R X n h hW => ?_⟩, T.m_need_cover, T.F_need_cover.kp, T.b_need_cover⟩
  obtain ⟨Q, E, h, rfl, rfl, rfl, rfl⟩ := h
  subst hW
  obtain ⟨p, o, d, rfl, h⟩ := h
  have h := Oc.then_to h
  conv => whnf
  repeat (refine Need.mk ?_ ?_; (focus (first | trivial | rfl | assumption | (exact Nat.le_trans (by assumption) le10) | (exact Nat.lt_of_le_of_lt (by assumption) lt10) | (show (0 : Int) < _; first | decide | omega) | (show (0 : Int) ≤ _; first | decide | omega) | (exact .inl ⟨by omega, by omega⟩) | (exact .inr ⟨by decide, by decide⟩) | (refine ⟨?_, ?_⟩ <;> first | rfl | decide | omega) | (refine ⟨?_, ?_, ?_⟩ <;> first | rfl | decide | omega) | (exact ltN (Nat.le_of_ble_eq_true rfl)) | (exact leN (Nat.le_of_ble_eq_true rfl)))); (conv => whnf))
  refine ⟨p, o, rfl, Oc.run h fun h => ?_⟩
  conv => whnf
  repeat (refine Need.mk ?_ ?_; (focus (first | trivial | rfl | assumption | (exact Nat.le_trans (by assumption) le10) | (exact Nat.lt_of_le_of_lt (by assumption) lt10) | (show (0 : Int) < _; first | decide | omega) | (show (0 : Int) ≤ _; first | decide | omega) | (exact .inl ⟨by omega, by omega⟩) | (exact .inr ⟨by decide, by decide⟩) | (refine ⟨?_, ?_⟩ <;> first | rfl | decide | omega) | (refine ⟨?_, ?_, ?_⟩ <;> first | rfl | decide | omega) | (exact ltN (Nat.le_of_ble_eq_true rfl)) | (exact leN (Nat.le_of_ble_eq_true rfl)))); (conv => whnf))
  refine ⟨d, 0, rfl, Oc.run h fun h => ?_⟩
  conv => whnf
  repeat (refine Need.mk ?_ ?_; (focus (first | trivial | rfl | assumption | (exact Nat.le_trans (by assumption) le10) | (exact Nat.lt_of_le_of_lt (by assumption) lt10) | (show (0 : Int) < _; first | decide | omega) | (show (0 : Int) ≤ _; first | decide | omega) | (exact .inl ⟨by omega, by omega⟩) | (exact .inr ⟨by decide, by decide⟩) | (refine ⟨?_, ?_⟩ <;> first | rfl | decide | omega) | (refine ⟨?_, ?_, ?_⟩ <;> first | rfl | decide | omega) | (exact ltN (Nat.le_of_ble_eq_true rfl)) | (exact leN (Nat.le_of_ble_eq_true rfl)))); (conv => whnf))
  exact Rp (d := .non) h
def sp_need_moved (a : Ad) : SpP := fun ds Q E => ∃ p c l d : Int, ds = [.int p, .int c, .int l, .int d] ∧ (ocMoved p c l d).to (ocA a) Q E
theorem ok_need_moved (T : Txt K w mg a) (G_need_part : Fx P w K mg base 4 a.a_need_part a.d_need_part "need_part" ["part"] (lp (sp_need_part a))) (G_need_depth : FxD P w K mg base 4 a.a_need_depth a.d_need_depth "need_depth" ["depth", "least"] (lp (sp_need_depth a)) [V.int 0] [D.int 0]) (G_need_two : Fx P w K mg base 5 a.a_need_two a.d_need_two "need_two" ["part", "other"] (lp (sp_need_two a))) : Fx P w K mg base 6 a.a_need_moved a.d_need_moved "need_moved" ["part", "coats", "lower", "depth"] (lp (sp_need_moved a)) := by
  refine ⟨fn_P T.F_need_moved sc_need_moved (by (intro ds Q E h; first | (obtain ⟨h, hr⟩ := h; subst h; (try (obtain ⟨_, hr⟩ := hr)); (try (obtain ⟨_, hr⟩ := hr)); (try (obtain ⟨_, hr⟩ := hr)); (try (obtain ⟨_, hr⟩ := hr)); (all_goals exact ⟨rfl, by (repeat' (first | trivial | exact D.lts_ints _ | exact D.lts_strs _ | exact Fc.lt | exact fcs_lt _ | exact nfs_lt _ | exact nf_lt | exact D.pl.lt (by assumption) | exact D.dp.lt (by assumption) | exact D.dps.lt (by assumption) | exact D.pls.lt (by assumption) | assumption | refine ⟨?_, ?_⟩))⟩)) | (obtain ⟨_, h, hr⟩ := h; subst h; (try (obtain ⟨_, hr⟩ := hr)); (try (obtain ⟨_, hr⟩ := hr)); (try (obtain ⟨_, hr⟩ := hr)); (try (obtain ⟨_, hr⟩ := hr)); (all_goals exact ⟨rfl, by (repeat' (first | trivial | exact D.lts_ints _ | exact D.lts_strs _ | exact Fc.lt | exact fcs_lt _ | exact nfs_lt _ | exact nf_lt | exact D.pl.lt (by assumption) | exact D.dp.lt (by assumption) | exact D.dps.lt (by assumption) | exact D.pls.lt (by assumption) | assumption | refine ⟨?_, ?_⟩))⟩)) | (obtain ⟨_, _, h, hr⟩ := h; subst h; (try (obtain ⟨_, hr⟩ := hr)); (try (obtain ⟨_, hr⟩ := hr)); (try (obtain ⟨_, hr⟩ := hr)); (try (obtain ⟨_, hr⟩ := hr)); (all_goals exact ⟨rfl, by (repeat' (first | trivial | exact D.lts_ints _ | exact D.lts_strs _ | exact Fc.lt | exact fcs_lt _ | exact nfs_lt _ | exact nf_lt | exact D.pl.lt (by assumption) | exact D.dp.lt (by assumption) | exact D.dps.lt (by assumption) | exact D.pls.lt (by assumption) | assumption | refine ⟨?_, ?_⟩))⟩)) | (obtain ⟨_, _, _, h, hr⟩ := h; subst h; (try (obtain ⟨_, hr⟩ := hr)); (try (obtain ⟨_, hr⟩ := hr)); (try (obtain ⟨_, hr⟩ := hr)); (try (obtain ⟨_, hr⟩ := hr)); (all_goals exact ⟨rfl, by (repeat' (first | trivial | exact D.lts_ints _ | exact D.lts_strs _ | exact Fc.lt | exact fcs_lt _ | exact nfs_lt _ | exact nf_lt | exact D.pl.lt (by assumption) | exact D.dp.lt (by assumption) | exact D.dps.lt (by assumption) | exact D.pls.lt (by assumption) | assumption | refine ⟨?_, ?_⟩))⟩)) | (obtain ⟨_, _, _, _, h, hr⟩ := h; subst h; (try (obtain ⟨_, hr⟩ := hr)); (try (obtain ⟨_, hr⟩ := hr)); (try (obtain ⟨_, hr⟩ := hr)); (try (obtain ⟨_, hr⟩ := hr)); (all_goals exact ⟨rfl, by (repeat' (first | trivial | exact D.lts_ints _ | exact D.lts_strs _ | exact Fc.lt | exact fcs_lt _ | exact nfs_lt _ | exact nf_lt | exact D.pl.lt (by assumption) | exact D.dp.lt (by assumption) | exact D.dps.lt (by assumption) | exact D.pls.lt (by assumption) | assumption | refine ⟨?_, ?_⟩))⟩)) | (obtain ⟨_, _, _, _, _, h, hr⟩ := h; subst h; (try (obtain ⟨_, hr⟩ := hr)); (try (obtain ⟨_, hr⟩ := hr)); (try (obtain ⟨_, hr⟩ := hr)); (try (obtain ⟨_, hr⟩ := hr)); (all_goals exact ⟨rfl, by (repeat' (first | trivial | exact D.lts_ints _ | exact D.lts_strs _ | exact Fc.lt | exact fcs_lt _ | exact nfs_lt _ | exact nf_lt | exact D.pl.lt (by assumption) | exact D.dp.lt (by assumption) | exact D.dps.lt (by assumption) | exact D.pls.lt (by assumption) | assumption | refine ⟨?_, ?_⟩))⟩)) | (obtain ⟨h, _⟩ := h; exact (by simp at h)))) fun cdv A outer s H E φ T0 W' room wl => ⟨_, (lss_cons (ls_expr (le_fx G_need_part (room.mono (by decide)) (takes_of rfl rfl rfl rfl) wl (la_cons (lv 0) la_nil)))
    (lss_consW [1] (ls_expr (le_callKw (ks := ["least"]) G_need_depth.ok (room.mono (by decide)) G_need_depth.gm G_need_depth.kp T.kb_need_depth_1_least (takes_of rfl rfl rfl rfl) wl (la_cons (lv 1) la_nil) (lkw_cons le_int lkw_nil)))
    (lss_consW [0, 2] (ls_expr (le_fx G_need_two (room.mono (by decide)) (takes_of rfl rfl rfl rfl) wl (la_cons (lv 0) (la_cons (lv 2) la_nil))))
    (lss_consW [3] (ls_expr (le_fxD G_need_depth (room.mono (by decide)) (takes_of rfl rfl rfl rfl) wl (la_cons (lv 3) la_nil)))
    lss_nil)))), fun ds S R X n h hW => ?_⟩, T.m_need_moved, T.F_need_moved.kp, T.b_need_moved⟩
  obtain ⟨Q, E, h, rfl, rfl, rfl, rfl⟩ := h
  subst hW
  obtain ⟨p, c, l, d, rfl, h⟩ := h
  have h := (Oc.then_to (Oc.then_to (Oc.then_to h)))
  conv => whnf
  repeat (refine Need.mk ?_ ?_; (focus (first | trivial | rfl | assumption | (exact Nat.le_trans (by assumption) le10) | (exact Nat.lt_of_le_of_lt (by assumption) lt10) | (show (0 : Int) < _; first | decide | omega) | (show (0 : Int) ≤ _; first | decide | omega) | (exact .inl ⟨by omega, by omega⟩) | (exact .inr ⟨by decide, by decide⟩) | (refine ⟨?_, ?_⟩ <;> first | rfl | decide | omega) | (refine ⟨?_, ?_, ?_⟩ <;> first | rfl | decide | omega) | (exact ltN (Nat.le_of_ble_eq_true rfl)) | (exact leN (Nat.le_of_ble_eq_true rfl)))); (conv => whnf))
  refine ⟨p, rfl, Oc.run h fun h => ?_⟩
  conv => whnf
  repeat (refine Need.mk ?_ ?_; (focus (first | trivial | rfl | assumption | (exact Nat.le_trans (by assumption) le10) | (exact Nat.lt_of_le_of_lt (by assumption) lt10) | (show (0 : Int) < _; first | decide | omega) | (show (0 : Int) ≤ _; first | decide | omega) | (exact .inl ⟨by omega, by omega⟩) | (exact .inr ⟨by decide, by decide⟩) | (refine ⟨?_, ?_⟩ <;> first | rfl | decide | omega) | (refine ⟨?_, ?_, ?_⟩ <;> first | rfl | decide | omega) | (exact ltN (Nat.le_of_ble_eq_true rfl)) | (exact leN (Nat.le_of_ble_eq_true rfl)))); (conv => whnf))
  refine ⟨c, 1, rfl, Oc.run h fun h => ?_⟩
  conv => whnf
  repeat (refine Need.mk ?_ ?_; (focus (first | trivial | rfl | assumption | (exact Nat.le_trans (by assumption) le10) | (exact Nat.lt_of_le_of_lt (by assumption) lt10) | (show (0 : Int) < _; first | decide | omega) | (show (0 : Int) ≤ _; first | decide | omega) | (exact .inl ⟨by omega, by omega⟩) | (exact .inr ⟨by decide, by decide⟩) | (refine ⟨?_, ?_⟩ <;> first | rfl | decide | omega) | (refine ⟨?_, ?_, ?_⟩ <;> first | rfl | decide | omega) | (exact ltN (Nat.le_of_ble_eq_true rfl)) | (exact leN (Nat.le_of_ble_eq_true rfl)))); (conv => whnf))
  refine ⟨p, l, rfl, Oc.run h fun h => ?_⟩
  conv => whnf
  repeat (refine Need.mk ?_ ?_; (focus (first | trivial | rfl | assumption | (exact Nat.le_trans (by assumption) le10) | (exact Nat.lt_of_le_of_lt (by assumption) lt10) | (show (0 : Int) < _; first | decide | omega) | (show (0 : Int) ≤ _; first | decide | omega) | (exact .inl ⟨by omega, by omega⟩) | (exact .inr ⟨by decide, by decide⟩) | (refine ⟨?_, ?_⟩ <;> first | rfl | decide | omega) | (refine ⟨?_, ?_, ?_⟩ <;> first | rfl | decide | omega) | (exact ltN (Nat.le_of_ble_eq_true rfl)) | (exact leN (Nat.le_of_ble_eq_true rfl)))); (conv => whnf))
  refine ⟨d, 0, rfl, Oc.run h fun h => ?_⟩
  conv => whnf
  repeat (refine Need.mk ?_ ?_; (focus (first | trivial | rfl | assumption | (exact Nat.le_trans (by assumption) le10) | (exact Nat.lt_of_le_of_lt (by assumption) lt10) | (show (0 : Int) < _; first | decide | omega) | (show (0 : Int) ≤ _; first | decide | omega) | (exact .inl ⟨by omega, by omega⟩) | (exact .inr ⟨by decide, by decide⟩) | (refine ⟨?_, ?_⟩ <;> first | rfl | decide | omega) | (refine ⟨?_, ?_, ?_⟩ <;> first | rfl | decide | omega) | (exact ltN (Nat.le_of_ble_eq_true rfl)) | (exact leN (Nat.le_of_ble_eq_true rfl)))); (conv => whnf))
  exact Rp (d := .non) h
def sp_need_dated (a : Ad) : SpP := fun ds Q E => ∃ p c f l : Int, ds = [.int p, .int c, .int f, .int l] ∧ (ocDated p c f l).to (ocA a) Q E
theorem ok_need_dated (T : Txt K w mg a) (G_need_part : Fx P w K mg base 4 a.a_need_part a.d_need_part "need_part" ["part"] (lp (sp_need_part a))) (G_need_coat : Fx P w K mg base 4 a.a_need_coat a.d_need_coat "need_coat" ["coat"] (lp (sp_need_coat a))) (G_need_year : Fx P w K mg base 4 a.a_need_year a.d_need_year "need_year" ["year"] (lp (sp_need_year a))) (Z_Backward : XcD P w K mg base "Backward" a.c_Backward a.a_Backward_init a.d_Backward_init ["self"] 0 (fl0 "backward") (fd0 "backward") [] []) : Fx P w K mg base 5 a.a_need_dated a.d_need_dated "need_dated" ["part", "coat", "first", "last"] (lp (sp_need_dated a)) := by
  refine ⟨fn_P T.F_need_dated sc_need_dated (by (intro ds Q E h; first | (obtain ⟨h, hr⟩ := h; subst h; (try (obtain ⟨_, hr⟩ := hr)); (try (obtain ⟨_, hr⟩ := hr)); (try (obtain ⟨_, hr⟩ := hr)); (try (obtain ⟨_, hr⟩ := hr)); (all_goals exact ⟨rfl, by (repeat' (first | trivial | exact D.lts_ints _ | exact D.lts_strs _ | exact Fc.lt | exact fcs_lt _ | exact nfs_lt _ | exact nf_lt | exact D.pl.lt (by assumption) | exact D.dp.lt (by assumption) | exact D.dps.lt (by assumption) | exact D.pls.lt (by assumption) | assumption | refine ⟨?_, ?_⟩))⟩)) | (obtain ⟨_, h, hr⟩ := h; subst h; (try (obtain ⟨_, hr⟩ := hr)); (try (obtain ⟨_, hr⟩ := hr)); (try (obtain ⟨_, hr⟩ := hr)); (try (obtain ⟨_, hr⟩ := hr)); (all_goals exact ⟨rfl, by (repeat' (first | trivial | exact D.lts_ints _ | exact D.lts_strs _ | exact Fc.lt | exact fcs_lt _ | exact nfs_lt _ | exact nf_lt | exact D.pl.lt (by assumption) | exact D.dp.lt (by assumption) | exact D.dps.lt (by assumption) | exact D.pls.lt (by assumption) | assumption | refine ⟨?_, ?_⟩))⟩)) | (obtain ⟨_, _, h, hr⟩ := h; subst h; (try (obtain ⟨_, hr⟩ := hr)); (try (obtain ⟨_, hr⟩ := hr)); (try (obtain ⟨_, hr⟩ := hr)); (try (obtain ⟨_, hr⟩ := hr)); (all_goals exact ⟨rfl, by (repeat' (first | trivial | exact D.lts_ints _ | exact D.lts_strs _ | exact Fc.lt | exact fcs_lt _ | exact nfs_lt _ | exact nf_lt | exact D.pl.lt (by assumption) | exact D.dp.lt (by assumption) | exact D.dps.lt (by assumption) | exact D.pls.lt (by assumption) | assumption | refine ⟨?_, ?_⟩))⟩)) | (obtain ⟨_, _, _, h, hr⟩ := h; subst h; (try (obtain ⟨_, hr⟩ := hr)); (try (obtain ⟨_, hr⟩ := hr)); (try (obtain ⟨_, hr⟩ := hr)); (try (obtain ⟨_, hr⟩ := hr)); (all_goals exact ⟨rfl, by (repeat' (first | trivial | exact D.lts_ints _ | exact D.lts_strs _ | exact Fc.lt | exact fcs_lt _ | exact nfs_lt _ | exact nf_lt | exact D.pl.lt (by assumption) | exact D.dp.lt (by assumption) | exact D.dps.lt (by assumption) | exact D.pls.lt (by assumption) | assumption | refine ⟨?_, ?_⟩))⟩)) | (obtain ⟨_, _, _, _, h, hr⟩ := h; subst h; (try (obtain ⟨_, hr⟩ := hr)); (try (obtain ⟨_, hr⟩ := hr)); (try (obtain ⟨_, hr⟩ := hr)); (try (obtain ⟨_, hr⟩ := hr)); (all_goals exact ⟨rfl, by (repeat' (first | trivial | exact D.lts_ints _ | exact D.lts_strs _ | exact Fc.lt | exact fcs_lt _ | exact nfs_lt _ | exact nf_lt | exact D.pl.lt (by assumption) | exact D.dp.lt (by assumption) | exact D.dps.lt (by assumption) | exact D.pls.lt (by assumption) | assumption | refine ⟨?_, ?_⟩))⟩)) | (obtain ⟨_, _, _, _, _, h, hr⟩ := h; subst h; (try (obtain ⟨_, hr⟩ := hr)); (try (obtain ⟨_, hr⟩ := hr)); (try (obtain ⟨_, hr⟩ := hr)); (try (obtain ⟨_, hr⟩ := hr)); (all_goals exact ⟨rfl, by (repeat' (first | trivial | exact D.lts_ints _ | exact D.lts_strs _ | exact Fc.lt | exact fcs_lt _ | exact nfs_lt _ | exact nf_lt | exact D.pl.lt (by assumption) | exact D.dp.lt (by assumption) | exact D.dps.lt (by assumption) | exact D.pls.lt (by assumption) | assumption | refine ⟨?_, ?_⟩))⟩)) | (obtain ⟨h, _⟩ := h; exact (by simp at h)))) fun cdv A outer s H E φ T0 W' room wl => ⟨_, (lss_consW [0] (ls_expr (le_fx G_need_part (room.mono (by decide)) (takes_of rfl rfl rfl rfl) wl (la_cons (lv 0) la_nil)))
    (lss_consW [1] (ls_expr (le_fx G_need_coat (room.mono (by decide)) (takes_of rfl rfl rfl rfl) wl (la_cons (lv 1) la_nil)))
    (lss_cons (ls_expr (le_fx G_need_year (room.mono (by decide)) (takes_of rfl rfl rfl rfl) wl (la_cons (lv 2) la_nil)))
    (lss_cons (ls_expr (le_fx G_need_year (room.mono (by decide)) (takes_of rfl rfl rfl rfl) wl (la_cons (lv 3) la_nil)))
    (lss_consW [2, 3] (ls_if (lt_cmp oo_lt (lv 3) (lv 2) (by rfl)) (lss_cons (ls_rz0 Z_Backward rfl (room.mono (by decide)) (takes_of rfl rfl rfl rfl) wl)
    lss_nil) lss_nil)
    lss_nil))))), fun ds S R X n h hW => ?_⟩, T.m_need_dated, T.F_need_dated.kp, T.b_need_dated⟩
  obtain ⟨Q, E, h, rfl, rfl, rfl, rfl⟩ := h
  subst hW
  obtain ⟨p, c, f, l, rfl, h⟩ := h
  have h := (Oc.then_to (Oc.then_to (Oc.then_to (Oc.then_to h))))
  conv => whnf
  repeat (refine Need.mk ?_ ?_; (focus (first | trivial | rfl | assumption | (exact Nat.le_trans (by assumption) le10) | (exact Nat.lt_of_le_of_lt (by assumption) lt10) | (show (0 : Int) < _; first | decide | omega) | (show (0 : Int) ≤ _; first | decide | omega) | (exact .inl ⟨by omega, by omega⟩) | (exact .inr ⟨by decide, by decide⟩) | (refine ⟨?_, ?_⟩ <;> first | rfl | decide | omega) | (refine ⟨?_, ?_, ?_⟩ <;> first | rfl | decide | omega) | (exact ltN (Nat.le_of_ble_eq_true rfl)) | (exact leN (Nat.le_of_ble_eq_true rfl)))); (conv => whnf))
  refine ⟨p, rfl, Oc.run h fun h => ?_⟩
  conv => whnf
  repeat (refine Need.mk ?_ ?_; (focus (first | trivial | rfl | assumption | (exact Nat.le_trans (by assumption) le10) | (exact Nat.lt_of_le_of_lt (by assumption) lt10) | (show (0 : Int) < _; first | decide | omega) | (show (0 : Int) ≤ _; first | decide | omega) | (exact .inl ⟨by omega, by omega⟩) | (exact .inr ⟨by decide, by decide⟩) | (refine ⟨?_, ?_⟩ <;> first | rfl | decide | omega) | (refine ⟨?_, ?_, ?_⟩ <;> first | rfl | decide | omega) | (exact ltN (Nat.le_of_ble_eq_true rfl)) | (exact leN (Nat.le_of_ble_eq_true rfl)))); (conv => whnf))
  refine ⟨c, rfl, Oc.run h fun h => ?_⟩
  conv => whnf
  repeat (refine Need.mk ?_ ?_; (focus (first | trivial | rfl | assumption | (exact Nat.le_trans (by assumption) le10) | (exact Nat.lt_of_le_of_lt (by assumption) lt10) | (show (0 : Int) < _; first | decide | omega) | (show (0 : Int) ≤ _; first | decide | omega) | (exact .inl ⟨by omega, by omega⟩) | (exact .inr ⟨by decide, by decide⟩) | (refine ⟨?_, ?_⟩ <;> first | rfl | decide | omega) | (refine ⟨?_, ?_, ?_⟩ <;> first | rfl | decide | omega) | (exact ltN (Nat.le_of_ble_eq_true rfl)) | (exact leN (Nat.le_of_ble_eq_true rfl)))); (conv => whnf))
  refine ⟨f, rfl, Oc.run h fun h => ?_⟩
  conv => whnf
  repeat (refine Need.mk ?_ ?_; (focus (first | trivial | rfl | assumption | (exact Nat.le_trans (by assumption) le10) | (exact Nat.lt_of_le_of_lt (by assumption) lt10) | (show (0 : Int) < _; first | decide | omega) | (show (0 : Int) ≤ _; first | decide | omega) | (exact .inl ⟨by omega, by omega⟩) | (exact .inr ⟨by decide, by decide⟩) | (refine ⟨?_, ?_⟩ <;> first | rfl | decide | omega) | (refine ⟨?_, ?_, ?_⟩ <;> first | rfl | decide | omega) | (exact ltN (Nat.le_of_ble_eq_true rfl)) | (exact leN (Nat.le_of_ble_eq_true rfl)))); (conv => whnf))
  refine ⟨l, rfl, Oc.run h fun h => ?_⟩
  conv => whnf
  repeat (refine Need.mk ?_ ?_; (focus (first | trivial | rfl | assumption | (exact Nat.le_trans (by assumption) le10) | (exact Nat.lt_of_le_of_lt (by assumption) lt10) | (show (0 : Int) < _; first | decide | omega) | (show (0 : Int) ≤ _; first | decide | omega) | (exact .inl ⟨by omega, by omega⟩) | (exact .inr ⟨by decide, by decide⟩) | (refine ⟨?_, ?_⟩ <;> first | rfl | decide | omega) | (refine ⟨?_, ?_, ?_⟩ <;> first | rfl | decide | omega) | (exact ltN (Nat.le_of_ble_eq_true rfl)) | (exact leN (Nat.le_of_ble_eq_true rfl)))); (conv => whnf))
  refine brd (fun hc => ?_) (fun hc => ?_)
  · conv => whnf
    repeat (refine Need.mk ?_ ?_; (focus (first | trivial | rfl | assumption | (exact Nat.le_trans (by assumption) le10) | (exact Nat.lt_of_le_of_lt (by assumption) lt10) | (show (0 : Int) < _; first | decide | omega) | (show (0 : Int) ≤ _; first | decide | omega) | (exact .inl ⟨by omega, by omega⟩) | (exact .inr ⟨by decide, by decide⟩) | (refine ⟨?_, ?_⟩ <;> first | rfl | decide | omega) | (refine ⟨?_, ?_, ?_⟩ <;> first | rfl | decide | omega) | (exact ltN (Nat.le_of_ble_eq_true rfl)) | (exact leN (Nat.le_of_ble_eq_true rfl)))); (conv => whnf))
    rw [ocIf_neg (by (have hc : l < f := hc); omega)] at h
    exact Xp (fs := [("called", .str "backward")]) h
  · conv => whnf
    repeat (refine Need.mk ?_ ?_; (focus (first | trivial | rfl | assumption | (exact Nat.le_trans (by assumption) le10) | (exact Nat.lt_of_le_of_lt (by assumption) lt10) | (show (0 : Int) < _; first | decide | omega) | (show (0 : Int) ≤ _; first | decide | omega) | (exact .inl ⟨by omega, by omega⟩) | (exact .inr ⟨by decide, by decide⟩) | (refine ⟨?_, ?_⟩ <;> first | rfl | decide | omega) | (refine ⟨?_, ?_, ?_⟩ <;> first | rfl | decide | omega) | (exact ltN (Nat.le_of_ble_eq_true rfl)) | (exact leN (Nat.le_of_ble_eq_true rfl)))); (conv => whnf))
    rw [ocIf_pos (by (have hc : ¬ l < f := hc); omega)] at h
    exact Rp (d := .non) h
def sp_need_sold (a : Ad) : SpP := fun ds Q E => ∃ s y : Int, ds = [.int s, .int y] ∧ (ocSold s y).to (ocA a) Q E
theorem ok_need_sold (T : Txt K w mg a) (Z_BadShade : XcD P w K mg base "BadShade" a.c_BadShade a.a_BadShade_init a.d_BadShade_init ["self"] 0 (fl0 "badshade") (fd0 "badshade") [] []) (G_need_year : Fx P w K mg base 4 a.a_need_year a.d_need_year "need_year" ["year"] (lp (sp_need_year a))) : Fx P w K mg base 5 a.a_need_sold a.d_need_sold "need_sold" ["shade", "year"] (lp (sp_need_sold a)) := by
  refine ⟨fn_P T.F_need_sold sc_need_sold (by (intro ds Q E h; first | (obtain ⟨h, hr⟩ := h; subst h; (try (obtain ⟨_, hr⟩ := hr)); (try (obtain ⟨_, hr⟩ := hr)); (try (obtain ⟨_, hr⟩ := hr)); (try (obtain ⟨_, hr⟩ := hr)); (all_goals exact ⟨rfl, by (repeat' (first | trivial | exact D.lts_ints _ | exact D.lts_strs _ | exact Fc.lt | exact fcs_lt _ | exact nfs_lt _ | exact nf_lt | exact D.pl.lt (by assumption) | exact D.dp.lt (by assumption) | exact D.dps.lt (by assumption) | exact D.pls.lt (by assumption) | assumption | refine ⟨?_, ?_⟩))⟩)) | (obtain ⟨_, h, hr⟩ := h; subst h; (try (obtain ⟨_, hr⟩ := hr)); (try (obtain ⟨_, hr⟩ := hr)); (try (obtain ⟨_, hr⟩ := hr)); (try (obtain ⟨_, hr⟩ := hr)); (all_goals exact ⟨rfl, by (repeat' (first | trivial | exact D.lts_ints _ | exact D.lts_strs _ | exact Fc.lt | exact fcs_lt _ | exact nfs_lt _ | exact nf_lt | exact D.pl.lt (by assumption) | exact D.dp.lt (by assumption) | exact D.dps.lt (by assumption) | exact D.pls.lt (by assumption) | assumption | refine ⟨?_, ?_⟩))⟩)) | (obtain ⟨_, _, h, hr⟩ := h; subst h; (try (obtain ⟨_, hr⟩ := hr)); (try (obtain ⟨_, hr⟩ := hr)); (try (obtain ⟨_, hr⟩ := hr)); (try (obtain ⟨_, hr⟩ := hr)); (all_goals exact ⟨rfl, by (repeat' (first | trivial | exact D.lts_ints _ | exact D.lts_strs _ | exact Fc.lt | exact fcs_lt _ | exact nfs_lt _ | exact nf_lt | exact D.pl.lt (by assumption) | exact D.dp.lt (by assumption) | exact D.dps.lt (by assumption) | exact D.pls.lt (by assumption) | assumption | refine ⟨?_, ?_⟩))⟩)) | (obtain ⟨_, _, _, h, hr⟩ := h; subst h; (try (obtain ⟨_, hr⟩ := hr)); (try (obtain ⟨_, hr⟩ := hr)); (try (obtain ⟨_, hr⟩ := hr)); (try (obtain ⟨_, hr⟩ := hr)); (all_goals exact ⟨rfl, by (repeat' (first | trivial | exact D.lts_ints _ | exact D.lts_strs _ | exact Fc.lt | exact fcs_lt _ | exact nfs_lt _ | exact nf_lt | exact D.pl.lt (by assumption) | exact D.dp.lt (by assumption) | exact D.dps.lt (by assumption) | exact D.pls.lt (by assumption) | assumption | refine ⟨?_, ?_⟩))⟩)) | (obtain ⟨_, _, _, _, h, hr⟩ := h; subst h; (try (obtain ⟨_, hr⟩ := hr)); (try (obtain ⟨_, hr⟩ := hr)); (try (obtain ⟨_, hr⟩ := hr)); (try (obtain ⟨_, hr⟩ := hr)); (all_goals exact ⟨rfl, by (repeat' (first | trivial | exact D.lts_ints _ | exact D.lts_strs _ | exact Fc.lt | exact fcs_lt _ | exact nfs_lt _ | exact nf_lt | exact D.pl.lt (by assumption) | exact D.dp.lt (by assumption) | exact D.dps.lt (by assumption) | exact D.pls.lt (by assumption) | assumption | refine ⟨?_, ?_⟩))⟩)) | (obtain ⟨_, _, _, _, _, h, hr⟩ := h; subst h; (try (obtain ⟨_, hr⟩ := hr)); (try (obtain ⟨_, hr⟩ := hr)); (try (obtain ⟨_, hr⟩ := hr)); (try (obtain ⟨_, hr⟩ := hr)); (all_goals exact ⟨rfl, by (repeat' (first | trivial | exact D.lts_ints _ | exact D.lts_strs _ | exact Fc.lt | exact fcs_lt _ | exact nfs_lt _ | exact nf_lt | exact D.pl.lt (by assumption) | exact D.dp.lt (by assumption) | exact D.dps.lt (by assumption) | exact D.pls.lt (by assumption) | assumption | refine ⟨?_, ?_⟩))⟩)) | (obtain ⟨h, _⟩ := h; exact (by simp at h)))) fun cdv A outer s H E φ T0 W' room wl => ⟨_, (lss_consW [0] (ls_if (LW.t (lw_or (lt_cmp oo_lt (lv 0) le_int (by rfl)) (lw_or1 (lt_cmp oo_gt (lv 0) (T.g_LAST_SHADE.le rfl) (by rfl))))) (lss_cons (ls_rz0 Z_BadShade rfl (room.mono (by decide)) (takes_of rfl rfl rfl rfl) wl)
    lss_nil) lss_nil)
    (lss_consW [1] (ls_expr (le_fx G_need_year (room.mono (by decide)) (takes_of rfl rfl rfl rfl) wl (la_cons (lv 1) la_nil)))
    lss_nil)), fun ds S R X n h hW => ?_⟩, T.m_need_sold, T.F_need_sold.kp, T.b_need_sold⟩
  obtain ⟨Q, E, h, rfl, rfl, rfl, rfl⟩ := h
  subst hW
  obtain ⟨s, y, rfl, h⟩ := h
  have h := Oc.then_to h
  conv => whnf
  repeat (refine Need.mk ?_ ?_; (focus (first | trivial | rfl | assumption | (exact Nat.le_trans (by assumption) le10) | (exact Nat.lt_of_le_of_lt (by assumption) lt10) | (show (0 : Int) < _; first | decide | omega) | (show (0 : Int) ≤ _; first | decide | omega) | (exact .inl ⟨by omega, by omega⟩) | (exact .inr ⟨by decide, by decide⟩) | (refine ⟨?_, ?_⟩ <;> first | rfl | decide | omega) | (refine ⟨?_, ?_, ?_⟩ <;> first | rfl | decide | omega) | (exact ltN (Nat.le_of_ble_eq_true rfl)) | (exact leN (Nat.le_of_ble_eq_true rfl)))); (conv => whnf))
  refine brd (fun hc => ?_) (fun hc => ?_)
  · have hc : s < 1 := hc
    conv => whnf
    repeat (refine Need.mk ?_ ?_; (focus (first | trivial | rfl | assumption | (exact Nat.le_trans (by assumption) le10) | (exact Nat.lt_of_le_of_lt (by assumption) lt10) | (show (0 : Int) < _; first | decide | omega) | (show (0 : Int) ≤ _; first | decide | omega) | (exact .inl ⟨by omega, by omega⟩) | (exact .inr ⟨by decide, by decide⟩) | (refine ⟨?_, ?_⟩ <;> first | rfl | decide | omega) | (refine ⟨?_, ?_, ?_⟩ <;> first | rfl | decide | omega) | (exact ltN (Nat.le_of_ble_eq_true rfl)) | (exact leN (Nat.le_of_ble_eq_true rfl)))); (conv => whnf))
    rw [ocIf_neg (by omega)] at h
    exact Xp (fs := [("called", .str "badshade")]) h
  · have hc : ¬ s < 1 := hc
    conv => whnf
    repeat (refine Need.mk ?_ ?_; (focus (first | trivial | rfl | assumption | (exact Nat.le_trans (by assumption) le10) | (exact Nat.lt_of_le_of_lt (by assumption) lt10) | (show (0 : Int) < _; first | decide | omega) | (show (0 : Int) ≤ _; first | decide | omega) | (exact .inl ⟨by omega, by omega⟩) | (exact .inr ⟨by decide, by decide⟩) | (refine ⟨?_, ?_⟩ <;> first | rfl | decide | omega) | (refine ⟨?_, ?_, ?_⟩ <;> first | rfl | decide | omega) | (exact ltN (Nat.le_of_ble_eq_true rfl)) | (exact leN (Nat.le_of_ble_eq_true rfl)))); (conv => whnf))
    refine brd (fun hd => ?_) (fun hd => ?_)
    · have hd : (6 : Int) < s := hd
      conv => whnf
      repeat (refine Need.mk ?_ ?_; (focus (first | trivial | rfl | assumption | (exact Nat.le_trans (by assumption) le10) | (exact Nat.lt_of_le_of_lt (by assumption) lt10) | (show (0 : Int) < _; first | decide | omega) | (show (0 : Int) ≤ _; first | decide | omega) | (exact .inl ⟨by omega, by omega⟩) | (exact .inr ⟨by decide, by decide⟩) | (refine ⟨?_, ?_⟩ <;> first | rfl | decide | omega) | (refine ⟨?_, ?_, ?_⟩ <;> first | rfl | decide | omega) | (exact ltN (Nat.le_of_ble_eq_true rfl)) | (exact leN (Nat.le_of_ble_eq_true rfl)))); (conv => whnf))
      rw [ocIf_neg (by omega)] at h
      exact Xp (fs := [("called", .str "badshade")]) h
    · have hd : ¬ (6 : Int) < s := hd
      conv => whnf
      repeat (refine Need.mk ?_ ?_; (focus (first | trivial | rfl | assumption | (exact Nat.le_trans (by assumption) le10) | (exact Nat.lt_of_le_of_lt (by assumption) lt10) | (show (0 : Int) < _; first | decide | omega) | (show (0 : Int) ≤ _; first | decide | omega) | (exact .inl ⟨by omega, by omega⟩) | (exact .inr ⟨by decide, by decide⟩) | (refine ⟨?_, ?_⟩ <;> first | rfl | decide | omega) | (refine ⟨?_, ?_, ?_⟩ <;> first | rfl | decide | omega) | (exact ltN (Nat.le_of_ble_eq_true rfl)) | (exact leN (Nat.le_of_ble_eq_true rfl)))); (conv => whnf))
      rw [ocIf_pos (by omega)] at h
      have h : (ocYear y).to (ocA a) Q E := h
      refine ⟨y, rfl, Oc.run h fun h => ?_⟩
      conv => whnf
      repeat (refine Need.mk ?_ ?_; (focus (first | trivial | rfl | assumption | (exact Nat.le_trans (by assumption) le10) | (exact Nat.lt_of_le_of_lt (by assumption) lt10) | (show (0 : Int) < _; first | decide | omega) | (show (0 : Int) ≤ _; first | decide | omega) | (exact .inl ⟨by omega, by omega⟩) | (exact .inr ⟨by decide, by decide⟩) | (refine ⟨?_, ?_⟩ <;> first | rfl | decide | omega) | (refine ⟨?_, ?_, ?_⟩ <;> first | rfl | decide | omega) | (exact ltN (Nat.le_of_ble_eq_true rfl)) | (exact leN (Nat.le_of_ble_eq_true rfl)))); (conv => whnf))
      exact Rp (d := .non) h
def sp_need_coats (a : Ad) : SpP := fun ds Q E => ∃ p c o d : Int, ds = [.int p, .int c, .int o, .int d] ∧ (ocCoats p c o d).to (ocA a) Q E
theorem ok_need_coats (T : Txt K w mg a) (G_need_part : Fx P w K mg base 4 a.a_need_part a.d_need_part "need_part" ["part"] (lp (sp_need_part a))) (G_need_coat : Fx P w K mg base 4 a.a_need_coat a.d_need_coat "need_coat" ["coat"] (lp (sp_need_coat a))) : Fx P w K mg base 5 a.a_need_coats a.d_need_coats "need_coats" ["part", "coat", "other", "second"] (lp (sp_need_coats a)) := by
  refine ⟨fn_P T.F_need_coats sc_need_coats (by (intro ds Q E h; first | (obtain ⟨h, hr⟩ := h; subst h; (try (obtain ⟨_, hr⟩ := hr)); (try (obtain ⟨_, hr⟩ := hr)); (try (obtain ⟨_, hr⟩ := hr)); (try (obtain ⟨_, hr⟩ := hr)); (all_goals exact ⟨rfl, by (repeat' (first | trivial | exact D.lts_ints _ | exact D.lts_strs _ | exact Fc.lt | exact fcs_lt _ | exact nfs_lt _ | exact nf_lt | exact D.pl.lt (by assumption) | exact D.dp.lt (by assumption) | exact D.dps.lt (by assumption) | exact D.pls.lt (by assumption) | assumption | refine ⟨?_, ?_⟩))⟩)) | (obtain ⟨_, h, hr⟩ := h; subst h; (try (obtain ⟨_, hr⟩ := hr)); (try (obtain ⟨_, hr⟩ := hr)); (try (obtain ⟨_, hr⟩ := hr)); (try (obtain ⟨_, hr⟩ := hr)); (all_goals exact ⟨rfl, by (repeat' (first | trivial | exact D.lts_ints _ | exact D.lts_strs _ | exact Fc.lt | exact fcs_lt _ | exact nfs_lt _ | exact nf_lt | exact D.pl.lt (by assumption) | exact D.dp.lt (by assumption) | exact D.dps.lt (by assumption) | exact D.pls.lt (by assumption) | assumption | refine ⟨?_, ?_⟩))⟩)) | (obtain ⟨_, _, h, hr⟩ := h; subst h; (try (obtain ⟨_, hr⟩ := hr)); (try (obtain ⟨_, hr⟩ := hr)); (try (obtain ⟨_, hr⟩ := hr)); (try (obtain ⟨_, hr⟩ := hr)); (all_goals exact ⟨rfl, by (repeat' (first | trivial | exact D.lts_ints _ | exact D.lts_strs _ | exact Fc.lt | exact fcs_lt _ | exact nfs_lt _ | exact nf_lt | exact D.pl.lt (by assumption) | exact D.dp.lt (by assumption) | exact D.dps.lt (by assumption) | exact D.pls.lt (by assumption) | assumption | refine ⟨?_, ?_⟩))⟩)) | (obtain ⟨_, _, _, h, hr⟩ := h; subst h; (try (obtain ⟨_, hr⟩ := hr)); (try (obtain ⟨_, hr⟩ := hr)); (try (obtain ⟨_, hr⟩ := hr)); (try (obtain ⟨_, hr⟩ := hr)); (all_goals exact ⟨rfl, by (repeat' (first | trivial | exact D.lts_ints _ | exact D.lts_strs _ | exact Fc.lt | exact fcs_lt _ | exact nfs_lt _ | exact nf_lt | exact D.pl.lt (by assumption) | exact D.dp.lt (by assumption) | exact D.dps.lt (by assumption) | exact D.pls.lt (by assumption) | assumption | refine ⟨?_, ?_⟩))⟩)) | (obtain ⟨_, _, _, _, h, hr⟩ := h; subst h; (try (obtain ⟨_, hr⟩ := hr)); (try (obtain ⟨_, hr⟩ := hr)); (try (obtain ⟨_, hr⟩ := hr)); (try (obtain ⟨_, hr⟩ := hr)); (all_goals exact ⟨rfl, by (repeat' (first | trivial | exact D.lts_ints _ | exact D.lts_strs _ | exact Fc.lt | exact fcs_lt _ | exact nfs_lt _ | exact nf_lt | exact D.pl.lt (by assumption) | exact D.dp.lt (by assumption) | exact D.dps.lt (by assumption) | exact D.pls.lt (by assumption) | assumption | refine ⟨?_, ?_⟩))⟩)) | (obtain ⟨_, _, _, _, _, h, hr⟩ := h; subst h; (try (obtain ⟨_, hr⟩ := hr)); (try (obtain ⟨_, hr⟩ := hr)); (try (obtain ⟨_, hr⟩ := hr)); (try (obtain ⟨_, hr⟩ := hr)); (all_goals exact ⟨rfl, by (repeat' (first | trivial | exact D.lts_ints _ | exact D.lts_strs _ | exact Fc.lt | exact fcs_lt _ | exact nfs_lt _ | exact nf_lt | exact D.pl.lt (by assumption) | exact D.dp.lt (by assumption) | exact D.dps.lt (by assumption) | exact D.pls.lt (by assumption) | assumption | refine ⟨?_, ?_⟩))⟩)) | (obtain ⟨h, _⟩ := h; exact (by simp at h)))) fun cdv A outer s H E φ T0 W' room wl => ⟨_, (lss_consW [0] (ls_expr (le_fx G_need_part (room.mono (by decide)) (takes_of rfl rfl rfl rfl) wl (la_cons (lv 0) la_nil)))
    (lss_consW [1] (ls_expr (le_fx G_need_coat (room.mono (by decide)) (takes_of rfl rfl rfl rfl) wl (la_cons (lv 1) la_nil)))
    (lss_consW [2] (ls_expr (le_fx G_need_part (room.mono (by decide)) (takes_of rfl rfl rfl rfl) wl (la_cons (lv 2) la_nil)))
    (lss_consW [3] (ls_expr (le_fx G_need_coat (room.mono (by decide)) (takes_of rfl rfl rfl rfl) wl (la_cons (lv 3) la_nil)))
    lss_nil)))), fun ds S R X n h hW => ?_⟩, T.m_need_coats, T.F_need_coats.kp, T.b_need_coats⟩
  obtain ⟨Q, E, h, rfl, rfl, rfl, rfl⟩ := h
  subst hW
  obtain ⟨p, c, o, d, rfl, h⟩ := h
  have h := (Oc.then_to (Oc.then_to (Oc.then_to h)))
  conv => whnf
  repeat (refine Need.mk ?_ ?_; (focus (first | trivial | rfl | assumption | (exact Nat.le_trans (by assumption) le10) | (exact Nat.lt_of_le_of_lt (by assumption) lt10) | (show (0 : Int) < _; first | decide | omega) | (show (0 : Int) ≤ _; first | decide | omega) | (exact .inl ⟨by omega, by omega⟩) | (exact .inr ⟨by decide, by decide⟩) | (refine ⟨?_, ?_⟩ <;> first | rfl | decide | omega) | (refine ⟨?_, ?_, ?_⟩ <;> first | rfl | decide | omega) | (exact ltN (Nat.le_of_ble_eq_true rfl)) | (exact leN (Nat.le_of_ble_eq_true rfl)))); (conv => whnf))
  refine ⟨p, rfl, Oc.run h fun h => ?_⟩
  conv => whnf
  repeat (refine Need.mk ?_ ?_; (focus (first | trivial | rfl | assumption | (exact Nat.le_trans (by assumption) le10) | (exact Nat.lt_of_le_of_lt (by assumption) lt10) | (show (0 : Int) < _; first | decide | omega) | (show (0 : Int) ≤ _; first | decide | omega) | (exact .inl ⟨by omega, by omega⟩) | (exact .inr ⟨by decide, by decide⟩) | (refine ⟨?_, ?_⟩ <;> first | rfl | decide | omega) | (refine ⟨?_, ?_, ?_⟩ <;> first | rfl | decide | omega) | (exact ltN (Nat.le_of_ble_eq_true rfl)) | (exact leN (Nat.le_of_ble_eq_true rfl)))); (conv => whnf))
  refine ⟨c, rfl, Oc.run h fun h => ?_⟩
  conv => whnf
  repeat (refine Need.mk ?_ ?_; (focus (first | trivial | rfl | assumption | (exact Nat.le_trans (by assumption) le10) | (exact Nat.lt_of_le_of_lt (by assumption) lt10) | (show (0 : Int) < _; first | decide | omega) | (show (0 : Int) ≤ _; first | decide | omega) | (exact .inl ⟨by omega, by omega⟩) | (exact .inr ⟨by decide, by decide⟩) | (refine ⟨?_, ?_⟩ <;> first | rfl | decide | omega) | (refine ⟨?_, ?_, ?_⟩ <;> first | rfl | decide | omega) | (exact ltN (Nat.le_of_ble_eq_true rfl)) | (exact leN (Nat.le_of_ble_eq_true rfl)))); (conv => whnf))
  refine ⟨o, rfl, Oc.run h fun h => ?_⟩
  conv => whnf
  repeat (refine Need.mk ?_ ?_; (focus (first | trivial | rfl | assumption | (exact Nat.le_trans (by assumption) le10) | (exact Nat.lt_of_le_of_lt (by assumption) lt10) | (show (0 : Int) < _; first | decide | omega) | (show (0 : Int) ≤ _; first | decide | omega) | (exact .inl ⟨by omega, by omega⟩) | (exact .inr ⟨by decide, by decide⟩) | (refine ⟨?_, ?_⟩ <;> first | rfl | decide | omega) | (refine ⟨?_, ?_, ?_⟩ <;> first | rfl | decide | omega) | (exact ltN (Nat.le_of_ble_eq_true rfl)) | (exact leN (Nat.le_of_ble_eq_true rfl)))); (conv => whnf))
  refine ⟨d, rfl, Oc.run h fun h => ?_⟩
  conv => whnf
  repeat (refine Need.mk ?_ ?_; (focus (first | trivial | rfl | assumption | (exact Nat.le_trans (by assumption) le10) | (exact Nat.lt_of_le_of_lt (by assumption) lt10) | (show (0 : Int) < _; first | decide | omega) | (show (0 : Int) ≤ _; first | decide | omega) | (exact .inl ⟨by omega, by omega⟩) | (exact .inr ⟨by decide, by decide⟩) | (refine ⟨?_, ?_⟩ <;> first | rfl | decide | omega) | (refine ⟨?_, ?_, ?_⟩ <;> first | rfl | decide | omega) | (exact ltN (Nat.le_of_ble_eq_true rfl)) | (exact leN (Nat.le_of_ble_eq_true rfl)))); (conv => whnf))
  exact Rp (d := .non) h
def sp_need_ahead (a : Ad) : SpP := fun ds Q E => ∃ p c o d : Int, ds = [.int p, .int c, .int o, .int d] ∧ (ocAhead p c o d).to (ocA a) Q E
theorem ok_need_ahead (T : Txt K w mg a) (G_need_coats : Fx P w K mg base 5 a.a_need_coats a.d_need_coats "need_coats" ["part", "coat", "other", "second"] (lp (sp_need_coats a))) (Z_SameOne : XcD P w K mg base "SameOne" a.c_SameOne a.a_SameOne_init a.d_SameOne_init ["self"] 0 (fl0 "sameone") (fd0 "sameone") [] []) : Fx P w K mg base 6 a.a_need_ahead a.d_need_ahead "need_ahead" ["part", "coat", "other", "second"] (lp (sp_need_ahead a)) := by
  refine ⟨fn_P T.F_need_ahead sc_need_ahead (by (intro ds Q E h; first | (obtain ⟨h, hr⟩ := h; subst h; (try (obtain ⟨_, hr⟩ := hr)); (try (obtain ⟨_, hr⟩ := hr)); (try (obtain ⟨_, hr⟩ := hr)); (try (obtain ⟨_, hr⟩ := hr)); (all_goals exact ⟨rfl, by (repeat' (first | trivial | exact D.lts_ints _ | exact D.lts_strs _ | exact Fc.lt | exact fcs_lt _ | exact nfs_lt _ | exact nf_lt | exact D.pl.lt (by assumption) | exact D.dp.lt (by assumption) | exact D.dps.lt (by assumption) | exact D.pls.lt (by assumption) | assumption | refine ⟨?_, ?_⟩))⟩)) | (obtain ⟨_, h, hr⟩ := h; subst h; (try (obtain ⟨_, hr⟩ := hr)); (try (obtain ⟨_, hr⟩ := hr)); (try (obtain ⟨_, hr⟩ := hr)); (try (obtain ⟨_, hr⟩ := hr)); (all_goals exact ⟨rfl, by (repeat' (first | trivial | exact D.lts_ints _ | exact D.lts_strs _ | exact Fc.lt | exact fcs_lt _ | exact nfs_lt _ | exact nf_lt | exact D.pl.lt (by assumption) | exact D.dp.lt (by assumption) | exact D.dps.lt (by assumption) | exact D.pls.lt (by assumption) | assumption | refine ⟨?_, ?_⟩))⟩)) | (obtain ⟨_, _, h, hr⟩ := h; subst h; (try (obtain ⟨_, hr⟩ := hr)); (try (obtain ⟨_, hr⟩ := hr)); (try (obtain ⟨_, hr⟩ := hr)); (try (obtain ⟨_, hr⟩ := hr)); (all_goals exact ⟨rfl, by (repeat' (first | trivial | exact D.lts_ints _ | exact D.lts_strs _ | exact Fc.lt | exact fcs_lt _ | exact nfs_lt _ | exact nf_lt | exact D.pl.lt (by assumption) | exact D.dp.lt (by assumption) | exact D.dps.lt (by assumption) | exact D.pls.lt (by assumption) | assumption | refine ⟨?_, ?_⟩))⟩)) | (obtain ⟨_, _, _, h, hr⟩ := h; subst h; (try (obtain ⟨_, hr⟩ := hr)); (try (obtain ⟨_, hr⟩ := hr)); (try (obtain ⟨_, hr⟩ := hr)); (try (obtain ⟨_, hr⟩ := hr)); (all_goals exact ⟨rfl, by (repeat' (first | trivial | exact D.lts_ints _ | exact D.lts_strs _ | exact Fc.lt | exact fcs_lt _ | exact nfs_lt _ | exact nf_lt | exact D.pl.lt (by assumption) | exact D.dp.lt (by assumption) | exact D.dps.lt (by assumption) | exact D.pls.lt (by assumption) | assumption | refine ⟨?_, ?_⟩))⟩)) | (obtain ⟨_, _, _, _, h, hr⟩ := h; subst h; (try (obtain ⟨_, hr⟩ := hr)); (try (obtain ⟨_, hr⟩ := hr)); (try (obtain ⟨_, hr⟩ := hr)); (try (obtain ⟨_, hr⟩ := hr)); (all_goals exact ⟨rfl, by (repeat' (first | trivial | exact D.lts_ints _ | exact D.lts_strs _ | exact Fc.lt | exact fcs_lt _ | exact nfs_lt _ | exact nf_lt | exact D.pl.lt (by assumption) | exact D.dp.lt (by assumption) | exact D.dps.lt (by assumption) | exact D.pls.lt (by assumption) | assumption | refine ⟨?_, ?_⟩))⟩)) | (obtain ⟨_, _, _, _, _, h, hr⟩ := h; subst h; (try (obtain ⟨_, hr⟩ := hr)); (try (obtain ⟨_, hr⟩ := hr)); (try (obtain ⟨_, hr⟩ := hr)); (try (obtain ⟨_, hr⟩ := hr)); (all_goals exact ⟨rfl, by (repeat' (first | trivial | exact D.lts_ints _ | exact D.lts_strs _ | exact Fc.lt | exact fcs_lt _ | exact nfs_lt _ | exact nf_lt | exact D.pl.lt (by assumption) | exact D.dp.lt (by assumption) | exact D.dps.lt (by assumption) | exact D.pls.lt (by assumption) | assumption | refine ⟨?_, ?_⟩))⟩)) | (obtain ⟨h, _⟩ := h; exact (by simp at h)))) fun cdv A outer s H E φ T0 W' room wl => ⟨_, (lss_cons (ls_expr (le_fx G_need_coats (room.mono (by decide)) (takes_of rfl rfl rfl rfl) wl (la_cons (lv 0) (la_cons (lv 1) (la_cons (lv 2) (la_cons (lv 3) la_nil))))))
    (lss_consW [0, 1, 2, 3] (ls_if (lt_cmp (oo_eq room.units) (le_tup (la_cons (lv 0) (la_cons (lv 1) la_nil))) (le_tup (la_cons (lv 2) (la_cons (lv 3) la_nil))) (by rfl)) (lss_cons (ls_rz0 Z_SameOne rfl (room.mono (by decide)) (takes_of rfl rfl rfl rfl) wl)
    lss_nil) lss_nil)
    lss_nil)), fun ds S R X n h hW => ?_⟩, T.m_need_ahead, T.F_need_ahead.kp, T.b_need_ahead⟩
  obtain ⟨Q, E, h, rfl, rfl, rfl, rfl⟩ := h
  subst hW
  obtain ⟨p, c, o, d, rfl, h⟩ := h
  have h := Oc.then_to h
  conv => whnf
  repeat (refine Need.mk ?_ ?_; (focus (first | trivial | rfl | assumption | (exact Nat.le_trans (by assumption) le10) | (exact Nat.lt_of_le_of_lt (by assumption) lt10) | (show (0 : Int) < _; first | decide | omega) | (show (0 : Int) ≤ _; first | decide | omega) | (exact .inl ⟨by omega, by omega⟩) | (exact .inr ⟨by decide, by decide⟩) | (refine ⟨?_, ?_⟩ <;> first | rfl | decide | omega) | (refine ⟨?_, ?_, ?_⟩ <;> first | rfl | decide | omega) | (exact ltN (Nat.le_of_ble_eq_true rfl)) | (exact leN (Nat.le_of_ble_eq_true rfl)))); (conv => whnf))
  refine ⟨p, c, o, d, rfl, Oc.run h fun h => ?_⟩
  conv => whnf
  repeat (refine Need.mk ?_ ?_; (focus (first | trivial | rfl | assumption | (exact Nat.le_trans (by assumption) le10) | (exact Nat.lt_of_le_of_lt (by assumption) lt10) | (show (0 : Int) < _; first | decide | omega) | (show (0 : Int) ≤ _; first | decide | omega) | (exact .inl ⟨by omega, by omega⟩) | (exact .inr ⟨by decide, by decide⟩) | (refine ⟨?_, ?_⟩ <;> first | rfl | decide | omega) | (refine ⟨?_, ?_, ?_⟩ <;> first | rfl | decide | omega) | (exact ltN (Nat.le_of_ble_eq_true rfl)) | (exact leN (Nat.le_of_ble_eq_true rfl)))); (conv => whnf))
  by_cases he : p = o ∧ c = d
  · refine lifT (by show D.eqd (.tup [.int p, .int c]) (.tup [.int o, .int d]) = true; rw [eqd_pair]; exact decide_eq_true he) ?_
    conv => whnf
    repeat (refine Need.mk ?_ ?_; (focus (first | trivial | rfl | assumption | (exact Nat.le_trans (by assumption) le10) | (exact Nat.lt_of_le_of_lt (by assumption) lt10) | (show (0 : Int) < _; first | decide | omega) | (show (0 : Int) ≤ _; first | decide | omega) | (exact .inl ⟨by omega, by omega⟩) | (exact .inr ⟨by decide, by decide⟩) | (refine ⟨?_, ?_⟩ <;> first | rfl | decide | omega) | (refine ⟨?_, ?_, ?_⟩ <;> first | rfl | decide | omega) | (exact ltN (Nat.le_of_ble_eq_true rfl)) | (exact leN (Nat.le_of_ble_eq_true rfl)))); (conv => whnf))
    rw [ocIf_neg (fun z => z he)] at h
    exact Xp (fs := [("called", .str "sameone")]) h
  · refine lifF (by show D.eqd (.tup [.int p, .int c]) (.tup [.int o, .int d]) = false; rw [eqd_pair]; exact decide_eq_false he) ?_
    conv => whnf
    repeat (refine Need.mk ?_ ?_; (focus (first | trivial | rfl | assumption | (exact Nat.le_trans (by assumption) le10) | (exact Nat.lt_of_le_of_lt (by assumption) lt10) | (show (0 : Int) < _; first | decide | omega) | (show (0 : Int) ≤ _; first | decide | omega) | (exact .inl ⟨by omega, by omega⟩) | (exact .inr ⟨by decide, by decide⟩) | (refine ⟨?_, ?_⟩ <;> first | rfl | decide | omega) | (refine ⟨?_, ?_, ?_⟩ <;> first | rfl | decide | omega) | (exact ltN (Nat.le_of_ble_eq_true rfl)) | (exact leN (Nat.le_of_ble_eq_true rfl)))); (conv => whnf))
    rw [ocIf_pos he] at h
    exact Rp (d := .non) h
def sp_need_paired (a : Ad) : SpP := fun ds Q E => ∃ p c o d : Int, ds = [.int p, .int c, .int o, .int d] ∧ (ocPaired p c o d).to (ocA a) Q E
theorem ok_need_paired (T : Txt K w mg a) (G_need_coats : Fx P w K mg base 5 a.a_need_coats a.d_need_coats "need_coats" ["part", "coat", "other", "second"] (lp (sp_need_coats a))) (Z_SameOne : XcD P w K mg base "SameOne" a.c_SameOne a.a_SameOne_init a.d_SameOne_init ["self"] 0 (fl0 "sameone") (fd0 "sameone") [] []) : Fx P w K mg base 6 a.a_need_paired a.d_need_paired "need_paired" ["part", "coat", "other", "second"] (lp (sp_need_paired a)) := by
  refine ⟨fn_P T.F_need_paired sc_need_paired (by (intro ds Q E h; first | (obtain ⟨h, hr⟩ := h; subst h; (try (obtain ⟨_, hr⟩ := hr)); (try (obtain ⟨_, hr⟩ := hr)); (try (obtain ⟨_, hr⟩ := hr)); (try (obtain ⟨_, hr⟩ := hr)); (all_goals exact ⟨rfl, by (repeat' (first | trivial | exact D.lts_ints _ | exact D.lts_strs _ | exact Fc.lt | exact fcs_lt _ | exact nfs_lt _ | exact nf_lt | exact D.pl.lt (by assumption) | exact D.dp.lt (by assumption) | exact D.dps.lt (by assumption) | exact D.pls.lt (by assumption) | assumption | refine ⟨?_, ?_⟩))⟩)) | (obtain ⟨_, h, hr⟩ := h; subst h; (try (obtain ⟨_, hr⟩ := hr)); (try (obtain ⟨_, hr⟩ := hr)); (try (obtain ⟨_, hr⟩ := hr)); (try (obtain ⟨_, hr⟩ := hr)); (all_goals exact ⟨rfl, by (repeat' (first | trivial | exact D.lts_ints _ | exact D.lts_strs _ | exact Fc.lt | exact fcs_lt _ | exact nfs_lt _ | exact nf_lt | exact D.pl.lt (by assumption) | exact D.dp.lt (by assumption) | exact D.dps.lt (by assumption) | exact D.pls.lt (by assumption) | assumption | refine ⟨?_, ?_⟩))⟩)) | (obtain ⟨_, _, h, hr⟩ := h; subst h; (try (obtain ⟨_, hr⟩ := hr)); (try (obtain ⟨_, hr⟩ := hr)); (try (obtain ⟨_, hr⟩ := hr)); (try (obtain ⟨_, hr⟩ := hr)); (all_goals exact ⟨rfl, by (repeat' (first | trivial | exact D.lts_ints _ | exact D.lts_strs _ | exact Fc.lt | exact fcs_lt _ | exact nfs_lt _ | exact nf_lt | exact D.pl.lt (by assumption) | exact D.dp.lt (by assumption) | exact D.dps.lt (by assumption) | exact D.pls.lt (by assumption) | assumption | refine ⟨?_, ?_⟩))⟩)) | (obtain ⟨_, _, _, h, hr⟩ := h; subst h; (try (obtain ⟨_, hr⟩ := hr)); (try (obtain ⟨_, hr⟩ := hr)); (try (obtain ⟨_, hr⟩ := hr)); (try (obtain ⟨_, hr⟩ := hr)); (all_goals exact ⟨rfl, by (repeat' (first | trivial | exact D.lts_ints _ | exact D.lts_strs _ | exact Fc.lt | exact fcs_lt _ | exact nfs_lt _ | exact nf_lt | exact D.pl.lt (by assumption) | exact D.dp.lt (by assumption) | exact D.dps.lt (by assumption) | exact D.pls.lt (by assumption) | assumption | refine ⟨?_, ?_⟩))⟩)) | (obtain ⟨_, _, _, _, h, hr⟩ := h; subst h; (try (obtain ⟨_, hr⟩ := hr)); (try (obtain ⟨_, hr⟩ := hr)); (try (obtain ⟨_, hr⟩ := hr)); (try (obtain ⟨_, hr⟩ := hr)); (all_goals exact ⟨rfl, by (repeat' (first | trivial | exact D.lts_ints _ | exact D.lts_strs _ | exact Fc.lt | exact fcs_lt _ | exact nfs_lt _ | exact nf_lt | exact D.pl.lt (by assumption) | exact D.dp.lt (by assumption) | exact D.dps.lt (by assumption) | exact D.pls.lt (by assumption) | assumption | refine ⟨?_, ?_⟩))⟩)) | (obtain ⟨_, _, _, _, _, h, hr⟩ := h; subst h; (try (obtain ⟨_, hr⟩ := hr)); (try (obtain ⟨_, hr⟩ := hr)); (try (obtain ⟨_, hr⟩ := hr)); (try (obtain ⟨_, hr⟩ := hr)); (all_goals exact ⟨rfl, by (repeat' (first | trivial | exact D.lts_ints _ | exact D.lts_strs _ | exact Fc.lt | exact fcs_lt _ | exact nfs_lt _ | exact nf_lt | exact D.pl.lt (by assumption) | exact D.dp.lt (by assumption) | exact D.dps.lt (by assumption) | exact D.pls.lt (by assumption) | assumption | refine ⟨?_, ?_⟩))⟩)) | (obtain ⟨h, _⟩ := h; exact (by simp at h)))) fun cdv A outer s H E φ T0 W' room wl => ⟨_, (lss_consW [1, 3] (ls_expr (le_fx G_need_coats (room.mono (by decide)) (takes_of rfl rfl rfl rfl) wl (la_cons (lv 0) (la_cons (lv 1) (la_cons (lv 2) (la_cons (lv 3) la_nil))))))
    (lss_consW [0, 2] (ls_if (lt_cmp (oo_eq room.units) (lv 0) (lv 2) (by rfl)) (lss_cons (ls_rz0 Z_SameOne rfl (room.mono (by decide)) (takes_of rfl rfl rfl rfl) wl)
    lss_nil) lss_nil)
    lss_nil)), fun ds S R X n h hW => ?_⟩, T.m_need_paired, T.F_need_paired.kp, T.b_need_paired⟩
  obtain ⟨Q, E, h, rfl, rfl, rfl, rfl⟩ := h
  subst hW
  obtain ⟨p, c, o, d, rfl, h⟩ := h
  have h := (Oc.then_to h)
  conv => whnf
  repeat (refine Need.mk ?_ ?_; (focus (first | trivial | rfl | assumption | (exact Nat.le_trans (by assumption) le10) | (exact Nat.lt_of_le_of_lt (by assumption) lt10) | (show (0 : Int) < _; first | decide | omega) | (show (0 : Int) ≤ _; first | decide | omega) | (exact .inl ⟨by omega, by omega⟩) | (exact .inr ⟨by decide, by decide⟩) | (refine ⟨?_, ?_⟩ <;> first | rfl | decide | omega) | (refine ⟨?_, ?_, ?_⟩ <;> first | rfl | decide | omega) | (exact ltN (Nat.le_of_ble_eq_true rfl)) | (exact leN (Nat.le_of_ble_eq_true rfl)))); (conv => whnf))
  refine ⟨p, c, o, d, rfl, Oc.run h fun h => ?_⟩
  conv => whnf
  repeat (refine Need.mk ?_ ?_; (focus (first | trivial | rfl | assumption | (exact Nat.le_trans (by assumption) le10) | (exact Nat.lt_of_le_of_lt (by assumption) lt10) | (show (0 : Int) < _; first | decide | omega) | (show (0 : Int) ≤ _; first | decide | omega) | (exact .inl ⟨by omega, by omega⟩) | (exact .inr ⟨by decide, by decide⟩) | (refine ⟨?_, ?_⟩ <;> first | rfl | decide | omega) | (refine ⟨?_, ?_, ?_⟩ <;> first | rfl | decide | omega) | (exact ltN (Nat.le_of_ble_eq_true rfl)) | (exact leN (Nat.le_of_ble_eq_true rfl)))); (conv => whnf))
  refine brd (fun hc => ?_) (fun hc => ?_)
  · conv => whnf
    repeat (refine Need.mk ?_ ?_; (focus (first | trivial | rfl | assumption | (exact Nat.le_trans (by assumption) le10) | (exact Nat.lt_of_le_of_lt (by assumption) lt10) | (show (0 : Int) < _; first | decide | omega) | (show (0 : Int) ≤ _; first | decide | omega) | (exact .inl ⟨by omega, by omega⟩) | (exact .inr ⟨by decide, by decide⟩) | (refine ⟨?_, ?_⟩ <;> first | rfl | decide | omega) | (refine ⟨?_, ?_, ?_⟩ <;> first | rfl | decide | omega) | (exact ltN (Nat.le_of_ble_eq_true rfl)) | (exact leN (Nat.le_of_ble_eq_true rfl)))); (conv => whnf))
    rw [ocIf_neg (fun z => z hc)] at h
    exact Xp (fs := [("called", .str "sameone")]) h
  · conv => whnf
    repeat (refine Need.mk ?_ ?_; (focus (first | trivial | rfl | assumption | (exact Nat.le_trans (by assumption) le10) | (exact Nat.lt_of_le_of_lt (by assumption) lt10) | (show (0 : Int) < _; first | decide | omega) | (show (0 : Int) ≤ _; first | decide | omega) | (exact .inl ⟨by omega, by omega⟩) | (exact .inr ⟨by decide, by decide⟩) | (refine ⟨?_, ?_⟩ <;> first | rfl | decide | omega) | (refine ⟨?_, ?_, ?_⟩ <;> first | rfl | decide | omega) | (exact ltN (Nat.le_of_ble_eq_true rfl)) | (exact leN (Nat.le_of_ble_eq_true rfl)))); (conv => whnf))
    rw [ocIf_pos (hc)] at h
    exact Rp (d := .non) h
def sp_scrape_of (a : Ad) : SpP := fun ds Q E => ∃ (t : Str) (p c : Int) (sh : List Int), ds = [.tup [.str t, .int p, .int c, .tup (sh.map D.int)]] ∧ sh.length ≤ 1000 ∧ (ocScrape p c sh).to (ocA a) Q E
theorem ok_scrape_of (T : Txt K w mg a) (G_need_scrape : Fx P w K mg base 5 a.a_need_scrape a.d_need_scrape "need_scrape" ["part", "first", "shades"] (lp (sp_need_scrape a))) : Fx P w K mg base 6 a.a_scrape_of a.d_scrape_of "scrape_of" ["fact"] (lp (sp_scrape_of a)) := by
  refine ⟨fn_P T.F_scrape_of sc_scrape_of (by (intro ds Q E h; first | (obtain ⟨h, hr⟩ := h; subst h; (try (obtain ⟨_, hr⟩ := hr)); (try (obtain ⟨_, hr⟩ := hr)); (try (obtain ⟨_, hr⟩ := hr)); (try (obtain ⟨_, hr⟩ := hr)); (all_goals exact ⟨rfl, by (repeat' (first | trivial | exact D.lts_ints _ | exact D.lts_strs _ | exact Fc.lt | exact fcs_lt _ | exact nfs_lt _ | exact nf_lt | exact D.pl.lt (by assumption) | exact D.dp.lt (by assumption) | exact D.dps.lt (by assumption) | exact D.pls.lt (by assumption) | assumption | refine ⟨?_, ?_⟩))⟩)) | (obtain ⟨_, h, hr⟩ := h; subst h; (try (obtain ⟨_, hr⟩ := hr)); (try (obtain ⟨_, hr⟩ := hr)); (try (obtain ⟨_, hr⟩ := hr)); (try (obtain ⟨_, hr⟩ := hr)); (all_goals exact ⟨rfl, by (repeat' (first | trivial | exact D.lts_ints _ | exact D.lts_strs _ | exact Fc.lt | exact fcs_lt _ | exact nfs_lt _ | exact nf_lt | exact D.pl.lt (by assumption) | exact D.dp.lt (by assumption) | exact D.dps.lt (by assumption) | exact D.pls.lt (by assumption) | assumption | refine ⟨?_, ?_⟩))⟩)) | (obtain ⟨_, _, h, hr⟩ := h; subst h; (try (obtain ⟨_, hr⟩ := hr)); (try (obtain ⟨_, hr⟩ := hr)); (try (obtain ⟨_, hr⟩ := hr)); (try (obtain ⟨_, hr⟩ := hr)); (all_goals exact ⟨rfl, by (repeat' (first | trivial | exact D.lts_ints _ | exact D.lts_strs _ | exact Fc.lt | exact fcs_lt _ | exact nfs_lt _ | exact nf_lt | exact D.pl.lt (by assumption) | exact D.dp.lt (by assumption) | exact D.dps.lt (by assumption) | exact D.pls.lt (by assumption) | assumption | refine ⟨?_, ?_⟩))⟩)) | (obtain ⟨_, _, _, h, hr⟩ := h; subst h; (try (obtain ⟨_, hr⟩ := hr)); (try (obtain ⟨_, hr⟩ := hr)); (try (obtain ⟨_, hr⟩ := hr)); (try (obtain ⟨_, hr⟩ := hr)); (all_goals exact ⟨rfl, by (repeat' (first | trivial | exact D.lts_ints _ | exact D.lts_strs _ | exact Fc.lt | exact fcs_lt _ | exact nfs_lt _ | exact nf_lt | exact D.pl.lt (by assumption) | exact D.dp.lt (by assumption) | exact D.dps.lt (by assumption) | exact D.pls.lt (by assumption) | assumption | refine ⟨?_, ?_⟩))⟩)) | (obtain ⟨_, _, _, _, h, hr⟩ := h; subst h; (try (obtain ⟨_, hr⟩ := hr)); (try (obtain ⟨_, hr⟩ := hr)); (try (obtain ⟨_, hr⟩ := hr)); (try (obtain ⟨_, hr⟩ := hr)); (all_goals exact ⟨rfl, by (repeat' (first | trivial | exact D.lts_ints _ | exact D.lts_strs _ | exact Fc.lt | exact fcs_lt _ | exact nfs_lt _ | exact nf_lt | exact D.pl.lt (by assumption) | exact D.dp.lt (by assumption) | exact D.dps.lt (by assumption) | exact D.pls.lt (by assumption) | assumption | refine ⟨?_, ?_⟩))⟩)) | (obtain ⟨_, _, _, _, _, h, hr⟩ := h; subst h; (try (obtain ⟨_, hr⟩ := hr)); (try (obtain ⟨_, hr⟩ := hr)); (try (obtain ⟨_, hr⟩ := hr)); (try (obtain ⟨_, hr⟩ := hr)); (all_goals exact ⟨rfl, by (repeat' (first | trivial | exact D.lts_ints _ | exact D.lts_strs _ | exact Fc.lt | exact fcs_lt _ | exact nfs_lt _ | exact nf_lt | exact D.pl.lt (by assumption) | exact D.dp.lt (by assumption) | exact D.dps.lt (by assumption) | exact D.pls.lt (by assumption) | assumption | refine ⟨?_, ?_⟩))⟩)) | (obtain ⟨h, _⟩ := h; exact (by simp at h)))) fun cdv A outer s H E φ T0 W' room wl => ⟨_, (lss_consW [0] (ls_expr (le_fx G_need_scrape (room.mono (by decide)) (takes_of rfl rfl rfl rfl) wl (la_cons (le_ix ox_seq (lv 0) le_int) (la_cons (le_ix ox_seq (lv 0) le_int) (la_cons (le_ix ox_seq (lv 0) le_int) la_nil)))))
    lss_nil), fun ds S R X n h hW => ?_⟩, T.m_scrape_of, T.F_scrape_of.kp, T.b_scrape_of⟩
  obtain ⟨Q, E, h, rfl, rfl, rfl, rfl⟩ := h
  subst hW
  obtain ⟨t, p, c, sh, rfl, hl, h⟩ := h
  conv => whnf
  repeat (refine Need.mk ?_ ?_; (focus (first | trivial | rfl | assumption | (exact Nat.le_trans (by assumption) le10) | (exact Nat.lt_of_le_of_lt (by assumption) lt10) | (show (0 : Int) < _; first | decide | omega) | (show (0 : Int) ≤ _; first | decide | omega) | (exact .inl ⟨by omega, by omega⟩) | (exact .inr ⟨by decide, by decide⟩) | (refine ⟨?_, ?_⟩ <;> first | rfl | decide | omega) | (refine ⟨?_, ?_, ?_⟩ <;> first | rfl | decide | omega) | (exact ltN (Nat.le_of_ble_eq_true rfl)) | (exact leN (Nat.le_of_ble_eq_true rfl)))); (conv => whnf))
  refine ⟨p, c, sh, rfl, hl, Oc.run h fun h => ?_⟩
  conv => whnf
  repeat (refine Need.mk ?_ ?_; (focus (first | trivial | rfl | assumption | (exact Nat.le_trans (by assumption) le10) | (exact Nat.lt_of_le_of_lt (by assumption) lt10) | (show (0 : Int) < _; first | decide | omega) | (show (0 : Int) ≤ _; first | decide | omega) | (exact .inl ⟨by omega, by omega⟩) | (exact .inr ⟨by decide, by decide⟩) | (refine ⟨?_, ?_⟩ <;> first | rfl | decide | omega) | (refine ⟨?_, ?_, ?_⟩ <;> first | rfl | decide | omega) | (exact ltN (Nat.le_of_ble_eq_true rfl)) | (exact leN (Nat.le_of_ble_eq_true rfl)))); (conv => whnf))
  exact Rp (d := .non) h
def sp_cover_of (a : Ad) : SpP := fun ds Q E => ∃ (t : Str) (p l d : Int), ds = [.tup [.str t, .int p, .int l, .int d]] ∧ (ocCover p l d).to (ocA a) Q E
theorem ok_cover_of (T : Txt K w mg a) (G_need_cover : Fx P w K mg base 6 a.a_need_cover a.d_need_cover "need_cover" ["part", "lower", "depth"] (lp (sp_need_cover a))) : Fx P w K mg base 7 a.a_cover_of a.d_cover_of "cover_of" ["fact"] (lp (sp_cover_of a)) := by
  refine ⟨fn_P T.F_cover_of sc_cover_of (by (intro ds Q E h; first | (obtain ⟨h, hr⟩ := h; subst h; (try (obtain ⟨_, hr⟩ := hr)); (try (obtain ⟨_, hr⟩ := hr)); (try (obtain ⟨_, hr⟩ := hr)); (try (obtain ⟨_, hr⟩ := hr)); (all_goals exact ⟨rfl, by (repeat' (first | trivial | exact D.lts_ints _ | exact D.lts_strs _ | exact Fc.lt | exact fcs_lt _ | exact nfs_lt _ | exact nf_lt | exact D.pl.lt (by assumption) | exact D.dp.lt (by assumption) | exact D.dps.lt (by assumption) | exact D.pls.lt (by assumption) | assumption | refine ⟨?_, ?_⟩))⟩)) | (obtain ⟨_, h, hr⟩ := h; subst h; (try (obtain ⟨_, hr⟩ := hr)); (try (obtain ⟨_, hr⟩ := hr)); (try (obtain ⟨_, hr⟩ := hr)); (try (obtain ⟨_, hr⟩ := hr)); (all_goals exact ⟨rfl, by (repeat' (first | trivial | exact D.lts_ints _ | exact D.lts_strs _ | exact Fc.lt | exact fcs_lt _ | exact nfs_lt _ | exact nf_lt | exact D.pl.lt (by assumption) | exact D.dp.lt (by assumption) | exact D.dps.lt (by assumption) | exact D.pls.lt (by assumption) | assumption | refine ⟨?_, ?_⟩))⟩)) | (obtain ⟨_, _, h, hr⟩ := h; subst h; (try (obtain ⟨_, hr⟩ := hr)); (try (obtain ⟨_, hr⟩ := hr)); (try (obtain ⟨_, hr⟩ := hr)); (try (obtain ⟨_, hr⟩ := hr)); (all_goals exact ⟨rfl, by (repeat' (first | trivial | exact D.lts_ints _ | exact D.lts_strs _ | exact Fc.lt | exact fcs_lt _ | exact nfs_lt _ | exact nf_lt | exact D.pl.lt (by assumption) | exact D.dp.lt (by assumption) | exact D.dps.lt (by assumption) | exact D.pls.lt (by assumption) | assumption | refine ⟨?_, ?_⟩))⟩)) | (obtain ⟨_, _, _, h, hr⟩ := h; subst h; (try (obtain ⟨_, hr⟩ := hr)); (try (obtain ⟨_, hr⟩ := hr)); (try (obtain ⟨_, hr⟩ := hr)); (try (obtain ⟨_, hr⟩ := hr)); (all_goals exact ⟨rfl, by (repeat' (first | trivial | exact D.lts_ints _ | exact D.lts_strs _ | exact Fc.lt | exact fcs_lt _ | exact nfs_lt _ | exact nf_lt | exact D.pl.lt (by assumption) | exact D.dp.lt (by assumption) | exact D.dps.lt (by assumption) | exact D.pls.lt (by assumption) | assumption | refine ⟨?_, ?_⟩))⟩)) | (obtain ⟨_, _, _, _, h, hr⟩ := h; subst h; (try (obtain ⟨_, hr⟩ := hr)); (try (obtain ⟨_, hr⟩ := hr)); (try (obtain ⟨_, hr⟩ := hr)); (try (obtain ⟨_, hr⟩ := hr)); (all_goals exact ⟨rfl, by (repeat' (first | trivial | exact D.lts_ints _ | exact D.lts_strs _ | exact Fc.lt | exact fcs_lt _ | exact nfs_lt _ | exact nf_lt | exact D.pl.lt (by assumption) | exact D.dp.lt (by assumption) | exact D.dps.lt (by assumption) | exact D.pls.lt (by assumption) | assumption | refine ⟨?_, ?_⟩))⟩)) | (obtain ⟨_, _, _, _, _, h, hr⟩ := h; subst h; (try (obtain ⟨_, hr⟩ := hr)); (try (obtain ⟨_, hr⟩ := hr)); (try (obtain ⟨_, hr⟩ := hr)); (try (obtain ⟨_, hr⟩ := hr)); (all_goals exact ⟨rfl, by (repeat' (first | trivial | exact D.lts_ints _ | exact D.lts_strs _ | exact Fc.lt | exact fcs_lt _ | exact nfs_lt _ | exact nf_lt | exact D.pl.lt (by assumption) | exact D.dp.lt (by assumption) | exact D.dps.lt (by assumption) | exact D.pls.lt (by assumption) | assumption | refine ⟨?_, ?_⟩))⟩)) | (obtain ⟨h, _⟩ := h; exact (by simp at h)))) fun cdv A outer s H E φ T0 W' room wl => ⟨_, (lss_consW [0] (ls_expr (le_fx G_need_cover (room.mono (by decide)) (takes_of rfl rfl rfl rfl) wl (la_cons (le_ix ox_seq (lv 0) le_int) (la_cons (le_ix ox_seq (lv 0) le_int) (la_cons (le_ix ox_seq (lv 0) le_int) la_nil)))))
    lss_nil), fun ds S R X n h hW => ?_⟩, T.m_cover_of, T.F_cover_of.kp, T.b_cover_of⟩
  obtain ⟨Q, E, h, rfl, rfl, rfl, rfl⟩ := h
  subst hW
  obtain ⟨t, p, l, d, rfl, h⟩ := h
  conv => whnf
  repeat (refine Need.mk ?_ ?_; (focus (first | trivial | rfl | assumption | (exact Nat.le_trans (by assumption) le10) | (exact Nat.lt_of_le_of_lt (by assumption) lt10) | (show (0 : Int) < _; first | decide | omega) | (show (0 : Int) ≤ _; first | decide | omega) | (exact .inl ⟨by omega, by omega⟩) | (exact .inr ⟨by decide, by decide⟩) | (refine ⟨?_, ?_⟩ <;> first | rfl | decide | omega) | (refine ⟨?_, ?_, ?_⟩ <;> first | rfl | decide | omega) | (exact ltN (Nat.le_of_ble_eq_true rfl)) | (exact leN (Nat.le_of_ble_eq_true rfl)))); (conv => whnf))
  refine ⟨p, l, d, rfl, Oc.run h fun h => ?_⟩
  conv => whnf
  repeat (refine Need.mk ?_ ?_; (focus (first | trivial | rfl | assumption | (exact Nat.le_trans (by assumption) le10) | (exact Nat.lt_of_le_of_lt (by assumption) lt10) | (show (0 : Int) < _; first | decide | omega) | (show (0 : Int) ≤ _; first | decide | omega) | (exact .inl ⟨by omega, by omega⟩) | (exact .inr ⟨by decide, by decide⟩) | (refine ⟨?_, ?_⟩ <;> first | rfl | decide | omega) | (refine ⟨?_, ?_, ?_⟩ <;> first | rfl | decide | omega) | (exact ltN (Nat.le_of_ble_eq_true rfl)) | (exact leN (Nat.le_of_ble_eq_true rfl)))); (conv => whnf))
  exact Rp (d := .non) h
def sp_moved_of (a : Ad) : SpP := fun ds Q E => ∃ (t : Str) (p c l d : Int), ds = [.tup [.str t, .int p, .int c, .int l, .int d]] ∧ (ocMoved p c l d).to (ocA a) Q E
theorem ok_moved_of (T : Txt K w mg a) (G_need_moved : Fx P w K mg base 6 a.a_need_moved a.d_need_moved "need_moved" ["part", "coats", "lower", "depth"] (lp (sp_need_moved a))) : Fx P w K mg base 7 a.a_moved_of a.d_moved_of "moved_of" ["fact"] (lp (sp_moved_of a)) := by
  refine ⟨fn_P T.F_moved_of sc_moved_of (by (intro ds Q E h; first | (obtain ⟨h, hr⟩ := h; subst h; (try (obtain ⟨_, hr⟩ := hr)); (try (obtain ⟨_, hr⟩ := hr)); (try (obtain ⟨_, hr⟩ := hr)); (try (obtain ⟨_, hr⟩ := hr)); (all_goals exact ⟨rfl, by (repeat' (first | trivial | exact D.lts_ints _ | exact D.lts_strs _ | exact Fc.lt | exact fcs_lt _ | exact nfs_lt _ | exact nf_lt | exact D.pl.lt (by assumption) | exact D.dp.lt (by assumption) | exact D.dps.lt (by assumption) | exact D.pls.lt (by assumption) | assumption | refine ⟨?_, ?_⟩))⟩)) | (obtain ⟨_, h, hr⟩ := h; subst h; (try (obtain ⟨_, hr⟩ := hr)); (try (obtain ⟨_, hr⟩ := hr)); (try (obtain ⟨_, hr⟩ := hr)); (try (obtain ⟨_, hr⟩ := hr)); (all_goals exact ⟨rfl, by (repeat' (first | trivial | exact D.lts_ints _ | exact D.lts_strs _ | exact Fc.lt | exact fcs_lt _ | exact nfs_lt _ | exact nf_lt | exact D.pl.lt (by assumption) | exact D.dp.lt (by assumption) | exact D.dps.lt (by assumption) | exact D.pls.lt (by assumption) | assumption | refine ⟨?_, ?_⟩))⟩)) | (obtain ⟨_, _, h, hr⟩ := h; subst h; (try (obtain ⟨_, hr⟩ := hr)); (try (obtain ⟨_, hr⟩ := hr)); (try (obtain ⟨_, hr⟩ := hr)); (try (obtain ⟨_, hr⟩ := hr)); (all_goals exact ⟨rfl, by (repeat' (first | trivial | exact D.lts_ints _ | exact D.lts_strs _ | exact Fc.lt | exact fcs_lt _ | exact nfs_lt _ | exact nf_lt | exact D.pl.lt (by assumption) | exact D.dp.lt (by assumption) | exact D.dps.lt (by assumption) | exact D.pls.lt (by assumption) | assumption | refine ⟨?_, ?_⟩))⟩)) | (obtain ⟨_, _, _, h, hr⟩ := h; subst h; (try (obtain ⟨_, hr⟩ := hr)); (try (obtain ⟨_, hr⟩ := hr)); (try (obtain ⟨_, hr⟩ := hr)); (try (obtain ⟨_, hr⟩ := hr)); (all_goals exact ⟨rfl, by (repeat' (first | trivial | exact D.lts_ints _ | exact D.lts_strs _ | exact Fc.lt | exact fcs_lt _ | exact nfs_lt _ | exact nf_lt | exact D.pl.lt (by assumption) | exact D.dp.lt (by assumption) | exact D.dps.lt (by assumption) | exact D.pls.lt (by assumption) | assumption | refine ⟨?_, ?_⟩))⟩)) | (obtain ⟨_, _, _, _, h, hr⟩ := h; subst h; (try (obtain ⟨_, hr⟩ := hr)); (try (obtain ⟨_, hr⟩ := hr)); (try (obtain ⟨_, hr⟩ := hr)); (try (obtain ⟨_, hr⟩ := hr)); (all_goals exact ⟨rfl, by (repeat' (first | trivial | exact D.lts_ints _ | exact D.lts_strs _ | exact Fc.lt | exact fcs_lt _ | exact nfs_lt _ | exact nf_lt | exact D.pl.lt (by assumption) | exact D.dp.lt (by assumption) | exact D.dps.lt (by assumption) | exact D.pls.lt (by assumption) | assumption | refine ⟨?_, ?_⟩))⟩)) | (obtain ⟨_, _, _, _, _, h, hr⟩ := h; subst h; (try (obtain ⟨_, hr⟩ := hr)); (try (obtain ⟨_, hr⟩ := hr)); (try (obtain ⟨_, hr⟩ := hr)); (try (obtain ⟨_, hr⟩ := hr)); (all_goals exact ⟨rfl, by (repeat' (first | trivial | exact D.lts_ints _ | exact D.lts_strs _ | exact Fc.lt | exact fcs_lt _ | exact nfs_lt _ | exact nf_lt | exact D.pl.lt (by assumption) | exact D.dp.lt (by assumption) | exact D.dps.lt (by assumption) | exact D.pls.lt (by assumption) | assumption | refine ⟨?_, ?_⟩))⟩)) | (obtain ⟨h, _⟩ := h; exact (by simp at h)))) fun cdv A outer s H E φ T0 W' room wl => ⟨_, (lss_consW [0] (ls_expr (le_fx G_need_moved (room.mono (by decide)) (takes_of rfl rfl rfl rfl) wl (la_cons (le_ix ox_seq (lv 0) le_int) (la_cons (le_ix ox_seq (lv 0) le_int) (la_cons (le_ix ox_seq (lv 0) le_int) (la_cons (le_ix ox_seq (lv 0) le_int) la_nil))))))
    lss_nil), fun ds S R X n h hW => ?_⟩, T.m_moved_of, T.F_moved_of.kp, T.b_moved_of⟩
  obtain ⟨Q, E, h, rfl, rfl, rfl, rfl⟩ := h
  subst hW
  obtain ⟨t, p, c, l, d, rfl, h⟩ := h
  conv => whnf
  repeat (refine Need.mk ?_ ?_; (focus (first | trivial | rfl | assumption | (exact Nat.le_trans (by assumption) le10) | (exact Nat.lt_of_le_of_lt (by assumption) lt10) | (show (0 : Int) < _; first | decide | omega) | (show (0 : Int) ≤ _; first | decide | omega) | (exact .inl ⟨by omega, by omega⟩) | (exact .inr ⟨by decide, by decide⟩) | (refine ⟨?_, ?_⟩ <;> first | rfl | decide | omega) | (refine ⟨?_, ?_, ?_⟩ <;> first | rfl | decide | omega) | (exact ltN (Nat.le_of_ble_eq_true rfl)) | (exact leN (Nat.le_of_ble_eq_true rfl)))); (conv => whnf))
  refine ⟨p, c, l, d, rfl, Oc.run h fun h => ?_⟩
  conv => whnf
  repeat (refine Need.mk ?_ ?_; (focus (first | trivial | rfl | assumption | (exact Nat.le_trans (by assumption) le10) | (exact Nat.lt_of_le_of_lt (by assumption) lt10) | (show (0 : Int) < _; first | decide | omega) | (show (0 : Int) ≤ _; first | decide | omega) | (exact .inl ⟨by omega, by omega⟩) | (exact .inr ⟨by decide, by decide⟩) | (refine ⟨?_, ?_⟩ <;> first | rfl | decide | omega) | (refine ⟨?_, ?_, ?_⟩ <;> first | rfl | decide | omega) | (exact ltN (Nat.le_of_ble_eq_true rfl)) | (exact leN (Nat.le_of_ble_eq_true rfl)))); (conv => whnf))
  exact Rp (d := .non) h
def sp_dated_of (a : Ad) : SpP := fun ds Q E => ∃ (t : Str) (p c f l : Int), ds = [.tup [.str t, .int p, .int c, .int f, .int l]] ∧ (ocDated p c f l).to (ocA a) Q E
theorem ok_dated_of (T : Txt K w mg a) (G_need_dated : Fx P w K mg base 5 a.a_need_dated a.d_need_dated "need_dated" ["part", "coat", "first", "last"] (lp (sp_need_dated a))) : Fx P w K mg base 6 a.a_dated_of a.d_dated_of "dated_of" ["fact"] (lp (sp_dated_of a)) := by
  refine ⟨fn_P T.F_dated_of sc_dated_of (by (intro ds Q E h; first | (obtain ⟨h, hr⟩ := h; subst h; (try (obtain ⟨_, hr⟩ := hr)); (try (obtain ⟨_, hr⟩ := hr)); (try (obtain ⟨_, hr⟩ := hr)); (try (obtain ⟨_, hr⟩ := hr)); (all_goals exact ⟨rfl, by (repeat' (first | trivial | exact D.lts_ints _ | exact D.lts_strs _ | exact Fc.lt | exact fcs_lt _ | exact nfs_lt _ | exact nf_lt | exact D.pl.lt (by assumption) | exact D.dp.lt (by assumption) | exact D.dps.lt (by assumption) | exact D.pls.lt (by assumption) | assumption | refine ⟨?_, ?_⟩))⟩)) | (obtain ⟨_, h, hr⟩ := h; subst h; (try (obtain ⟨_, hr⟩ := hr)); (try (obtain ⟨_, hr⟩ := hr)); (try (obtain ⟨_, hr⟩ := hr)); (try (obtain ⟨_, hr⟩ := hr)); (all_goals exact ⟨rfl, by (repeat' (first | trivial | exact D.lts_ints _ | exact D.lts_strs _ | exact Fc.lt | exact fcs_lt _ | exact nfs_lt _ | exact nf_lt | exact D.pl.lt (by assumption) | exact D.dp.lt (by assumption) | exact D.dps.lt (by assumption) | exact D.pls.lt (by assumption) | assumption | refine ⟨?_, ?_⟩))⟩)) | (obtain ⟨_, _, h, hr⟩ := h; subst h; (try (obtain ⟨_, hr⟩ := hr)); (try (obtain ⟨_, hr⟩ := hr)); (try (obtain ⟨_, hr⟩ := hr)); (try (obtain ⟨_, hr⟩ := hr)); (all_goals exact ⟨rfl, by (repeat' (first | trivial | exact D.lts_ints _ | exact D.lts_strs _ | exact Fc.lt | exact fcs_lt _ | exact nfs_lt _ | exact nf_lt | exact D.pl.lt (by assumption) | exact D.dp.lt (by assumption) | exact D.dps.lt (by assumption) | exact D.pls.lt (by assumption) | assumption | refine ⟨?_, ?_⟩))⟩)) | (obtain ⟨_, _, _, h, hr⟩ := h; subst h; (try (obtain ⟨_, hr⟩ := hr)); (try (obtain ⟨_, hr⟩ := hr)); (try (obtain ⟨_, hr⟩ := hr)); (try (obtain ⟨_, hr⟩ := hr)); (all_goals exact ⟨rfl, by (repeat' (first | trivial | exact D.lts_ints _ | exact D.lts_strs _ | exact Fc.lt | exact fcs_lt _ | exact nfs_lt _ | exact nf_lt | exact D.pl.lt (by assumption) | exact D.dp.lt (by assumption) | exact D.dps.lt (by assumption) | exact D.pls.lt (by assumption) | assumption | refine ⟨?_, ?_⟩))⟩)) | (obtain ⟨_, _, _, _, h, hr⟩ := h; subst h; (try (obtain ⟨_, hr⟩ := hr)); (try (obtain ⟨_, hr⟩ := hr)); (try (obtain ⟨_, hr⟩ := hr)); (try (obtain ⟨_, hr⟩ := hr)); (all_goals exact ⟨rfl, by (repeat' (first | trivial | exact D.lts_ints _ | exact D.lts_strs _ | exact Fc.lt | exact fcs_lt _ | exact nfs_lt _ | exact nf_lt | exact D.pl.lt (by assumption) | exact D.dp.lt (by assumption) | exact D.dps.lt (by assumption) | exact D.pls.lt (by assumption) | assumption | refine ⟨?_, ?_⟩))⟩)) | (obtain ⟨_, _, _, _, _, h, hr⟩ := h; subst h; (try (obtain ⟨_, hr⟩ := hr)); (try (obtain ⟨_, hr⟩ := hr)); (try (obtain ⟨_, hr⟩ := hr)); (try (obtain ⟨_, hr⟩ := hr)); (all_goals exact ⟨rfl, by (repeat' (first | trivial | exact D.lts_ints _ | exact D.lts_strs _ | exact Fc.lt | exact fcs_lt _ | exact nfs_lt _ | exact nf_lt | exact D.pl.lt (by assumption) | exact D.dp.lt (by assumption) | exact D.dps.lt (by assumption) | exact D.pls.lt (by assumption) | assumption | refine ⟨?_, ?_⟩))⟩)) | (obtain ⟨h, _⟩ := h; exact (by simp at h)))) fun cdv A outer s H E φ T0 W' room wl => ⟨_, (lss_consW [0] (ls_expr (le_callKw (ks := ["first", "last"]) G_need_dated.ok (room.mono (by decide)) G_need_dated.gm G_need_dated.kp T.kb_need_dated_2_first_last (takes_of rfl rfl rfl rfl) wl (la_cons (le_ix ox_seq (lv 0) le_int) (la_cons (le_ix ox_seq (lv 0) le_int) la_nil)) (lkw_cons (le_ix ox_seq (lv 0) le_int) (lkw_cons (le_ix ox_seq (lv 0) le_int) lkw_nil))))
    lss_nil), fun ds S R X n h hW => ?_⟩, T.m_dated_of, T.F_dated_of.kp, T.b_dated_of⟩
  obtain ⟨Q, E, h, rfl, rfl, rfl, rfl⟩ := h
  subst hW
  obtain ⟨t, p, c, f, l, rfl, h⟩ := h
  conv => whnf
  repeat (refine Need.mk ?_ ?_; (focus (first | trivial | rfl | assumption | (exact Nat.le_trans (by assumption) le10) | (exact Nat.lt_of_le_of_lt (by assumption) lt10) | (show (0 : Int) < _; first | decide | omega) | (show (0 : Int) ≤ _; first | decide | omega) | (exact .inl ⟨by omega, by omega⟩) | (exact .inr ⟨by decide, by decide⟩) | (refine ⟨?_, ?_⟩ <;> first | rfl | decide | omega) | (refine ⟨?_, ?_, ?_⟩ <;> first | rfl | decide | omega) | (exact ltN (Nat.le_of_ble_eq_true rfl)) | (exact leN (Nat.le_of_ble_eq_true rfl)))); (conv => whnf))
  refine ⟨p, c, f, l, rfl, Oc.run h fun h => ?_⟩
  conv => whnf
  repeat (refine Need.mk ?_ ?_; (focus (first | trivial | rfl | assumption | (exact Nat.le_trans (by assumption) le10) | (exact Nat.lt_of_le_of_lt (by assumption) lt10) | (show (0 : Int) < _; first | decide | omega) | (show (0 : Int) ≤ _; first | decide | omega) | (exact .inl ⟨by omega, by omega⟩) | (exact .inr ⟨by decide, by decide⟩) | (refine ⟨?_, ?_⟩ <;> first | rfl | decide | omega) | (refine ⟨?_, ?_, ?_⟩ <;> first | rfl | decide | omega) | (exact ltN (Nat.le_of_ble_eq_true rfl)) | (exact leN (Nat.le_of_ble_eq_true rfl)))); (conv => whnf))
  exact Rp (d := .non) h
def sp_sold_of (a : Ad) : SpP := fun ds Q E => ∃ (t : Str) (s y : Int), ds = [.tup [.str t, .int s, .int y]] ∧ (ocSold s y).to (ocA a) Q E
theorem ok_sold_of (T : Txt K w mg a) (G_need_sold : Fx P w K mg base 5 a.a_need_sold a.d_need_sold "need_sold" ["shade", "year"] (lp (sp_need_sold a))) : Fx P w K mg base 6 a.a_sold_of a.d_sold_of "sold_of" ["fact"] (lp (sp_sold_of a)) := by
  refine ⟨fn_P T.F_sold_of sc_sold_of (by (intro ds Q E h; first | (obtain ⟨h, hr⟩ := h; subst h; (try (obtain ⟨_, hr⟩ := hr)); (try (obtain ⟨_, hr⟩ := hr)); (try (obtain ⟨_, hr⟩ := hr)); (try (obtain ⟨_, hr⟩ := hr)); (all_goals exact ⟨rfl, by (repeat' (first | trivial | exact D.lts_ints _ | exact D.lts_strs _ | exact Fc.lt | exact fcs_lt _ | exact nfs_lt _ | exact nf_lt | exact D.pl.lt (by assumption) | exact D.dp.lt (by assumption) | exact D.dps.lt (by assumption) | exact D.pls.lt (by assumption) | assumption | refine ⟨?_, ?_⟩))⟩)) | (obtain ⟨_, h, hr⟩ := h; subst h; (try (obtain ⟨_, hr⟩ := hr)); (try (obtain ⟨_, hr⟩ := hr)); (try (obtain ⟨_, hr⟩ := hr)); (try (obtain ⟨_, hr⟩ := hr)); (all_goals exact ⟨rfl, by (repeat' (first | trivial | exact D.lts_ints _ | exact D.lts_strs _ | exact Fc.lt | exact fcs_lt _ | exact nfs_lt _ | exact nf_lt | exact D.pl.lt (by assumption) | exact D.dp.lt (by assumption) | exact D.dps.lt (by assumption) | exact D.pls.lt (by assumption) | assumption | refine ⟨?_, ?_⟩))⟩)) | (obtain ⟨_, _, h, hr⟩ := h; subst h; (try (obtain ⟨_, hr⟩ := hr)); (try (obtain ⟨_, hr⟩ := hr)); (try (obtain ⟨_, hr⟩ := hr)); (try (obtain ⟨_, hr⟩ := hr)); (all_goals exact ⟨rfl, by (repeat' (first | trivial | exact D.lts_ints _ | exact D.lts_strs _ | exact Fc.lt | exact fcs_lt _ | exact nfs_lt _ | exact nf_lt | exact D.pl.lt (by assumption) | exact D.dp.lt (by assumption) | exact D.dps.lt (by assumption) | exact D.pls.lt (by assumption) | assumption | refine ⟨?_, ?_⟩))⟩)) | (obtain ⟨_, _, _, h, hr⟩ := h; subst h; (try (obtain ⟨_, hr⟩ := hr)); (try (obtain ⟨_, hr⟩ := hr)); (try (obtain ⟨_, hr⟩ := hr)); (try (obtain ⟨_, hr⟩ := hr)); (all_goals exact ⟨rfl, by (repeat' (first | trivial | exact D.lts_ints _ | exact D.lts_strs _ | exact Fc.lt | exact fcs_lt _ | exact nfs_lt _ | exact nf_lt | exact D.pl.lt (by assumption) | exact D.dp.lt (by assumption) | exact D.dps.lt (by assumption) | exact D.pls.lt (by assumption) | assumption | refine ⟨?_, ?_⟩))⟩)) | (obtain ⟨_, _, _, _, h, hr⟩ := h; subst h; (try (obtain ⟨_, hr⟩ := hr)); (try (obtain ⟨_, hr⟩ := hr)); (try (obtain ⟨_, hr⟩ := hr)); (try (obtain ⟨_, hr⟩ := hr)); (all_goals exact ⟨rfl, by (repeat' (first | trivial | exact D.lts_ints _ | exact D.lts_strs _ | exact Fc.lt | exact fcs_lt _ | exact nfs_lt _ | exact nf_lt | exact D.pl.lt (by assumption) | exact D.dp.lt (by assumption) | exact D.dps.lt (by assumption) | exact D.pls.lt (by assumption) | assumption | refine ⟨?_, ?_⟩))⟩)) | (obtain ⟨_, _, _, _, _, h, hr⟩ := h; subst h; (try (obtain ⟨_, hr⟩ := hr)); (try (obtain ⟨_, hr⟩ := hr)); (try (obtain ⟨_, hr⟩ := hr)); (try (obtain ⟨_, hr⟩ := hr)); (all_goals exact ⟨rfl, by (repeat' (first | trivial | exact D.lts_ints _ | exact D.lts_strs _ | exact Fc.lt | exact fcs_lt _ | exact nfs_lt _ | exact nf_lt | exact D.pl.lt (by assumption) | exact D.dp.lt (by assumption) | exact D.dps.lt (by assumption) | exact D.pls.lt (by assumption) | assumption | refine ⟨?_, ?_⟩))⟩)) | (obtain ⟨h, _⟩ := h; exact (by simp at h)))) fun cdv A outer s H E φ T0 W' room wl => ⟨_, (lss_consW [0] (ls_expr (le_callKw0 (ks := ["shade", "year"]) G_need_sold.ok (room.mono (by decide)) G_need_sold.gm G_need_sold.kp T.kb_need_sold_0_shade_year (takes_of rfl rfl rfl rfl) wl (lkw_cons (le_ix ox_seq (lv 0) le_int) (lkw_cons (le_ix ox_seq (lv 0) le_int) lkw_nil))))
    lss_nil), fun ds S R X n h hW => ?_⟩, T.m_sold_of, T.F_sold_of.kp, T.b_sold_of⟩
  obtain ⟨Q, E, h, rfl, rfl, rfl, rfl⟩ := h
  subst hW
  obtain ⟨t, s, y, rfl, h⟩ := h
  conv => whnf
  repeat (refine Need.mk ?_ ?_; (focus (first | trivial | rfl | assumption | (exact Nat.le_trans (by assumption) le10) | (exact Nat.lt_of_le_of_lt (by assumption) lt10) | (show (0 : Int) < _; first | decide | omega) | (show (0 : Int) ≤ _; first | decide | omega) | (exact .inl ⟨by omega, by omega⟩) | (exact .inr ⟨by decide, by decide⟩) | (refine ⟨?_, ?_⟩ <;> first | rfl | decide | omega) | (refine ⟨?_, ?_, ?_⟩ <;> first | rfl | decide | omega) | (exact ltN (Nat.le_of_ble_eq_true rfl)) | (exact leN (Nat.le_of_ble_eq_true rfl)))); (conv => whnf))
  refine ⟨s, y, rfl, Oc.run h fun h => ?_⟩
  conv => whnf
  repeat (refine Need.mk ?_ ?_; (focus (first | trivial | rfl | assumption | (exact Nat.le_trans (by assumption) le10) | (exact Nat.lt_of_le_of_lt (by assumption) lt10) | (show (0 : Int) < _; first | decide | omega) | (show (0 : Int) ≤ _; first | decide | omega) | (exact .inl ⟨by omega, by omega⟩) | (exact .inr ⟨by decide, by decide⟩) | (refine ⟨?_, ?_⟩ <;> first | rfl | decide | omega) | (refine ⟨?_, ?_, ?_⟩ <;> first | rfl | decide | omega) | (exact ltN (Nat.le_of_ble_eq_true rfl)) | (exact leN (Nat.le_of_ble_eq_true rfl)))); (conv => whnf))
  exact Rp (d := .non) h
def sp_ahead_of (a : Ad) : SpP := fun ds Q E => ∃ (t : Str) (p c o d : Int), ds = [.tup [.str t, .int p, .int c, .int o, .int d]] ∧ (ocAhead p c o d).to (ocA a) Q E
theorem ok_ahead_of (T : Txt K w mg a) (G_need_ahead : Fx P w K mg base 6 a.a_need_ahead a.d_need_ahead "need_ahead" ["part", "coat", "other", "second"] (lp (sp_need_ahead a))) : Fx P w K mg base 7 a.a_ahead_of a.d_ahead_of "ahead_of" ["fact"] (lp (sp_ahead_of a)) := by
  refine ⟨fn_P T.F_ahead_of sc_ahead_of (by (intro ds Q E h; first | (obtain ⟨h, hr⟩ := h; subst h; (try (obtain ⟨_, hr⟩ := hr)); (try (obtain ⟨_, hr⟩ := hr)); (try (obtain ⟨_, hr⟩ := hr)); (try (obtain ⟨_, hr⟩ := hr)); (all_goals exact ⟨rfl, by (repeat' (first | trivial | exact D.lts_ints _ | exact D.lts_strs _ | exact Fc.lt | exact fcs_lt _ | exact nfs_lt _ | exact nf_lt | exact D.pl.lt (by assumption) | exact D.dp.lt (by assumption) | exact D.dps.lt (by assumption) | exact D.pls.lt (by assumption) | assumption | refine ⟨?_, ?_⟩))⟩)) | (obtain ⟨_, h, hr⟩ := h; subst h; (try (obtain ⟨_, hr⟩ := hr)); (try (obtain ⟨_, hr⟩ := hr)); (try (obtain ⟨_, hr⟩ := hr)); (try (obtain ⟨_, hr⟩ := hr)); (all_goals exact ⟨rfl, by (repeat' (first | trivial | exact D.lts_ints _ | exact D.lts_strs _ | exact Fc.lt | exact fcs_lt _ | exact nfs_lt _ | exact nf_lt | exact D.pl.lt (by assumption) | exact D.dp.lt (by assumption) | exact D.dps.lt (by assumption) | exact D.pls.lt (by assumption) | assumption | refine ⟨?_, ?_⟩))⟩)) | (obtain ⟨_, _, h, hr⟩ := h; subst h; (try (obtain ⟨_, hr⟩ := hr)); (try (obtain ⟨_, hr⟩ := hr)); (try (obtain ⟨_, hr⟩ := hr)); (try (obtain ⟨_, hr⟩ := hr)); (all_goals exact ⟨rfl, by (repeat' (first | trivial | exact D.lts_ints _ | exact D.lts_strs _ | exact Fc.lt | exact fcs_lt _ | exact nfs_lt _ | exact nf_lt | exact D.pl.lt (by assumption) | exact D.dp.lt (by assumption) | exact D.dps.lt (by assumption) | exact D.pls.lt (by assumption) | assumption | refine ⟨?_, ?_⟩))⟩)) | (obtain ⟨_, _, _, h, hr⟩ := h; subst h; (try (obtain ⟨_, hr⟩ := hr)); (try (obtain ⟨_, hr⟩ := hr)); (try (obtain ⟨_, hr⟩ := hr)); (try (obtain ⟨_, hr⟩ := hr)); (all_goals exact ⟨rfl, by (repeat' (first | trivial | exact D.lts_ints _ | exact D.lts_strs _ | exact Fc.lt | exact fcs_lt _ | exact nfs_lt _ | exact nf_lt | exact D.pl.lt (by assumption) | exact D.dp.lt (by assumption) | exact D.dps.lt (by assumption) | exact D.pls.lt (by assumption) | assumption | refine ⟨?_, ?_⟩))⟩)) | (obtain ⟨_, _, _, _, h, hr⟩ := h; subst h; (try (obtain ⟨_, hr⟩ := hr)); (try (obtain ⟨_, hr⟩ := hr)); (try (obtain ⟨_, hr⟩ := hr)); (try (obtain ⟨_, hr⟩ := hr)); (all_goals exact ⟨rfl, by (repeat' (first | trivial | exact D.lts_ints _ | exact D.lts_strs _ | exact Fc.lt | exact fcs_lt _ | exact nfs_lt _ | exact nf_lt | exact D.pl.lt (by assumption) | exact D.dp.lt (by assumption) | exact D.dps.lt (by assumption) | exact D.pls.lt (by assumption) | assumption | refine ⟨?_, ?_⟩))⟩)) | (obtain ⟨_, _, _, _, _, h, hr⟩ := h; subst h; (try (obtain ⟨_, hr⟩ := hr)); (try (obtain ⟨_, hr⟩ := hr)); (try (obtain ⟨_, hr⟩ := hr)); (try (obtain ⟨_, hr⟩ := hr)); (all_goals exact ⟨rfl, by (repeat' (first | trivial | exact D.lts_ints _ | exact D.lts_strs _ | exact Fc.lt | exact fcs_lt _ | exact nfs_lt _ | exact nf_lt | exact D.pl.lt (by assumption) | exact D.dp.lt (by assumption) | exact D.dps.lt (by assumption) | exact D.pls.lt (by assumption) | assumption | refine ⟨?_, ?_⟩))⟩)) | (obtain ⟨h, _⟩ := h; exact (by simp at h)))) fun cdv A outer s H E φ T0 W' room wl => ⟨_, (lss_consW [0] (ls_expr (le_fx G_need_ahead (room.mono (by decide)) (takes_of rfl rfl rfl rfl) wl (la_cons (le_ix ox_seq (lv 0) le_int) (la_cons (le_ix ox_seq (lv 0) le_int) (la_cons (le_ix ox_seq (lv 0) le_int) (la_cons (le_ix ox_seq (lv 0) le_int) la_nil))))))
    lss_nil), fun ds S R X n h hW => ?_⟩, T.m_ahead_of, T.F_ahead_of.kp, T.b_ahead_of⟩
  obtain ⟨Q, E, h, rfl, rfl, rfl, rfl⟩ := h
  subst hW
  obtain ⟨t, p, c, o, d, rfl, h⟩ := h
  conv => whnf
  repeat (refine Need.mk ?_ ?_; (focus (first | trivial | rfl | assumption | (exact Nat.le_trans (by assumption) le10) | (exact Nat.lt_of_le_of_lt (by assumption) lt10) | (show (0 : Int) < _; first | decide | omega) | (show (0 : Int) ≤ _; first | decide | omega) | (exact .inl ⟨by omega, by omega⟩) | (exact .inr ⟨by decide, by decide⟩) | (refine ⟨?_, ?_⟩ <;> first | rfl | decide | omega) | (refine ⟨?_, ?_, ?_⟩ <;> first | rfl | decide | omega) | (exact ltN (Nat.le_of_ble_eq_true rfl)) | (exact leN (Nat.le_of_ble_eq_true rfl)))); (conv => whnf))
  refine ⟨p, c, o, d, rfl, Oc.run h fun h => ?_⟩
  conv => whnf
  repeat (refine Need.mk ?_ ?_; (focus (first | trivial | rfl | assumption | (exact Nat.le_trans (by assumption) le10) | (exact Nat.lt_of_le_of_lt (by assumption) lt10) | (show (0 : Int) < _; first | decide | omega) | (show (0 : Int) ≤ _; first | decide | omega) | (exact .inl ⟨by omega, by omega⟩) | (exact .inr ⟨by decide, by decide⟩) | (refine ⟨?_, ?_⟩ <;> first | rfl | decide | omega) | (refine ⟨?_, ?_, ?_⟩ <;> first | rfl | decide | omega) | (exact ltN (Nat.le_of_ble_eq_true rfl)) | (exact leN (Nat.le_of_ble_eq_true rfl)))); (conv => whnf))
  exact Rp (d := .non) h
def sp_paired_of (a : Ad) : SpP := fun ds Q E => ∃ (t : Str) (p c o d : Int), ds = [.tup [.str t, .int p, .int c, .int o, .int d]] ∧ (ocPaired p c o d).to (ocA a) Q E
theorem ok_paired_of (T : Txt K w mg a) (G_need_paired : Fx P w K mg base 6 a.a_need_paired a.d_need_paired "need_paired" ["part", "coat", "other", "second"] (lp (sp_need_paired a))) : Fx P w K mg base 7 a.a_paired_of a.d_paired_of "paired_of" ["fact"] (lp (sp_paired_of a)) := by
  refine ⟨fn_P T.F_paired_of sc_paired_of (by (intro ds Q E h; first | (obtain ⟨h, hr⟩ := h; subst h; (try (obtain ⟨_, hr⟩ := hr)); (try (obtain ⟨_, hr⟩ := hr)); (try (obtain ⟨_, hr⟩ := hr)); (try (obtain ⟨_, hr⟩ := hr)); (all_goals exact ⟨rfl, by (repeat' (first | trivial | exact D.lts_ints _ | exact D.lts_strs _ | exact Fc.lt | exact fcs_lt _ | exact nfs_lt _ | exact nf_lt | exact D.pl.lt (by assumption) | exact D.dp.lt (by assumption) | exact D.dps.lt (by assumption) | exact D.pls.lt (by assumption) | assumption | refine ⟨?_, ?_⟩))⟩)) | (obtain ⟨_, h, hr⟩ := h; subst h; (try (obtain ⟨_, hr⟩ := hr)); (try (obtain ⟨_, hr⟩ := hr)); (try (obtain ⟨_, hr⟩ := hr)); (try (obtain ⟨_, hr⟩ := hr)); (all_goals exact ⟨rfl, by (repeat' (first | trivial | exact D.lts_ints _ | exact D.lts_strs _ | exact Fc.lt | exact fcs_lt _ | exact nfs_lt _ | exact nf_lt | exact D.pl.lt (by assumption) | exact D.dp.lt (by assumption) | exact D.dps.lt (by assumption) | exact D.pls.lt (by assumption) | assumption | refine ⟨?_, ?_⟩))⟩)) | (obtain ⟨_, _, h, hr⟩ := h; subst h; (try (obtain ⟨_, hr⟩ := hr)); (try (obtain ⟨_, hr⟩ := hr)); (try (obtain ⟨_, hr⟩ := hr)); (try (obtain ⟨_, hr⟩ := hr)); (all_goals exact ⟨rfl, by (repeat' (first | trivial | exact D.lts_ints _ | exact D.lts_strs _ | exact Fc.lt | exact fcs_lt _ | exact nfs_lt _ | exact nf_lt | exact D.pl.lt (by assumption) | exact D.dp.lt (by assumption) | exact D.dps.lt (by assumption) | exact D.pls.lt (by assumption) | assumption | refine ⟨?_, ?_⟩))⟩)) | (obtain ⟨_, _, _, h, hr⟩ := h; subst h; (try (obtain ⟨_, hr⟩ := hr)); (try (obtain ⟨_, hr⟩ := hr)); (try (obtain ⟨_, hr⟩ := hr)); (try (obtain ⟨_, hr⟩ := hr)); (all_goals exact ⟨rfl, by (repeat' (first | trivial | exact D.lts_ints _ | exact D.lts_strs _ | exact Fc.lt | exact fcs_lt _ | exact nfs_lt _ | exact nf_lt | exact D.pl.lt (by assumption) | exact D.dp.lt (by assumption) | exact D.dps.lt (by assumption) | exact D.pls.lt (by assumption) | assumption | refine ⟨?_, ?_⟩))⟩)) | (obtain ⟨_, _, _, _, h, hr⟩ := h; subst h; (try (obtain ⟨_, hr⟩ := hr)); (try (obtain ⟨_, hr⟩ := hr)); (try (obtain ⟨_, hr⟩ := hr)); (try (obtain ⟨_, hr⟩ := hr)); (all_goals exact ⟨rfl, by (repeat' (first | trivial | exact D.lts_ints _ | exact D.lts_strs _ | exact Fc.lt | exact fcs_lt _ | exact nfs_lt _ | exact nf_lt | exact D.pl.lt (by assumption) | exact D.dp.lt (by assumption) | exact D.dps.lt (by assumption) | exact D.pls.lt (by assumption) | assumption | refine ⟨?_, ?_⟩))⟩)) | (obtain ⟨_, _, _, _, _, h, hr⟩ := h; subst h; (try (obtain ⟨_, hr⟩ := hr)); (try (obtain ⟨_, hr⟩ := hr)); (try (obtain ⟨_, hr⟩ := hr)); (try (obtain ⟨_, hr⟩ := hr)); (all_goals exact ⟨rfl, by (repeat' (first | trivial | exact D.lts_ints _ | exact D.lts_strs _ | exact Fc.lt | exact fcs_lt _ | exact nfs_lt _ | exact nf_lt | exact D.pl.lt (by assumption) | exact D.dp.lt (by assumption) | exact D.dps.lt (by assumption) | exact D.pls.lt (by assumption) | assumption | refine ⟨?_, ?_⟩))⟩)) | (obtain ⟨h, _⟩ := h; exact (by simp at h)))) fun cdv A outer s H E φ T0 W' room wl => ⟨_, (lss_consW [0] (ls_expr (le_fx G_need_paired (room.mono (by decide)) (takes_of rfl rfl rfl rfl) wl (la_cons (le_ix ox_seq (lv 0) le_int) (la_cons (le_ix ox_seq (lv 0) le_int) (la_cons (le_ix ox_seq (lv 0) le_int) (la_cons (le_ix ox_seq (lv 0) le_int) la_nil))))))
    lss_nil), fun ds S R X n h hW => ?_⟩, T.m_paired_of, T.F_paired_of.kp, T.b_paired_of⟩
  obtain ⟨Q, E, h, rfl, rfl, rfl, rfl⟩ := h
  subst hW
  obtain ⟨t, p, c, o, d, rfl, h⟩ := h
  conv => whnf
  repeat (refine Need.mk ?_ ?_; (focus (first | trivial | rfl | assumption | (exact Nat.le_trans (by assumption) le10) | (exact Nat.lt_of_le_of_lt (by assumption) lt10) | (show (0 : Int) < _; first | decide | omega) | (show (0 : Int) ≤ _; first | decide | omega) | (exact .inl ⟨by omega, by omega⟩) | (exact .inr ⟨by decide, by decide⟩) | (refine ⟨?_, ?_⟩ <;> first | rfl | decide | omega) | (refine ⟨?_, ?_, ?_⟩ <;> first | rfl | decide | omega) | (exact ltN (Nat.le_of_ble_eq_true rfl)) | (exact leN (Nat.le_of_ble_eq_true rfl)))); (conv => whnf))
  refine ⟨p, c, o, d, rfl, Oc.run h fun h => ?_⟩
  conv => whnf
  repeat (refine Need.mk ?_ ?_; (focus (first | trivial | rfl | assumption | (exact Nat.le_trans (by assumption) le10) | (exact Nat.lt_of_le_of_lt (by assumption) lt10) | (show (0 : Int) < _; first | decide | omega) | (show (0 : Int) ≤ _; first | decide | omega) | (exact .inl ⟨by omega, by omega⟩) | (exact .inr ⟨by decide, by decide⟩) | (refine ⟨?_, ?_⟩ <;> first | rfl | decide | omega) | (refine ⟨?_, ?_, ?_⟩ <;> first | rfl | decide | omega) | (exact ltN (Nat.le_of_ble_eq_true rfl)) | (exact leN (Nat.le_of_ble_eq_true rfl)))); (conv => whnf))
  exact Rp (d := .non) h
def sp_need_fact (a : Ad) : SpP := fun ds Q E => ∃ d : D, ds = [d] ∧ D.lt 0 d ∧ ((∃ f : Fc, d = f.d ∧ f.sh.length ≤ 1000 ∧ (ocFc f).to (ocA a) Q E) ∨ (d = .tup [] ∧ (Oc.fact "").to (ocA a) Q E) ∨ ∃ (x : Str) (r : List D), d = .tup (.str x :: r) ∧ r.length ≤ 1000 ∧ things.lookup x ≠ some ((r.length + 1 : Nat) : Int) ∧ (Oc.fact x).to (ocA a) Q E)
theorem ok_need_fact (T : Txt K w mg a) (Z_BadFact : XcD P w K mg base "BadFact" a.c_BadFact a.a_BadFact_init a.d_BadFact_init ["self", "word"] 1 (fl1 "badfact" "word") (fd1 "badfact" "word") [] []) (H_BadFact : L2H.FnH P w K mg base (L2.CX P w) 2 a.a_BadFact_init a.d_BadFact_init ["self", "word"] (spX a.c_BadFact 1 (fl1 "badfact" "word"))) (G_scrape_of : Fx P w K mg base 6 a.a_scrape_of a.d_scrape_of "scrape_of" ["fact"] (lp (sp_scrape_of a))) (G_cover_of : Fx P w K mg base 7 a.a_cover_of a.d_cover_of "cover_of" ["fact"] (lp (sp_cover_of a))) (G_moved_of : Fx P w K mg base 7 a.a_moved_of a.d_moved_of "moved_of" ["fact"] (lp (sp_moved_of a))) (G_dated_of : Fx P w K mg base 6 a.a_dated_of a.d_dated_of "dated_of" ["fact"] (lp (sp_dated_of a))) (G_sold_of : Fx P w K mg base 6 a.a_sold_of a.d_sold_of "sold_of" ["fact"] (lp (sp_sold_of a))) (G_ahead_of : Fx P w K mg base 7 a.a_ahead_of a.d_ahead_of "ahead_of" ["fact"] (lp (sp_ahead_of a))) (G_paired_of : Fx P w K mg base 7 a.a_paired_of a.d_paired_of "paired_of" ["fact"] (lp (sp_paired_of a))) : Fx P w K mg base 8 a.a_need_fact a.d_need_fact "need_fact" ["fact"] (lp (sp_need_fact a)) := by
  refine ⟨fn_P T.F_need_fact sc_need_fact (by (intro ds Q E h; first | (obtain ⟨h, hr⟩ := h; subst h; (try (obtain ⟨_, hr⟩ := hr)); (try (obtain ⟨_, hr⟩ := hr)); (try (obtain ⟨_, hr⟩ := hr)); (try (obtain ⟨_, hr⟩ := hr)); (all_goals exact ⟨rfl, by (repeat' (first | trivial | exact D.lts_ints _ | exact D.lts_strs _ | exact Fc.lt | exact fcs_lt _ | exact nfs_lt _ | exact nf_lt | exact D.pl.lt (by assumption) | exact D.dp.lt (by assumption) | exact D.dps.lt (by assumption) | exact D.pls.lt (by assumption) | assumption | refine ⟨?_, ?_⟩))⟩)) | (obtain ⟨_, h, hr⟩ := h; subst h; (try (obtain ⟨_, hr⟩ := hr)); (try (obtain ⟨_, hr⟩ := hr)); (try (obtain ⟨_, hr⟩ := hr)); (try (obtain ⟨_, hr⟩ := hr)); (all_goals exact ⟨rfl, by (repeat' (first | trivial | exact D.lts_ints _ | exact D.lts_strs _ | exact Fc.lt | exact fcs_lt _ | exact nfs_lt _ | exact nf_lt | exact D.pl.lt (by assumption) | exact D.dp.lt (by assumption) | exact D.dps.lt (by assumption) | exact D.pls.lt (by assumption) | assumption | refine ⟨?_, ?_⟩))⟩)) | (obtain ⟨_, _, h, hr⟩ := h; subst h; (try (obtain ⟨_, hr⟩ := hr)); (try (obtain ⟨_, hr⟩ := hr)); (try (obtain ⟨_, hr⟩ := hr)); (try (obtain ⟨_, hr⟩ := hr)); (all_goals exact ⟨rfl, by (repeat' (first | trivial | exact D.lts_ints _ | exact D.lts_strs _ | exact Fc.lt | exact fcs_lt _ | exact nfs_lt _ | exact nf_lt | exact D.pl.lt (by assumption) | exact D.dp.lt (by assumption) | exact D.dps.lt (by assumption) | exact D.pls.lt (by assumption) | assumption | refine ⟨?_, ?_⟩))⟩)) | (obtain ⟨_, _, _, h, hr⟩ := h; subst h; (try (obtain ⟨_, hr⟩ := hr)); (try (obtain ⟨_, hr⟩ := hr)); (try (obtain ⟨_, hr⟩ := hr)); (try (obtain ⟨_, hr⟩ := hr)); (all_goals exact ⟨rfl, by (repeat' (first | trivial | exact D.lts_ints _ | exact D.lts_strs _ | exact Fc.lt | exact fcs_lt _ | exact nfs_lt _ | exact nf_lt | exact D.pl.lt (by assumption) | exact D.dp.lt (by assumption) | exact D.dps.lt (by assumption) | exact D.pls.lt (by assumption) | assumption | refine ⟨?_, ?_⟩))⟩)) | (obtain ⟨_, _, _, _, h, hr⟩ := h; subst h; (try (obtain ⟨_, hr⟩ := hr)); (try (obtain ⟨_, hr⟩ := hr)); (try (obtain ⟨_, hr⟩ := hr)); (try (obtain ⟨_, hr⟩ := hr)); (all_goals exact ⟨rfl, by (repeat' (first | trivial | exact D.lts_ints _ | exact D.lts_strs _ | exact Fc.lt | exact fcs_lt _ | exact nfs_lt _ | exact nf_lt | exact D.pl.lt (by assumption) | exact D.dp.lt (by assumption) | exact D.dps.lt (by assumption) | exact D.pls.lt (by assumption) | assumption | refine ⟨?_, ?_⟩))⟩)) | (obtain ⟨_, _, _, _, _, h, hr⟩ := h; subst h; (try (obtain ⟨_, hr⟩ := hr)); (try (obtain ⟨_, hr⟩ := hr)); (try (obtain ⟨_, hr⟩ := hr)); (try (obtain ⟨_, hr⟩ := hr)); (all_goals exact ⟨rfl, by (repeat' (first | trivial | exact D.lts_ints _ | exact D.lts_strs _ | exact Fc.lt | exact fcs_lt _ | exact nfs_lt _ | exact nf_lt | exact D.pl.lt (by assumption) | exact D.dp.lt (by assumption) | exact D.dps.lt (by assumption) | exact D.pls.lt (by assumption) | assumption | refine ⟨?_, ?_⟩))⟩)) | (obtain ⟨h, _⟩ := h; exact (by simp at h)))) fun cdv A outer s H E φ T0 W' room wl => ⟨_, (lss_cons (ls_if (lt_cmp (oo_eq room.units) (le_callB cc_len rfl T.n_len (by rfl) (la_cons (lv 0) la_nil)) le_int (by rfl)) (lss_cons (ls_rz Z_BadFact rfl (room.mono (by decide)) (takes_of rfl rfl rfl rfl) wl (la_cons le_str la_nil))
    lss_nil) lss_nil)
    (lss_consM (ls_tryKey (i := 1) T.kd_LOOKS T.gm_LOOKS Z_BadFact.hfl rfl rfl rfl sc_need_fact.nd rfl (.inl rfl) (.inr rfl) ⟨rfl, by decide, .inr ⟨T.n_KeyError, rfl, by decide⟩⟩ rfl (fun hd => L2H.passesAt_of rfl hd) (takes_of rfl rfl rfl rfl) wl Z_BadFact.T Z_BadFact.iC Z_BadFact.tI H_BadFact (room.mono (by decide)) (XcD.b0 Z_BadFact) Z_BadFact.gm rfl rfl (fun _ _ _ => (le_ix ox_seq (lv 0) le_int)) (fun _ _ => (la_cons (le_ix ox_seq (lv 0) le_int) la_nil)) (by decide) (by decide) (by intro _ _; rfl) (by intros; rfl) (by intros; rfl) (by intros; rfl))
    (lss_cons (ls_if (lt_cmp (oo_ne room.units) (le_callB cc_len rfl T.n_len (by rfl) (la_cons (lv 0) la_nil)) (le_ix (ox_kd T.kd_THINGS) (le_glob (v := .ref a.v_THINGS) (d := .adr a.v_THINGS) rfl T.gm_THINGS rfl (fun _ _ => rfl)) (le_ix ox_seq (lv 0) le_int)) (by rfl)) (lss_cons (ls_rz Z_BadFact rfl (room.mono (by decide)) (takes_of rfl rfl rfl rfl) wl (la_cons (le_ix ox_seq (lv 0) le_int) la_nil))
    lss_nil) lss_nil)
    (lss_consW [0, 1] (ls_expr (le_callA (k := 7) (i := 1) (L := [(a.a_scrape_of, (lp (sp_scrape_of a))), (a.a_cover_of, (lp (sp_cover_of a))), (a.a_moved_of, (lp (sp_moved_of a))), (a.a_dated_of, (lp (sp_dated_of a))), (a.a_sold_of, (lp (sp_sold_of a))), (a.a_ahead_of, (lp (sp_ahead_of a))), (a.a_paired_of, (lp (sp_paired_of a)))]) (fun z hz => by simp only [List.mem_cons, List.not_mem_nil, or_false] at hz; rcases hz with rfl | rfl | rfl | rfl | rfl | rfl | rfl; exact G_scrape_of.held (by decide); exact G_cover_of.held (by decide); exact G_moved_of.held (by decide); exact G_dated_of.held (by decide); exact G_sold_of.held (by decide); exact G_ahead_of.held (by decide); exact G_paired_of.held (by decide)) (room.mono (by decide)) rfl (.inl rfl) (takes_of rfl rfl rfl rfl) wl (la_cons (lv 0) la_nil)))
    lss_nil)))), fun ds S R X n h hW => ?_⟩, T.m_need_fact, T.F_need_fact.kp, T.b_need_fact⟩
  obtain ⟨Q, E, h, rfl, rfl, rfl, rfl⟩ := h
  subst hW
  obtain ⟨d, rfl, hd, h⟩ := h
  rcases h with ⟨f, rfl, hsh, h⟩ | ⟨rfl, h⟩ | ⟨x, r, rfl, hr, hne, h⟩
  · cases f with
    | scrape p c sh =>
      conv => whnf
      repeat (refine Need.mk ?_ ?_; (focus (first | trivial | rfl | assumption | (exact Nat.le_trans (by assumption) le10) | (exact Nat.lt_of_le_of_lt (by assumption) lt10) | (show (0 : Int) < _; first | decide | omega) | (show (0 : Int) ≤ _; first | decide | omega) | (exact .inl ⟨by omega, by omega⟩) | (exact .inr ⟨by decide, by decide⟩) | (refine ⟨?_, ?_⟩ <;> first | rfl | decide | omega) | (refine ⟨?_, ?_, ?_⟩ <;> first | rfl | decide | omega) | (exact ltN (Nat.le_of_ble_eq_true rfl)) | (exact leN (Nat.le_of_ble_eq_true rfl)))); (conv => whnf))
      refine sD ?_
      conv => whnf
      repeat (refine Need.mk ?_ ?_; (focus (first | trivial | rfl | assumption | (exact Nat.le_trans (by assumption) le10) | (exact Nat.lt_of_le_of_lt (by assumption) lt10) | (show (0 : Int) < _; first | decide | omega) | (show (0 : Int) ≤ _; first | decide | omega) | (exact .inl ⟨by omega, by omega⟩) | (exact .inr ⟨by decide, by decide⟩) | (refine ⟨?_, ?_⟩ <;> first | rfl | decide | omega) | (refine ⟨?_, ?_, ?_⟩ <;> first | rfl | decide | omega) | (exact ltN (Nat.le_of_ble_eq_true rfl)) | (exact leN (Nat.le_of_ble_eq_true rfl)))); (conv => whnf))
      refine ⟨_, _, 0, rfl, rfl, ?_⟩
      conv => whnf
      repeat (refine Need.mk ?_ ?_; (focus (first | trivial | rfl | assumption | (exact Nat.le_trans (by assumption) le10) | (exact Nat.lt_of_le_of_lt (by assumption) lt10) | (show (0 : Int) < _; first | decide | omega) | (show (0 : Int) ≤ _; first | decide | omega) | (exact .inl ⟨by omega, by omega⟩) | (exact .inr ⟨by decide, by decide⟩) | (refine ⟨?_, ?_⟩ <;> first | rfl | decide | omega) | (refine ⟨?_, ?_, ?_⟩ <;> first | rfl | decide | omega) | (exact ltN (Nat.le_of_ble_eq_true rfl)) | (exact leN (Nat.le_of_ble_eq_true rfl)))); (conv => whnf))
      refine ⟨"scrape", p, c, sh, rfl, hsh, Oc.run h fun h => ?_⟩
      conv => whnf
      repeat (refine Need.mk ?_ ?_; (focus (first | trivial | rfl | assumption | (exact Nat.le_trans (by assumption) le10) | (exact Nat.lt_of_le_of_lt (by assumption) lt10) | (show (0 : Int) < _; first | decide | omega) | (show (0 : Int) ≤ _; first | decide | omega) | (exact .inl ⟨by omega, by omega⟩) | (exact .inr ⟨by decide, by decide⟩) | (refine ⟨?_, ?_⟩ <;> first | rfl | decide | omega) | (refine ⟨?_, ?_, ?_⟩ <;> first | rfl | decide | omega) | (exact ltN (Nat.le_of_ble_eq_true rfl)) | (exact leN (Nat.le_of_ble_eq_true rfl)))); (conv => whnf))
      exact Rp (d := .non) h
    | cover p l d =>
      conv => whnf
      repeat (refine Need.mk ?_ ?_; (focus (first | trivial | rfl | assumption | (exact Nat.le_trans (by assumption) le10) | (exact Nat.lt_of_le_of_lt (by assumption) lt10) | (show (0 : Int) < _; first | decide | omega) | (show (0 : Int) ≤ _; first | decide | omega) | (exact .inl ⟨by omega, by omega⟩) | (exact .inr ⟨by decide, by decide⟩) | (refine ⟨?_, ?_⟩ <;> first | rfl | decide | omega) | (refine ⟨?_, ?_, ?_⟩ <;> first | rfl | decide | omega) | (exact ltN (Nat.le_of_ble_eq_true rfl)) | (exact leN (Nat.le_of_ble_eq_true rfl)))); (conv => whnf))
      refine sD ?_
      conv => whnf
      repeat (refine Need.mk ?_ ?_; (focus (first | trivial | rfl | assumption | (exact Nat.le_trans (by assumption) le10) | (exact Nat.lt_of_le_of_lt (by assumption) lt10) | (show (0 : Int) < _; first | decide | omega) | (show (0 : Int) ≤ _; first | decide | omega) | (exact .inl ⟨by omega, by omega⟩) | (exact .inr ⟨by decide, by decide⟩) | (refine ⟨?_, ?_⟩ <;> first | rfl | decide | omega) | (refine ⟨?_, ?_, ?_⟩ <;> first | rfl | decide | omega) | (exact ltN (Nat.le_of_ble_eq_true rfl)) | (exact leN (Nat.le_of_ble_eq_true rfl)))); (conv => whnf))
      refine ⟨_, _, 1, rfl, rfl, ?_⟩
      conv => whnf
      repeat (refine Need.mk ?_ ?_; (focus (first | trivial | rfl | assumption | (exact Nat.le_trans (by assumption) le10) | (exact Nat.lt_of_le_of_lt (by assumption) lt10) | (show (0 : Int) < _; first | decide | omega) | (show (0 : Int) ≤ _; first | decide | omega) | (exact .inl ⟨by omega, by omega⟩) | (exact .inr ⟨by decide, by decide⟩) | (refine ⟨?_, ?_⟩ <;> first | rfl | decide | omega) | (refine ⟨?_, ?_, ?_⟩ <;> first | rfl | decide | omega) | (exact ltN (Nat.le_of_ble_eq_true rfl)) | (exact leN (Nat.le_of_ble_eq_true rfl)))); (conv => whnf))
      refine ⟨"cover", p, l, d, rfl, Oc.run h fun h => ?_⟩
      conv => whnf
      repeat (refine Need.mk ?_ ?_; (focus (first | trivial | rfl | assumption | (exact Nat.le_trans (by assumption) le10) | (exact Nat.lt_of_le_of_lt (by assumption) lt10) | (show (0 : Int) < _; first | decide | omega) | (show (0 : Int) ≤ _; first | decide | omega) | (exact .inl ⟨by omega, by omega⟩) | (exact .inr ⟨by decide, by decide⟩) | (refine ⟨?_, ?_⟩ <;> first | rfl | decide | omega) | (refine ⟨?_, ?_, ?_⟩ <;> first | rfl | decide | omega) | (exact ltN (Nat.le_of_ble_eq_true rfl)) | (exact leN (Nat.le_of_ble_eq_true rfl)))); (conv => whnf))
      exact Rp (d := .non) h
    | moved p c l d =>
      conv => whnf
      repeat (refine Need.mk ?_ ?_; (focus (first | trivial | rfl | assumption | (exact Nat.le_trans (by assumption) le10) | (exact Nat.lt_of_le_of_lt (by assumption) lt10) | (show (0 : Int) < _; first | decide | omega) | (show (0 : Int) ≤ _; first | decide | omega) | (exact .inl ⟨by omega, by omega⟩) | (exact .inr ⟨by decide, by decide⟩) | (refine ⟨?_, ?_⟩ <;> first | rfl | decide | omega) | (refine ⟨?_, ?_, ?_⟩ <;> first | rfl | decide | omega) | (exact ltN (Nat.le_of_ble_eq_true rfl)) | (exact leN (Nat.le_of_ble_eq_true rfl)))); (conv => whnf))
      refine sD ?_
      conv => whnf
      repeat (refine Need.mk ?_ ?_; (focus (first | trivial | rfl | assumption | (exact Nat.le_trans (by assumption) le10) | (exact Nat.lt_of_le_of_lt (by assumption) lt10) | (show (0 : Int) < _; first | decide | omega) | (show (0 : Int) ≤ _; first | decide | omega) | (exact .inl ⟨by omega, by omega⟩) | (exact .inr ⟨by decide, by decide⟩) | (refine ⟨?_, ?_⟩ <;> first | rfl | decide | omega) | (refine ⟨?_, ?_, ?_⟩ <;> first | rfl | decide | omega) | (exact ltN (Nat.le_of_ble_eq_true rfl)) | (exact leN (Nat.le_of_ble_eq_true rfl)))); (conv => whnf))
      refine ⟨_, _, 2, rfl, rfl, ?_⟩
      conv => whnf
      repeat (refine Need.mk ?_ ?_; (focus (first | trivial | rfl | assumption | (exact Nat.le_trans (by assumption) le10) | (exact Nat.lt_of_le_of_lt (by assumption) lt10) | (show (0 : Int) < _; first | decide | omega) | (show (0 : Int) ≤ _; first | decide | omega) | (exact .inl ⟨by omega, by omega⟩) | (exact .inr ⟨by decide, by decide⟩) | (refine ⟨?_, ?_⟩ <;> first | rfl | decide | omega) | (refine ⟨?_, ?_, ?_⟩ <;> first | rfl | decide | omega) | (exact ltN (Nat.le_of_ble_eq_true rfl)) | (exact leN (Nat.le_of_ble_eq_true rfl)))); (conv => whnf))
      refine ⟨"moved", p, c, l, d, rfl, Oc.run h fun h => ?_⟩
      conv => whnf
      repeat (refine Need.mk ?_ ?_; (focus (first | trivial | rfl | assumption | (exact Nat.le_trans (by assumption) le10) | (exact Nat.lt_of_le_of_lt (by assumption) lt10) | (show (0 : Int) < _; first | decide | omega) | (show (0 : Int) ≤ _; first | decide | omega) | (exact .inl ⟨by omega, by omega⟩) | (exact .inr ⟨by decide, by decide⟩) | (refine ⟨?_, ?_⟩ <;> first | rfl | decide | omega) | (refine ⟨?_, ?_, ?_⟩ <;> first | rfl | decide | omega) | (exact ltN (Nat.le_of_ble_eq_true rfl)) | (exact leN (Nat.le_of_ble_eq_true rfl)))); (conv => whnf))
      exact Rp (d := .non) h
    | year p c f l =>
      conv => whnf
      repeat (refine Need.mk ?_ ?_; (focus (first | trivial | rfl | assumption | (exact Nat.le_trans (by assumption) le10) | (exact Nat.lt_of_le_of_lt (by assumption) lt10) | (show (0 : Int) < _; first | decide | omega) | (show (0 : Int) ≤ _; first | decide | omega) | (exact .inl ⟨by omega, by omega⟩) | (exact .inr ⟨by decide, by decide⟩) | (refine ⟨?_, ?_⟩ <;> first | rfl | decide | omega) | (refine ⟨?_, ?_, ?_⟩ <;> first | rfl | decide | omega) | (exact ltN (Nat.le_of_ble_eq_true rfl)) | (exact leN (Nat.le_of_ble_eq_true rfl)))); (conv => whnf))
      refine sD ?_
      conv => whnf
      repeat (refine Need.mk ?_ ?_; (focus (first | trivial | rfl | assumption | (exact Nat.le_trans (by assumption) le10) | (exact Nat.lt_of_le_of_lt (by assumption) lt10) | (show (0 : Int) < _; first | decide | omega) | (show (0 : Int) ≤ _; first | decide | omega) | (exact .inl ⟨by omega, by omega⟩) | (exact .inr ⟨by decide, by decide⟩) | (refine ⟨?_, ?_⟩ <;> first | rfl | decide | omega) | (refine ⟨?_, ?_, ?_⟩ <;> first | rfl | decide | omega) | (exact ltN (Nat.le_of_ble_eq_true rfl)) | (exact leN (Nat.le_of_ble_eq_true rfl)))); (conv => whnf))
      refine ⟨_, _, 3, rfl, rfl, ?_⟩
      conv => whnf
      repeat (refine Need.mk ?_ ?_; (focus (first | trivial | rfl | assumption | (exact Nat.le_trans (by assumption) le10) | (exact Nat.lt_of_le_of_lt (by assumption) lt10) | (show (0 : Int) < _; first | decide | omega) | (show (0 : Int) ≤ _; first | decide | omega) | (exact .inl ⟨by omega, by omega⟩) | (exact .inr ⟨by decide, by decide⟩) | (refine ⟨?_, ?_⟩ <;> first | rfl | decide | omega) | (refine ⟨?_, ?_, ?_⟩ <;> first | rfl | decide | omega) | (exact ltN (Nat.le_of_ble_eq_true rfl)) | (exact leN (Nat.le_of_ble_eq_true rfl)))); (conv => whnf))
      refine ⟨"year", p, c, f, l, rfl, Oc.run h fun h => ?_⟩
      conv => whnf
      repeat (refine Need.mk ?_ ?_; (focus (first | trivial | rfl | assumption | (exact Nat.le_trans (by assumption) le10) | (exact Nat.lt_of_le_of_lt (by assumption) lt10) | (show (0 : Int) < _; first | decide | omega) | (show (0 : Int) ≤ _; first | decide | omega) | (exact .inl ⟨by omega, by omega⟩) | (exact .inr ⟨by decide, by decide⟩) | (refine ⟨?_, ?_⟩ <;> first | rfl | decide | omega) | (refine ⟨?_, ?_, ?_⟩ <;> first | rfl | decide | omega) | (exact ltN (Nat.le_of_ble_eq_true rfl)) | (exact leN (Nat.le_of_ble_eq_true rfl)))); (conv => whnf))
      exact Rp (d := .non) h
    | sold s y =>
      conv => whnf
      repeat (refine Need.mk ?_ ?_; (focus (first | trivial | rfl | assumption | (exact Nat.le_trans (by assumption) le10) | (exact Nat.lt_of_le_of_lt (by assumption) lt10) | (show (0 : Int) < _; first | decide | omega) | (show (0 : Int) ≤ _; first | decide | omega) | (exact .inl ⟨by omega, by omega⟩) | (exact .inr ⟨by decide, by decide⟩) | (refine ⟨?_, ?_⟩ <;> first | rfl | decide | omega) | (refine ⟨?_, ?_, ?_⟩ <;> first | rfl | decide | omega) | (exact ltN (Nat.le_of_ble_eq_true rfl)) | (exact leN (Nat.le_of_ble_eq_true rfl)))); (conv => whnf))
      refine sD ?_
      conv => whnf
      repeat (refine Need.mk ?_ ?_; (focus (first | trivial | rfl | assumption | (exact Nat.le_trans (by assumption) le10) | (exact Nat.lt_of_le_of_lt (by assumption) lt10) | (show (0 : Int) < _; first | decide | omega) | (show (0 : Int) ≤ _; first | decide | omega) | (exact .inl ⟨by omega, by omega⟩) | (exact .inr ⟨by decide, by decide⟩) | (refine ⟨?_, ?_⟩ <;> first | rfl | decide | omega) | (refine ⟨?_, ?_, ?_⟩ <;> first | rfl | decide | omega) | (exact ltN (Nat.le_of_ble_eq_true rfl)) | (exact leN (Nat.le_of_ble_eq_true rfl)))); (conv => whnf))
      refine ⟨_, _, 4, rfl, rfl, ?_⟩
      conv => whnf
      repeat (refine Need.mk ?_ ?_; (focus (first | trivial | rfl | assumption | (exact Nat.le_trans (by assumption) le10) | (exact Nat.lt_of_le_of_lt (by assumption) lt10) | (show (0 : Int) < _; first | decide | omega) | (show (0 : Int) ≤ _; first | decide | omega) | (exact .inl ⟨by omega, by omega⟩) | (exact .inr ⟨by decide, by decide⟩) | (refine ⟨?_, ?_⟩ <;> first | rfl | decide | omega) | (refine ⟨?_, ?_, ?_⟩ <;> first | rfl | decide | omega) | (exact ltN (Nat.le_of_ble_eq_true rfl)) | (exact leN (Nat.le_of_ble_eq_true rfl)))); (conv => whnf))
      refine ⟨"sold", s, y, rfl, Oc.run h fun h => ?_⟩
      conv => whnf
      repeat (refine Need.mk ?_ ?_; (focus (first | trivial | rfl | assumption | (exact Nat.le_trans (by assumption) le10) | (exact Nat.lt_of_le_of_lt (by assumption) lt10) | (show (0 : Int) < _; first | decide | omega) | (show (0 : Int) ≤ _; first | decide | omega) | (exact .inl ⟨by omega, by omega⟩) | (exact .inr ⟨by decide, by decide⟩) | (refine ⟨?_, ?_⟩ <;> first | rfl | decide | omega) | (refine ⟨?_, ?_, ?_⟩ <;> first | rfl | decide | omega) | (exact ltN (Nat.le_of_ble_eq_true rfl)) | (exact leN (Nat.le_of_ble_eq_true rfl)))); (conv => whnf))
      exact Rp (d := .non) h
    | ahead p c o d =>
      conv => whnf
      repeat (refine Need.mk ?_ ?_; (focus (first | trivial | rfl | assumption | (exact Nat.le_trans (by assumption) le10) | (exact Nat.lt_of_le_of_lt (by assumption) lt10) | (show (0 : Int) < _; first | decide | omega) | (show (0 : Int) ≤ _; first | decide | omega) | (exact .inl ⟨by omega, by omega⟩) | (exact .inr ⟨by decide, by decide⟩) | (refine ⟨?_, ?_⟩ <;> first | rfl | decide | omega) | (refine ⟨?_, ?_, ?_⟩ <;> first | rfl | decide | omega) | (exact ltN (Nat.le_of_ble_eq_true rfl)) | (exact leN (Nat.le_of_ble_eq_true rfl)))); (conv => whnf))
      refine sD ?_
      conv => whnf
      repeat (refine Need.mk ?_ ?_; (focus (first | trivial | rfl | assumption | (exact Nat.le_trans (by assumption) le10) | (exact Nat.lt_of_le_of_lt (by assumption) lt10) | (show (0 : Int) < _; first | decide | omega) | (show (0 : Int) ≤ _; first | decide | omega) | (exact .inl ⟨by omega, by omega⟩) | (exact .inr ⟨by decide, by decide⟩) | (refine ⟨?_, ?_⟩ <;> first | rfl | decide | omega) | (refine ⟨?_, ?_, ?_⟩ <;> first | rfl | decide | omega) | (exact ltN (Nat.le_of_ble_eq_true rfl)) | (exact leN (Nat.le_of_ble_eq_true rfl)))); (conv => whnf))
      refine ⟨_, _, 5, rfl, rfl, ?_⟩
      conv => whnf
      repeat (refine Need.mk ?_ ?_; (focus (first | trivial | rfl | assumption | (exact Nat.le_trans (by assumption) le10) | (exact Nat.lt_of_le_of_lt (by assumption) lt10) | (show (0 : Int) < _; first | decide | omega) | (show (0 : Int) ≤ _; first | decide | omega) | (exact .inl ⟨by omega, by omega⟩) | (exact .inr ⟨by decide, by decide⟩) | (refine ⟨?_, ?_⟩ <;> first | rfl | decide | omega) | (refine ⟨?_, ?_, ?_⟩ <;> first | rfl | decide | omega) | (exact ltN (Nat.le_of_ble_eq_true rfl)) | (exact leN (Nat.le_of_ble_eq_true rfl)))); (conv => whnf))
      refine ⟨"ahead", p, c, o, d, rfl, Oc.run h fun h => ?_⟩
      conv => whnf
      repeat (refine Need.mk ?_ ?_; (focus (first | trivial | rfl | assumption | (exact Nat.le_trans (by assumption) le10) | (exact Nat.lt_of_le_of_lt (by assumption) lt10) | (show (0 : Int) < _; first | decide | omega) | (show (0 : Int) ≤ _; first | decide | omega) | (exact .inl ⟨by omega, by omega⟩) | (exact .inr ⟨by decide, by decide⟩) | (refine ⟨?_, ?_⟩ <;> first | rfl | decide | omega) | (refine ⟨?_, ?_, ?_⟩ <;> first | rfl | decide | omega) | (exact ltN (Nat.le_of_ble_eq_true rfl)) | (exact leN (Nat.le_of_ble_eq_true rfl)))); (conv => whnf))
      exact Rp (d := .non) h
    | same p c o d =>
      conv => whnf
      repeat (refine Need.mk ?_ ?_; (focus (first | trivial | rfl | assumption | (exact Nat.le_trans (by assumption) le10) | (exact Nat.lt_of_le_of_lt (by assumption) lt10) | (show (0 : Int) < _; first | decide | omega) | (show (0 : Int) ≤ _; first | decide | omega) | (exact .inl ⟨by omega, by omega⟩) | (exact .inr ⟨by decide, by decide⟩) | (refine ⟨?_, ?_⟩ <;> first | rfl | decide | omega) | (refine ⟨?_, ?_, ?_⟩ <;> first | rfl | decide | omega) | (exact ltN (Nat.le_of_ble_eq_true rfl)) | (exact leN (Nat.le_of_ble_eq_true rfl)))); (conv => whnf))
      refine sD ?_
      conv => whnf
      repeat (refine Need.mk ?_ ?_; (focus (first | trivial | rfl | assumption | (exact Nat.le_trans (by assumption) le10) | (exact Nat.lt_of_le_of_lt (by assumption) lt10) | (show (0 : Int) < _; first | decide | omega) | (show (0 : Int) ≤ _; first | decide | omega) | (exact .inl ⟨by omega, by omega⟩) | (exact .inr ⟨by decide, by decide⟩) | (refine ⟨?_, ?_⟩ <;> first | rfl | decide | omega) | (refine ⟨?_, ?_, ?_⟩ <;> first | rfl | decide | omega) | (exact ltN (Nat.le_of_ble_eq_true rfl)) | (exact leN (Nat.le_of_ble_eq_true rfl)))); (conv => whnf))
      refine ⟨_, _, 6, rfl, rfl, ?_⟩
      conv => whnf
      repeat (refine Need.mk ?_ ?_; (focus (first | trivial | rfl | assumption | (exact Nat.le_trans (by assumption) le10) | (exact Nat.lt_of_le_of_lt (by assumption) lt10) | (show (0 : Int) < _; first | decide | omega) | (show (0 : Int) ≤ _; first | decide | omega) | (exact .inl ⟨by omega, by omega⟩) | (exact .inr ⟨by decide, by decide⟩) | (refine ⟨?_, ?_⟩ <;> first | rfl | decide | omega) | (refine ⟨?_, ?_, ?_⟩ <;> first | rfl | decide | omega) | (exact ltN (Nat.le_of_ble_eq_true rfl)) | (exact leN (Nat.le_of_ble_eq_true rfl)))); (conv => whnf))
      refine ⟨"same", p, c, o, d, rfl, Oc.run h fun h => ?_⟩
      conv => whnf
      repeat (refine Need.mk ?_ ?_; (focus (first | trivial | rfl | assumption | (exact Nat.le_trans (by assumption) le10) | (exact Nat.lt_of_le_of_lt (by assumption) lt10) | (show (0 : Int) < _; first | decide | omega) | (show (0 : Int) ≤ _; first | decide | omega) | (exact .inl ⟨by omega, by omega⟩) | (exact .inr ⟨by decide, by decide⟩) | (refine ⟨?_, ?_⟩ <;> first | rfl | decide | omega) | (refine ⟨?_, ?_, ?_⟩ <;> first | rfl | decide | omega) | (exact ltN (Nat.le_of_ble_eq_true rfl)) | (exact leN (Nat.le_of_ble_eq_true rfl)))); (conv => whnf))
      exact Rp (d := .non) h
    | apart p c o d =>
      conv => whnf
      repeat (refine Need.mk ?_ ?_; (focus (first | trivial | rfl | assumption | (exact Nat.le_trans (by assumption) le10) | (exact Nat.lt_of_le_of_lt (by assumption) lt10) | (show (0 : Int) < _; first | decide | omega) | (show (0 : Int) ≤ _; first | decide | omega) | (exact .inl ⟨by omega, by omega⟩) | (exact .inr ⟨by decide, by decide⟩) | (refine ⟨?_, ?_⟩ <;> first | rfl | decide | omega) | (refine ⟨?_, ?_, ?_⟩ <;> first | rfl | decide | omega) | (exact ltN (Nat.le_of_ble_eq_true rfl)) | (exact leN (Nat.le_of_ble_eq_true rfl)))); (conv => whnf))
      refine sD ?_
      conv => whnf
      repeat (refine Need.mk ?_ ?_; (focus (first | trivial | rfl | assumption | (exact Nat.le_trans (by assumption) le10) | (exact Nat.lt_of_le_of_lt (by assumption) lt10) | (show (0 : Int) < _; first | decide | omega) | (show (0 : Int) ≤ _; first | decide | omega) | (exact .inl ⟨by omega, by omega⟩) | (exact .inr ⟨by decide, by decide⟩) | (refine ⟨?_, ?_⟩ <;> first | rfl | decide | omega) | (refine ⟨?_, ?_, ?_⟩ <;> first | rfl | decide | omega) | (exact ltN (Nat.le_of_ble_eq_true rfl)) | (exact leN (Nat.le_of_ble_eq_true rfl)))); (conv => whnf))
      refine ⟨_, _, 6, rfl, rfl, ?_⟩
      conv => whnf
      repeat (refine Need.mk ?_ ?_; (focus (first | trivial | rfl | assumption | (exact Nat.le_trans (by assumption) le10) | (exact Nat.lt_of_le_of_lt (by assumption) lt10) | (show (0 : Int) < _; first | decide | omega) | (show (0 : Int) ≤ _; first | decide | omega) | (exact .inl ⟨by omega, by omega⟩) | (exact .inr ⟨by decide, by decide⟩) | (refine ⟨?_, ?_⟩ <;> first | rfl | decide | omega) | (refine ⟨?_, ?_, ?_⟩ <;> first | rfl | decide | omega) | (exact ltN (Nat.le_of_ble_eq_true rfl)) | (exact leN (Nat.le_of_ble_eq_true rfl)))); (conv => whnf))
      refine ⟨"apart", p, c, o, d, rfl, Oc.run h fun h => ?_⟩
      conv => whnf
      repeat (refine Need.mk ?_ ?_; (focus (first | trivial | rfl | assumption | (exact Nat.le_trans (by assumption) le10) | (exact Nat.lt_of_le_of_lt (by assumption) lt10) | (show (0 : Int) < _; first | decide | omega) | (show (0 : Int) ≤ _; first | decide | omega) | (exact .inl ⟨by omega, by omega⟩) | (exact .inr ⟨by decide, by decide⟩) | (refine ⟨?_, ?_⟩ <;> first | rfl | decide | omega) | (refine ⟨?_, ?_, ?_⟩ <;> first | rfl | decide | omega) | (exact ltN (Nat.le_of_ble_eq_true rfl)) | (exact leN (Nat.le_of_ble_eq_true rfl)))); (conv => whnf))
      exact Rp (d := .non) h
  · conv => whnf
    repeat (refine Need.mk ?_ ?_; (focus (first | trivial | rfl | assumption | (exact Nat.le_trans (by assumption) le10) | (exact Nat.lt_of_le_of_lt (by assumption) lt10) | (show (0 : Int) < _; first | decide | omega) | (show (0 : Int) ≤ _; first | decide | omega) | (exact .inl ⟨by omega, by omega⟩) | (exact .inr ⟨by decide, by decide⟩) | (refine ⟨?_, ?_⟩ <;> first | rfl | decide | omega) | (refine ⟨?_, ?_, ?_⟩ <;> first | rfl | decide | omega) | (exact ltN (Nat.le_of_ble_eq_true rfl)) | (exact leN (Nat.le_of_ble_eq_true rfl)))); (conv => whnf))
    exact Xp (fs := (Oc.fact "").flds) h ⟨trivial, trivial, trivial⟩
  · conv => whnf
    repeat (refine Need.mk ?_ ?_; (focus (first | trivial | rfl | assumption | (exact Nat.le_trans (by assumption) le10) | (exact Nat.lt_of_le_of_lt (by assumption) lt10) | (show (0 : Int) < _; first | decide | omega) | (show (0 : Int) ≤ _; first | decide | omega) | (exact .inl ⟨by omega, by omega⟩) | (exact .inr ⟨by decide, by decide⟩) | (refine ⟨?_, ?_⟩ <;> first | rfl | decide | omega) | (refine ⟨?_, ?_, ?_⟩ <;> first | rfl | decide | omega) | (exact ltN (Nat.le_of_ble_eq_true rfl)) | (exact leN (Nat.le_of_ble_eq_true rfl)))); (conv => whnf))
    refine sD ?_
    conv => whnf
    repeat (refine Need.mk ?_ ?_; (focus (first | trivial | rfl | assumption | (exact Nat.le_trans (by assumption) le10) | (exact Nat.lt_of_le_of_lt (by assumption) lt10) | (show (0 : Int) < _; first | decide | omega) | (show (0 : Int) ≤ _; first | decide | omega) | (exact .inl ⟨by omega, by omega⟩) | (exact .inr ⟨by decide, by decide⟩) | (refine ⟨?_, ?_⟩ <;> first | rfl | decide | omega) | (refine ⟨?_, ?_, ?_⟩ <;> first | rfl | decide | omega) | (exact ltN (Nat.le_of_ble_eq_true rfl)) | (exact leN (Nat.le_of_ble_eq_true rfl)))); (conv => whnf))
    refine optI (show L2.atI (D.str x :: r) 0 = some (.str x) from atI_get (by decide) rfl) ?_
    conv => whnf
    repeat (refine Need.mk ?_ ?_; (focus (first | trivial | rfl | assumption | (exact Nat.le_trans (by assumption) le10) | (exact Nat.lt_of_le_of_lt (by assumption) lt10) | (show (0 : Int) < _; first | decide | omega) | (show (0 : Int) ≤ _; first | decide | omega) | (exact .inl ⟨by omega, by omega⟩) | (exact .inr ⟨by decide, by decide⟩) | (refine ⟨?_, ?_⟩ <;> first | rfl | decide | omega) | (refine ⟨?_, ?_, ?_⟩ <;> first | rfl | decide | omega) | (exact ltN (Nat.le_of_ble_eq_true rfl)) | (exact leN (Nat.le_of_ble_eq_true rfl)))); (conv => whnf))
    rcases lookup8 x (D.adr a.a_scrape_of) (D.adr a.a_cover_of) (D.adr a.a_moved_of) (D.adr a.a_dated_of) (D.adr a.a_sold_of) (D.adr a.a_ahead_of) (D.adr a.a_paired_of) (D.adr a.a_paired_of) with ⟨g1, g2⟩ | ⟨n, v, g1, g2⟩
    · rw [g2]
      conv => whnf
      repeat (refine Need.mk ?_ ?_; (focus (first | trivial | rfl | assumption | (exact Nat.le_trans (by assumption) le10) | (exact Nat.lt_of_le_of_lt (by assumption) lt10) | (show (0 : Int) < _; first | decide | omega) | (show (0 : Int) ≤ _; first | decide | omega) | (exact .inl ⟨by omega, by omega⟩) | (exact .inr ⟨by decide, by decide⟩) | (refine ⟨?_, ?_⟩ <;> first | rfl | decide | omega) | (refine ⟨?_, ?_, ?_⟩ <;> first | rfl | decide | omega) | (exact ltN (Nat.le_of_ble_eq_true rfl)) | (exact leN (Nat.le_of_ble_eq_true rfl)))); (conv => whnf))
      refine optI (show L2.atI (D.str x :: r) 0 = some (.str x) from atI_get (by decide) rfl) ?_
      conv => whnf
      repeat (refine Need.mk ?_ ?_; (focus (first | trivial | rfl | assumption | (exact Nat.le_trans (by assumption) le10) | (exact Nat.lt_of_le_of_lt (by assumption) lt10) | (show (0 : Int) < _; first | decide | omega) | (show (0 : Int) ≤ _; first | decide | omega) | (exact .inl ⟨by omega, by omega⟩) | (exact .inr ⟨by decide, by decide⟩) | (refine ⟨?_, ?_⟩ <;> first | rfl | decide | omega) | (refine ⟨?_, ?_, ?_⟩ <;> first | rfl | decide | omega) | (exact ltN (Nat.le_of_ble_eq_true rfl)) | (exact leN (Nat.le_of_ble_eq_true rfl)))); (conv => whnf))
      exact Xp (fs := (Oc.fact x).flds) h ⟨trivial, trivial, trivial⟩
    · rw [g2]
      conv => whnf
      repeat (refine Need.mk ?_ ?_; (focus (first | trivial | rfl | assumption | (exact Nat.le_trans (by assumption) le10) | (exact Nat.lt_of_le_of_lt (by assumption) lt10) | (show (0 : Int) < _; first | decide | omega) | (show (0 : Int) ≤ _; first | decide | omega) | (exact .inl ⟨by omega, by omega⟩) | (exact .inr ⟨by decide, by decide⟩) | (refine ⟨?_, ?_⟩ <;> first | rfl | decide | omega) | (refine ⟨?_, ?_, ?_⟩ <;> first | rfl | decide | omega) | (exact ltN (Nat.le_of_ble_eq_true rfl)) | (exact leN (Nat.le_of_ble_eq_true rfl)))); (conv => whnf))
      refine optI (show L2.atI (D.str x :: r) 0 = some (.str x) from atI_get (by decide) rfl) ?_
      conv => whnf
      repeat (refine Need.mk ?_ ?_; (focus (first | trivial | rfl | assumption | (exact Nat.le_trans (by assumption) le10) | (exact Nat.lt_of_le_of_lt (by assumption) lt10) | (show (0 : Int) < _; first | decide | omega) | (show (0 : Int) ≤ _; first | decide | omega) | (exact .inl ⟨by omega, by omega⟩) | (exact .inr ⟨by decide, by decide⟩) | (refine ⟨?_, ?_⟩ <;> first | rfl | decide | omega) | (refine ⟨?_, ?_, ?_⟩ <;> first | rfl | decide | omega) | (exact ltN (Nat.le_of_ble_eq_true rfl)) | (exact leN (Nat.le_of_ble_eq_true rfl)))); (conv => whnf))
      refine optI (lookupT g1) ?_
      conv => whnf
      repeat (refine Need.mk ?_ ?_; (focus (first | trivial | rfl | assumption | (exact Nat.le_trans (by assumption) le10) | (exact Nat.lt_of_le_of_lt (by assumption) lt10) | (show (0 : Int) < _; first | decide | omega) | (show (0 : Int) ≤ _; first | decide | omega) | (exact .inl ⟨by omega, by omega⟩) | (exact .inr ⟨by decide, by decide⟩) | (refine ⟨?_, ?_⟩ <;> first | rfl | decide | omega) | (refine ⟨?_, ?_, ?_⟩ <;> first | rfl | decide | omega) | (exact ltN (Nat.le_of_ble_eq_true rfl)) | (exact leN (Nat.le_of_ble_eq_true rfl)))); (conv => whnf))
      refine lifT (by show (!decide (((D.str x :: r).length : Int) = n)) = true; rw [decide_eq_false (fun z => hne (by rw [g1, ← z]; rfl))]; rfl) ?_
      conv => whnf
      repeat (refine Need.mk ?_ ?_; (focus (first | trivial | rfl | assumption | (exact Nat.le_trans (by assumption) le10) | (exact Nat.lt_of_le_of_lt (by assumption) lt10) | (show (0 : Int) < _; first | decide | omega) | (show (0 : Int) ≤ _; first | decide | omega) | (exact .inl ⟨by omega, by omega⟩) | (exact .inr ⟨by decide, by decide⟩) | (refine ⟨?_, ?_⟩ <;> first | rfl | decide | omega) | (refine ⟨?_, ?_, ?_⟩ <;> first | rfl | decide | omega) | (exact ltN (Nat.le_of_ble_eq_true rfl)) | (exact leN (Nat.le_of_ble_eq_true rfl)))); (conv => whnf))
      refine optI (show L2.atI (D.str x :: r) 0 = some (.str x) from atI_get (by decide) rfl) ?_
      conv => whnf
      repeat (refine Need.mk ?_ ?_; (focus (first | trivial | rfl | assumption | (exact Nat.le_trans (by assumption) le10) | (exact Nat.lt_of_le_of_lt (by assumption) lt10) | (show (0 : Int) < _; first | decide | omega) | (show (0 : Int) ≤ _; first | decide | omega) | (exact .inl ⟨by omega, by omega⟩) | (exact .inr ⟨by decide, by decide⟩) | (refine ⟨?_, ?_⟩ <;> first | rfl | decide | omega) | (refine ⟨?_, ?_, ?_⟩ <;> first | rfl | decide | omega) | (exact ltN (Nat.le_of_ble_eq_true rfl)) | (exact leN (Nat.le_of_ble_eq_true rfl)))); (conv => whnf))
      exact Xp (fs := (Oc.fact x).flds) h ⟨trivial, trivial, trivial⟩
def sp__law_open (_ : Ad) : SpD := fun ds S Q _ => ∃ (ns : List Int), ds = [.scr ns] ∧ ns.length ≤ 63 ∧ S = [] ∧ Q (.ref 0) [.drw]
theorem ok__law_open (T : Txt K w mg a)  : Fx P w K mg base 1 a.a__law_open a.d__law_open "_law_open" ["_law_script"] (sp__law_open a) := by
  refine ⟨fn_S T.F__law_open sc__law_open (by (intro ds S Q E h; first | (obtain ⟨h, _⟩ := h; subst h; rfl) | (obtain ⟨_, h, _⟩ := h; subst h; rfl) | (obtain ⟨_, _, h, _⟩ := h; subst h; rfl) | (obtain ⟨_, _, _, h, _⟩ := h; subst h; rfl) | (obtain ⟨_, _, _, _, h, _⟩ := h; subst h; rfl) | (obtain ⟨_, _, _, _, _, h, _⟩ := h; subst h; rfl))) fun cdv A outer s H E φ T0 W' room wl => ⟨_, (lss_cons (ls_ret (le_lstM (la_cons (le_callTy cc_list rfl T.n_list (by rfl) (la_cons (le_slice (lv 0) lp_none (lp_some le_int)) la_nil)) (la_cons le_int (la_cons le_int (la_cons le_int la_nil))))))
    lss_nil), fun ds S R X n h hW => ?_⟩, T.m__law_open, T.F__law_open.kp, T.b__law_open⟩
  obtain ⟨Q, E, h, hlt, rfl, rfl, rfl⟩ := h
  subst hW
  obtain ⟨ns, rfl, hn, rfl, q⟩ := h
  conv => whnf
  rw [show (63 : Int) = ((63 : Nat) : Int) from rfl, cutD_to (by simpa using hn)]
  exact ⟨1, .ref 0, [.drw], Nat.zero_le _, by simp, ⟨_, _, rfl, ⟨_, RsL.same ⟨D.lts_ints ns, trivial, trivial, trivial, trivial⟩, ns, 0, 0, 31, rfl, by decide, by decide, by decide, by decide⟩, rfl⟩, Rs.same (show 0 < 1 by decide), q⟩
abbrev sp__law_pull (_ : Ad) : SpP := spPull
theorem ok__law_pull (T : Txt K w mg a)  : Fx P w K mg base 1 a.a__law_pull a.d__law_pull "_law_pull" ["_law_draw", "_law_many"] (ld (sp__law_pull a)) := by
  refine ⟨fn_L T.F__law_pull sc__law_pull (by (intro ds Q E h; first | (obtain ⟨h, hr⟩ := h; subst h; (try (obtain ⟨_, hr⟩ := hr)); (try (obtain ⟨_, hr⟩ := hr)); (try (obtain ⟨_, hr⟩ := hr)); (try (obtain ⟨_, hr⟩ := hr)); (all_goals exact ⟨rfl, by (repeat' (first | trivial | exact D.lts_ints _ | exact D.lts_strs _ | exact Fc.lt | exact fcs_lt _ | exact nfs_lt _ | exact nf_lt | exact D.pl.lt (by assumption) | exact D.dp.lt (by assumption) | exact D.dps.lt (by assumption) | exact D.pls.lt (by assumption) | assumption | refine ⟨?_, ?_⟩))⟩)) | (obtain ⟨_, h, hr⟩ := h; subst h; (try (obtain ⟨_, hr⟩ := hr)); (try (obtain ⟨_, hr⟩ := hr)); (try (obtain ⟨_, hr⟩ := hr)); (try (obtain ⟨_, hr⟩ := hr)); (all_goals exact ⟨rfl, by (repeat' (first | trivial | exact D.lts_ints _ | exact D.lts_strs _ | exact Fc.lt | exact fcs_lt _ | exact nfs_lt _ | exact nf_lt | exact D.pl.lt (by assumption) | exact D.dp.lt (by assumption) | exact D.dps.lt (by assumption) | exact D.pls.lt (by assumption) | assumption | refine ⟨?_, ?_⟩))⟩)) | (obtain ⟨_, _, h, hr⟩ := h; subst h; (try (obtain ⟨_, hr⟩ := hr)); (try (obtain ⟨_, hr⟩ := hr)); (try (obtain ⟨_, hr⟩ := hr)); (try (obtain ⟨_, hr⟩ := hr)); (all_goals exact ⟨rfl, by (repeat' (first | trivial | exact D.lts_ints _ | exact D.lts_strs _ | exact Fc.lt | exact fcs_lt _ | exact nfs_lt _ | exact nf_lt | exact D.pl.lt (by assumption) | exact D.dp.lt (by assumption) | exact D.dps.lt (by assumption) | exact D.pls.lt (by assumption) | assumption | refine ⟨?_, ?_⟩))⟩)) | (obtain ⟨_, _, _, h, hr⟩ := h; subst h; (try (obtain ⟨_, hr⟩ := hr)); (try (obtain ⟨_, hr⟩ := hr)); (try (obtain ⟨_, hr⟩ := hr)); (try (obtain ⟨_, hr⟩ := hr)); (all_goals exact ⟨rfl, by (repeat' (first | trivial | exact D.lts_ints _ | exact D.lts_strs _ | exact Fc.lt | exact fcs_lt _ | exact nfs_lt _ | exact nf_lt | exact D.pl.lt (by assumption) | exact D.dp.lt (by assumption) | exact D.dps.lt (by assumption) | exact D.pls.lt (by assumption) | assumption | refine ⟨?_, ?_⟩))⟩)) | (obtain ⟨_, _, _, _, h, hr⟩ := h; subst h; (try (obtain ⟨_, hr⟩ := hr)); (try (obtain ⟨_, hr⟩ := hr)); (try (obtain ⟨_, hr⟩ := hr)); (try (obtain ⟨_, hr⟩ := hr)); (all_goals exact ⟨rfl, by (repeat' (first | trivial | exact D.lts_ints _ | exact D.lts_strs _ | exact Fc.lt | exact fcs_lt _ | exact nfs_lt _ | exact nf_lt | exact D.pl.lt (by assumption) | exact D.dp.lt (by assumption) | exact D.dps.lt (by assumption) | exact D.pls.lt (by assumption) | assumption | refine ⟨?_, ?_⟩))⟩)) | (obtain ⟨_, _, _, _, _, h, hr⟩ := h; subst h; (try (obtain ⟨_, hr⟩ := hr)); (try (obtain ⟨_, hr⟩ := hr)); (try (obtain ⟨_, hr⟩ := hr)); (try (obtain ⟨_, hr⟩ := hr)); (all_goals exact ⟨rfl, by (repeat' (first | trivial | exact D.lts_ints _ | exact D.lts_strs _ | exact Fc.lt | exact fcs_lt _ | exact nfs_lt _ | exact nf_lt | exact D.pl.lt (by assumption) | exact D.dp.lt (by assumption) | exact D.dps.lt (by assumption) | exact D.pls.lt (by assumption) | assumption | refine ⟨?_, ?_⟩))⟩)) | (obtain ⟨h, _⟩ := h; exact (by simp at h)))) (fun _ _ _ h => h) fun cdv A outer s H E φ T0 W' room wl => ⟨_, (lss_consM (ls_if (LW.t (lw_and (lt_cmp oo_lt (le_ix ox_seq (lv 0) le_int) (lv 1) (by rfl)) (lw_and1 (lt_cmp oo_lt (le_ix ox_seq (lv 0) le_int) (le_callB cc_len rfl T.n_len (by rfl) (la_cons (le_ix ox_seq (lv 0) le_int) la_nil)) (by rfl))))) (lss_cons (ls_set 2 (le_ix ox_seq (le_ix ox_seq (lv 0) le_int) (le_ix ox_seq (lv 0) le_int)) sc__law_pull.nd)
    (lss_cons (ls_asg (le_op oo_add (le_ix ox_seq (lv 0) le_int) le_int) (lg_sub (lv 0) le_int st_list))
    (lss_cons (ls_asg le_int (lg_sub (lv 0) le_int st_list))
    (lss_consW [2] (ls_if (lt_cmp oo_ge (lv 2) (le_op oo_pow le_int le_int) (by rfl)) (lss_consW [2] (ls_asg (lv 2) (lg_sub (lv 0) le_int st_list))
    lss_nil) (lss_consW [2] (ls_asg (le_op oo_mod (le_op oo_add (le_op oo_add (le_op oo_mulX (le_ix ox_seq (lv 0) le_int) le_int) (le_op oo_mulX (le_op oo_mod (lv 2) le_int) le_int)) le_int) le_int) (lg_sub (lv 0) le_int st_list))
    lss_nil))
    lss_nil)))) lss_nil)
    (lss_w [2] (lss_consW [3] (ls_if (lt_cmp oo_ge (le_ix ox_seq (lv 0) le_int) (lv 1) (by rfl)) (lss_cons (ls_set 3 (le_op oo_mod (le_ix ox_seq (lv 0) le_int) (lv 1)) sc__law_pull.nd)
    (lss_consW [0, 1] (ls_asg (le_op oo_fdiv (le_ix ox_seq (lv 0) le_int) (lv 1)) (lg_sub (lv 0) le_int st_list))
    (lss_cons (ls_ret (lv 3))
    lss_nil))) lss_nil)
    (lss_cons (ls_asg (le_op oo_mod (le_op oo_add (le_op oo_add (le_op oo_pow (le_ix ox_seq (lv 0) le_int) le_int) (le_op oo_mulX (le_ix ox_seq (lv 0) le_int) le_int)) le_int) le_int) (lg_sub (lv 0) le_int st_list))
    (lss_cons (ls_ret (le_op oo_mod (le_op oo_add (le_op oo_fdiv (le_ix ox_seq (lv 0) le_int) le_int) (le_op oo_mulX (le_op oo_mod (le_ix ox_seq (lv 0) le_int) le_int) le_int)) (lv 1)))
    lss_nil))))), fun ds S R X n h hW => ?_⟩, T.m__law_pull, T.F__law_pull.kp, T.b__law_pull⟩
  obtain ⟨r, Q, E, l, h, rfl, rfl, hl, rfl, rfl, rfl⟩ := h
  subst hW
  obtain ⟨many, rfl, ⟨h1, h2⟩, q⟩ := h
  obtain ⟨ns, i, z, t, rfl, hi, hz, ht, ht2⟩ := hl
  conv => whnf
  repeat (refine Need.mk ?_ ?_; (focus (first | trivial | rfl | assumption | (exact Nat.le_trans (by assumption) le10) | (exact Nat.lt_of_le_of_lt (by assumption) lt10) | (show (0 : Int) < _; first | decide | omega) | (show (0 : Int) ≤ _; first | decide | omega) | (exact .inl ⟨by omega, by omega⟩) | (exact .inr ⟨by decide, by decide⟩) | (refine ⟨?_, ?_⟩ <;> first | rfl | decide | omega) | (refine ⟨?_, ?_, ?_⟩ <;> first | rfl | decide | omega) | (exact ltN (Nat.le_of_ble_eq_true rfl)) | (exact leN (Nat.le_of_ble_eq_true rfl)))); (conv => whnf))
  refine sM (fun s' S' => ∃ l', DrawL l' ∧ s' = [some (.ref 0), some (.int many), none, none] ∧ S' = [.lst l']) ?_ ?_
  · conv => whnf
    repeat (refine Need.mk ?_ ?_; (focus (first | trivial | rfl | assumption | (exact Nat.le_trans (by assumption) le10) | (exact Nat.lt_of_le_of_lt (by assumption) lt10) | (show (0 : Int) < _; first | decide | omega) | (show (0 : Int) ≤ _; first | decide | omega) | (exact .inl ⟨by omega, by omega⟩) | (exact .inr ⟨by decide, by decide⟩) | (refine ⟨?_, ?_⟩ <;> first | rfl | decide | omega) | (refine ⟨?_, ?_, ?_⟩ <;> first | rfl | decide | omega) | (exact ltN (Nat.le_of_ble_eq_true rfl)) | (exact leN (Nat.le_of_ble_eq_true rfl)))); (conv => whnf))
    refine brd (fun hc => ?_) (fun hc => ?_)
    · conv => whnf
      repeat (refine Need.mk ?_ ?_; (focus (first | trivial | rfl | assumption | (exact Nat.le_trans (by assumption) le10) | (exact Nat.lt_of_le_of_lt (by assumption) lt10) | (show (0 : Int) < _; first | decide | omega) | (show (0 : Int) ≤ _; first | decide | omega) | (exact .inl ⟨by omega, by omega⟩) | (exact .inr ⟨by decide, by decide⟩) | (refine ⟨?_, ?_⟩ <;> first | rfl | decide | omega) | (refine ⟨?_, ?_, ?_⟩ <;> first | rfl | decide | omega) | (exact ltN (Nat.le_of_ble_eq_true rfl)) | (exact leN (Nat.le_of_ble_eq_true rfl)))); (conv => whnf))
      refine brd (fun hc => ?_) (fun hc => ?_)
      · have hc : i < ((ns.map D.int).length : Int) := hc
        rw [List.length_map] at hc
        obtain ⟨c, hc1, ha⟩ := atI_ints hi hc
        conv => whnf
        repeat (refine Need.mk ?_ ?_; (focus (first | trivial | rfl | assumption | (exact Nat.le_trans (by assumption) le10) | (exact Nat.lt_of_le_of_lt (by assumption) lt10) | (show (0 : Int) < _; first | decide | omega) | (show (0 : Int) ≤ _; first | decide | omega) | (exact .inl ⟨by omega, by omega⟩) | (exact .inr ⟨by decide, by decide⟩) | (refine ⟨?_, ?_⟩ <;> first | rfl | decide | omega) | (refine ⟨?_, ?_, ?_⟩ <;> first | rfl | decide | omega) | (exact ltN (Nat.le_of_ble_eq_true rfl)) | (exact leN (Nat.le_of_ble_eq_true rfl)))); (conv => whnf))
        refine optI ha ?_
        conv => whnf
        repeat (refine Need.mk ?_ ?_; (focus (first | trivial | rfl | assumption | (exact Nat.le_trans (by assumption) le10) | (exact Nat.lt_of_le_of_lt (by assumption) lt10) | (show (0 : Int) < _; first | decide | omega) | (show (0 : Int) ≤ _; first | decide | omega) | (exact .inl ⟨by omega, by omega⟩) | (exact .inr ⟨by decide, by decide⟩) | (refine ⟨?_, ?_⟩ <;> first | rfl | decide | omega) | (refine ⟨?_, ?_, ?_⟩ <;> first | rfl | decide | omega) | (exact ltN (Nat.le_of_ble_eq_true rfl)) | (exact leN (Nat.le_of_ble_eq_true rfl)))); (conv => whnf))
        refine brd (fun hc => ?_) (fun hc => ?_)
        · conv => whnf
          repeat (refine Need.mk ?_ ?_; (focus (first | trivial | rfl | assumption | (exact Nat.le_trans (by assumption) le10) | (exact Nat.lt_of_le_of_lt (by assumption) lt10) | (show (0 : Int) < _; first | decide | omega) | (show (0 : Int) ≤ _; first | decide | omega) | (exact .inl ⟨by omega, by omega⟩) | (exact .inr ⟨by decide, by decide⟩) | (refine ⟨?_, ?_⟩ <;> first | rfl | decide | omega) | (refine ⟨?_, ?_, ?_⟩ <;> first | rfl | decide | omega) | (exact ltN (Nat.le_of_ble_eq_true rfl)) | (exact leN (Nat.le_of_ble_eq_true rfl)))); (conv => whnf))
          exact ⟨_, ⟨ns, _, _, _, rfl, by omega, Int.le_trans (by decide) hc, ht, ht2⟩, rfl, rfl⟩
        · conv => whnf
          repeat (refine Need.mk ?_ ?_; (focus (first | trivial | rfl | assumption | (exact Nat.le_trans (by assumption) le10) | (exact Nat.lt_of_le_of_lt (by assumption) lt10) | (show (0 : Int) < _; first | decide | omega) | (show (0 : Int) ≤ _; first | decide | omega) | (exact .inl ⟨by omega, by omega⟩) | (exact .inr ⟨by decide, by decide⟩) | (refine ⟨?_, ?_⟩ <;> first | rfl | decide | omega) | (refine ⟨?_, ?_, ?_⟩ <;> first | rfl | decide | omega) | (exact ltN (Nat.le_of_ble_eq_true rfl)) | (exact leN (Nat.le_of_ble_eq_true rfl)))); (conv => whnf))
          exact ⟨_, ⟨ns, _, _, _, rfl, by omega, by omega, Int.emod_nonneg _ (by decide), Int.emod_lt_of_pos _ (by decide)⟩, rfl, rfl⟩
      · conv => whnf
        repeat (refine Need.mk ?_ ?_; (focus (first | trivial | rfl | assumption | (exact Nat.le_trans (by assumption) le10) | (exact Nat.lt_of_le_of_lt (by assumption) lt10) | (show (0 : Int) < _; first | decide | omega) | (show (0 : Int) ≤ _; first | decide | omega) | (exact .inl ⟨by omega, by omega⟩) | (exact .inr ⟨by decide, by decide⟩) | (refine ⟨?_, ?_⟩ <;> first | rfl | decide | omega) | (refine ⟨?_, ?_, ?_⟩ <;> first | rfl | decide | omega) | (exact ltN (Nat.le_of_ble_eq_true rfl)) | (exact leN (Nat.le_of_ble_eq_true rfl)))); (conv => whnf))
        exact ⟨_, ⟨ns, _, _, _, rfl, hi, hz, ht, ht2⟩, rfl, rfl⟩
    · conv => whnf
      repeat (refine Need.mk ?_ ?_; (focus (first | trivial | rfl | assumption | (exact Nat.le_trans (by assumption) le10) | (exact Nat.lt_of_le_of_lt (by assumption) lt10) | (show (0 : Int) < _; first | decide | omega) | (show (0 : Int) ≤ _; first | decide | omega) | (exact .inl ⟨by omega, by omega⟩) | (exact .inr ⟨by decide, by decide⟩) | (refine ⟨?_, ?_⟩ <;> first | rfl | decide | omega) | (refine ⟨?_, ?_, ?_⟩ <;> first | rfl | decide | omega) | (exact ltN (Nat.le_of_ble_eq_true rfl)) | (exact leN (Nat.le_of_ble_eq_true rfl)))); (conv => whnf))
      exact ⟨_, ⟨ns, _, _, _, rfl, hi, hz, ht, ht2⟩, rfl, rfl⟩
  · rintro s' S' ⟨l', ⟨ns, i, z, t, rfl, hi, hz, ht, ht2⟩, rfl, rfl⟩
    conv => whnf
    repeat (refine Need.mk ?_ ?_; (focus (first | trivial | rfl | assumption | (exact Nat.le_trans (by assumption) le10) | (exact Nat.lt_of_le_of_lt (by assumption) lt10) | (show (0 : Int) < _; first | decide | omega) | (show (0 : Int) ≤ _; first | decide | omega) | (exact .inl ⟨by omega, by omega⟩) | (exact .inr ⟨by decide, by decide⟩) | (refine ⟨?_, ?_⟩ <;> first | rfl | decide | omega) | (refine ⟨?_, ?_, ?_⟩ <;> first | rfl | decide | omega) | (exact ltN (Nat.le_of_ble_eq_true rfl)) | (exact leN (Nat.le_of_ble_eq_true rfl)))); (conv => whnf))
    refine brd (fun hc => ?_) (fun hc => ?_)
    · conv => whnf
      repeat (refine Need.mk ?_ ?_; (focus (first | trivial | rfl | assumption | (exact Nat.le_trans (by assumption) le10) | (exact Nat.lt_of_le_of_lt (by assumption) lt10) | (show (0 : Int) < _; first | decide | omega) | (show (0 : Int) ≤ _; first | decide | omega) | (exact .inl ⟨by omega, by omega⟩) | (exact .inr ⟨by decide, by decide⟩) | (refine ⟨?_, ?_⟩ <;> first | rfl | decide | omega) | (refine ⟨?_, ?_, ?_⟩ <;> first | rfl | decide | omega) | (exact ltN (Nat.le_of_ble_eq_true rfl)) | (exact leN (Nat.le_of_ble_eq_true rfl)))); (conv => whnf))
      exact ⟨⟨ns, _, _, _, rfl, hi, Int.ediv_nonneg hz (by omega), ht, ht2⟩, trivial, q _ (Int.emod_nonneg _ (by omega)) (Int.emod_lt_of_pos _ (by omega))⟩
    · conv => whnf
      repeat (refine Need.mk ?_ ?_; (focus (first | trivial | rfl | assumption | (exact Nat.le_trans (by assumption) le10) | (exact Nat.lt_of_le_of_lt (by assumption) lt10) | (show (0 : Int) < _; first | decide | omega) | (show (0 : Int) ≤ _; first | decide | omega) | (exact .inl ⟨by omega, by omega⟩) | (exact .inr ⟨by decide, by decide⟩) | (refine ⟨?_, ?_⟩ <;> first | rfl | decide | omega) | (refine ⟨?_, ?_, ?_⟩ <;> first | rfl | decide | omega) | (exact ltN (Nat.le_of_ble_eq_true rfl)) | (exact leN (Nat.le_of_ble_eq_true rfl)))); (conv => whnf))
      exact ⟨⟨ns, _, _, _, rfl, hi, hz, Int.emod_nonneg _ (by decide), Int.emod_lt_of_pos _ (by decide)⟩, trivial, q _ (Int.emod_nonneg _ (by omega)) (Int.emod_lt_of_pos _ (by omega))⟩
def sp__law_num (_ : Ad) : SpP := fun ds Q _ => ∃ i : Int, ds = [.int i] ∧ Q (.bl true)
theorem ok__law_num (T : Txt K w mg a)  : Fx P w K mg base 1 a.a__law_num a.d__law_num "_law_num" ["_law_found"] (lp (sp__law_num a)) := by
  refine ⟨fn_P T.F__law_num sc__law_num (by (intro ds Q E h; first | (obtain ⟨h, hr⟩ := h; subst h; (try (obtain ⟨_, hr⟩ := hr)); (try (obtain ⟨_, hr⟩ := hr)); (try (obtain ⟨_, hr⟩ := hr)); (try (obtain ⟨_, hr⟩ := hr)); (all_goals exact ⟨rfl, by (repeat' (first | trivial | exact D.lts_ints _ | exact D.lts_strs _ | exact Fc.lt | exact fcs_lt _ | exact nfs_lt _ | exact nf_lt | exact D.pl.lt (by assumption) | exact D.dp.lt (by assumption) | exact D.dps.lt (by assumption) | exact D.pls.lt (by assumption) | assumption | refine ⟨?_, ?_⟩))⟩)) | (obtain ⟨_, h, hr⟩ := h; subst h; (try (obtain ⟨_, hr⟩ := hr)); (try (obtain ⟨_, hr⟩ := hr)); (try (obtain ⟨_, hr⟩ := hr)); (try (obtain ⟨_, hr⟩ := hr)); (all_goals exact ⟨rfl, by (repeat' (first | trivial | exact D.lts_ints _ | exact D.lts_strs _ | exact Fc.lt | exact fcs_lt _ | exact nfs_lt _ | exact nf_lt | exact D.pl.lt (by assumption) | exact D.dp.lt (by assumption) | exact D.dps.lt (by assumption) | exact D.pls.lt (by assumption) | assumption | refine ⟨?_, ?_⟩))⟩)) | (obtain ⟨_, _, h, hr⟩ := h; subst h; (try (obtain ⟨_, hr⟩ := hr)); (try (obtain ⟨_, hr⟩ := hr)); (try (obtain ⟨_, hr⟩ := hr)); (try (obtain ⟨_, hr⟩ := hr)); (all_goals exact ⟨rfl, by (repeat' (first | trivial | exact D.lts_ints _ | exact D.lts_strs _ | exact Fc.lt | exact fcs_lt _ | exact nfs_lt _ | exact nf_lt | exact D.pl.lt (by assumption) | exact D.dp.lt (by assumption) | exact D.dps.lt (by assumption) | exact D.pls.lt (by assumption) | assumption | refine ⟨?_, ?_⟩))⟩)) | (obtain ⟨_, _, _, h, hr⟩ := h; subst h; (try (obtain ⟨_, hr⟩ := hr)); (try (obtain ⟨_, hr⟩ := hr)); (try (obtain ⟨_, hr⟩ := hr)); (try (obtain ⟨_, hr⟩ := hr)); (all_goals exact ⟨rfl, by (repeat' (first | trivial | exact D.lts_ints _ | exact D.lts_strs _ | exact Fc.lt | exact fcs_lt _ | exact nfs_lt _ | exact nf_lt | exact D.pl.lt (by assumption) | exact D.dp.lt (by assumption) | exact D.dps.lt (by assumption) | exact D.pls.lt (by assumption) | assumption | refine ⟨?_, ?_⟩))⟩)) | (obtain ⟨_, _, _, _, h, hr⟩ := h; subst h; (try (obtain ⟨_, hr⟩ := hr)); (try (obtain ⟨_, hr⟩ := hr)); (try (obtain ⟨_, hr⟩ := hr)); (try (obtain ⟨_, hr⟩ := hr)); (all_goals exact ⟨rfl, by (repeat' (first | trivial | exact D.lts_ints _ | exact D.lts_strs _ | exact Fc.lt | exact fcs_lt _ | exact nfs_lt _ | exact nf_lt | exact D.pl.lt (by assumption) | exact D.dp.lt (by assumption) | exact D.dps.lt (by assumption) | exact D.pls.lt (by assumption) | assumption | refine ⟨?_, ?_⟩))⟩)) | (obtain ⟨_, _, _, _, _, h, hr⟩ := h; subst h; (try (obtain ⟨_, hr⟩ := hr)); (try (obtain ⟨_, hr⟩ := hr)); (try (obtain ⟨_, hr⟩ := hr)); (try (obtain ⟨_, hr⟩ := hr)); (all_goals exact ⟨rfl, by (repeat' (first | trivial | exact D.lts_ints _ | exact D.lts_strs _ | exact Fc.lt | exact fcs_lt _ | exact nfs_lt _ | exact nf_lt | exact D.pl.lt (by assumption) | exact D.dp.lt (by assumption) | exact D.dps.lt (by assumption) | exact D.pls.lt (by assumption) | assumption | refine ⟨?_, ?_⟩))⟩)) | (obtain ⟨h, _⟩ := h; exact (by simp at h)))) fun cdv A outer s H E φ T0 W' room wl => ⟨_, (lss_cons (ls_ret (le_and (le_callB cc_isiB rfl T.n_isinstance (by rfl) (la_cons (lv 0) (la_cons (le_ty rfl T.n_int (by rfl)) la_nil))) (le_one (le_not (le_callB cc_isiB rfl T.n_isinstance (by rfl) (la_cons (lv 0) (la_cons (le_ty rfl T.n_bool (by rfl)) la_nil)))))))
    lss_nil), fun ds S R X n h hW => ?_⟩, T.m__law_num, T.F__law_num.kp, T.b__law_num⟩
  obtain ⟨Q, E, h, rfl, rfl, rfl, rfl⟩ := h
  subst hW
  obtain ⟨i, rfl, q⟩ := h
  conv => whnf
  repeat (refine Need.mk ?_ ?_; (focus (first | trivial | rfl | assumption | (exact Nat.le_trans (by assumption) le10) | (exact Nat.lt_of_le_of_lt (by assumption) lt10) | (show (0 : Int) < _; first | decide | omega) | (show (0 : Int) ≤ _; first | decide | omega) | (exact .inl ⟨by omega, by omega⟩) | (exact .inr ⟨by decide, by decide⟩) | (refine ⟨?_, ?_⟩ <;> first | rfl | decide | omega) | (refine ⟨?_, ?_, ?_⟩ <;> first | rfl | decide | omega) | (exact ltN (Nat.le_of_ble_eq_true rfl)) | (exact leN (Nat.le_of_ble_eq_true rfl)))); (conv => whnf))
  exact Rp q
def sn__law_like : Nat → Ad → SpP
  | 0, _ => fun _ _ _ => False
  | n + 1, _ => fun ds Q _ => ∃ d : D, ds = [d, d] ∧ D.dp d n ∧ Q (.bl true)
abbrev sp__law_like (a : Ad) : SpP := sn__law_like 11 a
theorem like_all {n : Nat} : ((List.replicate n (D.bl true)) : List D) = (List.replicate n true).map D.bl := by rw [List.map_replicate]
theorem st__law_like (T : Txt K w mg a) (G__law_num : Fx P w K mg base 1 a.a__law_num a.d__law_num "_law_num" ["_law_found"] (lp (sp__law_num a))) {n : Nat} (G__law_like : Fx P w K mg base (n + 1) a.a__law_like a.d__law_like "_law_like" ["_law_found", "_law_due"] (lp (sn__law_like n a))) : Fx P w K mg base (n + 2) a.a__law_like a.d__law_like "_law_like" ["_law_found", "_law_due"] (lp (sn__law_like (n + 1) a)) := by
  refine ⟨fn_P T.F__law_like sc__law_like (by (intro ds Q E h; first | (obtain ⟨h, hr⟩ := h; subst h; (try (obtain ⟨_, hr⟩ := hr)); (try (obtain ⟨_, hr⟩ := hr)); (try (obtain ⟨_, hr⟩ := hr)); (try (obtain ⟨_, hr⟩ := hr)); (all_goals exact ⟨rfl, by (repeat' (first | trivial | exact D.lts_ints _ | exact D.lts_strs _ | exact Fc.lt | exact fcs_lt _ | exact nfs_lt _ | exact nf_lt | exact D.pl.lt (by assumption) | exact D.dp.lt (by assumption) | exact D.dps.lt (by assumption) | exact D.pls.lt (by assumption) | assumption | refine ⟨?_, ?_⟩))⟩)) | (obtain ⟨_, h, hr⟩ := h; subst h; (try (obtain ⟨_, hr⟩ := hr)); (try (obtain ⟨_, hr⟩ := hr)); (try (obtain ⟨_, hr⟩ := hr)); (try (obtain ⟨_, hr⟩ := hr)); (all_goals exact ⟨rfl, by (repeat' (first | trivial | exact D.lts_ints _ | exact D.lts_strs _ | exact Fc.lt | exact fcs_lt _ | exact nfs_lt _ | exact nf_lt | exact D.pl.lt (by assumption) | exact D.dp.lt (by assumption) | exact D.dps.lt (by assumption) | exact D.pls.lt (by assumption) | assumption | refine ⟨?_, ?_⟩))⟩)) | (obtain ⟨_, _, h, hr⟩ := h; subst h; (try (obtain ⟨_, hr⟩ := hr)); (try (obtain ⟨_, hr⟩ := hr)); (try (obtain ⟨_, hr⟩ := hr)); (try (obtain ⟨_, hr⟩ := hr)); (all_goals exact ⟨rfl, by (repeat' (first | trivial | exact D.lts_ints _ | exact D.lts_strs _ | exact Fc.lt | exact fcs_lt _ | exact nfs_lt _ | exact nf_lt | exact D.pl.lt (by assumption) | exact D.dp.lt (by assumption) | exact D.dps.lt (by assumption) | exact D.pls.lt (by assumption) | assumption | refine ⟨?_, ?_⟩))⟩)) | (obtain ⟨_, _, _, h, hr⟩ := h; subst h; (try (obtain ⟨_, hr⟩ := hr)); (try (obtain ⟨_, hr⟩ := hr)); (try (obtain ⟨_, hr⟩ := hr)); (try (obtain ⟨_, hr⟩ := hr)); (all_goals exact ⟨rfl, by (repeat' (first | trivial | exact D.lts_ints _ | exact D.lts_strs _ | exact Fc.lt | exact fcs_lt _ | exact nfs_lt _ | exact nf_lt | exact D.pl.lt (by assumption) | exact D.dp.lt (by assumption) | exact D.dps.lt (by assumption) | exact D.pls.lt (by assumption) | assumption | refine ⟨?_, ?_⟩))⟩)) | (obtain ⟨_, _, _, _, h, hr⟩ := h; subst h; (try (obtain ⟨_, hr⟩ := hr)); (try (obtain ⟨_, hr⟩ := hr)); (try (obtain ⟨_, hr⟩ := hr)); (try (obtain ⟨_, hr⟩ := hr)); (all_goals exact ⟨rfl, by (repeat' (first | trivial | exact D.lts_ints _ | exact D.lts_strs _ | exact Fc.lt | exact fcs_lt _ | exact nfs_lt _ | exact nf_lt | exact D.pl.lt (by assumption) | exact D.dp.lt (by assumption) | exact D.dps.lt (by assumption) | exact D.pls.lt (by assumption) | assumption | refine ⟨?_, ?_⟩))⟩)) | (obtain ⟨_, _, _, _, _, h, hr⟩ := h; subst h; (try (obtain ⟨_, hr⟩ := hr)); (try (obtain ⟨_, hr⟩ := hr)); (try (obtain ⟨_, hr⟩ := hr)); (try (obtain ⟨_, hr⟩ := hr)); (all_goals exact ⟨rfl, by (repeat' (first | trivial | exact D.lts_ints _ | exact D.lts_strs _ | exact Fc.lt | exact fcs_lt _ | exact nfs_lt _ | exact nf_lt | exact D.pl.lt (by assumption) | exact D.dp.lt (by assumption) | exact D.dps.lt (by assumption) | exact D.pls.lt (by assumption) | assumption | refine ⟨?_, ?_⟩))⟩)) | (obtain ⟨h, _⟩ := h; exact (by simp at h)))) fun cdv A outer s H E φ T0 W' room wl => ⟨_, (lss_cons (ls_if (lt_cmp oo_is (lv 1) le_non (by rfl)) (lss_cons (ls_ret (le_cmp oo_is (lv 0) le_non (by rfl)))
    lss_nil) lss_nil)
    (lss_cons (ls_if (lt_truth (le_callB cc_isiB rfl T.n_isinstance (by rfl) (la_cons (lv 1) (la_cons (le_ty rfl T.n_bool (by rfl)) la_nil)))) (lss_cons (ls_ret (le_and (le_callB cc_isiB rfl T.n_isinstance (by rfl) (la_cons (lv 0) (la_cons (le_ty rfl T.n_bool (by rfl)) la_nil))) (le_one (le_cmp (oo_eq room.units) (lv 0) (lv 1) (by rfl)))))
    lss_nil) lss_nil)
    (lss_cons (ls_if (lt_truth (le_callB cc_isiB rfl T.n_isinstance (by rfl) (la_cons (lv 1) (la_cons (le_ty rfl T.n_int (by rfl)) la_nil)))) (lss_cons (ls_ret (le_and (le_fx G__law_num (room.mono (by omega)) (takes_of rfl rfl rfl rfl) wl (la_cons (lv 0) la_nil)) (le_one (le_cmp (oo_eq room.units) (lv 0) (lv 1) (by rfl)))))
    lss_nil) lss_nil)
    (lss_cons (ls_if (lt_truth (le_callB cc_isiB rfl T.n_isinstance (by rfl) (la_cons (lv 1) (la_cons (le_ty rfl T.n_str (by rfl)) la_nil)))) (lss_cons (ls_ret (le_and (le_callB cc_isiB rfl T.n_isinstance (by rfl) (la_cons (lv 0) (la_cons (le_ty rfl T.n_str (by rfl)) la_nil))) (le_one (le_cmp (oo_eq room.units) (lv 0) (lv 1) (by rfl)))))
    lss_nil) lss_nil)
    (lss_cons (ls_if (LW.t (lw_or (lt_cmp (oo_ne room.units) (le_callB cc_isiB rfl T.n_isinstance (by rfl) (la_cons (lv 1) (la_cons (le_ty rfl T.n_tuple (by rfl)) la_nil))) (le_callB cc_isiB rfl T.n_isinstance (by rfl) (la_cons (lv 0) (la_cons (le_ty rfl T.n_tuple (by rfl)) la_nil))) (by rfl)) (lw_or1 (lt_cmp (oo_ne room.units) (le_callB cc_isiB rfl T.n_isinstance (by rfl) (la_cons (lv 1) (la_cons (le_ty rfl T.n_list (by rfl)) la_nil))) (le_callB cc_isiB rfl T.n_isinstance (by rfl) (la_cons (lv 0) (la_cons (le_ty rfl T.n_list (by rfl)) la_nil))) (by rfl))))) (lss_cons (ls_ret le_bl)
    lss_nil) lss_nil)
    (lss_cons (ls_ret (le_and (le_cmp (oo_eq room.units) (le_callB cc_len rfl T.n_len (by rfl) (la_cons (lv 0) la_nil)) (le_callB cc_len rfl T.n_len (by rfl) (la_cons (lv 1) la_nil)) (by rfl)) (le_one (le_callB (cc_all rfl) rfl T.n_all (by rfl) (la_cons (le_lc false [("_law_k", 2)] (.nm 2) rfl sc__law_like.nd (li_rng1 rfl T.n_range (la_cons (le_callB cc_len rfl T.n_len (by rfl) (la_cons (lv 1) la_nil)) la_nil)) (by (conv => { arg 1; whnf }); (conv => { arg 2; whnf }); exact ⟨rfl, by decide +kernel, by decide +kernel, by decide +kernel, by decide +kernel⟩) (fun _ _ _ _ _ => (tg_nm 2 sc__law_like.nd)) (fun _ _ _ _ _ => lts_nil) (fun _ _ _ _ _ => (le_fx G__law_like (room.mono (by omega)) LamX.takes0 WL0 (la_cons (le_ix ox_seq (lv 0) (lv 2)) (la_cons (le_ix ox_seq (lv 1) (lv 2)) la_nil))))) la_nil)))))
    lss_nil)))))), fun ds S R X n h hW => ?_⟩, T.m__law_like, T.F__law_like.kp, T.b__law_like⟩
  obtain ⟨Q, E, h, rfl, rfl, rfl, rfl⟩ := h
  subst hW
  obtain ⟨x, rfl, hd, q⟩ := h
  have fin : ∀ b, b = true → RtP Q (.bl b) [] := fun b e => by subst e; exact Rp q
  cases x with
  | non =>
    conv => whnf
    exact fin _ rfl
  | bl b =>
    conv => whnf
    exact fin _ (by simp [D.seq])
  | int i =>
    conv => whnf
    refine ⟨_, rfl, ?_⟩
    conv => whnf
    exact fin _ (by simp [D.seq])
  | str x =>
    conv => whnf
    exact fin _ (by simp [D.seq])
  | tup xs =>
    cases n with
    | zero => exact hd.elim
    | succ n =>
    conv => whnf
    refine brT rfl ?_
    conv => whnf
    refine ⟨by (have := hd.1; omega), by (have := hd.1; omega), ?_⟩
    refine lc_map (fun _ => .bl true) (by rw [rngD_len]; exact Nat.lt_of_le_of_lt (show _ ≤ 1000000 by (have := hd.1; omega)) (by decide)) (fun _ => trivial) ?_ ?_
    · intro i x acc hi
      obtain ⟨hi2, rfl⟩ := rngD_get hi
      obtain ⟨x, hx⟩ : ∃ x, xs[i]? = some x := ⟨_, List.getElem?_eq_getElem (by omega)⟩
      refine ⟨_, rfl, trivial, fun R r => ?_⟩
      conv => whnf
      refine optI (atI_nat hx) ?_
      conv => whnf
      refine optI (atI_nat hx) ?_
      conv => whnf
      exact ⟨x, rfl, D.dps_mem.mp hd.2 x (List.mem_of_getElem? hx), r⟩
    · conv => whnf
      refine optI (asBs_map (fun _ => true) _) ?_
      exact fin _ (by simp)
  | lst xs =>
    cases n with
    | zero => exact hd.elim
    | succ n =>
    conv => whnf
    refine brT rfl ?_
    conv => whnf
    refine ⟨by (have := hd.1; omega), by (have := hd.1; omega), ?_⟩
    refine lc_map (fun _ => .bl true) (by rw [rngD_len]; exact Nat.lt_of_le_of_lt (show _ ≤ 1000000 by (have := hd.1; omega)) (by decide)) (fun _ => trivial) ?_ ?_
    · intro i x acc hi
      obtain ⟨hi2, rfl⟩ := rngD_get hi
      obtain ⟨x, hx⟩ : ∃ x, xs[i]? = some x := ⟨_, List.getElem?_eq_getElem (by omega)⟩
      refine ⟨_, rfl, trivial, fun R r => ?_⟩
      conv => whnf
      refine optI (atI_nat hx) ?_
      conv => whnf
      refine optI (atI_nat hx) ?_
      conv => whnf
      exact ⟨x, rfl, D.dps_mem.mp hd.2 x (List.mem_of_getElem? hx), r⟩
    · conv => whnf
      refine optI (asBs_map (fun _ => true) _) ?_
      exact fin _ (by simp)
  | _ => exact hd.elim
theorem al__law_like (T : Txt K w mg a) (G__law_num : Fx P w K mg base 1 a.a__law_num a.d__law_num "_law_num" ["_law_found"] (lp (sp__law_num a))) : ∀ n, Fx P w K mg base (n + 1) a.a__law_like a.d__law_like "_law_like" ["_law_found", "_law_due"] (lp (sn__law_like n a))
  | 0 => ⟨fn_no fun _ _ _ _ h => h, T.m__law_like, T.F__law_like.kp, T.b__law_like⟩
  | n + 1 => st__law_like T G__law_num (al__law_like T G__law_num n)
theorem ok__law_like (T : Txt K w mg a) (G__law_num : Fx P w K mg base 1 a.a__law_num a.d__law_num "_law_num" ["_law_found"] (lp (sp__law_num a))) : Fx P w K mg base 12 a.a__law_like a.d__law_like "_law_like" ["_law_found", "_law_due"] (lp (sp__law_like a)) := al__law_like T G__law_num 11
def sp__law_shades (a : Ad) : SpP := fun ds Q _ => ∃ m : Int, ds = [.int m] ∧ 0 ≤ m ∧ m ≤ 40 ∧ ∀ ns : List Int, ns.length = m.toNat → goodN ns → Q (.tup (ns.map D.int))
theorem ok__law_shades (T : Txt K w mg a) (G__law_pull : Fx P w K mg base 1 a.a__law_pull a.d__law_pull "_law_pull" ["_law_draw", "_law_many"] (ld (sp__law_pull a))) : Fx P w K mg base 2 a.a__law_shades a.d__law_shades "_law_shades" ["_law_draw", "_law_many"] (ld (sp__law_shades a)) := by
  refine ⟨fn_W T.F__law_shades sc__law_shades (by (intro ds Q E h; first | (obtain ⟨h, hr⟩ := h; subst h; (try (obtain ⟨_, hr⟩ := hr)); (try (obtain ⟨_, hr⟩ := hr)); (try (obtain ⟨_, hr⟩ := hr)); (try (obtain ⟨_, hr⟩ := hr)); (all_goals exact ⟨rfl, by (repeat' (first | trivial | exact D.lts_ints _ | exact D.lts_strs _ | exact Fc.lt | exact fcs_lt _ | exact nfs_lt _ | exact nf_lt | exact D.pl.lt (by assumption) | exact D.dp.lt (by assumption) | exact D.dps.lt (by assumption) | exact D.pls.lt (by assumption) | assumption | refine ⟨?_, ?_⟩))⟩)) | (obtain ⟨_, h, hr⟩ := h; subst h; (try (obtain ⟨_, hr⟩ := hr)); (try (obtain ⟨_, hr⟩ := hr)); (try (obtain ⟨_, hr⟩ := hr)); (try (obtain ⟨_, hr⟩ := hr)); (all_goals exact ⟨rfl, by (repeat' (first | trivial | exact D.lts_ints _ | exact D.lts_strs _ | exact Fc.lt | exact fcs_lt _ | exact nfs_lt _ | exact nf_lt | exact D.pl.lt (by assumption) | exact D.dp.lt (by assumption) | exact D.dps.lt (by assumption) | exact D.pls.lt (by assumption) | assumption | refine ⟨?_, ?_⟩))⟩)) | (obtain ⟨_, _, h, hr⟩ := h; subst h; (try (obtain ⟨_, hr⟩ := hr)); (try (obtain ⟨_, hr⟩ := hr)); (try (obtain ⟨_, hr⟩ := hr)); (try (obtain ⟨_, hr⟩ := hr)); (all_goals exact ⟨rfl, by (repeat' (first | trivial | exact D.lts_ints _ | exact D.lts_strs _ | exact Fc.lt | exact fcs_lt _ | exact nfs_lt _ | exact nf_lt | exact D.pl.lt (by assumption) | exact D.dp.lt (by assumption) | exact D.dps.lt (by assumption) | exact D.pls.lt (by assumption) | assumption | refine ⟨?_, ?_⟩))⟩)) | (obtain ⟨_, _, _, h, hr⟩ := h; subst h; (try (obtain ⟨_, hr⟩ := hr)); (try (obtain ⟨_, hr⟩ := hr)); (try (obtain ⟨_, hr⟩ := hr)); (try (obtain ⟨_, hr⟩ := hr)); (all_goals exact ⟨rfl, by (repeat' (first | trivial | exact D.lts_ints _ | exact D.lts_strs _ | exact Fc.lt | exact fcs_lt _ | exact nfs_lt _ | exact nf_lt | exact D.pl.lt (by assumption) | exact D.dp.lt (by assumption) | exact D.dps.lt (by assumption) | exact D.pls.lt (by assumption) | assumption | refine ⟨?_, ?_⟩))⟩)) | (obtain ⟨_, _, _, _, h, hr⟩ := h; subst h; (try (obtain ⟨_, hr⟩ := hr)); (try (obtain ⟨_, hr⟩ := hr)); (try (obtain ⟨_, hr⟩ := hr)); (try (obtain ⟨_, hr⟩ := hr)); (all_goals exact ⟨rfl, by (repeat' (first | trivial | exact D.lts_ints _ | exact D.lts_strs _ | exact Fc.lt | exact fcs_lt _ | exact nfs_lt _ | exact nf_lt | exact D.pl.lt (by assumption) | exact D.dp.lt (by assumption) | exact D.dps.lt (by assumption) | exact D.pls.lt (by assumption) | assumption | refine ⟨?_, ?_⟩))⟩)) | (obtain ⟨_, _, _, _, _, h, hr⟩ := h; subst h; (try (obtain ⟨_, hr⟩ := hr)); (try (obtain ⟨_, hr⟩ := hr)); (try (obtain ⟨_, hr⟩ := hr)); (try (obtain ⟨_, hr⟩ := hr)); (all_goals exact ⟨rfl, by (repeat' (first | trivial | exact D.lts_ints _ | exact D.lts_strs _ | exact Fc.lt | exact fcs_lt _ | exact nfs_lt _ | exact nf_lt | exact D.pl.lt (by assumption) | exact D.dp.lt (by assumption) | exact D.dps.lt (by assumption) | exact D.pls.lt (by assumption) | assumption | refine ⟨?_, ?_⟩))⟩)) | (obtain ⟨h, _⟩ := h; exact (by simp at h)))) fun cdv A outer s H E φ T0 W' room wl => ⟨_, (lss_cons (ls_set 2 (le_ix ox_seq (le_tup (la_cons le_int (la_cons le_int la_nil))) (le_fx G__law_pull (room.mono (by decide)) (takes_of rfl rfl rfl rfl) wl (la_cons (lv 0) (la_cons le_int la_nil)))) sc__law_shades.nd)
    (lss_cons (ls_ret (le_callTy cc_tuple rfl T.n_tuple (by rfl) (la_cons (le_lc false [("_law_k", 3)] (.nm 3) rfl sc__law_shades.nd (li_rng1 rfl T.n_range (la_cons (lv 1) la_nil)) (by (conv => { arg 1; whnf }); (conv => { arg 2; whnf }); exact ⟨rfl, by decide +kernel, by decide +kernel, by decide +kernel, by decide +kernel⟩) (fun _ _ _ _ _ => (tg_nm 3 sc__law_shades.nd)) (fun _ _ _ _ _ => lts_nil) (fun _ _ _ _ _ => (le_fx G__law_pull (room.mono (by decide)) LamX.takes0 WL0 (la_cons (lv 0) (la_cons (lv 2) la_nil))))) la_nil)))
    lss_nil)), fun ds S R X n h hW => ?_⟩, T.m__law_shades, T.F__law_shades.kp, T.b__law_shades⟩
  obtain ⟨r, Q, E, h, rfl, rfl, rfl, rfl, rfl⟩ := h
  subst hW
  obtain ⟨m, rfl, h0, h1, q⟩ := h
  conv => whnf
  refine ⟨_, rfl, ⟨by first | decide | omega, by first | decide | omega⟩, fun n h2 h3 => ?_⟩
  conv => whnf
  obtain ⟨k, hk, ha⟩ : ∃ k : Int, (1 ≤ k ∧ k ≤ 7) ∧ L2.atI [D.int 3, D.int 7] n = some (.int k) := by
    have : n = 0 ∨ n = 1 := by omega
    rcases this with rfl | rfl
    · exact ⟨3, by decide, rfl⟩
    · exact ⟨7, by decide, rfl⟩
  refine optI ha ?_
  conv => whnf
  refine ⟨by omega, by omega, ?_⟩
  refine lc_inv (fun i acc => ∃ zs : List Int, acc = zs.map D.int ∧ zs.length = i ∧ goodN zs) ⟨[], rfl, rfl, fun _ h => nomatch h⟩ (by rw [rngD_len]; exact Nat.lt_of_le_of_lt (show m.toNat ≤ 40 by omega) (by decide)) (fun _ => trivial) ?_ ?_
  · rintro i x acc hi ⟨zs, rfl, hz, hg⟩
    obtain ⟨_, rfl⟩ := rngD_get hi
    refine ⟨_, rfl, ?_⟩
    conv => whnf
    refine ⟨_, rfl, ⟨by first | decide | omega, by first | decide | omega⟩, fun z h4 h5 => ?_⟩
    refine ⟨rfl, trivial, zs ++ [z], by simp, by simp [hz], ?_⟩
    intro y hy
    rcases List.mem_append.mp hy with hy | hy
    · exact hg y hy
    · rw [List.mem_singleton.mp hy]; omega
  · rintro acc ⟨zs, rfl, hz, hg⟩
    conv => whnf
    exact Rw (q zs (by rw [hz, rngD_len]) hg) (D.lts_ints _)
theorem words_fact : Txt.split "scrape cover moved year sold ahead same apart scrape scrape" " " = (["scrape", "cover", "moved", "year", "sold", "ahead", "same", "apart", "scrape", "scrape"] : List Str) := by decide +kernel
def sp__law_fact (a : Ad) : SpP := fun ds Q _ => ∃ (ps : List Int) (m : Int), ds = [.lst (ps.map D.int), .int m] ∧ ps ≠ [] ∧ ps.Nodup ∧ ps.length ≤ 60 ∧ 1 ≤ m ∧ m ≤ 40 ∧ ∀ f : Fc, f.good ps m → Q f.d
theorem ok__law_fact (T : Txt K w mg a) (G__law_pull : Fx P w K mg base 1 a.a__law_pull a.d__law_pull "_law_pull" ["_law_draw", "_law_many"] (ld (sp__law_pull a))) (G__law_shades : Fx P w K mg base 2 a.a__law_shades a.d__law_shades "_law_shades" ["_law_draw", "_law_many"] (ld (sp__law_shades a))) : Fx P w K mg base 3 a.a__law_fact a.d__law_fact "_law_fact" ["_law_draw", "_law_parts", "_law_most"] (ld (sp__law_fact a)) := by
  refine ⟨fn_W T.F__law_fact sc__law_fact (by (intro ds Q E h; first | (obtain ⟨h, hr⟩ := h; subst h; (try (obtain ⟨_, hr⟩ := hr)); (try (obtain ⟨_, hr⟩ := hr)); (try (obtain ⟨_, hr⟩ := hr)); (try (obtain ⟨_, hr⟩ := hr)); (all_goals exact ⟨rfl, by (repeat' (first | trivial | exact D.lts_ints _ | exact D.lts_strs _ | exact Fc.lt | exact fcs_lt _ | exact nfs_lt _ | exact nf_lt | exact D.pl.lt (by assumption) | exact D.dp.lt (by assumption) | exact D.dps.lt (by assumption) | exact D.pls.lt (by assumption) | assumption | refine ⟨?_, ?_⟩))⟩)) | (obtain ⟨_, h, hr⟩ := h; subst h; (try (obtain ⟨_, hr⟩ := hr)); (try (obtain ⟨_, hr⟩ := hr)); (try (obtain ⟨_, hr⟩ := hr)); (try (obtain ⟨_, hr⟩ := hr)); (all_goals exact ⟨rfl, by (repeat' (first | trivial | exact D.lts_ints _ | exact D.lts_strs _ | exact Fc.lt | exact fcs_lt _ | exact nfs_lt _ | exact nf_lt | exact D.pl.lt (by assumption) | exact D.dp.lt (by assumption) | exact D.dps.lt (by assumption) | exact D.pls.lt (by assumption) | assumption | refine ⟨?_, ?_⟩))⟩)) | (obtain ⟨_, _, h, hr⟩ := h; subst h; (try (obtain ⟨_, hr⟩ := hr)); (try (obtain ⟨_, hr⟩ := hr)); (try (obtain ⟨_, hr⟩ := hr)); (try (obtain ⟨_, hr⟩ := hr)); (all_goals exact ⟨rfl, by (repeat' (first | trivial | exact D.lts_ints _ | exact D.lts_strs _ | exact Fc.lt | exact fcs_lt _ | exact nfs_lt _ | exact nf_lt | exact D.pl.lt (by assumption) | exact D.dp.lt (by assumption) | exact D.dps.lt (by assumption) | exact D.pls.lt (by assumption) | assumption | refine ⟨?_, ?_⟩))⟩)) | (obtain ⟨_, _, _, h, hr⟩ := h; subst h; (try (obtain ⟨_, hr⟩ := hr)); (try (obtain ⟨_, hr⟩ := hr)); (try (obtain ⟨_, hr⟩ := hr)); (try (obtain ⟨_, hr⟩ := hr)); (all_goals exact ⟨rfl, by (repeat' (first | trivial | exact D.lts_ints _ | exact D.lts_strs _ | exact Fc.lt | exact fcs_lt _ | exact nfs_lt _ | exact nf_lt | exact D.pl.lt (by assumption) | exact D.dp.lt (by assumption) | exact D.dps.lt (by assumption) | exact D.pls.lt (by assumption) | assumption | refine ⟨?_, ?_⟩))⟩)) | (obtain ⟨_, _, _, _, h, hr⟩ := h; subst h; (try (obtain ⟨_, hr⟩ := hr)); (try (obtain ⟨_, hr⟩ := hr)); (try (obtain ⟨_, hr⟩ := hr)); (try (obtain ⟨_, hr⟩ := hr)); (all_goals exact ⟨rfl, by (repeat' (first | trivial | exact D.lts_ints _ | exact D.lts_strs _ | exact Fc.lt | exact fcs_lt _ | exact nfs_lt _ | exact nf_lt | exact D.pl.lt (by assumption) | exact D.dp.lt (by assumption) | exact D.dps.lt (by assumption) | exact D.pls.lt (by assumption) | assumption | refine ⟨?_, ?_⟩))⟩)) | (obtain ⟨_, _, _, _, _, h, hr⟩ := h; subst h; (try (obtain ⟨_, hr⟩ := hr)); (try (obtain ⟨_, hr⟩ := hr)); (try (obtain ⟨_, hr⟩ := hr)); (try (obtain ⟨_, hr⟩ := hr)); (all_goals exact ⟨rfl, by (repeat' (first | trivial | exact D.lts_ints _ | exact D.lts_strs _ | exact Fc.lt | exact fcs_lt _ | exact nfs_lt _ | exact nf_lt | exact D.pl.lt (by assumption) | exact D.dp.lt (by assumption) | exact D.dps.lt (by assumption) | exact D.pls.lt (by assumption) | assumption | refine ⟨?_, ?_⟩))⟩)) | (obtain ⟨h, _⟩ := h; exact (by simp at h)))) fun cdv A outer s H E φ T0 W' room wl => ⟨_, (lss_cons (ls_set 3 (le_ix ox_seq (le_bm PySem.F.plainAttrs_str PySem.F.slot_str_split PySem.F.type_str_split mm_split le_str (la_cons le_str la_nil)) (le_fx G__law_pull (room.mono (by decide)) (takes_of rfl rfl rfl rfl) wl (la_cons (lv 0) (la_cons le_int la_nil)))) sc__law_fact.nd)
    (lss_cons (ls_set 4 (le_ix ox_seq (lv 1) (le_fx G__law_pull (room.mono (by decide)) (takes_of rfl rfl rfl rfl) wl (la_cons (lv 0) (la_cons (le_callB cc_len rfl T.n_len (by rfl) (la_cons (lv 1) la_nil)) la_nil)))) sc__law_fact.nd)
    (lss_cons (ls_set 5 (le_fx G__law_pull (room.mono (by decide)) (takes_of rfl rfl rfl rfl) wl (la_cons (lv 0) (la_cons (lv 2) la_nil))) sc__law_fact.nd)
    (lss_cons (ls_if (LW.t (lw_or (lt_cmp (oo_eq room.units) (lv 3) le_str (by rfl)) (lw_or1 (LW.t (lw_and (lt_cmp oo_lt (le_callB cc_len rfl T.n_len (by rfl) (la_cons (lv 1) la_nil)) le_int (by rfl)) (lw_and1 (lt_cmp oo_in (lv 3) (le_lst (la_cons le_str (la_cons le_str (la_cons le_str (la_cons le_str la_nil))))) (by rfl)))))))) (lss_cons (ls_ret (le_tup (la_cons le_str (la_cons (lv 4) (la_cons (lv 5) (la_cons (le_fx G__law_shades (room.mono (by decide)) (takes_of rfl rfl rfl rfl) wl (la_cons (lv 0) (la_cons (le_op oo_add le_int (le_fx G__law_pull (room.mono (by decide)) (takes_of rfl rfl rfl rfl) wl (la_cons (lv 0) (la_cons (le_op oo_sub (lv 2) (lv 5)) la_nil)))) la_nil))) la_nil))))))
    lss_nil) lss_nil)
    (lss_consW [6] (ls_if (lt_cmp (oo_eq room.units) (lv 3) le_str (by rfl)) (lss_consW [1, 2, 3] (ls_set 6 (le_fx G__law_pull (room.mono (by decide)) (takes_of rfl rfl rfl rfl) wl (la_cons (lv 0) (la_cons (le_ix ox_seq (le_tup (la_cons le_int (la_cons le_int la_nil))) (le_fx G__law_pull (room.mono (by decide)) (takes_of rfl rfl rfl rfl) wl (la_cons (lv 0) (la_cons le_int la_nil)))) la_nil))) sc__law_fact.nd)
    (lss_cons (ls_ret (le_tup (la_cons le_str (la_cons (lv 4) (la_cons (lv 5) (la_cons (lv 6) (la_cons (le_callB (cc_min2 rfl) rfl T.n_min (by rfl) (la_cons le_int (la_cons (le_op oo_add (lv 6) (le_fx G__law_pull (room.mono (by decide)) (takes_of rfl rfl rfl rfl) wl (la_cons (lv 0) (la_cons (le_ix ox_seq (le_tup (la_cons le_int (la_cons le_int la_nil))) (le_fx G__law_pull (room.mono (by decide)) (takes_of rfl rfl rfl rfl) wl (la_cons (lv 0) (la_cons le_int la_nil)))) la_nil)))) la_nil))) la_nil)))))))
    lss_nil)) lss_nil)
    (lss_cons (ls_if (lt_cmp (oo_eq room.units) (lv 3) le_str (by rfl)) (lss_cons (ls_ret (le_tup (la_cons le_str (la_cons (le_op oo_add le_int (le_fx G__law_pull (room.mono (by decide)) (takes_of rfl rfl rfl rfl) wl (la_cons (lv 0) (la_cons le_int la_nil)))) (la_cons (le_fx G__law_pull (room.mono (by decide)) (takes_of rfl rfl rfl rfl) wl (la_cons (lv 0) (la_cons (le_ix ox_seq (le_tup (la_cons le_int (la_cons le_int la_nil))) (le_fx G__law_pull (room.mono (by decide)) (takes_of rfl rfl rfl rfl) wl (la_cons (lv 0) (la_cons le_int la_nil)))) la_nil))) la_nil)))))
    lss_nil) lss_nil)
    (lss_cons (ls_set 7 (le_ix ox_seq (lv 1) (le_fx G__law_pull (room.mono (by decide)) (takes_of rfl rfl rfl rfl) wl (la_cons (lv 0) (la_cons (le_callB cc_len rfl T.n_len (by rfl) (la_cons (lv 1) la_nil)) la_nil)))) sc__law_fact.nd)
    (lss_cons (ls_set 8 (le_fx G__law_pull (room.mono (by decide)) (takes_of rfl rfl rfl rfl) wl (la_cons (lv 0) (la_cons (lv 2) la_nil))) sc__law_fact.nd)
    (lss_cons (ls_if (lt_cmp (oo_eq room.units) (lv 3) le_str (by rfl)) (lss_consW [0, 1, 2, 3] (ls_if (lt_cmp (oo_eq room.units) (le_tup (la_cons (lv 4) (la_cons (lv 5) la_nil))) (le_tup (la_cons (lv 7) (la_cons (lv 8) la_nil))) (by rfl)) (lss_cons (ls_ret (le_tup (la_cons le_str (la_cons (lv 4) (la_cons (lv 5) (la_cons le_int (la_cons le_int la_nil)))))))
    lss_nil) lss_nil)
    (lss_cons (ls_ret (le_tup (la_cons le_str (la_cons (lv 4) (la_cons (lv 5) (la_cons (lv 7) (la_cons (lv 8) la_nil)))))))
    lss_nil)) lss_nil)
    (lss_consM (ls_if (lt_cmp (oo_eq room.units) (lv 4) (lv 7) (by rfl)) (lss_consW [1] (ls_set 7 (le_ix ox_seq (lv 1) (le_op oo_mod (le_op oo_add (le_bm PySem.F.plainAttrs_list PySem.F.slot_list_index PySem.F.type_list_index mm_index (lv 1) (la_cons (lv 4) la_nil)) le_int) (le_callB cc_len rfl T.n_len (by rfl) (la_cons (lv 1) la_nil)))) sc__law_fact.nd)
    lss_nil) lss_nil)
    (lss_w [1] (lss_cons (ls_if (lt_cmp (oo_eq room.units) (lv 3) le_str (by rfl)) (lss_cons (ls_ret (le_tup (la_cons le_str (la_cons (lv 4) (la_cons (lv 7) (la_cons (le_fx G__law_pull (room.mono (by decide)) (takes_of rfl rfl rfl rfl) wl (la_cons (lv 0) (la_cons (le_op oo_add (lv 2) le_int) la_nil))) la_nil))))))
    lss_nil) lss_nil)
    (lss_consW [0, 2] (ls_if (lt_cmp (oo_eq room.units) (lv 3) le_str (by rfl)) (lss_cons (ls_ret (le_tup (la_cons le_str (la_cons (lv 4) (la_cons (le_op oo_add le_int (lv 5)) (la_cons (lv 7) (la_cons (le_fx G__law_pull (room.mono (by decide)) (takes_of rfl rfl rfl rfl) wl (la_cons (lv 0) (la_cons (le_op oo_add (lv 2) le_int) la_nil))) la_nil)))))))
    lss_nil) lss_nil)
    (lss_cons (ls_ret (le_tup (la_cons (lv 3) (la_cons (lv 4) (la_cons (lv 5) (la_cons (lv 7) (la_cons (lv 8) la_nil)))))))
    lss_nil)))))))))))))), fun ds S R X n h hW => ?_⟩, T.m__law_fact, T.F__law_fact.kp, T.b__law_fact⟩
  obtain ⟨r, Q, E, h, rfl, rfl, rfl, rfl, rfl⟩ := h
  subst hW
  obtain ⟨ps, m, rfl, hne, hnd, hl, h1, h2, q⟩ := h
  have hl1 : 1 ≤ ps.length := by cases ps with | nil => exact absurd rfl hne | cons _ _ => simp
  conv => whnf
  repeat (refine Need.mk ?_ ?_; (focus (first | trivial | rfl | assumption | (exact Nat.le_trans (by assumption) le10) | (exact Nat.lt_of_le_of_lt (by assumption) lt10) | (show (0 : Int) < _; first | decide | omega) | (show (0 : Int) ≤ _; first | decide | omega) | (exact .inl ⟨by omega, by omega⟩) | (exact .inr ⟨by decide, by decide⟩) | (refine ⟨?_, ?_⟩ <;> first | rfl | decide | omega) | (refine ⟨?_, ?_, ?_⟩ <;> first | rfl | decide | omega) | (exact ltN (Nat.le_of_ble_eq_true rfl)) | (exact leN (Nat.le_of_ble_eq_true rfl)))); (conv => whnf))
  rw [words_fact]
  refine ⟨_, rfl, ⟨by decide, by decide⟩, fun n n0 n1 => ?_⟩
  have hn : n = 0 ∨ n = 1 ∨ n = 2 ∨ n = 3 ∨ n = 4 ∨ n = 5 ∨ n = 6 ∨ n = 7 ∨ n = 8 ∨ n = 9 := by omega
  have key : ∀ w : Str, w ∈ (["scrape", "cover", "moved", "year", "sold", "ahead", "same", "apart"] : List Str) → True := fun _ _ => trivial
  rcases hn with rfl | rfl | rfl | rfl | rfl | rfl | rfl | rfl | rfl | rfl
  · conv => whnf
    repeat (refine Need.mk ?_ ?_; (focus (first | trivial | rfl | assumption | (exact Nat.le_trans (by assumption) le10) | (exact Nat.lt_of_le_of_lt (by assumption) lt10) | (show (0 : Int) < _; first | decide | omega) | (show (0 : Int) ≤ _; first | decide | omega) | (exact .inl ⟨by omega, by omega⟩) | (exact .inr ⟨by decide, by decide⟩) | (refine ⟨?_, ?_⟩ <;> first | rfl | decide | omega) | (refine ⟨?_, ?_, ?_⟩ <;> first | rfl | decide | omega) | (exact ltN (Nat.le_of_ble_eq_true rfl)) | (exact leN (Nat.le_of_ble_eq_true rfl)))); (conv => whnf))
    rw [List.length_map]
    refine ⟨_, rfl, ⟨by omega, by omega⟩, fun i i0 i1 => ?_⟩
    obtain ⟨p, hp, hpa⟩ := atI_ints (ns := ps) i0 (by omega)
    conv => whnf
    repeat (refine Need.mk ?_ ?_; (focus (first | trivial | rfl | assumption | (exact Nat.le_trans (by assumption) le10) | (exact Nat.lt_of_le_of_lt (by assumption) lt10) | (show (0 : Int) < _; first | decide | omega) | (show (0 : Int) ≤ _; first | decide | omega) | (exact .inl ⟨by omega, by omega⟩) | (exact .inr ⟨by decide, by decide⟩) | (refine ⟨?_, ?_⟩ <;> first | rfl | decide | omega) | (refine ⟨?_, ?_, ?_⟩ <;> first | rfl | decide | omega) | (exact ltN (Nat.le_of_ble_eq_true rfl)) | (exact leN (Nat.le_of_ble_eq_true rfl)))); (conv => whnf))
    refine optI hpa ?_
    conv => whnf
    repeat (refine Need.mk ?_ ?_; (focus (first | trivial | rfl | assumption | (exact Nat.le_trans (by assumption) le10) | (exact Nat.lt_of_le_of_lt (by assumption) lt10) | (show (0 : Int) < _; first | decide | omega) | (show (0 : Int) ≤ _; first | decide | omega) | (exact .inl ⟨by omega, by omega⟩) | (exact .inr ⟨by decide, by decide⟩) | (refine ⟨?_, ?_⟩ <;> first | rfl | decide | omega) | (refine ⟨?_, ?_, ?_⟩ <;> first | rfl | decide | omega) | (exact ltN (Nat.le_of_ble_eq_true rfl)) | (exact leN (Nat.le_of_ble_eq_true rfl)))); (conv => whnf))
    refine ⟨_, rfl, ⟨by omega, by omega⟩, fun c c0 c1 => ?_⟩
    conv => whnf
    repeat (refine Need.mk ?_ ?_; (focus (first | trivial | rfl | assumption | (exact Nat.le_trans (by assumption) le10) | (exact Nat.lt_of_le_of_lt (by assumption) lt10) | (show (0 : Int) < _; first | decide | omega) | (show (0 : Int) ≤ _; first | decide | omega) | (exact .inl ⟨by omega, by omega⟩) | (exact .inr ⟨by decide, by decide⟩) | (refine ⟨?_, ?_⟩ <;> first | rfl | decide | omega) | (refine ⟨?_, ?_, ?_⟩ <;> first | rfl | decide | omega) | (exact ltN (Nat.le_of_ble_eq_true rfl)) | (exact leN (Nat.le_of_ble_eq_true rfl)))); (conv => whnf))
    refine ⟨_, rfl, ⟨by (show 1 ≤ m - c; omega), by (show m - c < _; omega)⟩, fun k k0 k1 => ?_⟩
    have k1 : k < m - c := k1
    conv => whnf
    repeat (refine Need.mk ?_ ?_; (focus (first | trivial | rfl | assumption | (exact Nat.le_trans (by assumption) le10) | (exact Nat.lt_of_le_of_lt (by assumption) lt10) | (show (0 : Int) < _; first | decide | omega) | (show (0 : Int) ≤ _; first | decide | omega) | (exact .inl ⟨by omega, by omega⟩) | (exact .inr ⟨by decide, by decide⟩) | (refine ⟨?_, ?_⟩ <;> first | rfl | decide | omega) | (refine ⟨?_, ?_, ?_⟩ <;> first | rfl | decide | omega) | (exact ltN (Nat.le_of_ble_eq_true rfl)) | (exact leN (Nat.le_of_ble_eq_true rfl)))); (conv => whnf))
    refine ⟨1 + k, rfl, by omega, by omega, fun sh hs hg => ?_⟩
    conv => whnf
    repeat (refine Need.mk ?_ ?_; (focus (first | trivial | rfl | assumption | (exact Nat.le_trans (by assumption) le10) | (exact Nat.lt_of_le_of_lt (by assumption) lt10) | (show (0 : Int) < _; first | decide | omega) | (show (0 : Int) ≤ _; first | decide | omega) | (exact .inl ⟨by omega, by omega⟩) | (exact .inr ⟨by decide, by decide⟩) | (refine ⟨?_, ?_⟩ <;> first | rfl | decide | omega) | (refine ⟨?_, ?_, ?_⟩ <;> first | rfl | decide | omega) | (exact ltN (Nat.le_of_ble_eq_true rfl)) | (exact leN (Nat.le_of_ble_eq_true rfl)))); (conv => whnf))
    exact Rw (q (.scrape p c sh) ⟨hp, c0, by omega, by omega, hg⟩) (Fc.lt (f := .scrape p c sh))
  · conv => whnf
    repeat (refine Need.mk ?_ ?_; (focus (first | trivial | rfl | assumption | (exact Nat.le_trans (by assumption) le10) | (exact Nat.lt_of_le_of_lt (by assumption) lt10) | (show (0 : Int) < _; first | decide | omega) | (show (0 : Int) ≤ _; first | decide | omega) | (exact .inl ⟨by omega, by omega⟩) | (exact .inr ⟨by decide, by decide⟩) | (refine ⟨?_, ?_⟩ <;> first | rfl | decide | omega) | (refine ⟨?_, ?_, ?_⟩ <;> first | rfl | decide | omega) | (exact ltN (Nat.le_of_ble_eq_true rfl)) | (exact leN (Nat.le_of_ble_eq_true rfl)))); (conv => whnf))
    rw [List.length_map]
    refine ⟨_, rfl, ⟨by omega, by omega⟩, fun i i0 i1 => ?_⟩
    obtain ⟨p, hp, hpa⟩ := atI_ints (ns := ps) i0 (by omega)
    conv => whnf
    repeat (refine Need.mk ?_ ?_; (focus (first | trivial | rfl | assumption | (exact Nat.le_trans (by assumption) le10) | (exact Nat.lt_of_le_of_lt (by assumption) lt10) | (show (0 : Int) < _; first | decide | omega) | (show (0 : Int) ≤ _; first | decide | omega) | (exact .inl ⟨by omega, by omega⟩) | (exact .inr ⟨by decide, by decide⟩) | (refine ⟨?_, ?_⟩ <;> first | rfl | decide | omega) | (refine ⟨?_, ?_, ?_⟩ <;> first | rfl | decide | omega) | (exact ltN (Nat.le_of_ble_eq_true rfl)) | (exact leN (Nat.le_of_ble_eq_true rfl)))); (conv => whnf))
    refine optI hpa ?_
    conv => whnf
    repeat (refine Need.mk ?_ ?_; (focus (first | trivial | rfl | assumption | (exact Nat.le_trans (by assumption) le10) | (exact Nat.lt_of_le_of_lt (by assumption) lt10) | (show (0 : Int) < _; first | decide | omega) | (show (0 : Int) ≤ _; first | decide | omega) | (exact .inl ⟨by omega, by omega⟩) | (exact .inr ⟨by decide, by decide⟩) | (refine ⟨?_, ?_⟩ <;> first | rfl | decide | omega) | (refine ⟨?_, ?_, ?_⟩ <;> first | rfl | decide | omega) | (exact ltN (Nat.le_of_ble_eq_true rfl)) | (exact leN (Nat.le_of_ble_eq_true rfl)))); (conv => whnf))
    refine ⟨_, rfl, ⟨by omega, by omega⟩, fun c c0 c1 => ?_⟩
    conv => whnf
    repeat (refine Need.mk ?_ ?_; (focus (first | trivial | rfl | assumption | (exact Nat.le_trans (by assumption) le10) | (exact Nat.lt_of_le_of_lt (by assumption) lt10) | (show (0 : Int) < _; first | decide | omega) | (show (0 : Int) ≤ _; first | decide | omega) | (exact .inl ⟨by omega, by omega⟩) | (exact .inr ⟨by decide, by decide⟩) | (refine ⟨?_, ?_⟩ <;> first | rfl | decide | omega) | (refine ⟨?_, ?_, ?_⟩ <;> first | rfl | decide | omega) | (exact ltN (Nat.le_of_ble_eq_true rfl)) | (exact leN (Nat.le_of_ble_eq_true rfl)))); (conv => whnf))
    refine brd (fun hb => ?_) (fun hb => ?_)
    · have hb : ((ps.map D.int).length : Int) < 2 := hb
      rw [List.length_map] at hb
      conv => whnf
      repeat (refine Need.mk ?_ ?_; (focus (first | trivial | rfl | assumption | (exact Nat.le_trans (by assumption) le10) | (exact Nat.lt_of_le_of_lt (by assumption) lt10) | (show (0 : Int) < _; first | decide | omega) | (show (0 : Int) ≤ _; first | decide | omega) | (exact .inl ⟨by omega, by omega⟩) | (exact .inr ⟨by decide, by decide⟩) | (refine ⟨?_, ?_⟩ <;> first | rfl | decide | omega) | (refine ⟨?_, ?_, ?_⟩ <;> first | rfl | decide | omega) | (exact ltN (Nat.le_of_ble_eq_true rfl)) | (exact leN (Nat.le_of_ble_eq_true rfl)))); (conv => whnf))
      refine ⟨_, rfl, ⟨by (show 1 ≤ m - c; omega), by (show m - c < _; omega)⟩, fun k k0 k1 => ?_⟩
      have k1 : k < m - c := k1
      conv => whnf
      repeat (refine Need.mk ?_ ?_; (focus (first | trivial | rfl | assumption | (exact Nat.le_trans (by assumption) le10) | (exact Nat.lt_of_le_of_lt (by assumption) lt10) | (show (0 : Int) < _; first | decide | omega) | (show (0 : Int) ≤ _; first | decide | omega) | (exact .inl ⟨by omega, by omega⟩) | (exact .inr ⟨by decide, by decide⟩) | (refine ⟨?_, ?_⟩ <;> first | rfl | decide | omega) | (refine ⟨?_, ?_, ?_⟩ <;> first | rfl | decide | omega) | (exact ltN (Nat.le_of_ble_eq_true rfl)) | (exact leN (Nat.le_of_ble_eq_true rfl)))); (conv => whnf))
      refine ⟨1 + k, rfl, by omega, by omega, fun sh hs hg => ?_⟩
      conv => whnf
      repeat (refine Need.mk ?_ ?_; (focus (first | trivial | rfl | assumption | (exact Nat.le_trans (by assumption) le10) | (exact Nat.lt_of_le_of_lt (by assumption) lt10) | (show (0 : Int) < _; first | decide | omega) | (show (0 : Int) ≤ _; first | decide | omega) | (exact .inl ⟨by omega, by omega⟩) | (exact .inr ⟨by decide, by decide⟩) | (refine ⟨?_, ?_⟩ <;> first | rfl | decide | omega) | (refine ⟨?_, ?_, ?_⟩ <;> first | rfl | decide | omega) | (exact ltN (Nat.le_of_ble_eq_true rfl)) | (exact leN (Nat.le_of_ble_eq_true rfl)))); (conv => whnf))
      exact Rw (q (.scrape p c sh) ⟨hp, c0, by omega, by omega, hg⟩) (Fc.lt (f := .scrape p c sh))
    · have hb : ¬ ((ps.map D.int).length : Int) < 2 := hb
      rw [List.length_map] at hb
      conv => whnf
      repeat (refine Need.mk ?_ ?_; (focus (first | trivial | rfl | assumption | (exact Nat.le_trans (by assumption) le10) | (exact Nat.lt_of_le_of_lt (by assumption) lt10) | (show (0 : Int) < _; first | decide | omega) | (show (0 : Int) ≤ _; first | decide | omega) | (exact .inl ⟨by omega, by omega⟩) | (exact .inr ⟨by decide, by decide⟩) | (refine ⟨?_, ?_⟩ <;> first | rfl | decide | omega) | (refine ⟨?_, ?_, ?_⟩ <;> first | rfl | decide | omega) | (exact ltN (Nat.le_of_ble_eq_true rfl)) | (exact leN (Nat.le_of_ble_eq_true rfl)))); (conv => whnf))
      rw [List.length_map]
      refine ⟨_, rfl, ⟨by omega, by omega⟩, fun j j0 j1 => ?_⟩
      obtain ⟨o, ho, hoa⟩ := atI_ints (ns := ps) j0 (by omega)
      conv => whnf
      repeat (refine Need.mk ?_ ?_; (focus (first | trivial | rfl | assumption | (exact Nat.le_trans (by assumption) le10) | (exact Nat.lt_of_le_of_lt (by assumption) lt10) | (show (0 : Int) < _; first | decide | omega) | (show (0 : Int) ≤ _; first | decide | omega) | (exact .inl ⟨by omega, by omega⟩) | (exact .inr ⟨by decide, by decide⟩) | (refine ⟨?_, ?_⟩ <;> first | rfl | decide | omega) | (refine ⟨?_, ?_, ?_⟩ <;> first | rfl | decide | omega) | (exact ltN (Nat.le_of_ble_eq_true rfl)) | (exact leN (Nat.le_of_ble_eq_true rfl)))); (conv => whnf))
      refine optI hoa ?_
      conv => whnf
      repeat (refine Need.mk ?_ ?_; (focus (first | trivial | rfl | assumption | (exact Nat.le_trans (by assumption) le10) | (exact Nat.lt_of_le_of_lt (by assumption) lt10) | (show (0 : Int) < _; first | decide | omega) | (show (0 : Int) ≤ _; first | decide | omega) | (exact .inl ⟨by omega, by omega⟩) | (exact .inr ⟨by decide, by decide⟩) | (refine ⟨?_, ?_⟩ <;> first | rfl | decide | omega) | (refine ⟨?_, ?_, ?_⟩ <;> first | rfl | decide | omega) | (exact ltN (Nat.le_of_ble_eq_true rfl)) | (exact leN (Nat.le_of_ble_eq_true rfl)))); (conv => whnf))
      refine ⟨_, rfl, ⟨by omega, by omega⟩, fun d d0 d1 => ?_⟩
      conv => whnf
      repeat (refine Need.mk ?_ ?_; (focus (first | trivial | rfl | assumption | (exact Nat.le_trans (by assumption) le10) | (exact Nat.lt_of_le_of_lt (by assumption) lt10) | (show (0 : Int) < _; first | decide | omega) | (show (0 : Int) ≤ _; first | decide | omega) | (exact .inl ⟨by omega, by omega⟩) | (exact .inr ⟨by decide, by decide⟩) | (refine ⟨?_, ?_⟩ <;> first | rfl | decide | omega) | (refine ⟨?_, ?_, ?_⟩ <;> first | rfl | decide | omega) | (exact ltN (Nat.le_of_ble_eq_true rfl)) | (exact leN (Nat.le_of_ble_eq_true rfl)))); (conv => whnf))
      refine sM (fun s' S' => S' = [.drw] ∧ ∃ (o : Int) (z : Option D), o ∈ ps ∧ p ≠ o ∧ s' = [some (.ref 0), z, some (.int m), some (.str "cover"), some (.int p), some (.int c), none, some (.int o), some (.int d)]) ?_ ?_
      · conv => whnf
        repeat (refine Need.mk ?_ ?_; (focus (first | trivial | rfl | assumption | (exact Nat.le_trans (by assumption) le10) | (exact Nat.lt_of_le_of_lt (by assumption) lt10) | (show (0 : Int) < _; first | decide | omega) | (show (0 : Int) ≤ _; first | decide | omega) | (exact .inl ⟨by omega, by omega⟩) | (exact .inr ⟨by decide, by decide⟩) | (refine ⟨?_, ?_⟩ <;> first | rfl | decide | omega) | (refine ⟨?_, ?_, ?_⟩ <;> first | rfl | decide | omega) | (exact ltN (Nat.le_of_ble_eq_true rfl)) | (exact leN (Nat.le_of_ble_eq_true rfl)))); (conv => whnf))
        refine brd (fun hc => ?_) (fun hc => ?_)
        · obtain ⟨j, hj, hj1, o2, ho2, hne2, ha2⟩ := next_part hnd (by omega) hp
          conv => whnf
          repeat (refine Need.mk ?_ ?_; (focus (first | trivial | rfl | assumption | (exact Nat.le_trans (by assumption) le10) | (exact Nat.lt_of_le_of_lt (by assumption) lt10) | (show (0 : Int) < _; first | decide | omega) | (show (0 : Int) ≤ _; first | decide | omega) | (exact .inl ⟨by omega, by omega⟩) | (exact .inr ⟨by decide, by decide⟩) | (refine ⟨?_, ?_⟩ <;> first | rfl | decide | omega) | (refine ⟨?_, ?_, ?_⟩ <;> first | rfl | decide | omega) | (exact ltN (Nat.le_of_ble_eq_true rfl)) | (exact leN (Nat.le_of_ble_eq_true rfl)))); (conv => whnf))
          refine optI (asIs_ints ps) ?_
          refine optI hj1 ?_
          conv => whnf
          repeat (refine Need.mk ?_ ?_; (focus (first | trivial | rfl | assumption | (exact Nat.le_trans (by assumption) le10) | (exact Nat.lt_of_le_of_lt (by assumption) lt10) | (show (0 : Int) < _; first | decide | omega) | (show (0 : Int) ≤ _; first | decide | omega) | (exact .inl ⟨by omega, by omega⟩) | (exact .inr ⟨by decide, by decide⟩) | (refine ⟨?_, ?_⟩ <;> first | rfl | decide | omega) | (refine ⟨?_, ?_, ?_⟩ <;> first | rfl | decide | omega) | (exact ltN (Nat.le_of_ble_eq_true rfl)) | (exact leN (Nat.le_of_ble_eq_true rfl)))); (conv => whnf))
          rw [List.length_map]
          refine optI ha2 ?_
          conv => whnf
          repeat (refine Need.mk ?_ ?_; (focus (first | trivial | rfl | assumption | (exact Nat.le_trans (by assumption) le10) | (exact Nat.lt_of_le_of_lt (by assumption) lt10) | (show (0 : Int) < _; first | decide | omega) | (show (0 : Int) ≤ _; first | decide | omega) | (exact .inl ⟨by omega, by omega⟩) | (exact .inr ⟨by decide, by decide⟩) | (refine ⟨?_, ?_⟩ <;> first | rfl | decide | omega) | (refine ⟨?_, ?_, ?_⟩ <;> first | rfl | decide | omega) | (exact ltN (Nat.le_of_ble_eq_true rfl)) | (exact leN (Nat.le_of_ble_eq_true rfl)))); (conv => whnf))
          exact ⟨rfl, o2, _, ho2, fun z => hne2 z.symm, rfl⟩
        · conv => whnf
          repeat (refine Need.mk ?_ ?_; (focus (first | trivial | rfl | assumption | (exact Nat.le_trans (by assumption) le10) | (exact Nat.lt_of_le_of_lt (by assumption) lt10) | (show (0 : Int) < _; first | decide | omega) | (show (0 : Int) ≤ _; first | decide | omega) | (exact .inl ⟨by omega, by omega⟩) | (exact .inr ⟨by decide, by decide⟩) | (refine ⟨?_, ?_⟩ <;> first | rfl | decide | omega) | (refine ⟨?_, ?_, ?_⟩ <;> first | rfl | decide | omega) | (exact ltN (Nat.le_of_ble_eq_true rfl)) | (exact leN (Nat.le_of_ble_eq_true rfl)))); (conv => whnf))
          exact ⟨rfl, o, _, ho, hc, rfl⟩
      rintro s' S' ⟨rfl, o, z, ho, hne, rfl⟩
      conv => whnf
      repeat (refine Need.mk ?_ ?_; (focus (first | trivial | rfl | assumption | (exact Nat.le_trans (by assumption) le10) | (exact Nat.lt_of_le_of_lt (by assumption) lt10) | (show (0 : Int) < _; first | decide | omega) | (show (0 : Int) ≤ _; first | decide | omega) | (exact .inl ⟨by omega, by omega⟩) | (exact .inr ⟨by decide, by decide⟩) | (refine ⟨?_, ?_⟩ <;> first | rfl | decide | omega) | (refine ⟨?_, ?_, ?_⟩ <;> first | rfl | decide | omega) | (exact ltN (Nat.le_of_ble_eq_true rfl)) | (exact leN (Nat.le_of_ble_eq_true rfl)))); (conv => whnf))
      refine ⟨_, rfl, ⟨by omega, by omega⟩, fun e e0 e1 => ?_⟩
      conv => whnf
      repeat (refine Need.mk ?_ ?_; (focus (first | trivial | rfl | assumption | (exact Nat.le_trans (by assumption) le10) | (exact Nat.lt_of_le_of_lt (by assumption) lt10) | (show (0 : Int) < _; first | decide | omega) | (show (0 : Int) ≤ _; first | decide | omega) | (exact .inl ⟨by omega, by omega⟩) | (exact .inr ⟨by decide, by decide⟩) | (refine ⟨?_, ?_⟩ <;> first | rfl | decide | omega) | (refine ⟨?_, ?_, ?_⟩ <;> first | rfl | decide | omega) | (exact ltN (Nat.le_of_ble_eq_true rfl)) | (exact leN (Nat.le_of_ble_eq_true rfl)))); (conv => whnf))
      exact Rw (q (.cover p o e) ⟨hp, ho, hne, e0, by omega⟩) ⟨trivial, trivial, trivial, trivial, trivial⟩
  · conv => whnf
    repeat (refine Need.mk ?_ ?_; (focus (first | trivial | rfl | assumption | (exact Nat.le_trans (by assumption) le10) | (exact Nat.lt_of_le_of_lt (by assumption) lt10) | (show (0 : Int) < _; first | decide | omega) | (show (0 : Int) ≤ _; first | decide | omega) | (exact .inl ⟨by omega, by omega⟩) | (exact .inr ⟨by decide, by decide⟩) | (refine ⟨?_, ?_⟩ <;> first | rfl | decide | omega) | (refine ⟨?_, ?_, ?_⟩ <;> first | rfl | decide | omega) | (exact ltN (Nat.le_of_ble_eq_true rfl)) | (exact leN (Nat.le_of_ble_eq_true rfl)))); (conv => whnf))
    rw [List.length_map]
    refine ⟨_, rfl, ⟨by omega, by omega⟩, fun i i0 i1 => ?_⟩
    obtain ⟨p, hp, hpa⟩ := atI_ints (ns := ps) i0 (by omega)
    conv => whnf
    repeat (refine Need.mk ?_ ?_; (focus (first | trivial | rfl | assumption | (exact Nat.le_trans (by assumption) le10) | (exact Nat.lt_of_le_of_lt (by assumption) lt10) | (show (0 : Int) < _; first | decide | omega) | (show (0 : Int) ≤ _; first | decide | omega) | (exact .inl ⟨by omega, by omega⟩) | (exact .inr ⟨by decide, by decide⟩) | (refine ⟨?_, ?_⟩ <;> first | rfl | decide | omega) | (refine ⟨?_, ?_, ?_⟩ <;> first | rfl | decide | omega) | (exact ltN (Nat.le_of_ble_eq_true rfl)) | (exact leN (Nat.le_of_ble_eq_true rfl)))); (conv => whnf))
    refine optI hpa ?_
    conv => whnf
    repeat (refine Need.mk ?_ ?_; (focus (first | trivial | rfl | assumption | (exact Nat.le_trans (by assumption) le10) | (exact Nat.lt_of_le_of_lt (by assumption) lt10) | (show (0 : Int) < _; first | decide | omega) | (show (0 : Int) ≤ _; first | decide | omega) | (exact .inl ⟨by omega, by omega⟩) | (exact .inr ⟨by decide, by decide⟩) | (refine ⟨?_, ?_⟩ <;> first | rfl | decide | omega) | (refine ⟨?_, ?_, ?_⟩ <;> first | rfl | decide | omega) | (exact ltN (Nat.le_of_ble_eq_true rfl)) | (exact leN (Nat.le_of_ble_eq_true rfl)))); (conv => whnf))
    refine ⟨_, rfl, ⟨by omega, by omega⟩, fun c c0 c1 => ?_⟩
    conv => whnf
    repeat (refine Need.mk ?_ ?_; (focus (first | trivial | rfl | assumption | (exact Nat.le_trans (by assumption) le10) | (exact Nat.lt_of_le_of_lt (by assumption) lt10) | (show (0 : Int) < _; first | decide | omega) | (show (0 : Int) ≤ _; first | decide | omega) | (exact .inl ⟨by omega, by omega⟩) | (exact .inr ⟨by decide, by decide⟩) | (refine ⟨?_, ?_⟩ <;> first | rfl | decide | omega) | (refine ⟨?_, ?_, ?_⟩ <;> first | rfl | decide | omega) | (exact ltN (Nat.le_of_ble_eq_true rfl)) | (exact leN (Nat.le_of_ble_eq_true rfl)))); (conv => whnf))
    refine brd (fun hb => ?_) (fun hb => ?_)
    · have hb : ((ps.map D.int).length : Int) < 2 := hb
      rw [List.length_map] at hb
      conv => whnf
      repeat (refine Need.mk ?_ ?_; (focus (first | trivial | rfl | assumption | (exact Nat.le_trans (by assumption) le10) | (exact Nat.lt_of_le_of_lt (by assumption) lt10) | (show (0 : Int) < _; first | decide | omega) | (show (0 : Int) ≤ _; first | decide | omega) | (exact .inl ⟨by omega, by omega⟩) | (exact .inr ⟨by decide, by decide⟩) | (refine ⟨?_, ?_⟩ <;> first | rfl | decide | omega) | (refine ⟨?_, ?_, ?_⟩ <;> first | rfl | decide | omega) | (exact ltN (Nat.le_of_ble_eq_true rfl)) | (exact leN (Nat.le_of_ble_eq_true rfl)))); (conv => whnf))
      refine ⟨_, rfl, ⟨by (show 1 ≤ m - c; omega), by (show m - c < _; omega)⟩, fun k k0 k1 => ?_⟩
      have k1 : k < m - c := k1
      conv => whnf
      repeat (refine Need.mk ?_ ?_; (focus (first | trivial | rfl | assumption | (exact Nat.le_trans (by assumption) le10) | (exact Nat.lt_of_le_of_lt (by assumption) lt10) | (show (0 : Int) < _; first | decide | omega) | (show (0 : Int) ≤ _; first | decide | omega) | (exact .inl ⟨by omega, by omega⟩) | (exact .inr ⟨by decide, by decide⟩) | (refine ⟨?_, ?_⟩ <;> first | rfl | decide | omega) | (refine ⟨?_, ?_, ?_⟩ <;> first | rfl | decide | omega) | (exact ltN (Nat.le_of_ble_eq_true rfl)) | (exact leN (Nat.le_of_ble_eq_true rfl)))); (conv => whnf))
      refine ⟨1 + k, rfl, by omega, by omega, fun sh hs hg => ?_⟩
      conv => whnf
      repeat (refine Need.mk ?_ ?_; (focus (first | trivial | rfl | assumption | (exact Nat.le_trans (by assumption) le10) | (exact Nat.lt_of_le_of_lt (by assumption) lt10) | (show (0 : Int) < _; first | decide | omega) | (show (0 : Int) ≤ _; first | decide | omega) | (exact .inl ⟨by omega, by omega⟩) | (exact .inr ⟨by decide, by decide⟩) | (refine ⟨?_, ?_⟩ <;> first | rfl | decide | omega) | (refine ⟨?_, ?_, ?_⟩ <;> first | rfl | decide | omega) | (exact ltN (Nat.le_of_ble_eq_true rfl)) | (exact leN (Nat.le_of_ble_eq_true rfl)))); (conv => whnf))
      exact Rw (q (.scrape p c sh) ⟨hp, c0, by omega, by omega, hg⟩) (Fc.lt (f := .scrape p c sh))
    · have hb : ¬ ((ps.map D.int).length : Int) < 2 := hb
      rw [List.length_map] at hb
      conv => whnf
      repeat (refine Need.mk ?_ ?_; (focus (first | trivial | rfl | assumption | (exact Nat.le_trans (by assumption) le10) | (exact Nat.lt_of_le_of_lt (by assumption) lt10) | (show (0 : Int) < _; first | decide | omega) | (show (0 : Int) ≤ _; first | decide | omega) | (exact .inl ⟨by omega, by omega⟩) | (exact .inr ⟨by decide, by decide⟩) | (refine ⟨?_, ?_⟩ <;> first | rfl | decide | omega) | (refine ⟨?_, ?_, ?_⟩ <;> first | rfl | decide | omega) | (exact ltN (Nat.le_of_ble_eq_true rfl)) | (exact leN (Nat.le_of_ble_eq_true rfl)))); (conv => whnf))
      rw [List.length_map]
      refine ⟨_, rfl, ⟨by omega, by omega⟩, fun j j0 j1 => ?_⟩
      obtain ⟨o, ho, hoa⟩ := atI_ints (ns := ps) j0 (by omega)
      conv => whnf
      repeat (refine Need.mk ?_ ?_; (focus (first | trivial | rfl | assumption | (exact Nat.le_trans (by assumption) le10) | (exact Nat.lt_of_le_of_lt (by assumption) lt10) | (show (0 : Int) < _; first | decide | omega) | (show (0 : Int) ≤ _; first | decide | omega) | (exact .inl ⟨by omega, by omega⟩) | (exact .inr ⟨by decide, by decide⟩) | (refine ⟨?_, ?_⟩ <;> first | rfl | decide | omega) | (refine ⟨?_, ?_, ?_⟩ <;> first | rfl | decide | omega) | (exact ltN (Nat.le_of_ble_eq_true rfl)) | (exact leN (Nat.le_of_ble_eq_true rfl)))); (conv => whnf))
      refine optI hoa ?_
      conv => whnf
      repeat (refine Need.mk ?_ ?_; (focus (first | trivial | rfl | assumption | (exact Nat.le_trans (by assumption) le10) | (exact Nat.lt_of_le_of_lt (by assumption) lt10) | (show (0 : Int) < _; first | decide | omega) | (show (0 : Int) ≤ _; first | decide | omega) | (exact .inl ⟨by omega, by omega⟩) | (exact .inr ⟨by decide, by decide⟩) | (refine ⟨?_, ?_⟩ <;> first | rfl | decide | omega) | (refine ⟨?_, ?_, ?_⟩ <;> first | rfl | decide | omega) | (exact ltN (Nat.le_of_ble_eq_true rfl)) | (exact leN (Nat.le_of_ble_eq_true rfl)))); (conv => whnf))
      refine ⟨_, rfl, ⟨by omega, by omega⟩, fun d d0 d1 => ?_⟩
      conv => whnf
      repeat (refine Need.mk ?_ ?_; (focus (first | trivial | rfl | assumption | (exact Nat.le_trans (by assumption) le10) | (exact Nat.lt_of_le_of_lt (by assumption) lt10) | (show (0 : Int) < _; first | decide | omega) | (show (0 : Int) ≤ _; first | decide | omega) | (exact .inl ⟨by omega, by omega⟩) | (exact .inr ⟨by decide, by decide⟩) | (refine ⟨?_, ?_⟩ <;> first | rfl | decide | omega) | (refine ⟨?_, ?_, ?_⟩ <;> first | rfl | decide | omega) | (exact ltN (Nat.le_of_ble_eq_true rfl)) | (exact leN (Nat.le_of_ble_eq_true rfl)))); (conv => whnf))
      refine sM (fun s' S' => S' = [.drw] ∧ ∃ (o : Int) (z : Option D), o ∈ ps ∧ p ≠ o ∧ s' = [some (.ref 0), z, some (.int m), some (.str "moved"), some (.int p), some (.int c), none, some (.int o), some (.int d)]) ?_ ?_
      · conv => whnf
        repeat (refine Need.mk ?_ ?_; (focus (first | trivial | rfl | assumption | (exact Nat.le_trans (by assumption) le10) | (exact Nat.lt_of_le_of_lt (by assumption) lt10) | (show (0 : Int) < _; first | decide | omega) | (show (0 : Int) ≤ _; first | decide | omega) | (exact .inl ⟨by omega, by omega⟩) | (exact .inr ⟨by decide, by decide⟩) | (refine ⟨?_, ?_⟩ <;> first | rfl | decide | omega) | (refine ⟨?_, ?_, ?_⟩ <;> first | rfl | decide | omega) | (exact ltN (Nat.le_of_ble_eq_true rfl)) | (exact leN (Nat.le_of_ble_eq_true rfl)))); (conv => whnf))
        refine brd (fun hc => ?_) (fun hc => ?_)
        · obtain ⟨j, hj, hj1, o2, ho2, hne2, ha2⟩ := next_part hnd (by omega) hp
          conv => whnf
          repeat (refine Need.mk ?_ ?_; (focus (first | trivial | rfl | assumption | (exact Nat.le_trans (by assumption) le10) | (exact Nat.lt_of_le_of_lt (by assumption) lt10) | (show (0 : Int) < _; first | decide | omega) | (show (0 : Int) ≤ _; first | decide | omega) | (exact .inl ⟨by omega, by omega⟩) | (exact .inr ⟨by decide, by decide⟩) | (refine ⟨?_, ?_⟩ <;> first | rfl | decide | omega) | (refine ⟨?_, ?_, ?_⟩ <;> first | rfl | decide | omega) | (exact ltN (Nat.le_of_ble_eq_true rfl)) | (exact leN (Nat.le_of_ble_eq_true rfl)))); (conv => whnf))
          refine optI (asIs_ints ps) ?_
          refine optI hj1 ?_
          conv => whnf
          repeat (refine Need.mk ?_ ?_; (focus (first | trivial | rfl | assumption | (exact Nat.le_trans (by assumption) le10) | (exact Nat.lt_of_le_of_lt (by assumption) lt10) | (show (0 : Int) < _; first | decide | omega) | (show (0 : Int) ≤ _; first | decide | omega) | (exact .inl ⟨by omega, by omega⟩) | (exact .inr ⟨by decide, by decide⟩) | (refine ⟨?_, ?_⟩ <;> first | rfl | decide | omega) | (refine ⟨?_, ?_, ?_⟩ <;> first | rfl | decide | omega) | (exact ltN (Nat.le_of_ble_eq_true rfl)) | (exact leN (Nat.le_of_ble_eq_true rfl)))); (conv => whnf))
          rw [List.length_map]
          refine optI ha2 ?_
          conv => whnf
          repeat (refine Need.mk ?_ ?_; (focus (first | trivial | rfl | assumption | (exact Nat.le_trans (by assumption) le10) | (exact Nat.lt_of_le_of_lt (by assumption) lt10) | (show (0 : Int) < _; first | decide | omega) | (show (0 : Int) ≤ _; first | decide | omega) | (exact .inl ⟨by omega, by omega⟩) | (exact .inr ⟨by decide, by decide⟩) | (refine ⟨?_, ?_⟩ <;> first | rfl | decide | omega) | (refine ⟨?_, ?_, ?_⟩ <;> first | rfl | decide | omega) | (exact ltN (Nat.le_of_ble_eq_true rfl)) | (exact leN (Nat.le_of_ble_eq_true rfl)))); (conv => whnf))
          exact ⟨rfl, o2, _, ho2, fun z => hne2 z.symm, rfl⟩
        · conv => whnf
          repeat (refine Need.mk ?_ ?_; (focus (first | trivial | rfl | assumption | (exact Nat.le_trans (by assumption) le10) | (exact Nat.lt_of_le_of_lt (by assumption) lt10) | (show (0 : Int) < _; first | decide | omega) | (show (0 : Int) ≤ _; first | decide | omega) | (exact .inl ⟨by omega, by omega⟩) | (exact .inr ⟨by decide, by decide⟩) | (refine ⟨?_, ?_⟩ <;> first | rfl | decide | omega) | (refine ⟨?_, ?_, ?_⟩ <;> first | rfl | decide | omega) | (exact ltN (Nat.le_of_ble_eq_true rfl)) | (exact leN (Nat.le_of_ble_eq_true rfl)))); (conv => whnf))
          exact ⟨rfl, o, _, ho, hc, rfl⟩
      rintro s' S' ⟨rfl, o, z, ho, hne, rfl⟩
      conv => whnf
      repeat (refine Need.mk ?_ ?_; (focus (first | trivial | rfl | assumption | (exact Nat.le_trans (by assumption) le10) | (exact Nat.lt_of_le_of_lt (by assumption) lt10) | (show (0 : Int) < _; first | decide | omega) | (show (0 : Int) ≤ _; first | decide | omega) | (exact .inl ⟨by omega, by omega⟩) | (exact .inr ⟨by decide, by decide⟩) | (refine ⟨?_, ?_⟩ <;> first | rfl | decide | omega) | (refine ⟨?_, ?_, ?_⟩ <;> first | rfl | decide | omega) | (exact ltN (Nat.le_of_ble_eq_true rfl)) | (exact leN (Nat.le_of_ble_eq_true rfl)))); (conv => whnf))
      refine ⟨_, rfl, ⟨by omega, by omega⟩, fun e e0 e1 => ?_⟩
      conv => whnf
      repeat (refine Need.mk ?_ ?_; (focus (first | trivial | rfl | assumption | (exact Nat.le_trans (by assumption) le10) | (exact Nat.lt_of_le_of_lt (by assumption) lt10) | (show (0 : Int) < _; first | decide | omega) | (show (0 : Int) ≤ _; first | decide | omega) | (exact .inl ⟨by omega, by omega⟩) | (exact .inr ⟨by decide, by decide⟩) | (refine ⟨?_, ?_⟩ <;> first | rfl | decide | omega) | (refine ⟨?_, ?_, ?_⟩ <;> first | rfl | decide | omega) | (exact ltN (Nat.le_of_ble_eq_true rfl)) | (exact leN (Nat.le_of_ble_eq_true rfl)))); (conv => whnf))
      exact Rw (q (.moved p (1 + c) o e) ⟨hp, by omega, by omega, ho, hne, e0, by omega⟩) ⟨trivial, trivial, trivial, trivial, trivial, trivial⟩
  · conv => whnf
    repeat (refine Need.mk ?_ ?_; (focus (first | trivial | rfl | assumption | (exact Nat.le_trans (by assumption) le10) | (exact Nat.lt_of_le_of_lt (by assumption) lt10) | (show (0 : Int) < _; first | decide | omega) | (show (0 : Int) ≤ _; first | decide | omega) | (exact .inl ⟨by omega, by omega⟩) | (exact .inr ⟨by decide, by decide⟩) | (refine ⟨?_, ?_⟩ <;> first | rfl | decide | omega) | (refine ⟨?_, ?_, ?_⟩ <;> first | rfl | decide | omega) | (exact ltN (Nat.le_of_ble_eq_true rfl)) | (exact leN (Nat.le_of_ble_eq_true rfl)))); (conv => whnf))
    rw [List.length_map]
    refine ⟨_, rfl, ⟨by omega, by omega⟩, fun i i0 i1 => ?_⟩
    obtain ⟨p, hp, hpa⟩ := atI_ints (ns := ps) i0 (by omega)
    conv => whnf
    repeat (refine Need.mk ?_ ?_; (focus (first | trivial | rfl | assumption | (exact Nat.le_trans (by assumption) le10) | (exact Nat.lt_of_le_of_lt (by assumption) lt10) | (show (0 : Int) < _; first | decide | omega) | (show (0 : Int) ≤ _; first | decide | omega) | (exact .inl ⟨by omega, by omega⟩) | (exact .inr ⟨by decide, by decide⟩) | (refine ⟨?_, ?_⟩ <;> first | rfl | decide | omega) | (refine ⟨?_, ?_, ?_⟩ <;> first | rfl | decide | omega) | (exact ltN (Nat.le_of_ble_eq_true rfl)) | (exact leN (Nat.le_of_ble_eq_true rfl)))); (conv => whnf))
    refine optI hpa ?_
    conv => whnf
    repeat (refine Need.mk ?_ ?_; (focus (first | trivial | rfl | assumption | (exact Nat.le_trans (by assumption) le10) | (exact Nat.lt_of_le_of_lt (by assumption) lt10) | (show (0 : Int) < _; first | decide | omega) | (show (0 : Int) ≤ _; first | decide | omega) | (exact .inl ⟨by omega, by omega⟩) | (exact .inr ⟨by decide, by decide⟩) | (refine ⟨?_, ?_⟩ <;> first | rfl | decide | omega) | (refine ⟨?_, ?_, ?_⟩ <;> first | rfl | decide | omega) | (exact ltN (Nat.le_of_ble_eq_true rfl)) | (exact leN (Nat.le_of_ble_eq_true rfl)))); (conv => whnf))
    refine ⟨_, rfl, ⟨by omega, by omega⟩, fun c c0 c1 => ?_⟩
    conv => whnf
    repeat (refine Need.mk ?_ ?_; (focus (first | trivial | rfl | assumption | (exact Nat.le_trans (by assumption) le10) | (exact Nat.lt_of_le_of_lt (by assumption) lt10) | (show (0 : Int) < _; first | decide | omega) | (show (0 : Int) ≤ _; first | decide | omega) | (exact .inl ⟨by omega, by omega⟩) | (exact .inr ⟨by decide, by decide⟩) | (refine ⟨?_, ?_⟩ <;> first | rfl | decide | omega) | (refine ⟨?_, ?_, ?_⟩ <;> first | rfl | decide | omega) | (exact ltN (Nat.le_of_ble_eq_true rfl)) | (exact leN (Nat.le_of_ble_eq_true rfl)))); (conv => whnf))
    refine brd (fun hb => ?_) (fun hb => ?_)
    · have hb : ((ps.map D.int).length : Int) < 2 := hb
      rw [List.length_map] at hb
      conv => whnf
      repeat (refine Need.mk ?_ ?_; (focus (first | trivial | rfl | assumption | (exact Nat.le_trans (by assumption) le10) | (exact Nat.lt_of_le_of_lt (by assumption) lt10) | (show (0 : Int) < _; first | decide | omega) | (show (0 : Int) ≤ _; first | decide | omega) | (exact .inl ⟨by omega, by omega⟩) | (exact .inr ⟨by decide, by decide⟩) | (refine ⟨?_, ?_⟩ <;> first | rfl | decide | omega) | (refine ⟨?_, ?_, ?_⟩ <;> first | rfl | decide | omega) | (exact ltN (Nat.le_of_ble_eq_true rfl)) | (exact leN (Nat.le_of_ble_eq_true rfl)))); (conv => whnf))
      refine ⟨_, rfl, ⟨by omega, by omega⟩, fun b b0 b1 => ?_⟩
      obtain ⟨k, hk, hka⟩ := atI_two (lo := 1) (hi := 1000) b0 b1 (show (1 : Int) ≤ 9 ∧ (9 : Int) ≤ 1000 by decide) (show (1 : Int) ≤ 1000 ∧ (1000 : Int) ≤ 1000 by decide)
      conv => whnf
      repeat (refine Need.mk ?_ ?_; (focus (first | trivial | rfl | assumption | (exact Nat.le_trans (by assumption) le10) | (exact Nat.lt_of_le_of_lt (by assumption) lt10) | (show (0 : Int) < _; first | decide | omega) | (show (0 : Int) ≤ _; first | decide | omega) | (exact .inl ⟨by omega, by omega⟩) | (exact .inr ⟨by decide, by decide⟩) | (refine ⟨?_, ?_⟩ <;> first | rfl | decide | omega) | (refine ⟨?_, ?_, ?_⟩ <;> first | rfl | decide | omega) | (exact ltN (Nat.le_of_ble_eq_true rfl)) | (exact leN (Nat.le_of_ble_eq_true rfl)))); (conv => whnf))
      refine optI hka ?_
      conv => whnf
      repeat (refine Need.mk ?_ ?_; (focus (first | trivial | rfl | assumption | (exact Nat.le_trans (by assumption) le10) | (exact Nat.lt_of_le_of_lt (by assumption) lt10) | (show (0 : Int) < _; first | decide | omega) | (show (0 : Int) ≤ _; first | decide | omega) | (exact .inl ⟨by omega, by omega⟩) | (exact .inr ⟨by decide, by decide⟩) | (refine ⟨?_, ?_⟩ <;> first | rfl | decide | omega) | (refine ⟨?_, ?_, ?_⟩ <;> first | rfl | decide | omega) | (exact ltN (Nat.le_of_ble_eq_true rfl)) | (exact leN (Nat.le_of_ble_eq_true rfl)))); (conv => whnf))
      refine ⟨_, rfl, ⟨by omega, by omega⟩, fun f f0 f1 => ?_⟩
      conv => whnf
      repeat (refine Need.mk ?_ ?_; (focus (first | trivial | rfl | assumption | (exact Nat.le_trans (by assumption) le10) | (exact Nat.lt_of_le_of_lt (by assumption) lt10) | (show (0 : Int) < _; first | decide | omega) | (show (0 : Int) ≤ _; first | decide | omega) | (exact .inl ⟨by omega, by omega⟩) | (exact .inr ⟨by decide, by decide⟩) | (refine ⟨?_, ?_⟩ <;> first | rfl | decide | omega) | (refine ⟨?_, ?_, ?_⟩ <;> first | rfl | decide | omega) | (exact ltN (Nat.le_of_ble_eq_true rfl)) | (exact leN (Nat.le_of_ble_eq_true rfl)))); (conv => whnf))
      refine ⟨_, rfl, ⟨by omega, by omega⟩, fun b b0 b1 => ?_⟩
      obtain ⟨k2, hk2, hka2⟩ := atI_two (lo := 1) (hi := 1000) b0 b1 (show (1 : Int) ≤ 3 ∧ (3 : Int) ≤ 1000 by decide) (show (1 : Int) ≤ 400 ∧ (400 : Int) ≤ 1000 by decide)
      conv => whnf
      repeat (refine Need.mk ?_ ?_; (focus (first | trivial | rfl | assumption | (exact Nat.le_trans (by assumption) le10) | (exact Nat.lt_of_le_of_lt (by assumption) lt10) | (show (0 : Int) < _; first | decide | omega) | (show (0 : Int) ≤ _; first | decide | omega) | (exact .inl ⟨by omega, by omega⟩) | (exact .inr ⟨by decide, by decide⟩) | (refine ⟨?_, ?_⟩ <;> first | rfl | decide | omega) | (refine ⟨?_, ?_, ?_⟩ <;> first | rfl | decide | omega) | (exact ltN (Nat.le_of_ble_eq_true rfl)) | (exact leN (Nat.le_of_ble_eq_true rfl)))); (conv => whnf))
      refine optI hka2 ?_
      conv => whnf
      repeat (refine Need.mk ?_ ?_; (focus (first | trivial | rfl | assumption | (exact Nat.le_trans (by assumption) le10) | (exact Nat.lt_of_le_of_lt (by assumption) lt10) | (show (0 : Int) < _; first | decide | omega) | (show (0 : Int) ≤ _; first | decide | omega) | (exact .inl ⟨by omega, by omega⟩) | (exact .inr ⟨by decide, by decide⟩) | (refine ⟨?_, ?_⟩ <;> first | rfl | decide | omega) | (refine ⟨?_, ?_, ?_⟩ <;> first | rfl | decide | omega) | (exact ltN (Nat.le_of_ble_eq_true rfl)) | (exact leN (Nat.le_of_ble_eq_true rfl)))); (conv => whnf))
      refine ⟨_, rfl, ⟨by omega, by omega⟩, fun z z0 z1 => ?_⟩
      conv => whnf
      repeat (refine Need.mk ?_ ?_; (focus (first | trivial | rfl | assumption | (exact Nat.le_trans (by assumption) le10) | (exact Nat.lt_of_le_of_lt (by assumption) lt10) | (show (0 : Int) < _; first | decide | omega) | (show (0 : Int) ≤ _; first | decide | omega) | (exact .inl ⟨by omega, by omega⟩) | (exact .inr ⟨by decide, by decide⟩) | (refine ⟨?_, ?_⟩ <;> first | rfl | decide | omega) | (refine ⟨?_, ?_, ?_⟩ <;> first | rfl | decide | omega) | (exact ltN (Nat.le_of_ble_eq_true rfl)) | (exact leN (Nat.le_of_ble_eq_true rfl)))); (conv => whnf))
      exact Rw (q (.year p c f (if f + z < 999 then f + z else 999)) ⟨hp, c0, c1, f0, by split <;> omega, by split <;> omega⟩) ⟨trivial, trivial, trivial, trivial, trivial, trivial⟩
    · have hb : ¬ ((ps.map D.int).length : Int) < 2 := hb
      rw [List.length_map] at hb
      conv => whnf
      repeat (refine Need.mk ?_ ?_; (focus (first | trivial | rfl | assumption | (exact Nat.le_trans (by assumption) le10) | (exact Nat.lt_of_le_of_lt (by assumption) lt10) | (show (0 : Int) < _; first | decide | omega) | (show (0 : Int) ≤ _; first | decide | omega) | (exact .inl ⟨by omega, by omega⟩) | (exact .inr ⟨by decide, by decide⟩) | (refine ⟨?_, ?_⟩ <;> first | rfl | decide | omega) | (refine ⟨?_, ?_, ?_⟩ <;> first | rfl | decide | omega) | (exact ltN (Nat.le_of_ble_eq_true rfl)) | (exact leN (Nat.le_of_ble_eq_true rfl)))); (conv => whnf))
      refine ⟨_, rfl, ⟨by omega, by omega⟩, fun b b0 b1 => ?_⟩
      obtain ⟨k, hk, hka⟩ := atI_two (lo := 1) (hi := 1000) b0 b1 (show (1 : Int) ≤ 9 ∧ (9 : Int) ≤ 1000 by decide) (show (1 : Int) ≤ 1000 ∧ (1000 : Int) ≤ 1000 by decide)
      conv => whnf
      repeat (refine Need.mk ?_ ?_; (focus (first | trivial | rfl | assumption | (exact Nat.le_trans (by assumption) le10) | (exact Nat.lt_of_le_of_lt (by assumption) lt10) | (show (0 : Int) < _; first | decide | omega) | (show (0 : Int) ≤ _; first | decide | omega) | (exact .inl ⟨by omega, by omega⟩) | (exact .inr ⟨by decide, by decide⟩) | (refine ⟨?_, ?_⟩ <;> first | rfl | decide | omega) | (refine ⟨?_, ?_, ?_⟩ <;> first | rfl | decide | omega) | (exact ltN (Nat.le_of_ble_eq_true rfl)) | (exact leN (Nat.le_of_ble_eq_true rfl)))); (conv => whnf))
      refine optI hka ?_
      conv => whnf
      repeat (refine Need.mk ?_ ?_; (focus (first | trivial | rfl | assumption | (exact Nat.le_trans (by assumption) le10) | (exact Nat.lt_of_le_of_lt (by assumption) lt10) | (show (0 : Int) < _; first | decide | omega) | (show (0 : Int) ≤ _; first | decide | omega) | (exact .inl ⟨by omega, by omega⟩) | (exact .inr ⟨by decide, by decide⟩) | (refine ⟨?_, ?_⟩ <;> first | rfl | decide | omega) | (refine ⟨?_, ?_, ?_⟩ <;> first | rfl | decide | omega) | (exact ltN (Nat.le_of_ble_eq_true rfl)) | (exact leN (Nat.le_of_ble_eq_true rfl)))); (conv => whnf))
      refine ⟨_, rfl, ⟨by omega, by omega⟩, fun f f0 f1 => ?_⟩
      conv => whnf
      repeat (refine Need.mk ?_ ?_; (focus (first | trivial | rfl | assumption | (exact Nat.le_trans (by assumption) le10) | (exact Nat.lt_of_le_of_lt (by assumption) lt10) | (show (0 : Int) < _; first | decide | omega) | (show (0 : Int) ≤ _; first | decide | omega) | (exact .inl ⟨by omega, by omega⟩) | (exact .inr ⟨by decide, by decide⟩) | (refine ⟨?_, ?_⟩ <;> first | rfl | decide | omega) | (refine ⟨?_, ?_, ?_⟩ <;> first | rfl | decide | omega) | (exact ltN (Nat.le_of_ble_eq_true rfl)) | (exact leN (Nat.le_of_ble_eq_true rfl)))); (conv => whnf))
      refine ⟨_, rfl, ⟨by omega, by omega⟩, fun b b0 b1 => ?_⟩
      obtain ⟨k2, hk2, hka2⟩ := atI_two (lo := 1) (hi := 1000) b0 b1 (show (1 : Int) ≤ 3 ∧ (3 : Int) ≤ 1000 by decide) (show (1 : Int) ≤ 400 ∧ (400 : Int) ≤ 1000 by decide)
      conv => whnf
      repeat (refine Need.mk ?_ ?_; (focus (first | trivial | rfl | assumption | (exact Nat.le_trans (by assumption) le10) | (exact Nat.lt_of_le_of_lt (by assumption) lt10) | (show (0 : Int) < _; first | decide | omega) | (show (0 : Int) ≤ _; first | decide | omega) | (exact .inl ⟨by omega, by omega⟩) | (exact .inr ⟨by decide, by decide⟩) | (refine ⟨?_, ?_⟩ <;> first | rfl | decide | omega) | (refine ⟨?_, ?_, ?_⟩ <;> first | rfl | decide | omega) | (exact ltN (Nat.le_of_ble_eq_true rfl)) | (exact leN (Nat.le_of_ble_eq_true rfl)))); (conv => whnf))
      refine optI hka2 ?_
      conv => whnf
      repeat (refine Need.mk ?_ ?_; (focus (first | trivial | rfl | assumption | (exact Nat.le_trans (by assumption) le10) | (exact Nat.lt_of_le_of_lt (by assumption) lt10) | (show (0 : Int) < _; first | decide | omega) | (show (0 : Int) ≤ _; first | decide | omega) | (exact .inl ⟨by omega, by omega⟩) | (exact .inr ⟨by decide, by decide⟩) | (refine ⟨?_, ?_⟩ <;> first | rfl | decide | omega) | (refine ⟨?_, ?_, ?_⟩ <;> first | rfl | decide | omega) | (exact ltN (Nat.le_of_ble_eq_true rfl)) | (exact leN (Nat.le_of_ble_eq_true rfl)))); (conv => whnf))
      refine ⟨_, rfl, ⟨by omega, by omega⟩, fun z z0 z1 => ?_⟩
      conv => whnf
      repeat (refine Need.mk ?_ ?_; (focus (first | trivial | rfl | assumption | (exact Nat.le_trans (by assumption) le10) | (exact Nat.lt_of_le_of_lt (by assumption) lt10) | (show (0 : Int) < _; first | decide | omega) | (show (0 : Int) ≤ _; first | decide | omega) | (exact .inl ⟨by omega, by omega⟩) | (exact .inr ⟨by decide, by decide⟩) | (refine ⟨?_, ?_⟩ <;> first | rfl | decide | omega) | (refine ⟨?_, ?_, ?_⟩ <;> first | rfl | decide | omega) | (exact ltN (Nat.le_of_ble_eq_true rfl)) | (exact leN (Nat.le_of_ble_eq_true rfl)))); (conv => whnf))
      exact Rw (q (.year p c f (if f + z < 999 then f + z else 999)) ⟨hp, c0, c1, f0, by split <;> omega, by split <;> omega⟩) ⟨trivial, trivial, trivial, trivial, trivial, trivial⟩
  · conv => whnf
    repeat (refine Need.mk ?_ ?_; (focus (first | trivial | rfl | assumption | (exact Nat.le_trans (by assumption) le10) | (exact Nat.lt_of_le_of_lt (by assumption) lt10) | (show (0 : Int) < _; first | decide | omega) | (show (0 : Int) ≤ _; first | decide | omega) | (exact .inl ⟨by omega, by omega⟩) | (exact .inr ⟨by decide, by decide⟩) | (refine ⟨?_, ?_⟩ <;> first | rfl | decide | omega) | (refine ⟨?_, ?_, ?_⟩ <;> first | rfl | decide | omega) | (exact ltN (Nat.le_of_ble_eq_true rfl)) | (exact leN (Nat.le_of_ble_eq_true rfl)))); (conv => whnf))
    rw [List.length_map]
    refine ⟨_, rfl, ⟨by omega, by omega⟩, fun i i0 i1 => ?_⟩
    obtain ⟨p, hp, hpa⟩ := atI_ints (ns := ps) i0 (by omega)
    conv => whnf
    repeat (refine Need.mk ?_ ?_; (focus (first | trivial | rfl | assumption | (exact Nat.le_trans (by assumption) le10) | (exact Nat.lt_of_le_of_lt (by assumption) lt10) | (show (0 : Int) < _; first | decide | omega) | (show (0 : Int) ≤ _; first | decide | omega) | (exact .inl ⟨by omega, by omega⟩) | (exact .inr ⟨by decide, by decide⟩) | (refine ⟨?_, ?_⟩ <;> first | rfl | decide | omega) | (refine ⟨?_, ?_, ?_⟩ <;> first | rfl | decide | omega) | (exact ltN (Nat.le_of_ble_eq_true rfl)) | (exact leN (Nat.le_of_ble_eq_true rfl)))); (conv => whnf))
    refine optI hpa ?_
    conv => whnf
    repeat (refine Need.mk ?_ ?_; (focus (first | trivial | rfl | assumption | (exact Nat.le_trans (by assumption) le10) | (exact Nat.lt_of_le_of_lt (by assumption) lt10) | (show (0 : Int) < _; first | decide | omega) | (show (0 : Int) ≤ _; first | decide | omega) | (exact .inl ⟨by omega, by omega⟩) | (exact .inr ⟨by decide, by decide⟩) | (refine ⟨?_, ?_⟩ <;> first | rfl | decide | omega) | (refine ⟨?_, ?_, ?_⟩ <;> first | rfl | decide | omega) | (exact ltN (Nat.le_of_ble_eq_true rfl)) | (exact leN (Nat.le_of_ble_eq_true rfl)))); (conv => whnf))
    refine ⟨_, rfl, ⟨by omega, by omega⟩, fun c c0 c1 => ?_⟩
    conv => whnf
    repeat (refine Need.mk ?_ ?_; (focus (first | trivial | rfl | assumption | (exact Nat.le_trans (by assumption) le10) | (exact Nat.lt_of_le_of_lt (by assumption) lt10) | (show (0 : Int) < _; first | decide | omega) | (show (0 : Int) ≤ _; first | decide | omega) | (exact .inl ⟨by omega, by omega⟩) | (exact .inr ⟨by decide, by decide⟩) | (refine ⟨?_, ?_⟩ <;> first | rfl | decide | omega) | (refine ⟨?_, ?_, ?_⟩ <;> first | rfl | decide | omega) | (exact ltN (Nat.le_of_ble_eq_true rfl)) | (exact leN (Nat.le_of_ble_eq_true rfl)))); (conv => whnf))
    refine brd (fun hb => ?_) (fun hb => ?_)
    · have hb : ((ps.map D.int).length : Int) < 2 := hb
      rw [List.length_map] at hb
      conv => whnf
      repeat (refine Need.mk ?_ ?_; (focus (first | trivial | rfl | assumption | (exact Nat.le_trans (by assumption) le10) | (exact Nat.lt_of_le_of_lt (by assumption) lt10) | (show (0 : Int) < _; first | decide | omega) | (show (0 : Int) ≤ _; first | decide | omega) | (exact .inl ⟨by omega, by omega⟩) | (exact .inr ⟨by decide, by decide⟩) | (refine ⟨?_, ?_⟩ <;> first | rfl | decide | omega) | (refine ⟨?_, ?_, ?_⟩ <;> first | rfl | decide | omega) | (exact ltN (Nat.le_of_ble_eq_true rfl)) | (exact leN (Nat.le_of_ble_eq_true rfl)))); (conv => whnf))
      refine ⟨_, rfl, ⟨by omega, by omega⟩, fun b b0 b1 => ?_⟩
      conv => whnf
      repeat (refine Need.mk ?_ ?_; (focus (first | trivial | rfl | assumption | (exact Nat.le_trans (by assumption) le10) | (exact Nat.lt_of_le_of_lt (by assumption) lt10) | (show (0 : Int) < _; first | decide | omega) | (show (0 : Int) ≤ _; first | decide | omega) | (exact .inl ⟨by omega, by omega⟩) | (exact .inr ⟨by decide, by decide⟩) | (refine ⟨?_, ?_⟩ <;> first | rfl | decide | omega) | (refine ⟨?_, ?_, ?_⟩ <;> first | rfl | decide | omega) | (exact ltN (Nat.le_of_ble_eq_true rfl)) | (exact leN (Nat.le_of_ble_eq_true rfl)))); (conv => whnf))
      refine ⟨_, rfl, ⟨by omega, by omega⟩, fun b2 b20 b21 => ?_⟩
      obtain ⟨k, hk, hka⟩ := atI_two (lo := 1) (hi := 1000) b20 b21 (show (1 : Int) ≤ 9 ∧ (9 : Int) ≤ 1000 by decide) (show (1 : Int) ≤ 1000 ∧ (1000 : Int) ≤ 1000 by decide)
      conv => whnf
      repeat (refine Need.mk ?_ ?_; (focus (first | trivial | rfl | assumption | (exact Nat.le_trans (by assumption) le10) | (exact Nat.lt_of_le_of_lt (by assumption) lt10) | (show (0 : Int) < _; first | decide | omega) | (show (0 : Int) ≤ _; first | decide | omega) | (exact .inl ⟨by omega, by omega⟩) | (exact .inr ⟨by decide, by decide⟩) | (refine ⟨?_, ?_⟩ <;> first | rfl | decide | omega) | (refine ⟨?_, ?_, ?_⟩ <;> first | rfl | decide | omega) | (exact ltN (Nat.le_of_ble_eq_true rfl)) | (exact leN (Nat.le_of_ble_eq_true rfl)))); (conv => whnf))
      refine optI hka ?_
      conv => whnf
      repeat (refine Need.mk ?_ ?_; (focus (first | trivial | rfl | assumption | (exact Nat.le_trans (by assumption) le10) | (exact Nat.lt_of_le_of_lt (by assumption) lt10) | (show (0 : Int) < _; first | decide | omega) | (show (0 : Int) ≤ _; first | decide | omega) | (exact .inl ⟨by omega, by omega⟩) | (exact .inr ⟨by decide, by decide⟩) | (refine ⟨?_, ?_⟩ <;> first | rfl | decide | omega) | (refine ⟨?_, ?_, ?_⟩ <;> first | rfl | decide | omega) | (exact ltN (Nat.le_of_ble_eq_true rfl)) | (exact leN (Nat.le_of_ble_eq_true rfl)))); (conv => whnf))
      refine ⟨_, rfl, ⟨by omega, by omega⟩, fun y y0 y1 => ?_⟩
      conv => whnf
      repeat (refine Need.mk ?_ ?_; (focus (first | trivial | rfl | assumption | (exact Nat.le_trans (by assumption) le10) | (exact Nat.lt_of_le_of_lt (by assumption) lt10) | (show (0 : Int) < _; first | decide | omega) | (show (0 : Int) ≤ _; first | decide | omega) | (exact .inl ⟨by omega, by omega⟩) | (exact .inr ⟨by decide, by decide⟩) | (refine ⟨?_, ?_⟩ <;> first | rfl | decide | omega) | (refine ⟨?_, ?_, ?_⟩ <;> first | rfl | decide | omega) | (exact ltN (Nat.le_of_ble_eq_true rfl)) | (exact leN (Nat.le_of_ble_eq_true rfl)))); (conv => whnf))
      exact Rw (q (.sold (1 + b) y) ⟨by omega, by omega, y0, by omega⟩) ⟨trivial, trivial, trivial, trivial⟩
    · have hb : ¬ ((ps.map D.int).length : Int) < 2 := hb
      rw [List.length_map] at hb
      conv => whnf
      repeat (refine Need.mk ?_ ?_; (focus (first | trivial | rfl | assumption | (exact Nat.le_trans (by assumption) le10) | (exact Nat.lt_of_le_of_lt (by assumption) lt10) | (show (0 : Int) < _; first | decide | omega) | (show (0 : Int) ≤ _; first | decide | omega) | (exact .inl ⟨by omega, by omega⟩) | (exact .inr ⟨by decide, by decide⟩) | (refine ⟨?_, ?_⟩ <;> first | rfl | decide | omega) | (refine ⟨?_, ?_, ?_⟩ <;> first | rfl | decide | omega) | (exact ltN (Nat.le_of_ble_eq_true rfl)) | (exact leN (Nat.le_of_ble_eq_true rfl)))); (conv => whnf))
      refine ⟨_, rfl, ⟨by omega, by omega⟩, fun b b0 b1 => ?_⟩
      conv => whnf
      repeat (refine Need.mk ?_ ?_; (focus (first | trivial | rfl | assumption | (exact Nat.le_trans (by assumption) le10) | (exact Nat.lt_of_le_of_lt (by assumption) lt10) | (show (0 : Int) < _; first | decide | omega) | (show (0 : Int) ≤ _; first | decide | omega) | (exact .inl ⟨by omega, by omega⟩) | (exact .inr ⟨by decide, by decide⟩) | (refine ⟨?_, ?_⟩ <;> first | rfl | decide | omega) | (refine ⟨?_, ?_, ?_⟩ <;> first | rfl | decide | omega) | (exact ltN (Nat.le_of_ble_eq_true rfl)) | (exact leN (Nat.le_of_ble_eq_true rfl)))); (conv => whnf))
      refine ⟨_, rfl, ⟨by omega, by omega⟩, fun b2 b20 b21 => ?_⟩
      obtain ⟨k, hk, hka⟩ := atI_two (lo := 1) (hi := 1000) b20 b21 (show (1 : Int) ≤ 9 ∧ (9 : Int) ≤ 1000 by decide) (show (1 : Int) ≤ 1000 ∧ (1000 : Int) ≤ 1000 by decide)
      conv => whnf
      repeat (refine Need.mk ?_ ?_; (focus (first | trivial | rfl | assumption | (exact Nat.le_trans (by assumption) le10) | (exact Nat.lt_of_le_of_lt (by assumption) lt10) | (show (0 : Int) < _; first | decide | omega) | (show (0 : Int) ≤ _; first | decide | omega) | (exact .inl ⟨by omega, by omega⟩) | (exact .inr ⟨by decide, by decide⟩) | (refine ⟨?_, ?_⟩ <;> first | rfl | decide | omega) | (refine ⟨?_, ?_, ?_⟩ <;> first | rfl | decide | omega) | (exact ltN (Nat.le_of_ble_eq_true rfl)) | (exact leN (Nat.le_of_ble_eq_true rfl)))); (conv => whnf))
      refine optI hka ?_
      conv => whnf
      repeat (refine Need.mk ?_ ?_; (focus (first | trivial | rfl | assumption | (exact Nat.le_trans (by assumption) le10) | (exact Nat.lt_of_le_of_lt (by assumption) lt10) | (show (0 : Int) < _; first | decide | omega) | (show (0 : Int) ≤ _; first | decide | omega) | (exact .inl ⟨by omega, by omega⟩) | (exact .inr ⟨by decide, by decide⟩) | (refine ⟨?_, ?_⟩ <;> first | rfl | decide | omega) | (refine ⟨?_, ?_, ?_⟩ <;> first | rfl | decide | omega) | (exact ltN (Nat.le_of_ble_eq_true rfl)) | (exact leN (Nat.le_of_ble_eq_true rfl)))); (conv => whnf))
      refine ⟨_, rfl, ⟨by omega, by omega⟩, fun y y0 y1 => ?_⟩
      conv => whnf
      repeat (refine Need.mk ?_ ?_; (focus (first | trivial | rfl | assumption | (exact Nat.le_trans (by assumption) le10) | (exact Nat.lt_of_le_of_lt (by assumption) lt10) | (show (0 : Int) < _; first | decide | omega) | (show (0 : Int) ≤ _; first | decide | omega) | (exact .inl ⟨by omega, by omega⟩) | (exact .inr ⟨by decide, by decide⟩) | (refine ⟨?_, ?_⟩ <;> first | rfl | decide | omega) | (refine ⟨?_, ?_, ?_⟩ <;> first | rfl | decide | omega) | (exact ltN (Nat.le_of_ble_eq_true rfl)) | (exact leN (Nat.le_of_ble_eq_true rfl)))); (conv => whnf))
      exact Rw (q (.sold (1 + b) y) ⟨by omega, by omega, y0, by omega⟩) ⟨trivial, trivial, trivial, trivial⟩
  · conv => whnf
    repeat (refine Need.mk ?_ ?_; (focus (first | trivial | rfl | assumption | (exact Nat.le_trans (by assumption) le10) | (exact Nat.lt_of_le_of_lt (by assumption) lt10) | (show (0 : Int) < _; first | decide | omega) | (show (0 : Int) ≤ _; first | decide | omega) | (exact .inl ⟨by omega, by omega⟩) | (exact .inr ⟨by decide, by decide⟩) | (refine ⟨?_, ?_⟩ <;> first | rfl | decide | omega) | (refine ⟨?_, ?_, ?_⟩ <;> first | rfl | decide | omega) | (exact ltN (Nat.le_of_ble_eq_true rfl)) | (exact leN (Nat.le_of_ble_eq_true rfl)))); (conv => whnf))
    rw [List.length_map]
    refine ⟨_, rfl, ⟨by omega, by omega⟩, fun i i0 i1 => ?_⟩
    obtain ⟨p, hp, hpa⟩ := atI_ints (ns := ps) i0 (by omega)
    conv => whnf
    repeat (refine Need.mk ?_ ?_; (focus (first | trivial | rfl | assumption | (exact Nat.le_trans (by assumption) le10) | (exact Nat.lt_of_le_of_lt (by assumption) lt10) | (show (0 : Int) < _; first | decide | omega) | (show (0 : Int) ≤ _; first | decide | omega) | (exact .inl ⟨by omega, by omega⟩) | (exact .inr ⟨by decide, by decide⟩) | (refine ⟨?_, ?_⟩ <;> first | rfl | decide | omega) | (refine ⟨?_, ?_, ?_⟩ <;> first | rfl | decide | omega) | (exact ltN (Nat.le_of_ble_eq_true rfl)) | (exact leN (Nat.le_of_ble_eq_true rfl)))); (conv => whnf))
    refine optI hpa ?_
    conv => whnf
    repeat (refine Need.mk ?_ ?_; (focus (first | trivial | rfl | assumption | (exact Nat.le_trans (by assumption) le10) | (exact Nat.lt_of_le_of_lt (by assumption) lt10) | (show (0 : Int) < _; first | decide | omega) | (show (0 : Int) ≤ _; first | decide | omega) | (exact .inl ⟨by omega, by omega⟩) | (exact .inr ⟨by decide, by decide⟩) | (refine ⟨?_, ?_⟩ <;> first | rfl | decide | omega) | (refine ⟨?_, ?_, ?_⟩ <;> first | rfl | decide | omega) | (exact ltN (Nat.le_of_ble_eq_true rfl)) | (exact leN (Nat.le_of_ble_eq_true rfl)))); (conv => whnf))
    refine ⟨_, rfl, ⟨by omega, by omega⟩, fun c c0 c1 => ?_⟩
    conv => whnf
    repeat (refine Need.mk ?_ ?_; (focus (first | trivial | rfl | assumption | (exact Nat.le_trans (by assumption) le10) | (exact Nat.lt_of_le_of_lt (by assumption) lt10) | (show (0 : Int) < _; first | decide | omega) | (show (0 : Int) ≤ _; first | decide | omega) | (exact .inl ⟨by omega, by omega⟩) | (exact .inr ⟨by decide, by decide⟩) | (refine ⟨?_, ?_⟩ <;> first | rfl | decide | omega) | (refine ⟨?_, ?_, ?_⟩ <;> first | rfl | decide | omega) | (exact ltN (Nat.le_of_ble_eq_true rfl)) | (exact leN (Nat.le_of_ble_eq_true rfl)))); (conv => whnf))
    refine brd (fun hb => ?_) (fun hb => ?_)
    · have hb : ((ps.map D.int).length : Int) < 2 := hb
      rw [List.length_map] at hb
      conv => whnf
      repeat (refine Need.mk ?_ ?_; (focus (first | trivial | rfl | assumption | (exact Nat.le_trans (by assumption) le10) | (exact Nat.lt_of_le_of_lt (by assumption) lt10) | (show (0 : Int) < _; first | decide | omega) | (show (0 : Int) ≤ _; first | decide | omega) | (exact .inl ⟨by omega, by omega⟩) | (exact .inr ⟨by decide, by decide⟩) | (refine ⟨?_, ?_⟩ <;> first | rfl | decide | omega) | (refine ⟨?_, ?_, ?_⟩ <;> first | rfl | decide | omega) | (exact ltN (Nat.le_of_ble_eq_true rfl)) | (exact leN (Nat.le_of_ble_eq_true rfl)))); (conv => whnf))
      rw [List.length_map]
      refine ⟨_, rfl, ⟨by omega, by omega⟩, fun j j0 j1 => ?_⟩
      obtain ⟨o, ho, hoa⟩ := atI_ints (ns := ps) j0 (by omega)
      conv => whnf
      repeat (refine Need.mk ?_ ?_; (focus (first | trivial | rfl | assumption | (exact Nat.le_trans (by assumption) le10) | (exact Nat.lt_of_le_of_lt (by assumption) lt10) | (show (0 : Int) < _; first | decide | omega) | (show (0 : Int) ≤ _; first | decide | omega) | (exact .inl ⟨by omega, by omega⟩) | (exact .inr ⟨by decide, by decide⟩) | (refine ⟨?_, ?_⟩ <;> first | rfl | decide | omega) | (refine ⟨?_, ?_, ?_⟩ <;> first | rfl | decide | omega) | (exact ltN (Nat.le_of_ble_eq_true rfl)) | (exact leN (Nat.le_of_ble_eq_true rfl)))); (conv => whnf))
      refine optI hoa ?_
      conv => whnf
      repeat (refine Need.mk ?_ ?_; (focus (first | trivial | rfl | assumption | (exact Nat.le_trans (by assumption) le10) | (exact Nat.lt_of_le_of_lt (by assumption) lt10) | (show (0 : Int) < _; first | decide | omega) | (show (0 : Int) ≤ _; first | decide | omega) | (exact .inl ⟨by omega, by omega⟩) | (exact .inr ⟨by decide, by decide⟩) | (refine ⟨?_, ?_⟩ <;> first | rfl | decide | omega) | (refine ⟨?_, ?_, ?_⟩ <;> first | rfl | decide | omega) | (exact ltN (Nat.le_of_ble_eq_true rfl)) | (exact leN (Nat.le_of_ble_eq_true rfl)))); (conv => whnf))
      refine ⟨_, rfl, ⟨by omega, by omega⟩, fun d d0 d1 => ?_⟩
      conv => whnf
      repeat (refine Need.mk ?_ ?_; (focus (first | trivial | rfl | assumption | (exact Nat.le_trans (by assumption) le10) | (exact Nat.lt_of_le_of_lt (by assumption) lt10) | (show (0 : Int) < _; first | decide | omega) | (show (0 : Int) ≤ _; first | decide | omega) | (exact .inl ⟨by omega, by omega⟩) | (exact .inr ⟨by decide, by decide⟩) | (refine ⟨?_, ?_⟩ <;> first | rfl | decide | omega) | (refine ⟨?_, ?_, ?_⟩ <;> first | rfl | decide | omega) | (exact ltN (Nat.le_of_ble_eq_true rfl)) | (exact leN (Nat.le_of_ble_eq_true rfl)))); (conv => whnf))
      by_cases he : p = o ∧ c = d
      · refine lifT (by show D.eqd (.tup [.int p, .int c]) (.tup [.int o, .int d]) = true; rw [eqd_pair]; exact decide_eq_true he) ?_
        conv => whnf
        repeat (refine Need.mk ?_ ?_; (focus (first | trivial | rfl | assumption | (exact Nat.le_trans (by assumption) le10) | (exact Nat.lt_of_le_of_lt (by assumption) lt10) | (show (0 : Int) < _; first | decide | omega) | (show (0 : Int) ≤ _; first | decide | omega) | (exact .inl ⟨by omega, by omega⟩) | (exact .inr ⟨by decide, by decide⟩) | (refine ⟨?_, ?_⟩ <;> first | rfl | decide | omega) | (refine ⟨?_, ?_, ?_⟩ <;> first | rfl | decide | omega) | (exact ltN (Nat.le_of_ble_eq_true rfl)) | (exact leN (Nat.le_of_ble_eq_true rfl)))); (conv => whnf))
        exact Rw (q (.year p c 0 999) ⟨hp, c0, c1, by decide, by decide, by decide⟩) ⟨trivial, trivial, trivial, trivial, trivial, trivial⟩
      · refine lifF (by show D.eqd (.tup [.int p, .int c]) (.tup [.int o, .int d]) = false; rw [eqd_pair]; exact decide_eq_false he) ?_
        conv => whnf
        repeat (refine Need.mk ?_ ?_; (focus (first | trivial | rfl | assumption | (exact Nat.le_trans (by assumption) le10) | (exact Nat.lt_of_le_of_lt (by assumption) lt10) | (show (0 : Int) < _; first | decide | omega) | (show (0 : Int) ≤ _; first | decide | omega) | (exact .inl ⟨by omega, by omega⟩) | (exact .inr ⟨by decide, by decide⟩) | (refine ⟨?_, ?_⟩ <;> first | rfl | decide | omega) | (refine ⟨?_, ?_, ?_⟩ <;> first | rfl | decide | omega) | (exact ltN (Nat.le_of_ble_eq_true rfl)) | (exact leN (Nat.le_of_ble_eq_true rfl)))); (conv => whnf))
        exact Rw (q (.ahead p c o d) ⟨hp, c0, c1, ho, d0, d1, he⟩) ⟨trivial, trivial, trivial, trivial, trivial, trivial⟩
    · have hb : ¬ ((ps.map D.int).length : Int) < 2 := hb
      rw [List.length_map] at hb
      conv => whnf
      repeat (refine Need.mk ?_ ?_; (focus (first | trivial | rfl | assumption | (exact Nat.le_trans (by assumption) le10) | (exact Nat.lt_of_le_of_lt (by assumption) lt10) | (show (0 : Int) < _; first | decide | omega) | (show (0 : Int) ≤ _; first | decide | omega) | (exact .inl ⟨by omega, by omega⟩) | (exact .inr ⟨by decide, by decide⟩) | (refine ⟨?_, ?_⟩ <;> first | rfl | decide | omega) | (refine ⟨?_, ?_, ?_⟩ <;> first | rfl | decide | omega) | (exact ltN (Nat.le_of_ble_eq_true rfl)) | (exact leN (Nat.le_of_ble_eq_true rfl)))); (conv => whnf))
      rw [List.length_map]
      refine ⟨_, rfl, ⟨by omega, by omega⟩, fun j j0 j1 => ?_⟩
      obtain ⟨o, ho, hoa⟩ := atI_ints (ns := ps) j0 (by omega)
      conv => whnf
      repeat (refine Need.mk ?_ ?_; (focus (first | trivial | rfl | assumption | (exact Nat.le_trans (by assumption) le10) | (exact Nat.lt_of_le_of_lt (by assumption) lt10) | (show (0 : Int) < _; first | decide | omega) | (show (0 : Int) ≤ _; first | decide | omega) | (exact .inl ⟨by omega, by omega⟩) | (exact .inr ⟨by decide, by decide⟩) | (refine ⟨?_, ?_⟩ <;> first | rfl | decide | omega) | (refine ⟨?_, ?_, ?_⟩ <;> first | rfl | decide | omega) | (exact ltN (Nat.le_of_ble_eq_true rfl)) | (exact leN (Nat.le_of_ble_eq_true rfl)))); (conv => whnf))
      refine optI hoa ?_
      conv => whnf
      repeat (refine Need.mk ?_ ?_; (focus (first | trivial | rfl | assumption | (exact Nat.le_trans (by assumption) le10) | (exact Nat.lt_of_le_of_lt (by assumption) lt10) | (show (0 : Int) < _; first | decide | omega) | (show (0 : Int) ≤ _; first | decide | omega) | (exact .inl ⟨by omega, by omega⟩) | (exact .inr ⟨by decide, by decide⟩) | (refine ⟨?_, ?_⟩ <;> first | rfl | decide | omega) | (refine ⟨?_, ?_, ?_⟩ <;> first | rfl | decide | omega) | (exact ltN (Nat.le_of_ble_eq_true rfl)) | (exact leN (Nat.le_of_ble_eq_true rfl)))); (conv => whnf))
      refine ⟨_, rfl, ⟨by omega, by omega⟩, fun d d0 d1 => ?_⟩
      conv => whnf
      repeat (refine Need.mk ?_ ?_; (focus (first | trivial | rfl | assumption | (exact Nat.le_trans (by assumption) le10) | (exact Nat.lt_of_le_of_lt (by assumption) lt10) | (show (0 : Int) < _; first | decide | omega) | (show (0 : Int) ≤ _; first | decide | omega) | (exact .inl ⟨by omega, by omega⟩) | (exact .inr ⟨by decide, by decide⟩) | (refine ⟨?_, ?_⟩ <;> first | rfl | decide | omega) | (refine ⟨?_, ?_, ?_⟩ <;> first | rfl | decide | omega) | (exact ltN (Nat.le_of_ble_eq_true rfl)) | (exact leN (Nat.le_of_ble_eq_true rfl)))); (conv => whnf))
      by_cases he : p = o ∧ c = d
      · refine lifT (by show D.eqd (.tup [.int p, .int c]) (.tup [.int o, .int d]) = true; rw [eqd_pair]; exact decide_eq_true he) ?_
        conv => whnf
        repeat (refine Need.mk ?_ ?_; (focus (first | trivial | rfl | assumption | (exact Nat.le_trans (by assumption) le10) | (exact Nat.lt_of_le_of_lt (by assumption) lt10) | (show (0 : Int) < _; first | decide | omega) | (show (0 : Int) ≤ _; first | decide | omega) | (exact .inl ⟨by omega, by omega⟩) | (exact .inr ⟨by decide, by decide⟩) | (refine ⟨?_, ?_⟩ <;> first | rfl | decide | omega) | (refine ⟨?_, ?_, ?_⟩ <;> first | rfl | decide | omega) | (exact ltN (Nat.le_of_ble_eq_true rfl)) | (exact leN (Nat.le_of_ble_eq_true rfl)))); (conv => whnf))
        exact Rw (q (.year p c 0 999) ⟨hp, c0, c1, by decide, by decide, by decide⟩) ⟨trivial, trivial, trivial, trivial, trivial, trivial⟩
      · refine lifF (by show D.eqd (.tup [.int p, .int c]) (.tup [.int o, .int d]) = false; rw [eqd_pair]; exact decide_eq_false he) ?_
        conv => whnf
        repeat (refine Need.mk ?_ ?_; (focus (first | trivial | rfl | assumption | (exact Nat.le_trans (by assumption) le10) | (exact Nat.lt_of_le_of_lt (by assumption) lt10) | (show (0 : Int) < _; first | decide | omega) | (show (0 : Int) ≤ _; first | decide | omega) | (exact .inl ⟨by omega, by omega⟩) | (exact .inr ⟨by decide, by decide⟩) | (refine ⟨?_, ?_⟩ <;> first | rfl | decide | omega) | (refine ⟨?_, ?_, ?_⟩ <;> first | rfl | decide | omega) | (exact ltN (Nat.le_of_ble_eq_true rfl)) | (exact leN (Nat.le_of_ble_eq_true rfl)))); (conv => whnf))
        exact Rw (q (.ahead p c o d) ⟨hp, c0, c1, ho, d0, d1, he⟩) ⟨trivial, trivial, trivial, trivial, trivial, trivial⟩
  · conv => whnf
    repeat (refine Need.mk ?_ ?_; (focus (first | trivial | rfl | assumption | (exact Nat.le_trans (by assumption) le10) | (exact Nat.lt_of_le_of_lt (by assumption) lt10) | (show (0 : Int) < _; first | decide | omega) | (show (0 : Int) ≤ _; first | decide | omega) | (exact .inl ⟨by omega, by omega⟩) | (exact .inr ⟨by decide, by decide⟩) | (refine ⟨?_, ?_⟩ <;> first | rfl | decide | omega) | (refine ⟨?_, ?_, ?_⟩ <;> first | rfl | decide | omega) | (exact ltN (Nat.le_of_ble_eq_true rfl)) | (exact leN (Nat.le_of_ble_eq_true rfl)))); (conv => whnf))
    rw [List.length_map]
    refine ⟨_, rfl, ⟨by omega, by omega⟩, fun i i0 i1 => ?_⟩
    obtain ⟨p, hp, hpa⟩ := atI_ints (ns := ps) i0 (by omega)
    conv => whnf
    repeat (refine Need.mk ?_ ?_; (focus (first | trivial | rfl | assumption | (exact Nat.le_trans (by assumption) le10) | (exact Nat.lt_of_le_of_lt (by assumption) lt10) | (show (0 : Int) < _; first | decide | omega) | (show (0 : Int) ≤ _; first | decide | omega) | (exact .inl ⟨by omega, by omega⟩) | (exact .inr ⟨by decide, by decide⟩) | (refine ⟨?_, ?_⟩ <;> first | rfl | decide | omega) | (refine ⟨?_, ?_, ?_⟩ <;> first | rfl | decide | omega) | (exact ltN (Nat.le_of_ble_eq_true rfl)) | (exact leN (Nat.le_of_ble_eq_true rfl)))); (conv => whnf))
    refine optI hpa ?_
    conv => whnf
    repeat (refine Need.mk ?_ ?_; (focus (first | trivial | rfl | assumption | (exact Nat.le_trans (by assumption) le10) | (exact Nat.lt_of_le_of_lt (by assumption) lt10) | (show (0 : Int) < _; first | decide | omega) | (show (0 : Int) ≤ _; first | decide | omega) | (exact .inl ⟨by omega, by omega⟩) | (exact .inr ⟨by decide, by decide⟩) | (refine ⟨?_, ?_⟩ <;> first | rfl | decide | omega) | (refine ⟨?_, ?_, ?_⟩ <;> first | rfl | decide | omega) | (exact ltN (Nat.le_of_ble_eq_true rfl)) | (exact leN (Nat.le_of_ble_eq_true rfl)))); (conv => whnf))
    refine ⟨_, rfl, ⟨by omega, by omega⟩, fun c c0 c1 => ?_⟩
    conv => whnf
    repeat (refine Need.mk ?_ ?_; (focus (first | trivial | rfl | assumption | (exact Nat.le_trans (by assumption) le10) | (exact Nat.lt_of_le_of_lt (by assumption) lt10) | (show (0 : Int) < _; first | decide | omega) | (show (0 : Int) ≤ _; first | decide | omega) | (exact .inl ⟨by omega, by omega⟩) | (exact .inr ⟨by decide, by decide⟩) | (refine ⟨?_, ?_⟩ <;> first | rfl | decide | omega) | (refine ⟨?_, ?_, ?_⟩ <;> first | rfl | decide | omega) | (exact ltN (Nat.le_of_ble_eq_true rfl)) | (exact leN (Nat.le_of_ble_eq_true rfl)))); (conv => whnf))
    refine brd (fun hb => ?_) (fun hb => ?_)
    · have hb : ((ps.map D.int).length : Int) < 2 := hb
      rw [List.length_map] at hb
      conv => whnf
      repeat (refine Need.mk ?_ ?_; (focus (first | trivial | rfl | assumption | (exact Nat.le_trans (by assumption) le10) | (exact Nat.lt_of_le_of_lt (by assumption) lt10) | (show (0 : Int) < _; first | decide | omega) | (show (0 : Int) ≤ _; first | decide | omega) | (exact .inl ⟨by omega, by omega⟩) | (exact .inr ⟨by decide, by decide⟩) | (refine ⟨?_, ?_⟩ <;> first | rfl | decide | omega) | (refine ⟨?_, ?_, ?_⟩ <;> first | rfl | decide | omega) | (exact ltN (Nat.le_of_ble_eq_true rfl)) | (exact leN (Nat.le_of_ble_eq_true rfl)))); (conv => whnf))
      refine ⟨_, rfl, ⟨by (show 1 ≤ m - c; omega), by (show m - c < _; omega)⟩, fun k k0 k1 => ?_⟩
      have k1 : k < m - c := k1
      conv => whnf
      repeat (refine Need.mk ?_ ?_; (focus (first | trivial | rfl | assumption | (exact Nat.le_trans (by assumption) le10) | (exact Nat.lt_of_le_of_lt (by assumption) lt10) | (show (0 : Int) < _; first | decide | omega) | (show (0 : Int) ≤ _; first | decide | omega) | (exact .inl ⟨by omega, by omega⟩) | (exact .inr ⟨by decide, by decide⟩) | (refine ⟨?_, ?_⟩ <;> first | rfl | decide | omega) | (refine ⟨?_, ?_, ?_⟩ <;> first | rfl | decide | omega) | (exact ltN (Nat.le_of_ble_eq_true rfl)) | (exact leN (Nat.le_of_ble_eq_true rfl)))); (conv => whnf))
      refine ⟨1 + k, rfl, by omega, by omega, fun sh hs hg => ?_⟩
      conv => whnf
      repeat (refine Need.mk ?_ ?_; (focus (first | trivial | rfl | assumption | (exact Nat.le_trans (by assumption) le10) | (exact Nat.lt_of_le_of_lt (by assumption) lt10) | (show (0 : Int) < _; first | decide | omega) | (show (0 : Int) ≤ _; first | decide | omega) | (exact .inl ⟨by omega, by omega⟩) | (exact .inr ⟨by decide, by decide⟩) | (refine ⟨?_, ?_⟩ <;> first | rfl | decide | omega) | (refine ⟨?_, ?_, ?_⟩ <;> first | rfl | decide | omega) | (exact ltN (Nat.le_of_ble_eq_true rfl)) | (exact leN (Nat.le_of_ble_eq_true rfl)))); (conv => whnf))
      exact Rw (q (.scrape p c sh) ⟨hp, c0, by omega, by omega, hg⟩) (Fc.lt (f := .scrape p c sh))
    · have hb : ¬ ((ps.map D.int).length : Int) < 2 := hb
      rw [List.length_map] at hb
      conv => whnf
      repeat (refine Need.mk ?_ ?_; (focus (first | trivial | rfl | assumption | (exact Nat.le_trans (by assumption) le10) | (exact Nat.lt_of_le_of_lt (by assumption) lt10) | (show (0 : Int) < _; first | decide | omega) | (show (0 : Int) ≤ _; first | decide | omega) | (exact .inl ⟨by omega, by omega⟩) | (exact .inr ⟨by decide, by decide⟩) | (refine ⟨?_, ?_⟩ <;> first | rfl | decide | omega) | (refine ⟨?_, ?_, ?_⟩ <;> first | rfl | decide | omega) | (exact ltN (Nat.le_of_ble_eq_true rfl)) | (exact leN (Nat.le_of_ble_eq_true rfl)))); (conv => whnf))
      rw [List.length_map]
      refine ⟨_, rfl, ⟨by omega, by omega⟩, fun j j0 j1 => ?_⟩
      obtain ⟨o, ho, hoa⟩ := atI_ints (ns := ps) j0 (by omega)
      conv => whnf
      repeat (refine Need.mk ?_ ?_; (focus (first | trivial | rfl | assumption | (exact Nat.le_trans (by assumption) le10) | (exact Nat.lt_of_le_of_lt (by assumption) lt10) | (show (0 : Int) < _; first | decide | omega) | (show (0 : Int) ≤ _; first | decide | omega) | (exact .inl ⟨by omega, by omega⟩) | (exact .inr ⟨by decide, by decide⟩) | (refine ⟨?_, ?_⟩ <;> first | rfl | decide | omega) | (refine ⟨?_, ?_, ?_⟩ <;> first | rfl | decide | omega) | (exact ltN (Nat.le_of_ble_eq_true rfl)) | (exact leN (Nat.le_of_ble_eq_true rfl)))); (conv => whnf))
      refine optI hoa ?_
      conv => whnf
      repeat (refine Need.mk ?_ ?_; (focus (first | trivial | rfl | assumption | (exact Nat.le_trans (by assumption) le10) | (exact Nat.lt_of_le_of_lt (by assumption) lt10) | (show (0 : Int) < _; first | decide | omega) | (show (0 : Int) ≤ _; first | decide | omega) | (exact .inl ⟨by omega, by omega⟩) | (exact .inr ⟨by decide, by decide⟩) | (refine ⟨?_, ?_⟩ <;> first | rfl | decide | omega) | (refine ⟨?_, ?_, ?_⟩ <;> first | rfl | decide | omega) | (exact ltN (Nat.le_of_ble_eq_true rfl)) | (exact leN (Nat.le_of_ble_eq_true rfl)))); (conv => whnf))
      refine ⟨_, rfl, ⟨by omega, by omega⟩, fun d d0 d1 => ?_⟩
      conv => whnf
      repeat (refine Need.mk ?_ ?_; (focus (first | trivial | rfl | assumption | (exact Nat.le_trans (by assumption) le10) | (exact Nat.lt_of_le_of_lt (by assumption) lt10) | (show (0 : Int) < _; first | decide | omega) | (show (0 : Int) ≤ _; first | decide | omega) | (exact .inl ⟨by omega, by omega⟩) | (exact .inr ⟨by decide, by decide⟩) | (refine ⟨?_, ?_⟩ <;> first | rfl | decide | omega) | (refine ⟨?_, ?_, ?_⟩ <;> first | rfl | decide | omega) | (exact ltN (Nat.le_of_ble_eq_true rfl)) | (exact leN (Nat.le_of_ble_eq_true rfl)))); (conv => whnf))
      refine sM (fun s' S' => S' = [.drw] ∧ ∃ (o : Int) (z : Option D), o ∈ ps ∧ p ≠ o ∧ s' = [some (.ref 0), z, some (.int m), some (.str "same"), some (.int p), some (.int c), none, some (.int o), some (.int d)]) ?_ ?_
      · conv => whnf
        repeat (refine Need.mk ?_ ?_; (focus (first | trivial | rfl | assumption | (exact Nat.le_trans (by assumption) le10) | (exact Nat.lt_of_le_of_lt (by assumption) lt10) | (show (0 : Int) < _; first | decide | omega) | (show (0 : Int) ≤ _; first | decide | omega) | (exact .inl ⟨by omega, by omega⟩) | (exact .inr ⟨by decide, by decide⟩) | (refine ⟨?_, ?_⟩ <;> first | rfl | decide | omega) | (refine ⟨?_, ?_, ?_⟩ <;> first | rfl | decide | omega) | (exact ltN (Nat.le_of_ble_eq_true rfl)) | (exact leN (Nat.le_of_ble_eq_true rfl)))); (conv => whnf))
        refine brd (fun hc => ?_) (fun hc => ?_)
        · obtain ⟨j, hj, hj1, o2, ho2, hne2, ha2⟩ := next_part hnd (by omega) hp
          conv => whnf
          repeat (refine Need.mk ?_ ?_; (focus (first | trivial | rfl | assumption | (exact Nat.le_trans (by assumption) le10) | (exact Nat.lt_of_le_of_lt (by assumption) lt10) | (show (0 : Int) < _; first | decide | omega) | (show (0 : Int) ≤ _; first | decide | omega) | (exact .inl ⟨by omega, by omega⟩) | (exact .inr ⟨by decide, by decide⟩) | (refine ⟨?_, ?_⟩ <;> first | rfl | decide | omega) | (refine ⟨?_, ?_, ?_⟩ <;> first | rfl | decide | omega) | (exact ltN (Nat.le_of_ble_eq_true rfl)) | (exact leN (Nat.le_of_ble_eq_true rfl)))); (conv => whnf))
          refine optI (asIs_ints ps) ?_
          refine optI hj1 ?_
          conv => whnf
          repeat (refine Need.mk ?_ ?_; (focus (first | trivial | rfl | assumption | (exact Nat.le_trans (by assumption) le10) | (exact Nat.lt_of_le_of_lt (by assumption) lt10) | (show (0 : Int) < _; first | decide | omega) | (show (0 : Int) ≤ _; first | decide | omega) | (exact .inl ⟨by omega, by omega⟩) | (exact .inr ⟨by decide, by decide⟩) | (refine ⟨?_, ?_⟩ <;> first | rfl | decide | omega) | (refine ⟨?_, ?_, ?_⟩ <;> first | rfl | decide | omega) | (exact ltN (Nat.le_of_ble_eq_true rfl)) | (exact leN (Nat.le_of_ble_eq_true rfl)))); (conv => whnf))
          rw [List.length_map]
          refine optI ha2 ?_
          conv => whnf
          repeat (refine Need.mk ?_ ?_; (focus (first | trivial | rfl | assumption | (exact Nat.le_trans (by assumption) le10) | (exact Nat.lt_of_le_of_lt (by assumption) lt10) | (show (0 : Int) < _; first | decide | omega) | (show (0 : Int) ≤ _; first | decide | omega) | (exact .inl ⟨by omega, by omega⟩) | (exact .inr ⟨by decide, by decide⟩) | (refine ⟨?_, ?_⟩ <;> first | rfl | decide | omega) | (refine ⟨?_, ?_, ?_⟩ <;> first | rfl | decide | omega) | (exact ltN (Nat.le_of_ble_eq_true rfl)) | (exact leN (Nat.le_of_ble_eq_true rfl)))); (conv => whnf))
          exact ⟨rfl, o2, _, ho2, fun z => hne2 z.symm, rfl⟩
        · conv => whnf
          repeat (refine Need.mk ?_ ?_; (focus (first | trivial | rfl | assumption | (exact Nat.le_trans (by assumption) le10) | (exact Nat.lt_of_le_of_lt (by assumption) lt10) | (show (0 : Int) < _; first | decide | omega) | (show (0 : Int) ≤ _; first | decide | omega) | (exact .inl ⟨by omega, by omega⟩) | (exact .inr ⟨by decide, by decide⟩) | (refine ⟨?_, ?_⟩ <;> first | rfl | decide | omega) | (refine ⟨?_, ?_, ?_⟩ <;> first | rfl | decide | omega) | (exact ltN (Nat.le_of_ble_eq_true rfl)) | (exact leN (Nat.le_of_ble_eq_true rfl)))); (conv => whnf))
          exact ⟨rfl, o, _, ho, hc, rfl⟩
      rintro s' S' ⟨rfl, o, z, ho, hne, rfl⟩
      conv => whnf
      repeat (refine Need.mk ?_ ?_; (focus (first | trivial | rfl | assumption | (exact Nat.le_trans (by assumption) le10) | (exact Nat.lt_of_le_of_lt (by assumption) lt10) | (show (0 : Int) < _; first | decide | omega) | (show (0 : Int) ≤ _; first | decide | omega) | (exact .inl ⟨by omega, by omega⟩) | (exact .inr ⟨by decide, by decide⟩) | (refine ⟨?_, ?_⟩ <;> first | rfl | decide | omega) | (refine ⟨?_, ?_, ?_⟩ <;> first | rfl | decide | omega) | (exact ltN (Nat.le_of_ble_eq_true rfl)) | (exact leN (Nat.le_of_ble_eq_true rfl)))); (conv => whnf))
      exact Rw (q (.same p c o d) ⟨hp, c0, c1, ho, d0, d1, hne⟩) ⟨trivial, trivial, trivial, trivial, trivial, trivial⟩
  · conv => whnf
    repeat (refine Need.mk ?_ ?_; (focus (first | trivial | rfl | assumption | (exact Nat.le_trans (by assumption) le10) | (exact Nat.lt_of_le_of_lt (by assumption) lt10) | (show (0 : Int) < _; first | decide | omega) | (show (0 : Int) ≤ _; first | decide | omega) | (exact .inl ⟨by omega, by omega⟩) | (exact .inr ⟨by decide, by decide⟩) | (refine ⟨?_, ?_⟩ <;> first | rfl | decide | omega) | (refine ⟨?_, ?_, ?_⟩ <;> first | rfl | decide | omega) | (exact ltN (Nat.le_of_ble_eq_true rfl)) | (exact leN (Nat.le_of_ble_eq_true rfl)))); (conv => whnf))
    rw [List.length_map]
    refine ⟨_, rfl, ⟨by omega, by omega⟩, fun i i0 i1 => ?_⟩
    obtain ⟨p, hp, hpa⟩ := atI_ints (ns := ps) i0 (by omega)
    conv => whnf
    repeat (refine Need.mk ?_ ?_; (focus (first | trivial | rfl | assumption | (exact Nat.le_trans (by assumption) le10) | (exact Nat.lt_of_le_of_lt (by assumption) lt10) | (show (0 : Int) < _; first | decide | omega) | (show (0 : Int) ≤ _; first | decide | omega) | (exact .inl ⟨by omega, by omega⟩) | (exact .inr ⟨by decide, by decide⟩) | (refine ⟨?_, ?_⟩ <;> first | rfl | decide | omega) | (refine ⟨?_, ?_, ?_⟩ <;> first | rfl | decide | omega) | (exact ltN (Nat.le_of_ble_eq_true rfl)) | (exact leN (Nat.le_of_ble_eq_true rfl)))); (conv => whnf))
    refine optI hpa ?_
    conv => whnf
    repeat (refine Need.mk ?_ ?_; (focus (first | trivial | rfl | assumption | (exact Nat.le_trans (by assumption) le10) | (exact Nat.lt_of_le_of_lt (by assumption) lt10) | (show (0 : Int) < _; first | decide | omega) | (show (0 : Int) ≤ _; first | decide | omega) | (exact .inl ⟨by omega, by omega⟩) | (exact .inr ⟨by decide, by decide⟩) | (refine ⟨?_, ?_⟩ <;> first | rfl | decide | omega) | (refine ⟨?_, ?_, ?_⟩ <;> first | rfl | decide | omega) | (exact ltN (Nat.le_of_ble_eq_true rfl)) | (exact leN (Nat.le_of_ble_eq_true rfl)))); (conv => whnf))
    refine ⟨_, rfl, ⟨by omega, by omega⟩, fun c c0 c1 => ?_⟩
    conv => whnf
    repeat (refine Need.mk ?_ ?_; (focus (first | trivial | rfl | assumption | (exact Nat.le_trans (by assumption) le10) | (exact Nat.lt_of_le_of_lt (by assumption) lt10) | (show (0 : Int) < _; first | decide | omega) | (show (0 : Int) ≤ _; first | decide | omega) | (exact .inl ⟨by omega, by omega⟩) | (exact .inr ⟨by decide, by decide⟩) | (refine ⟨?_, ?_⟩ <;> first | rfl | decide | omega) | (refine ⟨?_, ?_, ?_⟩ <;> first | rfl | decide | omega) | (exact ltN (Nat.le_of_ble_eq_true rfl)) | (exact leN (Nat.le_of_ble_eq_true rfl)))); (conv => whnf))
    refine brd (fun hb => ?_) (fun hb => ?_)
    · have hb : ((ps.map D.int).length : Int) < 2 := hb
      rw [List.length_map] at hb
      conv => whnf
      repeat (refine Need.mk ?_ ?_; (focus (first | trivial | rfl | assumption | (exact Nat.le_trans (by assumption) le10) | (exact Nat.lt_of_le_of_lt (by assumption) lt10) | (show (0 : Int) < _; first | decide | omega) | (show (0 : Int) ≤ _; first | decide | omega) | (exact .inl ⟨by omega, by omega⟩) | (exact .inr ⟨by decide, by decide⟩) | (refine ⟨?_, ?_⟩ <;> first | rfl | decide | omega) | (refine ⟨?_, ?_, ?_⟩ <;> first | rfl | decide | omega) | (exact ltN (Nat.le_of_ble_eq_true rfl)) | (exact leN (Nat.le_of_ble_eq_true rfl)))); (conv => whnf))
      refine ⟨_, rfl, ⟨by (show 1 ≤ m - c; omega), by (show m - c < _; omega)⟩, fun k k0 k1 => ?_⟩
      have k1 : k < m - c := k1
      conv => whnf
      repeat (refine Need.mk ?_ ?_; (focus (first | trivial | rfl | assumption | (exact Nat.le_trans (by assumption) le10) | (exact Nat.lt_of_le_of_lt (by assumption) lt10) | (show (0 : Int) < _; first | decide | omega) | (show (0 : Int) ≤ _; first | decide | omega) | (exact .inl ⟨by omega, by omega⟩) | (exact .inr ⟨by decide, by decide⟩) | (refine ⟨?_, ?_⟩ <;> first | rfl | decide | omega) | (refine ⟨?_, ?_, ?_⟩ <;> first | rfl | decide | omega) | (exact ltN (Nat.le_of_ble_eq_true rfl)) | (exact leN (Nat.le_of_ble_eq_true rfl)))); (conv => whnf))
      refine ⟨1 + k, rfl, by omega, by omega, fun sh hs hg => ?_⟩
      conv => whnf
      repeat (refine Need.mk ?_ ?_; (focus (first | trivial | rfl | assumption | (exact Nat.le_trans (by assumption) le10) | (exact Nat.lt_of_le_of_lt (by assumption) lt10) | (show (0 : Int) < _; first | decide | omega) | (show (0 : Int) ≤ _; first | decide | omega) | (exact .inl ⟨by omega, by omega⟩) | (exact .inr ⟨by decide, by decide⟩) | (refine ⟨?_, ?_⟩ <;> first | rfl | decide | omega) | (refine ⟨?_, ?_, ?_⟩ <;> first | rfl | decide | omega) | (exact ltN (Nat.le_of_ble_eq_true rfl)) | (exact leN (Nat.le_of_ble_eq_true rfl)))); (conv => whnf))
      exact Rw (q (.scrape p c sh) ⟨hp, c0, by omega, by omega, hg⟩) (Fc.lt (f := .scrape p c sh))
    · have hb : ¬ ((ps.map D.int).length : Int) < 2 := hb
      rw [List.length_map] at hb
      conv => whnf
      repeat (refine Need.mk ?_ ?_; (focus (first | trivial | rfl | assumption | (exact Nat.le_trans (by assumption) le10) | (exact Nat.lt_of_le_of_lt (by assumption) lt10) | (show (0 : Int) < _; first | decide | omega) | (show (0 : Int) ≤ _; first | decide | omega) | (exact .inl ⟨by omega, by omega⟩) | (exact .inr ⟨by decide, by decide⟩) | (refine ⟨?_, ?_⟩ <;> first | rfl | decide | omega) | (refine ⟨?_, ?_, ?_⟩ <;> first | rfl | decide | omega) | (exact ltN (Nat.le_of_ble_eq_true rfl)) | (exact leN (Nat.le_of_ble_eq_true rfl)))); (conv => whnf))
      rw [List.length_map]
      refine ⟨_, rfl, ⟨by omega, by omega⟩, fun j j0 j1 => ?_⟩
      obtain ⟨o, ho, hoa⟩ := atI_ints (ns := ps) j0 (by omega)
      conv => whnf
      repeat (refine Need.mk ?_ ?_; (focus (first | trivial | rfl | assumption | (exact Nat.le_trans (by assumption) le10) | (exact Nat.lt_of_le_of_lt (by assumption) lt10) | (show (0 : Int) < _; first | decide | omega) | (show (0 : Int) ≤ _; first | decide | omega) | (exact .inl ⟨by omega, by omega⟩) | (exact .inr ⟨by decide, by decide⟩) | (refine ⟨?_, ?_⟩ <;> first | rfl | decide | omega) | (refine ⟨?_, ?_, ?_⟩ <;> first | rfl | decide | omega) | (exact ltN (Nat.le_of_ble_eq_true rfl)) | (exact leN (Nat.le_of_ble_eq_true rfl)))); (conv => whnf))
      refine optI hoa ?_
      conv => whnf
      repeat (refine Need.mk ?_ ?_; (focus (first | trivial | rfl | assumption | (exact Nat.le_trans (by assumption) le10) | (exact Nat.lt_of_le_of_lt (by assumption) lt10) | (show (0 : Int) < _; first | decide | omega) | (show (0 : Int) ≤ _; first | decide | omega) | (exact .inl ⟨by omega, by omega⟩) | (exact .inr ⟨by decide, by decide⟩) | (refine ⟨?_, ?_⟩ <;> first | rfl | decide | omega) | (refine ⟨?_, ?_, ?_⟩ <;> first | rfl | decide | omega) | (exact ltN (Nat.le_of_ble_eq_true rfl)) | (exact leN (Nat.le_of_ble_eq_true rfl)))); (conv => whnf))
      refine ⟨_, rfl, ⟨by omega, by omega⟩, fun d d0 d1 => ?_⟩
      conv => whnf
      repeat (refine Need.mk ?_ ?_; (focus (first | trivial | rfl | assumption | (exact Nat.le_trans (by assumption) le10) | (exact Nat.lt_of_le_of_lt (by assumption) lt10) | (show (0 : Int) < _; first | decide | omega) | (show (0 : Int) ≤ _; first | decide | omega) | (exact .inl ⟨by omega, by omega⟩) | (exact .inr ⟨by decide, by decide⟩) | (refine ⟨?_, ?_⟩ <;> first | rfl | decide | omega) | (refine ⟨?_, ?_, ?_⟩ <;> first | rfl | decide | omega) | (exact ltN (Nat.le_of_ble_eq_true rfl)) | (exact leN (Nat.le_of_ble_eq_true rfl)))); (conv => whnf))
      refine sM (fun s' S' => S' = [.drw] ∧ ∃ (o : Int) (z : Option D), o ∈ ps ∧ p ≠ o ∧ s' = [some (.ref 0), z, some (.int m), some (.str "apart"), some (.int p), some (.int c), none, some (.int o), some (.int d)]) ?_ ?_
      · conv => whnf
        repeat (refine Need.mk ?_ ?_; (focus (first | trivial | rfl | assumption | (exact Nat.le_trans (by assumption) le10) | (exact Nat.lt_of_le_of_lt (by assumption) lt10) | (show (0 : Int) < _; first | decide | omega) | (show (0 : Int) ≤ _; first | decide | omega) | (exact .inl ⟨by omega, by omega⟩) | (exact .inr ⟨by decide, by decide⟩) | (refine ⟨?_, ?_⟩ <;> first | rfl | decide | omega) | (refine ⟨?_, ?_, ?_⟩ <;> first | rfl | decide | omega) | (exact ltN (Nat.le_of_ble_eq_true rfl)) | (exact leN (Nat.le_of_ble_eq_true rfl)))); (conv => whnf))
        refine brd (fun hc => ?_) (fun hc => ?_)
        · obtain ⟨j, hj, hj1, o2, ho2, hne2, ha2⟩ := next_part hnd (by omega) hp
          conv => whnf
          repeat (refine Need.mk ?_ ?_; (focus (first | trivial | rfl | assumption | (exact Nat.le_trans (by assumption) le10) | (exact Nat.lt_of_le_of_lt (by assumption) lt10) | (show (0 : Int) < _; first | decide | omega) | (show (0 : Int) ≤ _; first | decide | omega) | (exact .inl ⟨by omega, by omega⟩) | (exact .inr ⟨by decide, by decide⟩) | (refine ⟨?_, ?_⟩ <;> first | rfl | decide | omega) | (refine ⟨?_, ?_, ?_⟩ <;> first | rfl | decide | omega) | (exact ltN (Nat.le_of_ble_eq_true rfl)) | (exact leN (Nat.le_of_ble_eq_true rfl)))); (conv => whnf))
          refine optI (asIs_ints ps) ?_
          refine optI hj1 ?_
          conv => whnf
          repeat (refine Need.mk ?_ ?_; (focus (first | trivial | rfl | assumption | (exact Nat.le_trans (by assumption) le10) | (exact Nat.lt_of_le_of_lt (by assumption) lt10) | (show (0 : Int) < _; first | decide | omega) | (show (0 : Int) ≤ _; first | decide | omega) | (exact .inl ⟨by omega, by omega⟩) | (exact .inr ⟨by decide, by decide⟩) | (refine ⟨?_, ?_⟩ <;> first | rfl | decide | omega) | (refine ⟨?_, ?_, ?_⟩ <;> first | rfl | decide | omega) | (exact ltN (Nat.le_of_ble_eq_true rfl)) | (exact leN (Nat.le_of_ble_eq_true rfl)))); (conv => whnf))
          rw [List.length_map]
          refine optI ha2 ?_
          conv => whnf
          repeat (refine Need.mk ?_ ?_; (focus (first | trivial | rfl | assumption | (exact Nat.le_trans (by assumption) le10) | (exact Nat.lt_of_le_of_lt (by assumption) lt10) | (show (0 : Int) < _; first | decide | omega) | (show (0 : Int) ≤ _; first | decide | omega) | (exact .inl ⟨by omega, by omega⟩) | (exact .inr ⟨by decide, by decide⟩) | (refine ⟨?_, ?_⟩ <;> first | rfl | decide | omega) | (refine ⟨?_, ?_, ?_⟩ <;> first | rfl | decide | omega) | (exact ltN (Nat.le_of_ble_eq_true rfl)) | (exact leN (Nat.le_of_ble_eq_true rfl)))); (conv => whnf))
          exact ⟨rfl, o2, _, ho2, fun z => hne2 z.symm, rfl⟩
        · conv => whnf
          repeat (refine Need.mk ?_ ?_; (focus (first | trivial | rfl | assumption | (exact Nat.le_trans (by assumption) le10) | (exact Nat.lt_of_le_of_lt (by assumption) lt10) | (show (0 : Int) < _; first | decide | omega) | (show (0 : Int) ≤ _; first | decide | omega) | (exact .inl ⟨by omega, by omega⟩) | (exact .inr ⟨by decide, by decide⟩) | (refine ⟨?_, ?_⟩ <;> first | rfl | decide | omega) | (refine ⟨?_, ?_, ?_⟩ <;> first | rfl | decide | omega) | (exact ltN (Nat.le_of_ble_eq_true rfl)) | (exact leN (Nat.le_of_ble_eq_true rfl)))); (conv => whnf))
          exact ⟨rfl, o, _, ho, hc, rfl⟩
      rintro s' S' ⟨rfl, o, z, ho, hne, rfl⟩
      conv => whnf
      repeat (refine Need.mk ?_ ?_; (focus (first | trivial | rfl | assumption | (exact Nat.le_trans (by assumption) le10) | (exact Nat.lt_of_le_of_lt (by assumption) lt10) | (show (0 : Int) < _; first | decide | omega) | (show (0 : Int) ≤ _; first | decide | omega) | (exact .inl ⟨by omega, by omega⟩) | (exact .inr ⟨by decide, by decide⟩) | (refine ⟨?_, ?_⟩ <;> first | rfl | decide | omega) | (refine ⟨?_, ?_, ?_⟩ <;> first | rfl | decide | omega) | (exact ltN (Nat.le_of_ble_eq_true rfl)) | (exact leN (Nat.le_of_ble_eq_true rfl)))); (conv => whnf))
      exact Rw (q (.apart p c o d) ⟨hp, c0, c1, ho, d0, d1, hne⟩) ⟨trivial, trivial, trivial, trivial, trivial, trivial⟩
  · conv => whnf
    repeat (refine Need.mk ?_ ?_; (focus (first | trivial | rfl | assumption | (exact Nat.le_trans (by assumption) le10) | (exact Nat.lt_of_le_of_lt (by assumption) lt10) | (show (0 : Int) < _; first | decide | omega) | (show (0 : Int) ≤ _; first | decide | omega) | (exact .inl ⟨by omega, by omega⟩) | (exact .inr ⟨by decide, by decide⟩) | (refine ⟨?_, ?_⟩ <;> first | rfl | decide | omega) | (refine ⟨?_, ?_, ?_⟩ <;> first | rfl | decide | omega) | (exact ltN (Nat.le_of_ble_eq_true rfl)) | (exact leN (Nat.le_of_ble_eq_true rfl)))); (conv => whnf))
    rw [List.length_map]
    refine ⟨_, rfl, ⟨by omega, by omega⟩, fun i i0 i1 => ?_⟩
    obtain ⟨p, hp, hpa⟩ := atI_ints (ns := ps) i0 (by omega)
    conv => whnf
    repeat (refine Need.mk ?_ ?_; (focus (first | trivial | rfl | assumption | (exact Nat.le_trans (by assumption) le10) | (exact Nat.lt_of_le_of_lt (by assumption) lt10) | (show (0 : Int) < _; first | decide | omega) | (show (0 : Int) ≤ _; first | decide | omega) | (exact .inl ⟨by omega, by omega⟩) | (exact .inr ⟨by decide, by decide⟩) | (refine ⟨?_, ?_⟩ <;> first | rfl | decide | omega) | (refine ⟨?_, ?_, ?_⟩ <;> first | rfl | decide | omega) | (exact ltN (Nat.le_of_ble_eq_true rfl)) | (exact leN (Nat.le_of_ble_eq_true rfl)))); (conv => whnf))
    refine optI hpa ?_
    conv => whnf
    repeat (refine Need.mk ?_ ?_; (focus (first | trivial | rfl | assumption | (exact Nat.le_trans (by assumption) le10) | (exact Nat.lt_of_le_of_lt (by assumption) lt10) | (show (0 : Int) < _; first | decide | omega) | (show (0 : Int) ≤ _; first | decide | omega) | (exact .inl ⟨by omega, by omega⟩) | (exact .inr ⟨by decide, by decide⟩) | (refine ⟨?_, ?_⟩ <;> first | rfl | decide | omega) | (refine ⟨?_, ?_, ?_⟩ <;> first | rfl | decide | omega) | (exact ltN (Nat.le_of_ble_eq_true rfl)) | (exact leN (Nat.le_of_ble_eq_true rfl)))); (conv => whnf))
    refine ⟨_, rfl, ⟨by omega, by omega⟩, fun c c0 c1 => ?_⟩
    conv => whnf
    repeat (refine Need.mk ?_ ?_; (focus (first | trivial | rfl | assumption | (exact Nat.le_trans (by assumption) le10) | (exact Nat.lt_of_le_of_lt (by assumption) lt10) | (show (0 : Int) < _; first | decide | omega) | (show (0 : Int) ≤ _; first | decide | omega) | (exact .inl ⟨by omega, by omega⟩) | (exact .inr ⟨by decide, by decide⟩) | (refine ⟨?_, ?_⟩ <;> first | rfl | decide | omega) | (refine ⟨?_, ?_, ?_⟩ <;> first | rfl | decide | omega) | (exact ltN (Nat.le_of_ble_eq_true rfl)) | (exact leN (Nat.le_of_ble_eq_true rfl)))); (conv => whnf))
    refine ⟨_, rfl, ⟨by (show 1 ≤ m - c; omega), by (show m - c < _; omega)⟩, fun k k0 k1 => ?_⟩
    have k1 : k < m - c := k1
    conv => whnf
    repeat (refine Need.mk ?_ ?_; (focus (first | trivial | rfl | assumption | (exact Nat.le_trans (by assumption) le10) | (exact Nat.lt_of_le_of_lt (by assumption) lt10) | (show (0 : Int) < _; first | decide | omega) | (show (0 : Int) ≤ _; first | decide | omega) | (exact .inl ⟨by omega, by omega⟩) | (exact .inr ⟨by decide, by decide⟩) | (refine ⟨?_, ?_⟩ <;> first | rfl | decide | omega) | (refine ⟨?_, ?_, ?_⟩ <;> first | rfl | decide | omega) | (exact ltN (Nat.le_of_ble_eq_true rfl)) | (exact leN (Nat.le_of_ble_eq_true rfl)))); (conv => whnf))
    refine ⟨1 + k, rfl, by omega, by omega, fun sh hs hg => ?_⟩
    conv => whnf
    repeat (refine Need.mk ?_ ?_; (focus (first | trivial | rfl | assumption | (exact Nat.le_trans (by assumption) le10) | (exact Nat.lt_of_le_of_lt (by assumption) lt10) | (show (0 : Int) < _; first | decide | omega) | (show (0 : Int) ≤ _; first | decide | omega) | (exact .inl ⟨by omega, by omega⟩) | (exact .inr ⟨by decide, by decide⟩) | (refine ⟨?_, ?_⟩ <;> first | rfl | decide | omega) | (refine ⟨?_, ?_, ?_⟩ <;> first | rfl | decide | omega) | (exact ltN (Nat.le_of_ble_eq_true rfl)) | (exact leN (Nat.le_of_ble_eq_true rfl)))); (conv => whnf))
    exact Rw (q (.scrape p c sh) ⟨hp, c0, by omega, by omega, hg⟩) (Fc.lt (f := .scrape p c sh))
  · conv => whnf
    repeat (refine Need.mk ?_ ?_; (focus (first | trivial | rfl | assumption | (exact Nat.le_trans (by assumption) le10) | (exact Nat.lt_of_le_of_lt (by assumption) lt10) | (show (0 : Int) < _; first | decide | omega) | (show (0 : Int) ≤ _; first | decide | omega) | (exact .inl ⟨by omega, by omega⟩) | (exact .inr ⟨by decide, by decide⟩) | (refine ⟨?_, ?_⟩ <;> first | rfl | decide | omega) | (refine ⟨?_, ?_, ?_⟩ <;> first | rfl | decide | omega) | (exact ltN (Nat.le_of_ble_eq_true rfl)) | (exact leN (Nat.le_of_ble_eq_true rfl)))); (conv => whnf))
    rw [List.length_map]
    refine ⟨_, rfl, ⟨by omega, by omega⟩, fun i i0 i1 => ?_⟩
    obtain ⟨p, hp, hpa⟩ := atI_ints (ns := ps) i0 (by omega)
    conv => whnf
    repeat (refine Need.mk ?_ ?_; (focus (first | trivial | rfl | assumption | (exact Nat.le_trans (by assumption) le10) | (exact Nat.lt_of_le_of_lt (by assumption) lt10) | (show (0 : Int) < _; first | decide | omega) | (show (0 : Int) ≤ _; first | decide | omega) | (exact .inl ⟨by omega, by omega⟩) | (exact .inr ⟨by decide, by decide⟩) | (refine ⟨?_, ?_⟩ <;> first | rfl | decide | omega) | (refine ⟨?_, ?_, ?_⟩ <;> first | rfl | decide | omega) | (exact ltN (Nat.le_of_ble_eq_true rfl)) | (exact leN (Nat.le_of_ble_eq_true rfl)))); (conv => whnf))
    refine optI hpa ?_
    conv => whnf
    repeat (refine Need.mk ?_ ?_; (focus (first | trivial | rfl | assumption | (exact Nat.le_trans (by assumption) le10) | (exact Nat.lt_of_le_of_lt (by assumption) lt10) | (show (0 : Int) < _; first | decide | omega) | (show (0 : Int) ≤ _; first | decide | omega) | (exact .inl ⟨by omega, by omega⟩) | (exact .inr ⟨by decide, by decide⟩) | (refine ⟨?_, ?_⟩ <;> first | rfl | decide | omega) | (refine ⟨?_, ?_, ?_⟩ <;> first | rfl | decide | omega) | (exact ltN (Nat.le_of_ble_eq_true rfl)) | (exact leN (Nat.le_of_ble_eq_true rfl)))); (conv => whnf))
    refine ⟨_, rfl, ⟨by omega, by omega⟩, fun c c0 c1 => ?_⟩
    conv => whnf
    repeat (refine Need.mk ?_ ?_; (focus (first | trivial | rfl | assumption | (exact Nat.le_trans (by assumption) le10) | (exact Nat.lt_of_le_of_lt (by assumption) lt10) | (show (0 : Int) < _; first | decide | omega) | (show (0 : Int) ≤ _; first | decide | omega) | (exact .inl ⟨by omega, by omega⟩) | (exact .inr ⟨by decide, by decide⟩) | (refine ⟨?_, ?_⟩ <;> first | rfl | decide | omega) | (refine ⟨?_, ?_, ?_⟩ <;> first | rfl | decide | omega) | (exact ltN (Nat.le_of_ble_eq_true rfl)) | (exact leN (Nat.le_of_ble_eq_true rfl)))); (conv => whnf))
    refine ⟨_, rfl, ⟨by (show 1 ≤ m - c; omega), by (show m - c < _; omega)⟩, fun k k0 k1 => ?_⟩
    have k1 : k < m - c := k1
    conv => whnf
    repeat (refine Need.mk ?_ ?_; (focus (first | trivial | rfl | assumption | (exact Nat.le_trans (by assumption) le10) | (exact Nat.lt_of_le_of_lt (by assumption) lt10) | (show (0 : Int) < _; first | decide | omega) | (show (0 : Int) ≤ _; first | decide | omega) | (exact .inl ⟨by omega, by omega⟩) | (exact .inr ⟨by decide, by decide⟩) | (refine ⟨?_, ?_⟩ <;> first | rfl | decide | omega) | (refine ⟨?_, ?_, ?_⟩ <;> first | rfl | decide | omega) | (exact ltN (Nat.le_of_ble_eq_true rfl)) | (exact leN (Nat.le_of_ble_eq_true rfl)))); (conv => whnf))
    refine ⟨1 + k, rfl, by omega, by omega, fun sh hs hg => ?_⟩
    conv => whnf
    repeat (refine Need.mk ?_ ?_; (focus (first | trivial | rfl | assumption | (exact Nat.le_trans (by assumption) le10) | (exact Nat.lt_of_le_of_lt (by assumption) lt10) | (show (0 : Int) < _; first | decide | omega) | (show (0 : Int) ≤ _; first | decide | omega) | (exact .inl ⟨by omega, by omega⟩) | (exact .inr ⟨by decide, by decide⟩) | (refine ⟨?_, ?_⟩ <;> first | rfl | decide | omega) | (refine ⟨?_, ?_, ?_⟩ <;> first | rfl | decide | omega) | (exact ltN (Nat.le_of_ble_eq_true rfl)) | (exact leN (Nat.le_of_ble_eq_true rfl)))); (conv => whnf))
    exact Rw (q (.scrape p c sh) ⟨hp, c0, by omega, by omega, hg⟩) (Fc.lt (f := .scrape p c sh))
def sp__law_bad_shades (a : Ad) : SpP := fun ds Q _ => ∃ (c : Int) (sh : List Int), ds = [.int c, .tup (sh.map D.int)] ∧ sh.length ≤ 1000 ∧ Q (.str ((ocIf (sh ≠ [] ∧ goodN sh) .shade).then (ocIf (c + sh.length ≤ 5) .coat)).word)
theorem ok__law_bad_shades (T : Txt K w mg a)  : Fx P w K mg base 1 a.a__law_bad_shades a.d__law_bad_shades "_law_bad_shades" ["_law_first", "_law_shades_here"] (lp (sp__law_bad_shades a)) := by
  refine ⟨fn_P T.F__law_bad_shades sc__law_bad_shades (by (intro ds Q E h; first | (obtain ⟨h, hr⟩ := h; subst h; (try (obtain ⟨_, hr⟩ := hr)); (try (obtain ⟨_, hr⟩ := hr)); (try (obtain ⟨_, hr⟩ := hr)); (try (obtain ⟨_, hr⟩ := hr)); (all_goals exact ⟨rfl, by (repeat' (first | trivial | exact D.lts_ints _ | exact D.lts_strs _ | exact Fc.lt | exact fcs_lt _ | exact nfs_lt _ | exact nf_lt | exact D.pl.lt (by assumption) | exact D.dp.lt (by assumption) | exact D.dps.lt (by assumption) | exact D.pls.lt (by assumption) | assumption | refine ⟨?_, ?_⟩))⟩)) | (obtain ⟨_, h, hr⟩ := h; subst h; (try (obtain ⟨_, hr⟩ := hr)); (try (obtain ⟨_, hr⟩ := hr)); (try (obtain ⟨_, hr⟩ := hr)); (try (obtain ⟨_, hr⟩ := hr)); (all_goals exact ⟨rfl, by (repeat' (first | trivial | exact D.lts_ints _ | exact D.lts_strs _ | exact Fc.lt | exact fcs_lt _ | exact nfs_lt _ | exact nf_lt | exact D.pl.lt (by assumption) | exact D.dp.lt (by assumption) | exact D.dps.lt (by assumption) | exact D.pls.lt (by assumption) | assumption | refine ⟨?_, ?_⟩))⟩)) | (obtain ⟨_, _, h, hr⟩ := h; subst h; (try (obtain ⟨_, hr⟩ := hr)); (try (obtain ⟨_, hr⟩ := hr)); (try (obtain ⟨_, hr⟩ := hr)); (try (obtain ⟨_, hr⟩ := hr)); (all_goals exact ⟨rfl, by (repeat' (first | trivial | exact D.lts_ints _ | exact D.lts_strs _ | exact Fc.lt | exact fcs_lt _ | exact nfs_lt _ | exact nf_lt | exact D.pl.lt (by assumption) | exact D.dp.lt (by assumption) | exact D.dps.lt (by assumption) | exact D.pls.lt (by assumption) | assumption | refine ⟨?_, ?_⟩))⟩)) | (obtain ⟨_, _, _, h, hr⟩ := h; subst h; (try (obtain ⟨_, hr⟩ := hr)); (try (obtain ⟨_, hr⟩ := hr)); (try (obtain ⟨_, hr⟩ := hr)); (try (obtain ⟨_, hr⟩ := hr)); (all_goals exact ⟨rfl, by (repeat' (first | trivial | exact D.lts_ints _ | exact D.lts_strs _ | exact Fc.lt | exact fcs_lt _ | exact nfs_lt _ | exact nf_lt | exact D.pl.lt (by assumption) | exact D.dp.lt (by assumption) | exact D.dps.lt (by assumption) | exact D.pls.lt (by assumption) | assumption | refine ⟨?_, ?_⟩))⟩)) | (obtain ⟨_, _, _, _, h, hr⟩ := h; subst h; (try (obtain ⟨_, hr⟩ := hr)); (try (obtain ⟨_, hr⟩ := hr)); (try (obtain ⟨_, hr⟩ := hr)); (try (obtain ⟨_, hr⟩ := hr)); (all_goals exact ⟨rfl, by (repeat' (first | trivial | exact D.lts_ints _ | exact D.lts_strs _ | exact Fc.lt | exact fcs_lt _ | exact nfs_lt _ | exact nf_lt | exact D.pl.lt (by assumption) | exact D.dp.lt (by assumption) | exact D.dps.lt (by assumption) | exact D.pls.lt (by assumption) | assumption | refine ⟨?_, ?_⟩))⟩)) | (obtain ⟨_, _, _, _, _, h, hr⟩ := h; subst h; (try (obtain ⟨_, hr⟩ := hr)); (try (obtain ⟨_, hr⟩ := hr)); (try (obtain ⟨_, hr⟩ := hr)); (try (obtain ⟨_, hr⟩ := hr)); (all_goals exact ⟨rfl, by (repeat' (first | trivial | exact D.lts_ints _ | exact D.lts_strs _ | exact Fc.lt | exact fcs_lt _ | exact nfs_lt _ | exact nf_lt | exact D.pl.lt (by assumption) | exact D.dp.lt (by assumption) | exact D.dps.lt (by assumption) | exact D.pls.lt (by assumption) | assumption | refine ⟨?_, ?_⟩))⟩)) | (obtain ⟨h, _⟩ := h; exact (by simp at h)))) fun cdv A outer s H E φ T0 W' room wl => ⟨_, (lss_cons (ls_if (LW.t (lw_or (lt_cmp (oo_eq room.units) (le_callB cc_len rfl T.n_len (by rfl) (la_cons (lv 1) la_nil)) le_int (by rfl)) (lw_or1 (lt_not (lt_truth (le_callB (cc_all rfl) rfl T.n_all (by rfl) (la_cons (le_lc false [("_law_shade", 2)] (.nm 2) rfl sc__law_bad_shades.nd (li_tup (lv 1)) (by (conv => { arg 1; whnf }); (conv => { arg 2; whnf }); exact ⟨rfl, by decide +kernel, by decide +kernel, by decide +kernel, by decide +kernel⟩) (fun _ _ _ _ _ => (tg_nm 2 sc__law_bad_shades.nd)) (fun _ _ _ _ _ => lts_nil) (fun _ _ _ _ _ => (le_chainC oo_le oo_le le_int (lv 2)))) la_nil))))))) (lss_cons (ls_ret le_str)
    lss_nil) lss_nil)
    (lss_cons (ls_ret (le_if (lt_cmp oo_gt (le_op oo_add (lv 0) (le_callB cc_len rfl T.n_len (by rfl) (la_cons (lv 1) la_nil))) le_int (by rfl)) le_str le_str))
    lss_nil)), fun ds S R X n h hW => ?_⟩, T.m__law_bad_shades, T.F__law_bad_shades.kp, T.b__law_bad_shades⟩
  obtain ⟨Q, E, h, rfl, rfl, rfl, rfl⟩ := h
  subst hW
  obtain ⟨c, sh, rfl, hl, q⟩ := h
  conv => whnf
  repeat (refine Need.mk ?_ ?_; (focus (first | trivial | rfl | assumption | (exact Nat.le_trans (by assumption) le10) | (exact Nat.lt_of_le_of_lt (by assumption) lt10) | (show (0 : Int) < _; first | decide | omega) | (show (0 : Int) ≤ _; first | decide | omega) | (exact .inl ⟨by omega, by omega⟩) | (exact .inr ⟨by decide, by decide⟩) | (refine ⟨?_, ?_⟩ <;> first | rfl | decide | omega) | (refine ⟨?_, ?_, ?_⟩ <;> first | rfl | decide | omega) | (exact ltN (Nat.le_of_ble_eq_true rfl)) | (exact leN (Nat.le_of_ble_eq_true rfl)))); (conv => whnf))
  by_cases hs : sh = []
  · subst hs
    conv => whnf
    repeat (refine Need.mk ?_ ?_; (focus (first | trivial | rfl | assumption | (exact Nat.le_trans (by assumption) le10) | (exact Nat.lt_of_le_of_lt (by assumption) lt10) | (show (0 : Int) < _; first | decide | omega) | (show (0 : Int) ≤ _; first | decide | omega) | (exact .inl ⟨by omega, by omega⟩) | (exact .inr ⟨by decide, by decide⟩) | (refine ⟨?_, ?_⟩ <;> first | rfl | decide | omega) | (refine ⟨?_, ?_, ?_⟩ <;> first | rfl | decide | omega) | (exact ltN (Nat.le_of_ble_eq_true rfl)) | (exact leN (Nat.le_of_ble_eq_true rfl)))); (conv => whnf))
    rw [ocIf_neg (fun z => z.1 rfl)] at q
    exact Rp q
  have hn : sh.length ≠ 0 := fun z => hs (List.length_eq_zero_iff.mp z)
  refine lifF (by show decide (((sh.map D.int).length : Int) = 0) = false; exact decide_eq_false (by rw [List.length_map]; omega)) ?_
  conv => whnf
  repeat (refine Need.mk ?_ ?_; (focus (first | trivial | rfl | assumption | (exact Nat.le_trans (by assumption) le10) | (exact Nat.lt_of_le_of_lt (by assumption) lt10) | (show (0 : Int) < _; first | decide | omega) | (show (0 : Int) ≤ _; first | decide | omega) | (exact .inl ⟨by omega, by omega⟩) | (exact .inr ⟨by decide, by decide⟩) | (refine ⟨?_, ?_⟩ <;> first | rfl | decide | omega) | (refine ⟨?_, ?_, ?_⟩ <;> first | rfl | decide | omega) | (exact ltN (Nat.le_of_ble_eq_true rfl)) | (exact leN (Nat.le_of_ble_eq_true rfl)))); (conv => whnf))
  refine lc_map (fun d => match d with | .int z => .bl (decide (0 ≤ z) && decide (z ≤ 6)) | _ => .non) (by rw [List.length_map]; exact Nat.lt_of_le_of_lt hl (by decide)) (fun _ => trivial) ?_ ?_
  · intro i x acc hi
    obtain ⟨z, hz, rfl⟩ := int_at hi
    refine ⟨_, rfl, trivial, fun R r => ?_⟩
    conv => whnf
    repeat (refine Need.mk ?_ ?_; (focus (first | trivial | rfl | assumption | (exact Nat.le_trans (by assumption) le10) | (exact Nat.lt_of_le_of_lt (by assumption) lt10) | (show (0 : Int) < _; first | decide | omega) | (show (0 : Int) ≤ _; first | decide | omega) | (exact .inl ⟨by omega, by omega⟩) | (exact .inr ⟨by decide, by decide⟩) | (refine ⟨?_, ?_⟩ <;> first | rfl | decide | omega) | (refine ⟨?_, ?_, ?_⟩ <;> first | rfl | decide | omega) | (exact ltN (Nat.le_of_ble_eq_true rfl)) | (exact leN (Nat.le_of_ble_eq_true rfl)))); (conv => whnf))
    exact r
  · conv => whnf
    repeat (refine Need.mk ?_ ?_; (focus (first | trivial | rfl | assumption | (exact Nat.le_trans (by assumption) le10) | (exact Nat.lt_of_le_of_lt (by assumption) lt10) | (show (0 : Int) < _; first | decide | omega) | (show (0 : Int) ≤ _; first | decide | omega) | (exact .inl ⟨by omega, by omega⟩) | (exact .inr ⟨by decide, by decide⟩) | (refine ⟨?_, ?_⟩ <;> first | rfl | decide | omega) | (refine ⟨?_, ?_, ?_⟩ <;> first | rfl | decide | omega) | (exact ltN (Nat.le_of_ble_eq_true rfl)) | (exact leN (Nat.le_of_ble_eq_true rfl)))); (conv => whnf))
    rw [List.map_map]
    refine optI (asBs_map (fun z => decide (0 ≤ z) && decide (z ≤ 6)) sh) ?_
    conv => whnf
    repeat (refine Need.mk ?_ ?_; (focus (first | trivial | rfl | assumption | (exact Nat.le_trans (by assumption) le10) | (exact Nat.lt_of_le_of_lt (by assumption) lt10) | (show (0 : Int) < _; first | decide | omega) | (show (0 : Int) ≤ _; first | decide | omega) | (exact .inl ⟨by omega, by omega⟩) | (exact .inr ⟨by decide, by decide⟩) | (refine ⟨?_, ?_⟩ <;> first | rfl | decide | omega) | (refine ⟨?_, ?_, ?_⟩ <;> first | rfl | decide | omega) | (exact ltN (Nat.le_of_ble_eq_true rfl)) | (exact leN (Nat.le_of_ble_eq_true rfl)))); (conv => whnf))
    rw [good_all6]
    by_cases hg : goodN sh
    · rw [decide_eq_true hg]
      rw [ocIf_pos ⟨hs, hg⟩] at q
      have q : Q (.str (ocIf (c + sh.length ≤ 5) .coat).word) := q
      conv => whnf
      repeat (refine Need.mk ?_ ?_; (focus (first | trivial | rfl | assumption | (exact Nat.le_trans (by assumption) le10) | (exact Nat.lt_of_le_of_lt (by assumption) lt10) | (show (0 : Int) < _; first | decide | omega) | (show (0 : Int) ≤ _; first | decide | omega) | (exact .inl ⟨by omega, by omega⟩) | (exact .inr ⟨by decide, by decide⟩) | (refine ⟨?_, ?_⟩ <;> first | rfl | decide | omega) | (refine ⟨?_, ?_, ?_⟩ <;> first | rfl | decide | omega) | (exact ltN (Nat.le_of_ble_eq_true rfl)) | (exact leN (Nat.le_of_ble_eq_true rfl)))); (conv => whnf))
      refine brd (fun hc => ?_) (fun hc => ?_)
      · have hc : (5 : Int) < c + ((sh.map D.int).length : Int) := hc
        rw [List.length_map] at hc
        conv => whnf
        repeat (refine Need.mk ?_ ?_; (focus (first | trivial | rfl | assumption | (exact Nat.le_trans (by assumption) le10) | (exact Nat.lt_of_le_of_lt (by assumption) lt10) | (show (0 : Int) < _; first | decide | omega) | (show (0 : Int) ≤ _; first | decide | omega) | (exact .inl ⟨by omega, by omega⟩) | (exact .inr ⟨by decide, by decide⟩) | (refine ⟨?_, ?_⟩ <;> first | rfl | decide | omega) | (refine ⟨?_, ?_, ?_⟩ <;> first | rfl | decide | omega) | (exact ltN (Nat.le_of_ble_eq_true rfl)) | (exact leN (Nat.le_of_ble_eq_true rfl)))); (conv => whnf))
        rw [ocIf_neg (by omega)] at q
        exact Rp q
      · have hc : ¬ (5 : Int) < c + ((sh.map D.int).length : Int) := hc
        rw [List.length_map] at hc
        conv => whnf
        repeat (refine Need.mk ?_ ?_; (focus (first | trivial | rfl | assumption | (exact Nat.le_trans (by assumption) le10) | (exact Nat.lt_of_le_of_lt (by assumption) lt10) | (show (0 : Int) < _; first | decide | omega) | (show (0 : Int) ≤ _; first | decide | omega) | (exact .inl ⟨by omega, by omega⟩) | (exact .inr ⟨by decide, by decide⟩) | (refine ⟨?_, ?_⟩ <;> first | rfl | decide | omega) | (refine ⟨?_, ?_, ?_⟩ <;> first | rfl | decide | omega) | (exact ltN (Nat.le_of_ble_eq_true rfl)) | (exact leN (Nat.le_of_ble_eq_true rfl)))); (conv => whnf))
        rw [ocIf_pos (by omega)] at q
        exact Rp q
    · rw [decide_eq_false hg]
      rw [ocIf_neg (fun z => hg z.2)] at q
      conv => whnf
      repeat (refine Need.mk ?_ ?_; (focus (first | trivial | rfl | assumption | (exact Nat.le_trans (by assumption) le10) | (exact Nat.lt_of_le_of_lt (by assumption) lt10) | (show (0 : Int) < _; first | decide | omega) | (show (0 : Int) ≤ _; first | decide | omega) | (exact .inl ⟨by omega, by omega⟩) | (exact .inr ⟨by decide, by decide⟩) | (refine ⟨?_, ?_⟩ <;> first | rfl | decide | omega) | (refine ⟨?_, ?_, ?_⟩ <;> first | rfl | decide | omega) | (exact ltN (Nat.le_of_ble_eq_true rfl)) | (exact leN (Nat.le_of_ble_eq_true rfl)))); (conv => whnf))
      exact Rp q
theorem dget_things (x : Str) : (valD (mergeD [] ([(Sum.inr "scrape" : Key), Sum.inr "cover", Sum.inr "moved", Sum.inr "year", Sum.inr "sold", Sum.inr "ahead", Sum.inr "same", Sum.inr "apart"].zip (List.map (fun x : D × D => x.2) [(D.str "scrape", D.int 4), (D.str "cover", D.int 4), (D.str "moved", D.int 5), (D.str "year", D.int 5), (D.str "sold", D.int 3), (D.str "ahead", D.int 5), (D.str "same", D.int 5), (D.str "apart", D.int 5)]))) (.inr x)).getD (.int 0) = .int ((things.lookup x).getD 0) := by
  have hk : ∀ y z : Str, ((Sum.inr y : Key) = Sum.inr z) = (y = z) := fun y z => propext ⟨fun h => Sum.inr.inj h, fun h => by rw [h]⟩
  show (valD [((Sum.inr "scrape" : Key), D.int 4), (Sum.inr "cover", D.int 4), (Sum.inr "moved", D.int 5), (Sum.inr "year", D.int 5), (Sum.inr "sold", D.int 3), (Sum.inr "ahead", D.int 5), (Sum.inr "same", D.int 5), (Sum.inr "apart", D.int 5)] (.inr x)).getD (.int 0) = _
  have key : ∀ l : List (Str × Int), (valD (l.map fun p => ((Sum.inr p.1 : Key), D.int p.2)) (.inr x)).getD (.int 0) = .int ((l.lookup x).getD 0) := fun l => by
    induction l with
    | nil => rfl
    | cons p l ih =>
      unfold valD at ih ⊢
      rw [List.map_cons, List.find?_cons, List.lookup_cons]
      simp only [hk]
      by_cases h : p.1 = x
      · rw [decide_eq_true h, ← h]; simp
      · rw [decide_eq_false h, show (x == p.1) = false from beq_false_of_ne fun z => h z.symm]
        exact ih
  exact key things
theorem things_ne {x : Str} {r : List D} (h : things.lookup x ≠ some ((r.length + 1 : Nat) : Int)) : ¬ (things.lookup x).getD 0 = (((D.str x :: r).length : Nat) : Int) := by
  intro e
  rw [List.length_cons] at e
  cases hl : things.lookup x with
  | none => rw [hl] at e; simp at e; omega
  | some n => rw [hl] at e h; exact h (by simp at e; rw [e]; simp)
def sp__law_fact_word (a : Ad) : SpP := fun ds Q _ => ∃ d : D, ds = [d] ∧ D.lt 0 d ∧ ((∃ f : Fc, d = f.d ∧ f.sh.length ≤ 1000 ∧ Q (.str (ocFc f).word)) ∨ (d = .tup [] ∧ Q (.str "badfact")) ∨ ∃ (x : Str) (r : List D), d = .tup (.str x :: r) ∧ r.length ≤ 1000 ∧ things.lookup x ≠ some ((r.length + 1 : Nat) : Int) ∧ Q (.str "badfact"))
theorem ok__law_fact_word (T : Txt K w mg a) (G__law_bad_shades : Fx P w K mg base 1 a.a__law_bad_shades a.d__law_bad_shades "_law_bad_shades" ["_law_first", "_law_shades_here"] (lp (sp__law_bad_shades a))) : Fx P w K mg base 2 a.a__law_fact_word a.d__law_fact_word "_law_fact_word" ["_law_fact_here"] (lp (sp__law_fact_word a)) := by
  refine ⟨fn_P T.F__law_fact_word sc__law_fact_word (by (intro ds Q E h; first | (obtain ⟨h, hr⟩ := h; subst h; (try (obtain ⟨_, hr⟩ := hr)); (try (obtain ⟨_, hr⟩ := hr)); (try (obtain ⟨_, hr⟩ := hr)); (try (obtain ⟨_, hr⟩ := hr)); (all_goals exact ⟨rfl, by (repeat' (first | trivial | exact D.lts_ints _ | exact D.lts_strs _ | exact Fc.lt | exact fcs_lt _ | exact nfs_lt _ | exact nf_lt | exact D.pl.lt (by assumption) | exact D.dp.lt (by assumption) | exact D.dps.lt (by assumption) | exact D.pls.lt (by assumption) | assumption | refine ⟨?_, ?_⟩))⟩)) | (obtain ⟨_, h, hr⟩ := h; subst h; (try (obtain ⟨_, hr⟩ := hr)); (try (obtain ⟨_, hr⟩ := hr)); (try (obtain ⟨_, hr⟩ := hr)); (try (obtain ⟨_, hr⟩ := hr)); (all_goals exact ⟨rfl, by (repeat' (first | trivial | exact D.lts_ints _ | exact D.lts_strs _ | exact Fc.lt | exact fcs_lt _ | exact nfs_lt _ | exact nf_lt | exact D.pl.lt (by assumption) | exact D.dp.lt (by assumption) | exact D.dps.lt (by assumption) | exact D.pls.lt (by assumption) | assumption | refine ⟨?_, ?_⟩))⟩)) | (obtain ⟨_, _, h, hr⟩ := h; subst h; (try (obtain ⟨_, hr⟩ := hr)); (try (obtain ⟨_, hr⟩ := hr)); (try (obtain ⟨_, hr⟩ := hr)); (try (obtain ⟨_, hr⟩ := hr)); (all_goals exact ⟨rfl, by (repeat' (first | trivial | exact D.lts_ints _ | exact D.lts_strs _ | exact Fc.lt | exact fcs_lt _ | exact nfs_lt _ | exact nf_lt | exact D.pl.lt (by assumption) | exact D.dp.lt (by assumption) | exact D.dps.lt (by assumption) | exact D.pls.lt (by assumption) | assumption | refine ⟨?_, ?_⟩))⟩)) | (obtain ⟨_, _, _, h, hr⟩ := h; subst h; (try (obtain ⟨_, hr⟩ := hr)); (try (obtain ⟨_, hr⟩ := hr)); (try (obtain ⟨_, hr⟩ := hr)); (try (obtain ⟨_, hr⟩ := hr)); (all_goals exact ⟨rfl, by (repeat' (first | trivial | exact D.lts_ints _ | exact D.lts_strs _ | exact Fc.lt | exact fcs_lt _ | exact nfs_lt _ | exact nf_lt | exact D.pl.lt (by assumption) | exact D.dp.lt (by assumption) | exact D.dps.lt (by assumption) | exact D.pls.lt (by assumption) | assumption | refine ⟨?_, ?_⟩))⟩)) | (obtain ⟨_, _, _, _, h, hr⟩ := h; subst h; (try (obtain ⟨_, hr⟩ := hr)); (try (obtain ⟨_, hr⟩ := hr)); (try (obtain ⟨_, hr⟩ := hr)); (try (obtain ⟨_, hr⟩ := hr)); (all_goals exact ⟨rfl, by (repeat' (first | trivial | exact D.lts_ints _ | exact D.lts_strs _ | exact Fc.lt | exact fcs_lt _ | exact nfs_lt _ | exact nf_lt | exact D.pl.lt (by assumption) | exact D.dp.lt (by assumption) | exact D.dps.lt (by assumption) | exact D.pls.lt (by assumption) | assumption | refine ⟨?_, ?_⟩))⟩)) | (obtain ⟨_, _, _, _, _, h, hr⟩ := h; subst h; (try (obtain ⟨_, hr⟩ := hr)); (try (obtain ⟨_, hr⟩ := hr)); (try (obtain ⟨_, hr⟩ := hr)); (try (obtain ⟨_, hr⟩ := hr)); (all_goals exact ⟨rfl, by (repeat' (first | trivial | exact D.lts_ints _ | exact D.lts_strs _ | exact Fc.lt | exact fcs_lt _ | exact nfs_lt _ | exact nf_lt | exact D.pl.lt (by assumption) | exact D.dp.lt (by assumption) | exact D.dps.lt (by assumption) | exact D.pls.lt (by assumption) | assumption | refine ⟨?_, ?_⟩))⟩)) | (obtain ⟨h, _⟩ := h; exact (by simp at h)))) fun cdv A outer s H E φ T0 W' room wl => ⟨_, (lss_cons (ls_set 1 (le_disp (lps_cons le_str le_int (lps_cons le_str le_int (lps_cons le_str le_int (lps_cons le_str le_int (lps_cons le_str le_int (lps_cons le_str le_int (lps_cons le_str le_int (lps_cons le_str le_int lps_nil))))))))) sc__law_fact_word.nd)
    (lss_consW [1] (ls_if (LW.t (lw_or (lt_cmp (oo_eq room.units) (le_callB cc_len rfl T.n_len (by rfl) (la_cons (lv 0) la_nil)) le_int (by rfl)) (lw_or1 (lt_cmp (oo_ne room.units) (le_dget2 (u1 room.units) (lv 1) (le_ix ox_seq (lv 0) le_int) le_int) (le_callB cc_len rfl T.n_len (by rfl) (la_cons (lv 0) la_nil)) (by rfl))))) (lss_cons (ls_ret le_str)
    lss_nil) lss_nil)
    (lss_cons (ls_asg (le_slice (lv 0) lp_none (lp_some le_int)) (lg_T (t := (.tp [(.nm 2), (.nm 3)])) (tg_tp rfl (tg_cons (tg_nm 2 sc__law_fact_word.nd) (tg_cons (tg_nm 3 sc__law_fact_word.nd) tg_nil)))))
    (lss_cons (ls_if (lt_cmp (oo_eq room.units) (lv 2) le_str (by rfl)) (lss_cons (ls_ret (le_if (lt_not (lt_chainC oo_le oo_le le_int (lv 3))) le_str (le_if (lt_chainC oo_le oo_le le_int (le_ix ox_seq (lv 0) le_int)) le_str le_str)))
    lss_nil) lss_nil)
    (lss_cons (ls_set 4 (le_lstM (la_cons (le_tup (la_cons (le_chainC oo_le oo_le le_int (lv 3)) (la_cons le_str la_nil))) la_nil)) sc__law_fact_word.nd)
    (lss_consM (ls_if (lt_cmp oo_in (lv 2) (le_lst (la_cons le_str (la_cons le_str (la_cons le_str (la_cons le_str (la_cons le_str la_nil)))))) (by rfl)) (lss_cons (ls_expr (le_bm PySem.F.plainAttrs_list PySem.F.slot_list_append PySem.F.type_list_append mm_append (lv 4) (la_cons (le_tup (la_cons (le_chainC oo_le oo_le le_int (le_ix ox_seq (lv 0) le_int)) (la_cons le_str la_nil))) la_nil)))
    lss_nil) lss_nil)
    (lss_consM (ls_if (lt_cmp (oo_eq room.units) (lv 2) le_str (by rfl)) (lss_cons (ls_set 4 (le_op oo_addM (lv 4) (le_lst (la_cons (le_tup (la_cons (le_chainC oo_le oo_le le_int (le_ix ox_seq (lv 0) le_int)) (la_cons le_str la_nil))) (la_cons (le_tup (la_cons (le_chainC oo_le oo_le le_int (le_ix ox_seq (lv 0) le_int)) (la_cons le_str la_nil))) (la_cons (le_tup (la_cons (le_cmp (oo_ne room.units) (le_ix ox_seq (lv 0) le_int) (lv 3) (by rfl)) (la_cons le_str la_nil))) la_nil))))) sc__law_fact_word.nd)
    (lss_cons (ls_expr (le_bm PySem.F.plainAttrs_list PySem.F.slot_list_append PySem.F.type_list_append mm_append (lv 4) (la_cons (le_tup (la_cons (le_chainC oo_le oo_le le_int (le_ix ox_seq (lv 0) le_int)) (la_cons le_str la_nil))) la_nil)))
    lss_nil)) lss_nil)
    (lss_consM (ls_if (lt_cmp (oo_eq room.units) (lv 2) le_str (by rfl)) (lss_cons (ls_set 4 (le_op oo_addM (lv 4) (le_lst (la_cons (le_tup (la_cons (le_chainC oo_le oo_le le_int (le_ix ox_seq (lv 0) le_int)) (la_cons le_str la_nil))) (la_cons (le_tup (la_cons (le_cmp (oo_ne room.units) (le_ix ox_seq (lv 0) le_int) (lv 3) (by rfl)) (la_cons le_str la_nil))) (la_cons (le_tup (la_cons (le_chainC oo_le oo_le le_int (le_ix ox_seq (lv 0) le_int)) (la_cons le_str la_nil))) la_nil))))) sc__law_fact_word.nd)
    lss_nil) lss_nil)
    (lss_consM (ls_if (lt_cmp (oo_eq room.units) (lv 2) le_str (by rfl)) (lss_cons (ls_set 4 (le_op oo_addM (lv 4) (le_lst (la_cons (le_tup (la_cons (le_and (le_chainC oo_le oo_le le_int (le_ix ox_seq (lv 0) le_int)) (le_one (le_chainC oo_le oo_le le_int (le_ix ox_seq (lv 0) le_int)))) (la_cons le_str la_nil))) (la_cons (le_tup (la_cons (le_cmp oo_le (le_ix ox_seq (lv 0) le_int) (le_ix ox_seq (lv 0) le_int) (by rfl)) (la_cons le_str la_nil))) la_nil)))) sc__law_fact_word.nd)
    lss_nil) lss_nil)
    (lss_consM (ls_if (lt_cmp oo_in (lv 2) (le_lst (la_cons le_str (la_cons le_str (la_cons le_str la_nil)))) (by rfl)) (lss_cons (ls_set 4 (le_op oo_addM (lv 4) (le_lst (la_cons (le_tup (la_cons (le_chainC oo_le oo_le le_int (le_ix ox_seq (lv 0) le_int)) (la_cons le_str la_nil))) (la_cons (le_tup (la_cons (le_chainC oo_le oo_le le_int (le_ix ox_seq (lv 0) le_int)) (la_cons le_str la_nil))) la_nil)))) sc__law_fact_word.nd)
    (lss_consW [3] (ls_expr (le_bm PySem.F.plainAttrs_list PySem.F.slot_list_append PySem.F.type_list_append mm_append (lv 4) (la_cons (le_tup (la_cons (le_or (le_cmp (oo_ne room.units) (le_ix ox_seq (lv 0) le_int) (lv 3) (by rfl)) (le_one (le_and (le_cmp (oo_eq room.units) (lv 2) le_str (by rfl)) (le_one (le_cmp (oo_ne room.units) (le_ix ox_seq (lv 0) le_int) (le_ix ox_seq (lv 0) le_int) (by rfl)))))) (la_cons le_str la_nil))) la_nil)))
    lss_nil)) lss_nil)
    (lss_w [3] (lss_consW [0, 2] (ls_if (LW.t (lw_and (lt_cmp (oo_eq room.units) (lv 2) le_str (by rfl)) (lw_and1 (lt_truth (le_callB (cc_all rfl) rfl T.n_all (by rfl) (la_cons (le_lc false [("_law_good", 5), ("_law_name", 6)] (.tp [(.nm 5), (.nm 6)]) rfl sc__law_fact_word.nd (li_list (lv 4)) (by (conv => { arg 1; whnf }); (conv => { arg 2; whnf }); exact ⟨rfl, by decide +kernel, by decide +kernel, by decide +kernel, by decide +kernel⟩) (fun _ _ _ _ _ => (tg_tp rfl (tg_cons (tg_nm 5 sc__law_fact_word.nd) (tg_cons (tg_nm 6 sc__law_fact_word.nd) tg_nil)))) (fun _ _ _ _ _ => lts_nil) (fun _ _ _ _ _ => (lv 5))) la_nil)))))) (lss_cons (ls_ret (le_fx G__law_bad_shades (room.mono (by decide)) (takes_of rfl rfl rfl rfl) wl (la_cons (le_ix ox_seq (lv 0) le_int) (la_cons (le_ix ox_seq (lv 0) le_int) la_nil))))
    lss_nil) lss_nil)
    (lss_cons (ls_ret (le_ix ox_seq (le_op oo_add (le_lc false [("_law_good", 5), ("_law_name", 6)] (.tp [(.nm 5), (.nm 6)]) rfl sc__law_fact_word.nd (li_list (lv 4)) (by (conv => { arg 1; whnf }); (conv => { arg 2; whnf }); exact ⟨rfl, by decide +kernel, by decide +kernel, by decide +kernel, by decide +kernel⟩) (fun _ _ _ _ _ => (tg_tp rfl (tg_cons (tg_nm 5 sc__law_fact_word.nd) (tg_cons (tg_nm 6 sc__law_fact_word.nd) tg_nil)))) (fun _ _ _ _ _ => (lts_one (lt_not (lt_truth (lv 5))))) (fun _ _ _ _ _ => (lv 6))) (le_lst (la_cons le_str la_nil))) le_int))
    lss_nil))))))))))))), fun ds S R X n h hW => ?_⟩, T.m__law_fact_word, T.F__law_fact_word.kp, T.b__law_fact_word⟩
  obtain ⟨Q, E, h, rfl, rfl, rfl, rfl⟩ := h
  subst hW
  obtain ⟨d, rfl, hd, h⟩ := h
  rcases h with ⟨f, rfl, hsh, q⟩ | ⟨rfl, q⟩ | ⟨x, r, rfl, hr, hne, q⟩
  · cases f with
    | scrape p c sh =>
      conv => whnf
      repeat (refine Need.mk ?_ ?_; (focus (first | trivial | rfl | assumption | (exact Nat.le_trans (by assumption) le10) | (exact Nat.lt_of_le_of_lt (by assumption) lt10) | (show (0 : Int) < _; first | decide | omega) | (show (0 : Int) ≤ _; first | decide | omega) | (exact .inl ⟨by omega, by omega⟩) | (exact .inr ⟨by decide, by decide⟩) | (refine ⟨?_, ?_⟩ <;> first | rfl | decide | omega) | (refine ⟨?_, ?_, ?_⟩ <;> first | rfl | decide | omega) | (exact ltN (Nat.le_of_ble_eq_true rfl)) | (exact leN (Nat.le_of_ble_eq_true rfl)))); (conv => whnf))
      refine ⟨_, rfl, ?_⟩
      conv => whnf
      repeat (refine Need.mk ?_ ?_; (focus (first | trivial | rfl | assumption | (exact Nat.le_trans (by assumption) le10) | (exact Nat.lt_of_le_of_lt (by assumption) lt10) | (show (0 : Int) < _; first | decide | omega) | (show (0 : Int) ≤ _; first | decide | omega) | (exact .inl ⟨by omega, by omega⟩) | (exact .inr ⟨by decide, by decide⟩) | (refine ⟨?_, ?_⟩ <;> first | rfl | decide | omega) | (refine ⟨?_, ?_, ?_⟩ <;> first | rfl | decide | omega) | (exact ltN (Nat.le_of_ble_eq_true rfl)) | (exact leN (Nat.le_of_ble_eq_true rfl)))); (conv => whnf))
      refine sD ?_
      conv => whnf
      repeat (refine Need.mk ?_ ?_; (focus (first | trivial | rfl | assumption | (exact Nat.le_trans (by assumption) le10) | (exact Nat.lt_of_le_of_lt (by assumption) lt10) | (show (0 : Int) < _; first | decide | omega) | (show (0 : Int) ≤ _; first | decide | omega) | (exact .inl ⟨by omega, by omega⟩) | (exact .inr ⟨by decide, by decide⟩) | (refine ⟨?_, ?_⟩ <;> first | rfl | decide | omega) | (refine ⟨?_, ?_, ?_⟩ <;> first | rfl | decide | omega) | (exact ltN (Nat.le_of_ble_eq_true rfl)) | (exact leN (Nat.le_of_ble_eq_true rfl)))); (conv => whnf))
      refine sD ?_
      conv => whnf
      repeat (refine Need.mk ?_ ?_; (focus (first | trivial | rfl | assumption | (exact Nat.le_trans (by assumption) le10) | (exact Nat.lt_of_le_of_lt (by assumption) lt10) | (show (0 : Int) < _; first | decide | omega) | (show (0 : Int) ≤ _; first | decide | omega) | (exact .inl ⟨by omega, by omega⟩) | (exact .inr ⟨by decide, by decide⟩) | (refine ⟨?_, ?_⟩ <;> first | rfl | decide | omega) | (refine ⟨?_, ?_, ?_⟩ <;> first | rfl | decide | omega) | (exact ltN (Nat.le_of_ble_eq_true rfl)) | (exact leN (Nat.le_of_ble_eq_true rfl)))); (conv => whnf))
      refine sD ?_
      conv => whnf
      repeat (refine Need.mk ?_ ?_; (focus (first | trivial | rfl | assumption | (exact Nat.le_trans (by assumption) le10) | (exact Nat.lt_of_le_of_lt (by assumption) lt10) | (show (0 : Int) < _; first | decide | omega) | (show (0 : Int) ≤ _; first | decide | omega) | (exact .inl ⟨by omega, by omega⟩) | (exact .inr ⟨by decide, by decide⟩) | (refine ⟨?_, ?_⟩ <;> first | rfl | decide | omega) | (refine ⟨?_, ?_, ?_⟩ <;> first | rfl | decide | omega) | (exact ltN (Nat.le_of_ble_eq_true rfl)) | (exact leN (Nat.le_of_ble_eq_true rfl)))); (conv => whnf))
      refine sD ?_
      conv => whnf
      repeat (refine Need.mk ?_ ?_; (focus (first | trivial | rfl | assumption | (exact Nat.le_trans (by assumption) le10) | (exact Nat.lt_of_le_of_lt (by assumption) lt10) | (show (0 : Int) < _; first | decide | omega) | (show (0 : Int) ≤ _; first | decide | omega) | (exact .inl ⟨by omega, by omega⟩) | (exact .inr ⟨by decide, by decide⟩) | (refine ⟨?_, ?_⟩ <;> first | rfl | decide | omega) | (refine ⟨?_, ?_, ?_⟩ <;> first | rfl | decide | omega) | (exact ltN (Nat.le_of_ble_eq_true rfl)) | (exact leN (Nat.le_of_ble_eq_true rfl)))); (conv => whnf))
      refine sD ?_
      conv => whnf
      repeat (refine Need.mk ?_ ?_; (focus (first | trivial | rfl | assumption | (exact Nat.le_trans (by assumption) le10) | (exact Nat.lt_of_le_of_lt (by assumption) lt10) | (show (0 : Int) < _; first | decide | omega) | (show (0 : Int) ≤ _; first | decide | omega) | (exact .inl ⟨by omega, by omega⟩) | (exact .inr ⟨by decide, by decide⟩) | (refine ⟨?_, ?_⟩ <;> first | rfl | decide | omega) | (refine ⟨?_, ?_, ?_⟩ <;> first | rfl | decide | omega) | (exact ltN (Nat.le_of_ble_eq_true rfl)) | (exact leN (Nat.le_of_ble_eq_true rfl)))); (conv => whnf))
      refine lc_good [cksPart p, cksCoat c] rfl (Nat.le_of_ble_eq_true rfl) (fun _ => rfl) ?_ ?_
      · intro b w acc
        refine ⟨_, rfl, fun R r => ?_⟩
        conv => whnf
        repeat (refine Need.mk ?_ ?_; (focus (first | trivial | rfl | assumption | (exact Nat.le_trans (by assumption) le10) | (exact Nat.lt_of_le_of_lt (by assumption) lt10) | (show (0 : Int) < _; first | decide | omega) | (show (0 : Int) ≤ _; first | decide | omega) | (exact .inl ⟨by omega, by omega⟩) | (exact .inr ⟨by decide, by decide⟩) | (refine ⟨?_, ?_⟩ <;> first | rfl | decide | omega) | (refine ⟨?_, ?_, ?_⟩ <;> first | rfl | decide | omega) | (exact ltN (Nat.le_of_ble_eq_true rfl)) | (exact leN (Nat.le_of_ble_eq_true rfl)))); (conv => whnf))
        exact r
      · conv => whnf
        repeat (refine Need.mk ?_ ?_; (focus (first | trivial | rfl | assumption | (exact Nat.le_trans (by assumption) le10) | (exact Nat.lt_of_le_of_lt (by assumption) lt10) | (show (0 : Int) < _; first | decide | omega) | (show (0 : Int) ≤ _; first | decide | omega) | (exact .inl ⟨by omega, by omega⟩) | (exact .inr ⟨by decide, by decide⟩) | (refine ⟨?_, ?_⟩ <;> first | rfl | decide | omega) | (refine ⟨?_, ?_, ?_⟩ <;> first | rfl | decide | omega) | (exact ltN (Nat.le_of_ble_eq_true rfl)) | (exact leN (Nat.le_of_ble_eq_true rfl)))); (conv => whnf))
        have hs := fb_scrape (p := p) (c := c) (sh := sh)
        refine lif (fun hg => ?_) (fun hg => ?_)
        · have hg := hs.1 hg
          conv => whnf
          repeat (refine Need.mk ?_ ?_; (focus (first | trivial | rfl | assumption | (exact Nat.le_trans (by assumption) le10) | (exact Nat.lt_of_le_of_lt (by assumption) lt10) | (show (0 : Int) < _; first | decide | omega) | (show (0 : Int) ≤ _; first | decide | omega) | (exact .inl ⟨by omega, by omega⟩) | (exact .inr ⟨by decide, by decide⟩) | (refine ⟨?_, ?_⟩ <;> first | rfl | decide | omega) | (refine ⟨?_, ?_, ?_⟩ <;> first | rfl | decide | omega) | (exact ltN (Nat.le_of_ble_eq_true rfl)) | (exact leN (Nat.le_of_ble_eq_true rfl)))); (conv => whnf))
          rw [hg] at q
          exact ⟨c, sh, rfl, hsh, Rp q⟩
        · have hg := hs.2 hg
          conv => whnf
          repeat (refine Need.mk ?_ ?_; (focus (first | trivial | rfl | assumption | (exact Nat.le_trans (by assumption) le10) | (exact Nat.lt_of_le_of_lt (by assumption) lt10) | (show (0 : Int) < _; first | decide | omega) | (show (0 : Int) ≤ _; first | decide | omega) | (exact .inl ⟨by omega, by omega⟩) | (exact .inr ⟨by decide, by decide⟩) | (refine ⟨?_, ?_⟩ <;> first | rfl | decide | omega) | (refine ⟨?_, ?_, ?_⟩ <;> first | rfl | decide | omega) | (exact ltN (Nat.le_of_ble_eq_true rfl)) | (exact leN (Nat.le_of_ble_eq_true rfl)))); (conv => whnf))
          refine lc_bad [cksPart p, cksCoat c] rfl (Nat.le_of_ble_eq_true rfl) (fun _ => rfl) ?_ ?_
          · intro b w acc
            refine ⟨_, rfl, fun R r => ?_, fun R r => ?_⟩
            · conv => whnf
              repeat (refine Need.mk ?_ ?_; (focus (first | trivial | rfl | assumption | (exact Nat.le_trans (by assumption) le10) | (exact Nat.lt_of_le_of_lt (by assumption) lt10) | (show (0 : Int) < _; first | decide | omega) | (show (0 : Int) ≤ _; first | decide | omega) | (exact .inl ⟨by omega, by omega⟩) | (exact .inr ⟨by decide, by decide⟩) | (refine ⟨?_, ?_⟩ <;> first | rfl | decide | omega) | (refine ⟨?_, ?_, ?_⟩ <;> first | rfl | decide | omega) | (exact ltN (Nat.le_of_ble_eq_true rfl)) | (exact leN (Nat.le_of_ble_eq_true rfl)))); (conv => whnf))
              exact r
            · conv => whnf
              repeat (refine Need.mk ?_ ?_; (focus (first | trivial | rfl | assumption | (exact Nat.le_trans (by assumption) le10) | (exact Nat.lt_of_le_of_lt (by assumption) lt10) | (show (0 : Int) < _; first | decide | omega) | (show (0 : Int) ≤ _; first | decide | omega) | (exact .inl ⟨by omega, by omega⟩) | (exact .inr ⟨by decide, by decide⟩) | (refine ⟨?_, ?_⟩ <;> first | rfl | decide | omega) | (refine ⟨?_, ?_, ?_⟩ <;> first | rfl | decide | omega) | (exact ltN (Nat.le_of_ble_eq_true rfl)) | (exact leN (Nat.le_of_ble_eq_true rfl)))); (conv => whnf))
              exact r
          · conv => whnf
            repeat (refine Need.mk ?_ ?_; (focus (first | trivial | rfl | assumption | (exact Nat.le_trans (by assumption) le10) | (exact Nat.lt_of_le_of_lt (by assumption) lt10) | (show (0 : Int) < _; first | decide | omega) | (show (0 : Int) ≤ _; first | decide | omega) | (exact .inl ⟨by omega, by omega⟩) | (exact .inr ⟨by decide, by decide⟩) | (refine ⟨?_, ?_⟩ <;> first | rfl | decide | omega) | (refine ⟨?_, ?_, ?_⟩ <;> first | rfl | decide | omega) | (exact ltN (Nat.le_of_ble_eq_true rfl)) | (exact leN (Nat.le_of_ble_eq_true rfl)))); (conv => whnf))
            refine Need.mk (bad_len (Nat.le_of_ble_eq_true rfl)) ?_
            conv => whnf
            repeat (refine Need.mk ?_ ?_; (focus (first | trivial | rfl | assumption | (exact Nat.le_trans (by assumption) le10) | (exact Nat.lt_of_le_of_lt (by assumption) lt10) | (show (0 : Int) < _; first | decide | omega) | (show (0 : Int) ≤ _; first | decide | omega) | (exact .inl ⟨by omega, by omega⟩) | (exact .inr ⟨by decide, by decide⟩) | (refine ⟨?_, ?_⟩ <;> first | rfl | decide | omega) | (refine ⟨?_, ?_, ?_⟩ <;> first | rfl | decide | omega) | (exact ltN (Nat.le_of_ble_eq_true rfl)) | (exact leN (Nat.le_of_ble_eq_true rfl)))); (conv => whnf))
            refine optI (firstBad_at _) ?_
            have e : firstBad [cksPart p, cksCoat c] = _ := hg
            rw [e]
            exact Rp q
    | cover p l d =>
      conv => whnf
      repeat (refine Need.mk ?_ ?_; (focus (first | trivial | rfl | assumption | (exact Nat.le_trans (by assumption) le10) | (exact Nat.lt_of_le_of_lt (by assumption) lt10) | (show (0 : Int) < _; first | decide | omega) | (show (0 : Int) ≤ _; first | decide | omega) | (exact .inl ⟨by omega, by omega⟩) | (exact .inr ⟨by decide, by decide⟩) | (refine ⟨?_, ?_⟩ <;> first | rfl | decide | omega) | (refine ⟨?_, ?_, ?_⟩ <;> first | rfl | decide | omega) | (exact ltN (Nat.le_of_ble_eq_true rfl)) | (exact leN (Nat.le_of_ble_eq_true rfl)))); (conv => whnf))
      refine ⟨_, rfl, ?_⟩
      conv => whnf
      repeat (refine Need.mk ?_ ?_; (focus (first | trivial | rfl | assumption | (exact Nat.le_trans (by assumption) le10) | (exact Nat.lt_of_le_of_lt (by assumption) lt10) | (show (0 : Int) < _; first | decide | omega) | (show (0 : Int) ≤ _; first | decide | omega) | (exact .inl ⟨by omega, by omega⟩) | (exact .inr ⟨by decide, by decide⟩) | (refine ⟨?_, ?_⟩ <;> first | rfl | decide | omega) | (refine ⟨?_, ?_, ?_⟩ <;> first | rfl | decide | omega) | (exact ltN (Nat.le_of_ble_eq_true rfl)) | (exact leN (Nat.le_of_ble_eq_true rfl)))); (conv => whnf))
      refine sD ?_
      conv => whnf
      repeat (refine Need.mk ?_ ?_; (focus (first | trivial | rfl | assumption | (exact Nat.le_trans (by assumption) le10) | (exact Nat.lt_of_le_of_lt (by assumption) lt10) | (show (0 : Int) < _; first | decide | omega) | (show (0 : Int) ≤ _; first | decide | omega) | (exact .inl ⟨by omega, by omega⟩) | (exact .inr ⟨by decide, by decide⟩) | (refine ⟨?_, ?_⟩ <;> first | rfl | decide | omega) | (refine ⟨?_, ?_, ?_⟩ <;> first | rfl | decide | omega) | (exact ltN (Nat.le_of_ble_eq_true rfl)) | (exact leN (Nat.le_of_ble_eq_true rfl)))); (conv => whnf))
      refine sD ?_
      conv => whnf
      repeat (refine Need.mk ?_ ?_; (focus (first | trivial | rfl | assumption | (exact Nat.le_trans (by assumption) le10) | (exact Nat.lt_of_le_of_lt (by assumption) lt10) | (show (0 : Int) < _; first | decide | omega) | (show (0 : Int) ≤ _; first | decide | omega) | (exact .inl ⟨by omega, by omega⟩) | (exact .inr ⟨by decide, by decide⟩) | (refine ⟨?_, ?_⟩ <;> first | rfl | decide | omega) | (refine ⟨?_, ?_, ?_⟩ <;> first | rfl | decide | omega) | (exact ltN (Nat.le_of_ble_eq_true rfl)) | (exact leN (Nat.le_of_ble_eq_true rfl)))); (conv => whnf))
      refine sD ?_
      conv => whnf
      repeat (refine Need.mk ?_ ?_; (focus (first | trivial | rfl | assumption | (exact Nat.le_trans (by assumption) le10) | (exact Nat.lt_of_le_of_lt (by assumption) lt10) | (show (0 : Int) < _; first | decide | omega) | (show (0 : Int) ≤ _; first | decide | omega) | (exact .inl ⟨by omega, by omega⟩) | (exact .inr ⟨by decide, by decide⟩) | (refine ⟨?_, ?_⟩ <;> first | rfl | decide | omega) | (refine ⟨?_, ?_, ?_⟩ <;> first | rfl | decide | omega) | (exact ltN (Nat.le_of_ble_eq_true rfl)) | (exact leN (Nat.le_of_ble_eq_true rfl)))); (conv => whnf))
      refine sD ?_
      conv => whnf
      repeat (refine Need.mk ?_ ?_; (focus (first | trivial | rfl | assumption | (exact Nat.le_trans (by assumption) le10) | (exact Nat.lt_of_le_of_lt (by assumption) lt10) | (show (0 : Int) < _; first | decide | omega) | (show (0 : Int) ≤ _; first | decide | omega) | (exact .inl ⟨by omega, by omega⟩) | (exact .inr ⟨by decide, by decide⟩) | (refine ⟨?_, ?_⟩ <;> first | rfl | decide | omega) | (refine ⟨?_, ?_, ?_⟩ <;> first | rfl | decide | omega) | (exact ltN (Nat.le_of_ble_eq_true rfl)) | (exact leN (Nat.le_of_ble_eq_true rfl)))); (conv => whnf))
      refine sD ?_
      conv => whnf
      repeat (refine Need.mk ?_ ?_; (focus (first | trivial | rfl | assumption | (exact Nat.le_trans (by assumption) le10) | (exact Nat.lt_of_le_of_lt (by assumption) lt10) | (show (0 : Int) < _; first | decide | omega) | (show (0 : Int) ≤ _; first | decide | omega) | (exact .inl ⟨by omega, by omega⟩) | (exact .inr ⟨by decide, by decide⟩) | (refine ⟨?_, ?_⟩ <;> first | rfl | decide | omega) | (refine ⟨?_, ?_, ?_⟩ <;> first | rfl | decide | omega) | (exact ltN (Nat.le_of_ble_eq_true rfl)) | (exact leN (Nat.le_of_ble_eq_true rfl)))); (conv => whnf))
      refine lc_bad [cksPart p, cksPart l, (!decide (l = p), "sameone"), cksDepth d 0] rfl (Nat.le_of_ble_eq_true rfl) (fun _ => rfl) ?_ ?_
      · intro b w acc
        refine ⟨_, rfl, fun R r => ?_, fun R r => ?_⟩
        · conv => whnf
          repeat (refine Need.mk ?_ ?_; (focus (first | trivial | rfl | assumption | (exact Nat.le_trans (by assumption) le10) | (exact Nat.lt_of_le_of_lt (by assumption) lt10) | (show (0 : Int) < _; first | decide | omega) | (show (0 : Int) ≤ _; first | decide | omega) | (exact .inl ⟨by omega, by omega⟩) | (exact .inr ⟨by decide, by decide⟩) | (refine ⟨?_, ?_⟩ <;> first | rfl | decide | omega) | (refine ⟨?_, ?_, ?_⟩ <;> first | rfl | decide | omega) | (exact ltN (Nat.le_of_ble_eq_true rfl)) | (exact leN (Nat.le_of_ble_eq_true rfl)))); (conv => whnf))
          exact r
        · conv => whnf
          repeat (refine Need.mk ?_ ?_; (focus (first | trivial | rfl | assumption | (exact Nat.le_trans (by assumption) le10) | (exact Nat.lt_of_le_of_lt (by assumption) lt10) | (show (0 : Int) < _; first | decide | omega) | (show (0 : Int) ≤ _; first | decide | omega) | (exact .inl ⟨by omega, by omega⟩) | (exact .inr ⟨by decide, by decide⟩) | (refine ⟨?_, ?_⟩ <;> first | rfl | decide | omega) | (refine ⟨?_, ?_, ?_⟩ <;> first | rfl | decide | omega) | (exact ltN (Nat.le_of_ble_eq_true rfl)) | (exact leN (Nat.le_of_ble_eq_true rfl)))); (conv => whnf))
          exact r
      · conv => whnf
        repeat (refine Need.mk ?_ ?_; (focus (first | trivial | rfl | assumption | (exact Nat.le_trans (by assumption) le10) | (exact Nat.lt_of_le_of_lt (by assumption) lt10) | (show (0 : Int) < _; first | decide | omega) | (show (0 : Int) ≤ _; first | decide | omega) | (exact .inl ⟨by omega, by omega⟩) | (exact .inr ⟨by decide, by decide⟩) | (refine ⟨?_, ?_⟩ <;> first | rfl | decide | omega) | (refine ⟨?_, ?_, ?_⟩ <;> first | rfl | decide | omega) | (exact ltN (Nat.le_of_ble_eq_true rfl)) | (exact leN (Nat.le_of_ble_eq_true rfl)))); (conv => whnf))
        refine Need.mk (bad_len (Nat.le_of_ble_eq_true rfl)) ?_
        conv => whnf
        repeat (refine Need.mk ?_ ?_; (focus (first | trivial | rfl | assumption | (exact Nat.le_trans (by assumption) le10) | (exact Nat.lt_of_le_of_lt (by assumption) lt10) | (show (0 : Int) < _; first | decide | omega) | (show (0 : Int) ≤ _; first | decide | omega) | (exact .inl ⟨by omega, by omega⟩) | (exact .inr ⟨by decide, by decide⟩) | (refine ⟨?_, ?_⟩ <;> first | rfl | decide | omega) | (refine ⟨?_, ?_, ?_⟩ <;> first | rfl | decide | omega) | (exact ltN (Nat.le_of_ble_eq_true rfl)) | (exact leN (Nat.le_of_ble_eq_true rfl)))); (conv => whnf))
        refine optI (firstBad_at _) ?_
        have e : firstBad [cksPart p, cksPart l, (!decide (l = p), "sameone"), cksDepth d 0] = _ := fb_cover
        rw [e]
        exact Rp q
    | moved p c l d =>
      conv => whnf
      repeat (refine Need.mk ?_ ?_; (focus (first | trivial | rfl | assumption | (exact Nat.le_trans (by assumption) le10) | (exact Nat.lt_of_le_of_lt (by assumption) lt10) | (show (0 : Int) < _; first | decide | omega) | (show (0 : Int) ≤ _; first | decide | omega) | (exact .inl ⟨by omega, by omega⟩) | (exact .inr ⟨by decide, by decide⟩) | (refine ⟨?_, ?_⟩ <;> first | rfl | decide | omega) | (refine ⟨?_, ?_, ?_⟩ <;> first | rfl | decide | omega) | (exact ltN (Nat.le_of_ble_eq_true rfl)) | (exact leN (Nat.le_of_ble_eq_true rfl)))); (conv => whnf))
      refine ⟨_, rfl, ?_⟩
      conv => whnf
      repeat (refine Need.mk ?_ ?_; (focus (first | trivial | rfl | assumption | (exact Nat.le_trans (by assumption) le10) | (exact Nat.lt_of_le_of_lt (by assumption) lt10) | (show (0 : Int) < _; first | decide | omega) | (show (0 : Int) ≤ _; first | decide | omega) | (exact .inl ⟨by omega, by omega⟩) | (exact .inr ⟨by decide, by decide⟩) | (refine ⟨?_, ?_⟩ <;> first | rfl | decide | omega) | (refine ⟨?_, ?_, ?_⟩ <;> first | rfl | decide | omega) | (exact ltN (Nat.le_of_ble_eq_true rfl)) | (exact leN (Nat.le_of_ble_eq_true rfl)))); (conv => whnf))
      refine sD ?_
      conv => whnf
      repeat (refine Need.mk ?_ ?_; (focus (first | trivial | rfl | assumption | (exact Nat.le_trans (by assumption) le10) | (exact Nat.lt_of_le_of_lt (by assumption) lt10) | (show (0 : Int) < _; first | decide | omega) | (show (0 : Int) ≤ _; first | decide | omega) | (exact .inl ⟨by omega, by omega⟩) | (exact .inr ⟨by decide, by decide⟩) | (refine ⟨?_, ?_⟩ <;> first | rfl | decide | omega) | (refine ⟨?_, ?_, ?_⟩ <;> first | rfl | decide | omega) | (exact ltN (Nat.le_of_ble_eq_true rfl)) | (exact leN (Nat.le_of_ble_eq_true rfl)))); (conv => whnf))
      refine sD ?_
      conv => whnf
      repeat (refine Need.mk ?_ ?_; (focus (first | trivial | rfl | assumption | (exact Nat.le_trans (by assumption) le10) | (exact Nat.lt_of_le_of_lt (by assumption) lt10) | (show (0 : Int) < _; first | decide | omega) | (show (0 : Int) ≤ _; first | decide | omega) | (exact .inl ⟨by omega, by omega⟩) | (exact .inr ⟨by decide, by decide⟩) | (refine ⟨?_, ?_⟩ <;> first | rfl | decide | omega) | (refine ⟨?_, ?_, ?_⟩ <;> first | rfl | decide | omega) | (exact ltN (Nat.le_of_ble_eq_true rfl)) | (exact leN (Nat.le_of_ble_eq_true rfl)))); (conv => whnf))
      refine sD ?_
      conv => whnf
      repeat (refine Need.mk ?_ ?_; (focus (first | trivial | rfl | assumption | (exact Nat.le_trans (by assumption) le10) | (exact Nat.lt_of_le_of_lt (by assumption) lt10) | (show (0 : Int) < _; first | decide | omega) | (show (0 : Int) ≤ _; first | decide | omega) | (exact .inl ⟨by omega, by omega⟩) | (exact .inr ⟨by decide, by decide⟩) | (refine ⟨?_, ?_⟩ <;> first | rfl | decide | omega) | (refine ⟨?_, ?_, ?_⟩ <;> first | rfl | decide | omega) | (exact ltN (Nat.le_of_ble_eq_true rfl)) | (exact leN (Nat.le_of_ble_eq_true rfl)))); (conv => whnf))
      refine sD ?_
      conv => whnf
      repeat (refine Need.mk ?_ ?_; (focus (first | trivial | rfl | assumption | (exact Nat.le_trans (by assumption) le10) | (exact Nat.lt_of_le_of_lt (by assumption) lt10) | (show (0 : Int) < _; first | decide | omega) | (show (0 : Int) ≤ _; first | decide | omega) | (exact .inl ⟨by omega, by omega⟩) | (exact .inr ⟨by decide, by decide⟩) | (refine ⟨?_, ?_⟩ <;> first | rfl | decide | omega) | (refine ⟨?_, ?_, ?_⟩ <;> first | rfl | decide | omega) | (exact ltN (Nat.le_of_ble_eq_true rfl)) | (exact leN (Nat.le_of_ble_eq_true rfl)))); (conv => whnf))
      refine sD ?_
      conv => whnf
      repeat (refine Need.mk ?_ ?_; (focus (first | trivial | rfl | assumption | (exact Nat.le_trans (by assumption) le10) | (exact Nat.lt_of_le_of_lt (by assumption) lt10) | (show (0 : Int) < _; first | decide | omega) | (show (0 : Int) ≤ _; first | decide | omega) | (exact .inl ⟨by omega, by omega⟩) | (exact .inr ⟨by decide, by decide⟩) | (refine ⟨?_, ?_⟩ <;> first | rfl | decide | omega) | (refine ⟨?_, ?_, ?_⟩ <;> first | rfl | decide | omega) | (exact ltN (Nat.le_of_ble_eq_true rfl)) | (exact leN (Nat.le_of_ble_eq_true rfl)))); (conv => whnf))
      refine lc_bad [cksPart p, cksDepth c 1, cksPart l, (!decide (l = p), "sameone"), cksDepth d 0] rfl (Nat.le_of_ble_eq_true rfl) (fun _ => rfl) ?_ ?_
      · intro b w acc
        refine ⟨_, rfl, fun R r => ?_, fun R r => ?_⟩
        · conv => whnf
          repeat (refine Need.mk ?_ ?_; (focus (first | trivial | rfl | assumption | (exact Nat.le_trans (by assumption) le10) | (exact Nat.lt_of_le_of_lt (by assumption) lt10) | (show (0 : Int) < _; first | decide | omega) | (show (0 : Int) ≤ _; first | decide | omega) | (exact .inl ⟨by omega, by omega⟩) | (exact .inr ⟨by decide, by decide⟩) | (refine ⟨?_, ?_⟩ <;> first | rfl | decide | omega) | (refine ⟨?_, ?_, ?_⟩ <;> first | rfl | decide | omega) | (exact ltN (Nat.le_of_ble_eq_true rfl)) | (exact leN (Nat.le_of_ble_eq_true rfl)))); (conv => whnf))
          exact r
        · conv => whnf
          repeat (refine Need.mk ?_ ?_; (focus (first | trivial | rfl | assumption | (exact Nat.le_trans (by assumption) le10) | (exact Nat.lt_of_le_of_lt (by assumption) lt10) | (show (0 : Int) < _; first | decide | omega) | (show (0 : Int) ≤ _; first | decide | omega) | (exact .inl ⟨by omega, by omega⟩) | (exact .inr ⟨by decide, by decide⟩) | (refine ⟨?_, ?_⟩ <;> first | rfl | decide | omega) | (refine ⟨?_, ?_, ?_⟩ <;> first | rfl | decide | omega) | (exact ltN (Nat.le_of_ble_eq_true rfl)) | (exact leN (Nat.le_of_ble_eq_true rfl)))); (conv => whnf))
          exact r
      · conv => whnf
        repeat (refine Need.mk ?_ ?_; (focus (first | trivial | rfl | assumption | (exact Nat.le_trans (by assumption) le10) | (exact Nat.lt_of_le_of_lt (by assumption) lt10) | (show (0 : Int) < _; first | decide | omega) | (show (0 : Int) ≤ _; first | decide | omega) | (exact .inl ⟨by omega, by omega⟩) | (exact .inr ⟨by decide, by decide⟩) | (refine ⟨?_, ?_⟩ <;> first | rfl | decide | omega) | (refine ⟨?_, ?_, ?_⟩ <;> first | rfl | decide | omega) | (exact ltN (Nat.le_of_ble_eq_true rfl)) | (exact leN (Nat.le_of_ble_eq_true rfl)))); (conv => whnf))
        refine Need.mk (bad_len (Nat.le_of_ble_eq_true rfl)) ?_
        conv => whnf
        repeat (refine Need.mk ?_ ?_; (focus (first | trivial | rfl | assumption | (exact Nat.le_trans (by assumption) le10) | (exact Nat.lt_of_le_of_lt (by assumption) lt10) | (show (0 : Int) < _; first | decide | omega) | (show (0 : Int) ≤ _; first | decide | omega) | (exact .inl ⟨by omega, by omega⟩) | (exact .inr ⟨by decide, by decide⟩) | (refine ⟨?_, ?_⟩ <;> first | rfl | decide | omega) | (refine ⟨?_, ?_, ?_⟩ <;> first | rfl | decide | omega) | (exact ltN (Nat.le_of_ble_eq_true rfl)) | (exact leN (Nat.le_of_ble_eq_true rfl)))); (conv => whnf))
        refine optI (firstBad_at _) ?_
        have e : firstBad [cksPart p, cksDepth c 1, cksPart l, (!decide (l = p), "sameone"), cksDepth d 0] = _ := fb_moved
        rw [e]
        exact Rp q
    | year p c f l =>
      conv => whnf
      repeat (refine Need.mk ?_ ?_; (focus (first | trivial | rfl | assumption | (exact Nat.le_trans (by assumption) le10) | (exact Nat.lt_of_le_of_lt (by assumption) lt10) | (show (0 : Int) < _; first | decide | omega) | (show (0 : Int) ≤ _; first | decide | omega) | (exact .inl ⟨by omega, by omega⟩) | (exact .inr ⟨by decide, by decide⟩) | (refine ⟨?_, ?_⟩ <;> first | rfl | decide | omega) | (refine ⟨?_, ?_, ?_⟩ <;> first | rfl | decide | omega) | (exact ltN (Nat.le_of_ble_eq_true rfl)) | (exact leN (Nat.le_of_ble_eq_true rfl)))); (conv => whnf))
      refine ⟨_, rfl, ?_⟩
      conv => whnf
      repeat (refine Need.mk ?_ ?_; (focus (first | trivial | rfl | assumption | (exact Nat.le_trans (by assumption) le10) | (exact Nat.lt_of_le_of_lt (by assumption) lt10) | (show (0 : Int) < _; first | decide | omega) | (show (0 : Int) ≤ _; first | decide | omega) | (exact .inl ⟨by omega, by omega⟩) | (exact .inr ⟨by decide, by decide⟩) | (refine ⟨?_, ?_⟩ <;> first | rfl | decide | omega) | (refine ⟨?_, ?_, ?_⟩ <;> first | rfl | decide | omega) | (exact ltN (Nat.le_of_ble_eq_true rfl)) | (exact leN (Nat.le_of_ble_eq_true rfl)))); (conv => whnf))
      refine sD ?_
      conv => whnf
      repeat (refine Need.mk ?_ ?_; (focus (first | trivial | rfl | assumption | (exact Nat.le_trans (by assumption) le10) | (exact Nat.lt_of_le_of_lt (by assumption) lt10) | (show (0 : Int) < _; first | decide | omega) | (show (0 : Int) ≤ _; first | decide | omega) | (exact .inl ⟨by omega, by omega⟩) | (exact .inr ⟨by decide, by decide⟩) | (refine ⟨?_, ?_⟩ <;> first | rfl | decide | omega) | (refine ⟨?_, ?_, ?_⟩ <;> first | rfl | decide | omega) | (exact ltN (Nat.le_of_ble_eq_true rfl)) | (exact leN (Nat.le_of_ble_eq_true rfl)))); (conv => whnf))
      refine sD ?_
      conv => whnf
      repeat (refine Need.mk ?_ ?_; (focus (first | trivial | rfl | assumption | (exact Nat.le_trans (by assumption) le10) | (exact Nat.lt_of_le_of_lt (by assumption) lt10) | (show (0 : Int) < _; first | decide | omega) | (show (0 : Int) ≤ _; first | decide | omega) | (exact .inl ⟨by omega, by omega⟩) | (exact .inr ⟨by decide, by decide⟩) | (refine ⟨?_, ?_⟩ <;> first | rfl | decide | omega) | (refine ⟨?_, ?_, ?_⟩ <;> first | rfl | decide | omega) | (exact ltN (Nat.le_of_ble_eq_true rfl)) | (exact leN (Nat.le_of_ble_eq_true rfl)))); (conv => whnf))
      refine sD ?_
      conv => whnf
      repeat (refine Need.mk ?_ ?_; (focus (first | trivial | rfl | assumption | (exact Nat.le_trans (by assumption) le10) | (exact Nat.lt_of_le_of_lt (by assumption) lt10) | (show (0 : Int) < _; first | decide | omega) | (show (0 : Int) ≤ _; first | decide | omega) | (exact .inl ⟨by omega, by omega⟩) | (exact .inr ⟨by decide, by decide⟩) | (refine ⟨?_, ?_⟩ <;> first | rfl | decide | omega) | (refine ⟨?_, ?_, ?_⟩ <;> first | rfl | decide | omega) | (exact ltN (Nat.le_of_ble_eq_true rfl)) | (exact leN (Nat.le_of_ble_eq_true rfl)))); (conv => whnf))
      refine sM (fun s' S' => s' = [some (Fc.year p c f l).d, none, some (.str "year"), some (.int p), some (.ref 2), none, none] ∧ ∃ z y, S' = [z, y, .lst ([cksPart p, cksCoat c, ((decide (0 ≤ f) && decide (f ≤ 999)) && (decide (0 ≤ l) && decide (l ≤ 999)), "badyear"), (decide (f ≤ l), "backward")].map ckD)]) ?_ ?_
      · conv => whnf
        repeat (refine Need.mk ?_ ?_; (focus (first | trivial | rfl | assumption | (exact Nat.le_trans (by assumption) le10) | (exact Nat.lt_of_le_of_lt (by assumption) lt10) | (show (0 : Int) < _; first | decide | omega) | (show (0 : Int) ≤ _; first | decide | omega) | (exact .inl ⟨by omega, by omega⟩) | (exact .inr ⟨by decide, by decide⟩) | (refine ⟨?_, ?_⟩ <;> first | rfl | decide | omega) | (refine ⟨?_, ?_, ?_⟩ <;> first | rfl | decide | omega) | (exact ltN (Nat.le_of_ble_eq_true rfl)) | (exact leN (Nat.le_of_ble_eq_true rfl)))); (conv => whnf))
        refine lif (fun hc => ?_) (fun hc => ?_)
        · have hc : (decide (0 ≤ f) && decide (f ≤ 999)) = true := hc
          conv => whnf
          repeat (refine Need.mk ?_ ?_; (focus (first | trivial | rfl | assumption | (exact Nat.le_trans (by assumption) le10) | (exact Nat.lt_of_le_of_lt (by assumption) lt10) | (show (0 : Int) < _; first | decide | omega) | (show (0 : Int) ≤ _; first | decide | omega) | (exact .inl ⟨by omega, by omega⟩) | (exact .inr ⟨by decide, by decide⟩) | (refine ⟨?_, ?_⟩ <;> first | rfl | decide | omega) | (refine ⟨?_, ?_, ?_⟩ <;> first | rfl | decide | omega) | (exact ltN (Nat.le_of_ble_eq_true rfl)) | (exact leN (Nat.le_of_ble_eq_true rfl)))); (conv => whnf))
          refine ⟨rfl, ?_⟩
          rw [hc]
          exact ⟨_, _, rfl⟩
        · have hc : (decide (0 ≤ f) && decide (f ≤ 999)) = false := hc
          conv => whnf
          repeat (refine Need.mk ?_ ?_; (focus (first | trivial | rfl | assumption | (exact Nat.le_trans (by assumption) le10) | (exact Nat.lt_of_le_of_lt (by assumption) lt10) | (show (0 : Int) < _; first | decide | omega) | (show (0 : Int) ≤ _; first | decide | omega) | (exact .inl ⟨by omega, by omega⟩) | (exact .inr ⟨by decide, by decide⟩) | (refine ⟨?_, ?_⟩ <;> first | rfl | decide | omega) | (refine ⟨?_, ?_, ?_⟩ <;> first | rfl | decide | omega) | (exact ltN (Nat.le_of_ble_eq_true rfl)) | (exact leN (Nat.le_of_ble_eq_true rfl)))); (conv => whnf))
          refine ⟨rfl, ?_⟩
          rw [hc]
          exact ⟨_, _, rfl⟩
      · rintro s' S' ⟨rfl, z, y, rfl⟩
        conv => whnf
        repeat (refine Need.mk ?_ ?_; (focus (first | trivial | rfl | assumption | (exact Nat.le_trans (by assumption) le10) | (exact Nat.lt_of_le_of_lt (by assumption) lt10) | (show (0 : Int) < _; first | decide | omega) | (show (0 : Int) ≤ _; first | decide | omega) | (exact .inl ⟨by omega, by omega⟩) | (exact .inr ⟨by decide, by decide⟩) | (refine ⟨?_, ?_⟩ <;> first | rfl | decide | omega) | (refine ⟨?_, ?_, ?_⟩ <;> first | rfl | decide | omega) | (exact ltN (Nat.le_of_ble_eq_true rfl)) | (exact leN (Nat.le_of_ble_eq_true rfl)))); (conv => whnf))
        refine sD ?_
        conv => whnf
        repeat (refine Need.mk ?_ ?_; (focus (first | trivial | rfl | assumption | (exact Nat.le_trans (by assumption) le10) | (exact Nat.lt_of_le_of_lt (by assumption) lt10) | (show (0 : Int) < _; first | decide | omega) | (show (0 : Int) ≤ _; first | decide | omega) | (exact .inl ⟨by omega, by omega⟩) | (exact .inr ⟨by decide, by decide⟩) | (refine ⟨?_, ?_⟩ <;> first | rfl | decide | omega) | (refine ⟨?_, ?_, ?_⟩ <;> first | rfl | decide | omega) | (exact ltN (Nat.le_of_ble_eq_true rfl)) | (exact leN (Nat.le_of_ble_eq_true rfl)))); (conv => whnf))
        refine lc_bad [cksPart p, cksCoat c, ((decide (0 ≤ f) && decide (f ≤ 999)) && (decide (0 ≤ l) && decide (l ≤ 999)), "badyear"), (decide (f ≤ l), "backward")] rfl (Nat.le_of_ble_eq_true rfl) (fun _ => rfl) ?_ ?_
        · intro b w acc
          refine ⟨_, rfl, fun R r => ?_, fun R r => ?_⟩
          · conv => whnf
            repeat (refine Need.mk ?_ ?_; (focus (first | trivial | rfl | assumption | (exact Nat.le_trans (by assumption) le10) | (exact Nat.lt_of_le_of_lt (by assumption) lt10) | (show (0 : Int) < _; first | decide | omega) | (show (0 : Int) ≤ _; first | decide | omega) | (exact .inl ⟨by omega, by omega⟩) | (exact .inr ⟨by decide, by decide⟩) | (refine ⟨?_, ?_⟩ <;> first | rfl | decide | omega) | (refine ⟨?_, ?_, ?_⟩ <;> first | rfl | decide | omega) | (exact ltN (Nat.le_of_ble_eq_true rfl)) | (exact leN (Nat.le_of_ble_eq_true rfl)))); (conv => whnf))
            exact r
          · conv => whnf
            repeat (refine Need.mk ?_ ?_; (focus (first | trivial | rfl | assumption | (exact Nat.le_trans (by assumption) le10) | (exact Nat.lt_of_le_of_lt (by assumption) lt10) | (show (0 : Int) < _; first | decide | omega) | (show (0 : Int) ≤ _; first | decide | omega) | (exact .inl ⟨by omega, by omega⟩) | (exact .inr ⟨by decide, by decide⟩) | (refine ⟨?_, ?_⟩ <;> first | rfl | decide | omega) | (refine ⟨?_, ?_, ?_⟩ <;> first | rfl | decide | omega) | (exact ltN (Nat.le_of_ble_eq_true rfl)) | (exact leN (Nat.le_of_ble_eq_true rfl)))); (conv => whnf))
            exact r
        · conv => whnf
          repeat (refine Need.mk ?_ ?_; (focus (first | trivial | rfl | assumption | (exact Nat.le_trans (by assumption) le10) | (exact Nat.lt_of_le_of_lt (by assumption) lt10) | (show (0 : Int) < _; first | decide | omega) | (show (0 : Int) ≤ _; first | decide | omega) | (exact .inl ⟨by omega, by omega⟩) | (exact .inr ⟨by decide, by decide⟩) | (refine ⟨?_, ?_⟩ <;> first | rfl | decide | omega) | (refine ⟨?_, ?_, ?_⟩ <;> first | rfl | decide | omega) | (exact ltN (Nat.le_of_ble_eq_true rfl)) | (exact leN (Nat.le_of_ble_eq_true rfl)))); (conv => whnf))
          refine Need.mk (bad_len (Nat.le_of_ble_eq_true rfl)) ?_
          conv => whnf
          repeat (refine Need.mk ?_ ?_; (focus (first | trivial | rfl | assumption | (exact Nat.le_trans (by assumption) le10) | (exact Nat.lt_of_le_of_lt (by assumption) lt10) | (show (0 : Int) < _; first | decide | omega) | (show (0 : Int) ≤ _; first | decide | omega) | (exact .inl ⟨by omega, by omega⟩) | (exact .inr ⟨by decide, by decide⟩) | (refine ⟨?_, ?_⟩ <;> first | rfl | decide | omega) | (refine ⟨?_, ?_, ?_⟩ <;> first | rfl | decide | omega) | (exact ltN (Nat.le_of_ble_eq_true rfl)) | (exact leN (Nat.le_of_ble_eq_true rfl)))); (conv => whnf))
          refine optI (firstBad_at _) ?_
          have e : firstBad [cksPart p, cksCoat c, ((decide (0 ≤ f) && decide (f ≤ 999)) && (decide (0 ≤ l) && decide (l ≤ 999)), "badyear"), (decide (f ≤ l), "backward")] = _ := fb_dated
          rw [e]
          exact Rp q
    | sold s y =>
      conv => whnf
      repeat (refine Need.mk ?_ ?_; (focus (first | trivial | rfl | assumption | (exact Nat.le_trans (by assumption) le10) | (exact Nat.lt_of_le_of_lt (by assumption) lt10) | (show (0 : Int) < _; first | decide | omega) | (show (0 : Int) ≤ _; first | decide | omega) | (exact .inl ⟨by omega, by omega⟩) | (exact .inr ⟨by decide, by decide⟩) | (refine ⟨?_, ?_⟩ <;> first | rfl | decide | omega) | (refine ⟨?_, ?_, ?_⟩ <;> first | rfl | decide | omega) | (exact ltN (Nat.le_of_ble_eq_true rfl)) | (exact leN (Nat.le_of_ble_eq_true rfl)))); (conv => whnf))
      refine ⟨_, rfl, ?_⟩
      conv => whnf
      repeat (refine Need.mk ?_ ?_; (focus (first | trivial | rfl | assumption | (exact Nat.le_trans (by assumption) le10) | (exact Nat.lt_of_le_of_lt (by assumption) lt10) | (show (0 : Int) < _; first | decide | omega) | (show (0 : Int) ≤ _; first | decide | omega) | (exact .inl ⟨by omega, by omega⟩) | (exact .inr ⟨by decide, by decide⟩) | (refine ⟨?_, ?_⟩ <;> first | rfl | decide | omega) | (refine ⟨?_, ?_, ?_⟩ <;> first | rfl | decide | omega) | (exact ltN (Nat.le_of_ble_eq_true rfl)) | (exact leN (Nat.le_of_ble_eq_true rfl)))); (conv => whnf))
      have q : Q (.str ((ocIf (1 ≤ s ∧ s ≤ 6) .shade).then (ocYear y)).word) := q
      refine lif (fun hc => ?_) (fun hc => ?_)
      · have hc : (!(decide (1 ≤ s) && decide (s ≤ 6))) = true := hc
        conv => whnf
        repeat (refine Need.mk ?_ ?_; (focus (first | trivial | rfl | assumption | (exact Nat.le_trans (by assumption) le10) | (exact Nat.lt_of_le_of_lt (by assumption) lt10) | (show (0 : Int) < _; first | decide | omega) | (show (0 : Int) ≤ _; first | decide | omega) | (exact .inl ⟨by omega, by omega⟩) | (exact .inr ⟨by decide, by decide⟩) | (refine ⟨?_, ?_⟩ <;> first | rfl | decide | omega) | (refine ⟨?_, ?_, ?_⟩ <;> first | rfl | decide | omega) | (exact ltN (Nat.le_of_ble_eq_true rfl)) | (exact leN (Nat.le_of_ble_eq_true rfl)))); (conv => whnf))
        rw [ocIf_neg (fun z => by rw [and_le.mpr z] at hc; exact Bool.noConfusion hc)] at q
        exact Rp q
      · have hc : (!(decide (1 ≤ s) && decide (s ≤ 6))) = false := hc
        have hc : (decide (1 ≤ s) && decide (s ≤ 6)) = true := by simpa using hc
        rw [ocIf_pos (and_le.mp hc)] at q
        have q : Q (.str (ocYear y).word) := q
        conv => whnf
        repeat (refine Need.mk ?_ ?_; (focus (first | trivial | rfl | assumption | (exact Nat.le_trans (by assumption) le10) | (exact Nat.lt_of_le_of_lt (by assumption) lt10) | (show (0 : Int) < _; first | decide | omega) | (show (0 : Int) ≤ _; first | decide | omega) | (exact .inl ⟨by omega, by omega⟩) | (exact .inr ⟨by decide, by decide⟩) | (refine ⟨?_, ?_⟩ <;> first | rfl | decide | omega) | (refine ⟨?_, ?_, ?_⟩ <;> first | rfl | decide | omega) | (exact ltN (Nat.le_of_ble_eq_true rfl)) | (exact leN (Nat.le_of_ble_eq_true rfl)))); (conv => whnf))
        refine lif (fun hd => ?_) (fun hd => ?_)
        · have hd : (decide (0 ≤ y) && decide (y ≤ 999)) = true := hd
          conv => whnf
          repeat (refine Need.mk ?_ ?_; (focus (first | trivial | rfl | assumption | (exact Nat.le_trans (by assumption) le10) | (exact Nat.lt_of_le_of_lt (by assumption) lt10) | (show (0 : Int) < _; first | decide | omega) | (show (0 : Int) ≤ _; first | decide | omega) | (exact .inl ⟨by omega, by omega⟩) | (exact .inr ⟨by decide, by decide⟩) | (refine ⟨?_, ?_⟩ <;> first | rfl | decide | omega) | (refine ⟨?_, ?_, ?_⟩ <;> first | rfl | decide | omega) | (exact ltN (Nat.le_of_ble_eq_true rfl)) | (exact leN (Nat.le_of_ble_eq_true rfl)))); (conv => whnf))
          rw [show ocYear y = .fine from ocIf_pos (and_le.mp hd)] at q
          exact Rp q
        · have hd : (decide (0 ≤ y) && decide (y ≤ 999)) = false := hd
          conv => whnf
          repeat (refine Need.mk ?_ ?_; (focus (first | trivial | rfl | assumption | (exact Nat.le_trans (by assumption) le10) | (exact Nat.lt_of_le_of_lt (by assumption) lt10) | (show (0 : Int) < _; first | decide | omega) | (show (0 : Int) ≤ _; first | decide | omega) | (exact .inl ⟨by omega, by omega⟩) | (exact .inr ⟨by decide, by decide⟩) | (refine ⟨?_, ?_⟩ <;> first | rfl | decide | omega) | (refine ⟨?_, ?_, ?_⟩ <;> first | rfl | decide | omega) | (exact ltN (Nat.le_of_ble_eq_true rfl)) | (exact leN (Nat.le_of_ble_eq_true rfl)))); (conv => whnf))
          rw [show ocYear y = .year from ocIf_neg (fun z => by rw [and_le.mpr z] at hd; exact Bool.noConfusion hd)] at q
          exact Rp q
    | ahead p c o d =>
      conv => whnf
      repeat (refine Need.mk ?_ ?_; (focus (first | trivial | rfl | assumption | (exact Nat.le_trans (by assumption) le10) | (exact Nat.lt_of_le_of_lt (by assumption) lt10) | (show (0 : Int) < _; first | decide | omega) | (show (0 : Int) ≤ _; first | decide | omega) | (exact .inl ⟨by omega, by omega⟩) | (exact .inr ⟨by decide, by decide⟩) | (refine ⟨?_, ?_⟩ <;> first | rfl | decide | omega) | (refine ⟨?_, ?_, ?_⟩ <;> first | rfl | decide | omega) | (exact ltN (Nat.le_of_ble_eq_true rfl)) | (exact leN (Nat.le_of_ble_eq_true rfl)))); (conv => whnf))
      refine ⟨_, rfl, ?_⟩
      conv => whnf
      repeat (refine Need.mk ?_ ?_; (focus (first | trivial | rfl | assumption | (exact Nat.le_trans (by assumption) le10) | (exact Nat.lt_of_le_of_lt (by assumption) lt10) | (show (0 : Int) < _; first | decide | omega) | (show (0 : Int) ≤ _; first | decide | omega) | (exact .inl ⟨by omega, by omega⟩) | (exact .inr ⟨by decide, by decide⟩) | (refine ⟨?_, ?_⟩ <;> first | rfl | decide | omega) | (refine ⟨?_, ?_, ?_⟩ <;> first | rfl | decide | omega) | (exact ltN (Nat.le_of_ble_eq_true rfl)) | (exact leN (Nat.le_of_ble_eq_true rfl)))); (conv => whnf))
      refine sD ?_
      conv => whnf
      repeat (refine Need.mk ?_ ?_; (focus (first | trivial | rfl | assumption | (exact Nat.le_trans (by assumption) le10) | (exact Nat.lt_of_le_of_lt (by assumption) lt10) | (show (0 : Int) < _; first | decide | omega) | (show (0 : Int) ≤ _; first | decide | omega) | (exact .inl ⟨by omega, by omega⟩) | (exact .inr ⟨by decide, by decide⟩) | (refine ⟨?_, ?_⟩ <;> first | rfl | decide | omega) | (refine ⟨?_, ?_, ?_⟩ <;> first | rfl | decide | omega) | (exact ltN (Nat.le_of_ble_eq_true rfl)) | (exact leN (Nat.le_of_ble_eq_true rfl)))); (conv => whnf))
      refine sD ?_
      conv => whnf
      repeat (refine Need.mk ?_ ?_; (focus (first | trivial | rfl | assumption | (exact Nat.le_trans (by assumption) le10) | (exact Nat.lt_of_le_of_lt (by assumption) lt10) | (show (0 : Int) < _; first | decide | omega) | (show (0 : Int) ≤ _; first | decide | omega) | (exact .inl ⟨by omega, by omega⟩) | (exact .inr ⟨by decide, by decide⟩) | (refine ⟨?_, ?_⟩ <;> first | rfl | decide | omega) | (refine ⟨?_, ?_, ?_⟩ <;> first | rfl | decide | omega) | (exact ltN (Nat.le_of_ble_eq_true rfl)) | (exact leN (Nat.le_of_ble_eq_true rfl)))); (conv => whnf))
      refine sD ?_
      conv => whnf
      repeat (refine Need.mk ?_ ?_; (focus (first | trivial | rfl | assumption | (exact Nat.le_trans (by assumption) le10) | (exact Nat.lt_of_le_of_lt (by assumption) lt10) | (show (0 : Int) < _; first | decide | omega) | (show (0 : Int) ≤ _; first | decide | omega) | (exact .inl ⟨by omega, by omega⟩) | (exact .inr ⟨by decide, by decide⟩) | (refine ⟨?_, ?_⟩ <;> first | rfl | decide | omega) | (refine ⟨?_, ?_, ?_⟩ <;> first | rfl | decide | omega) | (exact ltN (Nat.le_of_ble_eq_true rfl)) | (exact leN (Nat.le_of_ble_eq_true rfl)))); (conv => whnf))
      refine sD ?_
      conv => whnf
      repeat (refine Need.mk ?_ ?_; (focus (first | trivial | rfl | assumption | (exact Nat.le_trans (by assumption) le10) | (exact Nat.lt_of_le_of_lt (by assumption) lt10) | (show (0 : Int) < _; first | decide | omega) | (show (0 : Int) ≤ _; first | decide | omega) | (exact .inl ⟨by omega, by omega⟩) | (exact .inr ⟨by decide, by decide⟩) | (refine ⟨?_, ?_⟩ <;> first | rfl | decide | omega) | (refine ⟨?_, ?_, ?_⟩ <;> first | rfl | decide | omega) | (exact ltN (Nat.le_of_ble_eq_true rfl)) | (exact leN (Nat.le_of_ble_eq_true rfl)))); (conv => whnf))
      refine sM (fun s' S' => s' = [some (Fc.ahead p c o d).d, none, some (.str "ahead"), none, some (.ref 2), none, none] ∧ ∃ z y b, (b = true ↔ ¬ (p = o ∧ c = d)) ∧ S' = [z, y, .lst ([cksPart p, cksCoat c, cksPart o, cksCoat d, (b, "sameone")].map ckD)]) ?_ ?_
      · conv => whnf
        repeat (refine Need.mk ?_ ?_; (focus (first | trivial | rfl | assumption | (exact Nat.le_trans (by assumption) le10) | (exact Nat.lt_of_le_of_lt (by assumption) lt10) | (show (0 : Int) < _; first | decide | omega) | (show (0 : Int) ≤ _; first | decide | omega) | (exact .inl ⟨by omega, by omega⟩) | (exact .inr ⟨by decide, by decide⟩) | (refine ⟨?_, ?_⟩ <;> first | rfl | decide | omega) | (refine ⟨?_, ?_, ?_⟩ <;> first | rfl | decide | omega) | (exact ltN (Nat.le_of_ble_eq_true rfl)) | (exact leN (Nat.le_of_ble_eq_true rfl)))); (conv => whnf))
        refine lif (fun hc => ?_) (fun hc => ?_)
        · have hc : (!decide (o = p)) = true := hc
          have hc : ¬ o = p := by simpa using hc
          conv => whnf
          repeat (refine Need.mk ?_ ?_; (focus (first | trivial | rfl | assumption | (exact Nat.le_trans (by assumption) le10) | (exact Nat.lt_of_le_of_lt (by assumption) lt10) | (show (0 : Int) < _; first | decide | omega) | (show (0 : Int) ≤ _; first | decide | omega) | (exact .inl ⟨by omega, by omega⟩) | (exact .inr ⟨by decide, by decide⟩) | (refine ⟨?_, ?_⟩ <;> first | rfl | decide | omega) | (refine ⟨?_, ?_, ?_⟩ <;> first | rfl | decide | omega) | (exact ltN (Nat.le_of_ble_eq_true rfl)) | (exact leN (Nat.le_of_ble_eq_true rfl)))); (conv => whnf))
          exact ⟨rfl, _, _, true, by simp; omega, rfl⟩
        · have hc : (!decide (o = p)) = false := hc
          have hc : o = p := by simpa using hc
          conv => whnf
          repeat (refine Need.mk ?_ ?_; (focus (first | trivial | rfl | assumption | (exact Nat.le_trans (by assumption) le10) | (exact Nat.lt_of_le_of_lt (by assumption) lt10) | (show (0 : Int) < _; first | decide | omega) | (show (0 : Int) ≤ _; first | decide | omega) | (exact .inl ⟨by omega, by omega⟩) | (exact .inr ⟨by decide, by decide⟩) | (refine ⟨?_, ?_⟩ <;> first | rfl | decide | omega) | (refine ⟨?_, ?_, ?_⟩ <;> first | rfl | decide | omega) | (exact ltN (Nat.le_of_ble_eq_true rfl)) | (exact leN (Nat.le_of_ble_eq_true rfl)))); (conv => whnf))
          exact ⟨rfl, _, _, (!decide (d = c)), by simp; omega, rfl⟩
      · rintro s' S' ⟨rfl, z, y, b, hb, rfl⟩
        conv => whnf
        repeat (refine Need.mk ?_ ?_; (focus (first | trivial | rfl | assumption | (exact Nat.le_trans (by assumption) le10) | (exact Nat.lt_of_le_of_lt (by assumption) lt10) | (show (0 : Int) < _; first | decide | omega) | (show (0 : Int) ≤ _; first | decide | omega) | (exact .inl ⟨by omega, by omega⟩) | (exact .inr ⟨by decide, by decide⟩) | (refine ⟨?_, ?_⟩ <;> first | rfl | decide | omega) | (refine ⟨?_, ?_, ?_⟩ <;> first | rfl | decide | omega) | (exact ltN (Nat.le_of_ble_eq_true rfl)) | (exact leN (Nat.le_of_ble_eq_true rfl)))); (conv => whnf))
        refine lc_bad [cksPart p, cksCoat c, cksPart o, cksCoat d, (b, "sameone")] rfl (Nat.le_of_ble_eq_true rfl) (fun _ => rfl) ?_ ?_
        · intro b w acc
          refine ⟨_, rfl, fun R r => ?_, fun R r => ?_⟩
          · conv => whnf
            repeat (refine Need.mk ?_ ?_; (focus (first | trivial | rfl | assumption | (exact Nat.le_trans (by assumption) le10) | (exact Nat.lt_of_le_of_lt (by assumption) lt10) | (show (0 : Int) < _; first | decide | omega) | (show (0 : Int) ≤ _; first | decide | omega) | (exact .inl ⟨by omega, by omega⟩) | (exact .inr ⟨by decide, by decide⟩) | (refine ⟨?_, ?_⟩ <;> first | rfl | decide | omega) | (refine ⟨?_, ?_, ?_⟩ <;> first | rfl | decide | omega) | (exact ltN (Nat.le_of_ble_eq_true rfl)) | (exact leN (Nat.le_of_ble_eq_true rfl)))); (conv => whnf))
            exact r
          · conv => whnf
            repeat (refine Need.mk ?_ ?_; (focus (first | trivial | rfl | assumption | (exact Nat.le_trans (by assumption) le10) | (exact Nat.lt_of_le_of_lt (by assumption) lt10) | (show (0 : Int) < _; first | decide | omega) | (show (0 : Int) ≤ _; first | decide | omega) | (exact .inl ⟨by omega, by omega⟩) | (exact .inr ⟨by decide, by decide⟩) | (refine ⟨?_, ?_⟩ <;> first | rfl | decide | omega) | (refine ⟨?_, ?_, ?_⟩ <;> first | rfl | decide | omega) | (exact ltN (Nat.le_of_ble_eq_true rfl)) | (exact leN (Nat.le_of_ble_eq_true rfl)))); (conv => whnf))
            exact r
        · conv => whnf
          repeat (refine Need.mk ?_ ?_; (focus (first | trivial | rfl | assumption | (exact Nat.le_trans (by assumption) le10) | (exact Nat.lt_of_le_of_lt (by assumption) lt10) | (show (0 : Int) < _; first | decide | omega) | (show (0 : Int) ≤ _; first | decide | omega) | (exact .inl ⟨by omega, by omega⟩) | (exact .inr ⟨by decide, by decide⟩) | (refine ⟨?_, ?_⟩ <;> first | rfl | decide | omega) | (refine ⟨?_, ?_, ?_⟩ <;> first | rfl | decide | omega) | (exact ltN (Nat.le_of_ble_eq_true rfl)) | (exact leN (Nat.le_of_ble_eq_true rfl)))); (conv => whnf))
          refine Need.mk (bad_len (Nat.le_of_ble_eq_true rfl)) ?_
          conv => whnf
          repeat (refine Need.mk ?_ ?_; (focus (first | trivial | rfl | assumption | (exact Nat.le_trans (by assumption) le10) | (exact Nat.lt_of_le_of_lt (by assumption) lt10) | (show (0 : Int) < _; first | decide | omega) | (show (0 : Int) ≤ _; first | decide | omega) | (exact .inl ⟨by omega, by omega⟩) | (exact .inr ⟨by decide, by decide⟩) | (refine ⟨?_, ?_⟩ <;> first | rfl | decide | omega) | (refine ⟨?_, ?_, ?_⟩ <;> first | rfl | decide | omega) | (exact ltN (Nat.le_of_ble_eq_true rfl)) | (exact leN (Nat.le_of_ble_eq_true rfl)))); (conv => whnf))
          refine optI (firstBad_at _) ?_
          have e : firstBad [cksPart p, cksCoat c, cksPart o, cksCoat d, (b, "sameone")] = _ := fb_ahead hb
          rw [e]
          exact Rp q
    | same p c o d =>
      conv => whnf
      repeat (refine Need.mk ?_ ?_; (focus (first | trivial | rfl | assumption | (exact Nat.le_trans (by assumption) le10) | (exact Nat.lt_of_le_of_lt (by assumption) lt10) | (show (0 : Int) < _; first | decide | omega) | (show (0 : Int) ≤ _; first | decide | omega) | (exact .inl ⟨by omega, by omega⟩) | (exact .inr ⟨by decide, by decide⟩) | (refine ⟨?_, ?_⟩ <;> first | rfl | decide | omega) | (refine ⟨?_, ?_, ?_⟩ <;> first | rfl | decide | omega) | (exact ltN (Nat.le_of_ble_eq_true rfl)) | (exact leN (Nat.le_of_ble_eq_true rfl)))); (conv => whnf))
      refine ⟨_, rfl, ?_⟩
      conv => whnf
      repeat (refine Need.mk ?_ ?_; (focus (first | trivial | rfl | assumption | (exact Nat.le_trans (by assumption) le10) | (exact Nat.lt_of_le_of_lt (by assumption) lt10) | (show (0 : Int) < _; first | decide | omega) | (show (0 : Int) ≤ _; first | decide | omega) | (exact .inl ⟨by omega, by omega⟩) | (exact .inr ⟨by decide, by decide⟩) | (refine ⟨?_, ?_⟩ <;> first | rfl | decide | omega) | (refine ⟨?_, ?_, ?_⟩ <;> first | rfl | decide | omega) | (exact ltN (Nat.le_of_ble_eq_true rfl)) | (exact leN (Nat.le_of_ble_eq_true rfl)))); (conv => whnf))
      refine sD ?_
      conv => whnf
      repeat (refine Need.mk ?_ ?_; (focus (first | trivial | rfl | assumption | (exact Nat.le_trans (by assumption) le10) | (exact Nat.lt_of_le_of_lt (by assumption) lt10) | (show (0 : Int) < _; first | decide | omega) | (show (0 : Int) ≤ _; first | decide | omega) | (exact .inl ⟨by omega, by omega⟩) | (exact .inr ⟨by decide, by decide⟩) | (refine ⟨?_, ?_⟩ <;> first | rfl | decide | omega) | (refine ⟨?_, ?_, ?_⟩ <;> first | rfl | decide | omega) | (exact ltN (Nat.le_of_ble_eq_true rfl)) | (exact leN (Nat.le_of_ble_eq_true rfl)))); (conv => whnf))
      refine sD ?_
      conv => whnf
      repeat (refine Need.mk ?_ ?_; (focus (first | trivial | rfl | assumption | (exact Nat.le_trans (by assumption) le10) | (exact Nat.lt_of_le_of_lt (by assumption) lt10) | (show (0 : Int) < _; first | decide | omega) | (show (0 : Int) ≤ _; first | decide | omega) | (exact .inl ⟨by omega, by omega⟩) | (exact .inr ⟨by decide, by decide⟩) | (refine ⟨?_, ?_⟩ <;> first | rfl | decide | omega) | (refine ⟨?_, ?_, ?_⟩ <;> first | rfl | decide | omega) | (exact ltN (Nat.le_of_ble_eq_true rfl)) | (exact leN (Nat.le_of_ble_eq_true rfl)))); (conv => whnf))
      refine sD ?_
      conv => whnf
      repeat (refine Need.mk ?_ ?_; (focus (first | trivial | rfl | assumption | (exact Nat.le_trans (by assumption) le10) | (exact Nat.lt_of_le_of_lt (by assumption) lt10) | (show (0 : Int) < _; first | decide | omega) | (show (0 : Int) ≤ _; first | decide | omega) | (exact .inl ⟨by omega, by omega⟩) | (exact .inr ⟨by decide, by decide⟩) | (refine ⟨?_, ?_⟩ <;> first | rfl | decide | omega) | (refine ⟨?_, ?_, ?_⟩ <;> first | rfl | decide | omega) | (exact ltN (Nat.le_of_ble_eq_true rfl)) | (exact leN (Nat.le_of_ble_eq_true rfl)))); (conv => whnf))
      refine sD ?_
      conv => whnf
      repeat (refine Need.mk ?_ ?_; (focus (first | trivial | rfl | assumption | (exact Nat.le_trans (by assumption) le10) | (exact Nat.lt_of_le_of_lt (by assumption) lt10) | (show (0 : Int) < _; first | decide | omega) | (show (0 : Int) ≤ _; first | decide | omega) | (exact .inl ⟨by omega, by omega⟩) | (exact .inr ⟨by decide, by decide⟩) | (refine ⟨?_, ?_⟩ <;> first | rfl | decide | omega) | (refine ⟨?_, ?_, ?_⟩ <;> first | rfl | decide | omega) | (exact ltN (Nat.le_of_ble_eq_true rfl)) | (exact leN (Nat.le_of_ble_eq_true rfl)))); (conv => whnf))
      refine sM (fun s' S' => s' = [some (Fc.same p c o d).d, none, some (.str "same"), none, some (.ref 2), none, none] ∧ ∃ z y b, (b = true ↔ p ≠ o) ∧ S' = [z, y, .lst ([cksPart p, cksCoat c, cksPart o, cksCoat d, (b, "sameone")].map ckD)]) ?_ ?_
      · conv => whnf
        repeat (refine Need.mk ?_ ?_; (focus (first | trivial | rfl | assumption | (exact Nat.le_trans (by assumption) le10) | (exact Nat.lt_of_le_of_lt (by assumption) lt10) | (show (0 : Int) < _; first | decide | omega) | (show (0 : Int) ≤ _; first | decide | omega) | (exact .inl ⟨by omega, by omega⟩) | (exact .inr ⟨by decide, by decide⟩) | (refine ⟨?_, ?_⟩ <;> first | rfl | decide | omega) | (refine ⟨?_, ?_, ?_⟩ <;> first | rfl | decide | omega) | (exact ltN (Nat.le_of_ble_eq_true rfl)) | (exact leN (Nat.le_of_ble_eq_true rfl)))); (conv => whnf))
        refine lif (fun hc => ?_) (fun hc => ?_)
        · have hc : (!decide (o = p)) = true := hc
          have hc : ¬ o = p := by simpa using hc
          conv => whnf
          repeat (refine Need.mk ?_ ?_; (focus (first | trivial | rfl | assumption | (exact Nat.le_trans (by assumption) le10) | (exact Nat.lt_of_le_of_lt (by assumption) lt10) | (show (0 : Int) < _; first | decide | omega) | (show (0 : Int) ≤ _; first | decide | omega) | (exact .inl ⟨by omega, by omega⟩) | (exact .inr ⟨by decide, by decide⟩) | (refine ⟨?_, ?_⟩ <;> first | rfl | decide | omega) | (refine ⟨?_, ?_, ?_⟩ <;> first | rfl | decide | omega) | (exact ltN (Nat.le_of_ble_eq_true rfl)) | (exact leN (Nat.le_of_ble_eq_true rfl)))); (conv => whnf))
          exact ⟨rfl, _, _, true, by simp; omega, rfl⟩
        · have hc : (!decide (o = p)) = false := hc
          have hc : o = p := by simpa using hc
          conv => whnf
          repeat (refine Need.mk ?_ ?_; (focus (first | trivial | rfl | assumption | (exact Nat.le_trans (by assumption) le10) | (exact Nat.lt_of_le_of_lt (by assumption) lt10) | (show (0 : Int) < _; first | decide | omega) | (show (0 : Int) ≤ _; first | decide | omega) | (exact .inl ⟨by omega, by omega⟩) | (exact .inr ⟨by decide, by decide⟩) | (refine ⟨?_, ?_⟩ <;> first | rfl | decide | omega) | (refine ⟨?_, ?_, ?_⟩ <;> first | rfl | decide | omega) | (exact ltN (Nat.le_of_ble_eq_true rfl)) | (exact leN (Nat.le_of_ble_eq_true rfl)))); (conv => whnf))
          exact ⟨rfl, _, _, false, by simp; omega, rfl⟩
      · rintro s' S' ⟨rfl, z, y, b, hb, rfl⟩
        conv => whnf
        repeat (refine Need.mk ?_ ?_; (focus (first | trivial | rfl | assumption | (exact Nat.le_trans (by assumption) le10) | (exact Nat.lt_of_le_of_lt (by assumption) lt10) | (show (0 : Int) < _; first | decide | omega) | (show (0 : Int) ≤ _; first | decide | omega) | (exact .inl ⟨by omega, by omega⟩) | (exact .inr ⟨by decide, by decide⟩) | (refine ⟨?_, ?_⟩ <;> first | rfl | decide | omega) | (refine ⟨?_, ?_, ?_⟩ <;> first | rfl | decide | omega) | (exact ltN (Nat.le_of_ble_eq_true rfl)) | (exact leN (Nat.le_of_ble_eq_true rfl)))); (conv => whnf))
        refine lc_bad [cksPart p, cksCoat c, cksPart o, cksCoat d, (b, "sameone")] rfl (Nat.le_of_ble_eq_true rfl) (fun _ => rfl) ?_ ?_
        · intro b w acc
          refine ⟨_, rfl, fun R r => ?_, fun R r => ?_⟩
          · conv => whnf
            repeat (refine Need.mk ?_ ?_; (focus (first | trivial | rfl | assumption | (exact Nat.le_trans (by assumption) le10) | (exact Nat.lt_of_le_of_lt (by assumption) lt10) | (show (0 : Int) < _; first | decide | omega) | (show (0 : Int) ≤ _; first | decide | omega) | (exact .inl ⟨by omega, by omega⟩) | (exact .inr ⟨by decide, by decide⟩) | (refine ⟨?_, ?_⟩ <;> first | rfl | decide | omega) | (refine ⟨?_, ?_, ?_⟩ <;> first | rfl | decide | omega) | (exact ltN (Nat.le_of_ble_eq_true rfl)) | (exact leN (Nat.le_of_ble_eq_true rfl)))); (conv => whnf))
            exact r
          · conv => whnf
            repeat (refine Need.mk ?_ ?_; (focus (first | trivial | rfl | assumption | (exact Nat.le_trans (by assumption) le10) | (exact Nat.lt_of_le_of_lt (by assumption) lt10) | (show (0 : Int) < _; first | decide | omega) | (show (0 : Int) ≤ _; first | decide | omega) | (exact .inl ⟨by omega, by omega⟩) | (exact .inr ⟨by decide, by decide⟩) | (refine ⟨?_, ?_⟩ <;> first | rfl | decide | omega) | (refine ⟨?_, ?_, ?_⟩ <;> first | rfl | decide | omega) | (exact ltN (Nat.le_of_ble_eq_true rfl)) | (exact leN (Nat.le_of_ble_eq_true rfl)))); (conv => whnf))
            exact r
        · conv => whnf
          repeat (refine Need.mk ?_ ?_; (focus (first | trivial | rfl | assumption | (exact Nat.le_trans (by assumption) le10) | (exact Nat.lt_of_le_of_lt (by assumption) lt10) | (show (0 : Int) < _; first | decide | omega) | (show (0 : Int) ≤ _; first | decide | omega) | (exact .inl ⟨by omega, by omega⟩) | (exact .inr ⟨by decide, by decide⟩) | (refine ⟨?_, ?_⟩ <;> first | rfl | decide | omega) | (refine ⟨?_, ?_, ?_⟩ <;> first | rfl | decide | omega) | (exact ltN (Nat.le_of_ble_eq_true rfl)) | (exact leN (Nat.le_of_ble_eq_true rfl)))); (conv => whnf))
          refine Need.mk (bad_len (Nat.le_of_ble_eq_true rfl)) ?_
          conv => whnf
          repeat (refine Need.mk ?_ ?_; (focus (first | trivial | rfl | assumption | (exact Nat.le_trans (by assumption) le10) | (exact Nat.lt_of_le_of_lt (by assumption) lt10) | (show (0 : Int) < _; first | decide | omega) | (show (0 : Int) ≤ _; first | decide | omega) | (exact .inl ⟨by omega, by omega⟩) | (exact .inr ⟨by decide, by decide⟩) | (refine ⟨?_, ?_⟩ <;> first | rfl | decide | omega) | (refine ⟨?_, ?_, ?_⟩ <;> first | rfl | decide | omega) | (exact ltN (Nat.le_of_ble_eq_true rfl)) | (exact leN (Nat.le_of_ble_eq_true rfl)))); (conv => whnf))
          refine optI (firstBad_at _) ?_
          have e : firstBad [cksPart p, cksCoat c, cksPart o, cksCoat d, (b, "sameone")] = _ := fb_paired hb
          rw [e]
          exact Rp q
    | apart p c o d =>
      conv => whnf
      repeat (refine Need.mk ?_ ?_; (focus (first | trivial | rfl | assumption | (exact Nat.le_trans (by assumption) le10) | (exact Nat.lt_of_le_of_lt (by assumption) lt10) | (show (0 : Int) < _; first | decide | omega) | (show (0 : Int) ≤ _; first | decide | omega) | (exact .inl ⟨by omega, by omega⟩) | (exact .inr ⟨by decide, by decide⟩) | (refine ⟨?_, ?_⟩ <;> first | rfl | decide | omega) | (refine ⟨?_, ?_, ?_⟩ <;> first | rfl | decide | omega) | (exact ltN (Nat.le_of_ble_eq_true rfl)) | (exact leN (Nat.le_of_ble_eq_true rfl)))); (conv => whnf))
      refine ⟨_, rfl, ?_⟩
      conv => whnf
      repeat (refine Need.mk ?_ ?_; (focus (first | trivial | rfl | assumption | (exact Nat.le_trans (by assumption) le10) | (exact Nat.lt_of_le_of_lt (by assumption) lt10) | (show (0 : Int) < _; first | decide | omega) | (show (0 : Int) ≤ _; first | decide | omega) | (exact .inl ⟨by omega, by omega⟩) | (exact .inr ⟨by decide, by decide⟩) | (refine ⟨?_, ?_⟩ <;> first | rfl | decide | omega) | (refine ⟨?_, ?_, ?_⟩ <;> first | rfl | decide | omega) | (exact ltN (Nat.le_of_ble_eq_true rfl)) | (exact leN (Nat.le_of_ble_eq_true rfl)))); (conv => whnf))
      refine sD ?_
      conv => whnf
      repeat (refine Need.mk ?_ ?_; (focus (first | trivial | rfl | assumption | (exact Nat.le_trans (by assumption) le10) | (exact Nat.lt_of_le_of_lt (by assumption) lt10) | (show (0 : Int) < _; first | decide | omega) | (show (0 : Int) ≤ _; first | decide | omega) | (exact .inl ⟨by omega, by omega⟩) | (exact .inr ⟨by decide, by decide⟩) | (refine ⟨?_, ?_⟩ <;> first | rfl | decide | omega) | (refine ⟨?_, ?_, ?_⟩ <;> first | rfl | decide | omega) | (exact ltN (Nat.le_of_ble_eq_true rfl)) | (exact leN (Nat.le_of_ble_eq_true rfl)))); (conv => whnf))
      refine sD ?_
      conv => whnf
      repeat (refine Need.mk ?_ ?_; (focus (first | trivial | rfl | assumption | (exact Nat.le_trans (by assumption) le10) | (exact Nat.lt_of_le_of_lt (by assumption) lt10) | (show (0 : Int) < _; first | decide | omega) | (show (0 : Int) ≤ _; first | decide | omega) | (exact .inl ⟨by omega, by omega⟩) | (exact .inr ⟨by decide, by decide⟩) | (refine ⟨?_, ?_⟩ <;> first | rfl | decide | omega) | (refine ⟨?_, ?_, ?_⟩ <;> first | rfl | decide | omega) | (exact ltN (Nat.le_of_ble_eq_true rfl)) | (exact leN (Nat.le_of_ble_eq_true rfl)))); (conv => whnf))
      refine sD ?_
      conv => whnf
      repeat (refine Need.mk ?_ ?_; (focus (first | trivial | rfl | assumption | (exact Nat.le_trans (by assumption) le10) | (exact Nat.lt_of_le_of_lt (by assumption) lt10) | (show (0 : Int) < _; first | decide | omega) | (show (0 : Int) ≤ _; first | decide | omega) | (exact .inl ⟨by omega, by omega⟩) | (exact .inr ⟨by decide, by decide⟩) | (refine ⟨?_, ?_⟩ <;> first | rfl | decide | omega) | (refine ⟨?_, ?_, ?_⟩ <;> first | rfl | decide | omega) | (exact ltN (Nat.le_of_ble_eq_true rfl)) | (exact leN (Nat.le_of_ble_eq_true rfl)))); (conv => whnf))
      refine sD ?_
      conv => whnf
      repeat (refine Need.mk ?_ ?_; (focus (first | trivial | rfl | assumption | (exact Nat.le_trans (by assumption) le10) | (exact Nat.lt_of_le_of_lt (by assumption) lt10) | (show (0 : Int) < _; first | decide | omega) | (show (0 : Int) ≤ _; first | decide | omega) | (exact .inl ⟨by omega, by omega⟩) | (exact .inr ⟨by decide, by decide⟩) | (refine ⟨?_, ?_⟩ <;> first | rfl | decide | omega) | (refine ⟨?_, ?_, ?_⟩ <;> first | rfl | decide | omega) | (exact ltN (Nat.le_of_ble_eq_true rfl)) | (exact leN (Nat.le_of_ble_eq_true rfl)))); (conv => whnf))
      refine sM (fun s' S' => s' = [some (Fc.apart p c o d).d, none, some (.str "apart"), none, some (.ref 2), none, none] ∧ ∃ z y b, (b = true ↔ p ≠ o) ∧ S' = [z, y, .lst ([cksPart p, cksCoat c, cksPart o, cksCoat d, (b, "sameone")].map ckD)]) ?_ ?_
      · conv => whnf
        repeat (refine Need.mk ?_ ?_; (focus (first | trivial | rfl | assumption | (exact Nat.le_trans (by assumption) le10) | (exact Nat.lt_of_le_of_lt (by assumption) lt10) | (show (0 : Int) < _; first | decide | omega) | (show (0 : Int) ≤ _; first | decide | omega) | (exact .inl ⟨by omega, by omega⟩) | (exact .inr ⟨by decide, by decide⟩) | (refine ⟨?_, ?_⟩ <;> first | rfl | decide | omega) | (refine ⟨?_, ?_, ?_⟩ <;> first | rfl | decide | omega) | (exact ltN (Nat.le_of_ble_eq_true rfl)) | (exact leN (Nat.le_of_ble_eq_true rfl)))); (conv => whnf))
        refine lif (fun hc => ?_) (fun hc => ?_)
        · have hc : (!decide (o = p)) = true := hc
          have hc : ¬ o = p := by simpa using hc
          conv => whnf
          repeat (refine Need.mk ?_ ?_; (focus (first | trivial | rfl | assumption | (exact Nat.le_trans (by assumption) le10) | (exact Nat.lt_of_le_of_lt (by assumption) lt10) | (show (0 : Int) < _; first | decide | omega) | (show (0 : Int) ≤ _; first | decide | omega) | (exact .inl ⟨by omega, by omega⟩) | (exact .inr ⟨by decide, by decide⟩) | (refine ⟨?_, ?_⟩ <;> first | rfl | decide | omega) | (refine ⟨?_, ?_, ?_⟩ <;> first | rfl | decide | omega) | (exact ltN (Nat.le_of_ble_eq_true rfl)) | (exact leN (Nat.le_of_ble_eq_true rfl)))); (conv => whnf))
          exact ⟨rfl, _, _, true, by simp; omega, rfl⟩
        · have hc : (!decide (o = p)) = false := hc
          have hc : o = p := by simpa using hc
          conv => whnf
          repeat (refine Need.mk ?_ ?_; (focus (first | trivial | rfl | assumption | (exact Nat.le_trans (by assumption) le10) | (exact Nat.lt_of_le_of_lt (by assumption) lt10) | (show (0 : Int) < _; first | decide | omega) | (show (0 : Int) ≤ _; first | decide | omega) | (exact .inl ⟨by omega, by omega⟩) | (exact .inr ⟨by decide, by decide⟩) | (refine ⟨?_, ?_⟩ <;> first | rfl | decide | omega) | (refine ⟨?_, ?_, ?_⟩ <;> first | rfl | decide | omega) | (exact ltN (Nat.le_of_ble_eq_true rfl)) | (exact leN (Nat.le_of_ble_eq_true rfl)))); (conv => whnf))
          exact ⟨rfl, _, _, false, by simp; omega, rfl⟩
      · rintro s' S' ⟨rfl, z, y, b, hb, rfl⟩
        conv => whnf
        repeat (refine Need.mk ?_ ?_; (focus (first | trivial | rfl | assumption | (exact Nat.le_trans (by assumption) le10) | (exact Nat.lt_of_le_of_lt (by assumption) lt10) | (show (0 : Int) < _; first | decide | omega) | (show (0 : Int) ≤ _; first | decide | omega) | (exact .inl ⟨by omega, by omega⟩) | (exact .inr ⟨by decide, by decide⟩) | (refine ⟨?_, ?_⟩ <;> first | rfl | decide | omega) | (refine ⟨?_, ?_, ?_⟩ <;> first | rfl | decide | omega) | (exact ltN (Nat.le_of_ble_eq_true rfl)) | (exact leN (Nat.le_of_ble_eq_true rfl)))); (conv => whnf))
        refine lc_bad [cksPart p, cksCoat c, cksPart o, cksCoat d, (b, "sameone")] rfl (Nat.le_of_ble_eq_true rfl) (fun _ => rfl) ?_ ?_
        · intro b w acc
          refine ⟨_, rfl, fun R r => ?_, fun R r => ?_⟩
          · conv => whnf
            repeat (refine Need.mk ?_ ?_; (focus (first | trivial | rfl | assumption | (exact Nat.le_trans (by assumption) le10) | (exact Nat.lt_of_le_of_lt (by assumption) lt10) | (show (0 : Int) < _; first | decide | omega) | (show (0 : Int) ≤ _; first | decide | omega) | (exact .inl ⟨by omega, by omega⟩) | (exact .inr ⟨by decide, by decide⟩) | (refine ⟨?_, ?_⟩ <;> first | rfl | decide | omega) | (refine ⟨?_, ?_, ?_⟩ <;> first | rfl | decide | omega) | (exact ltN (Nat.le_of_ble_eq_true rfl)) | (exact leN (Nat.le_of_ble_eq_true rfl)))); (conv => whnf))
            exact r
          · conv => whnf
            repeat (refine Need.mk ?_ ?_; (focus (first | trivial | rfl | assumption | (exact Nat.le_trans (by assumption) le10) | (exact Nat.lt_of_le_of_lt (by assumption) lt10) | (show (0 : Int) < _; first | decide | omega) | (show (0 : Int) ≤ _; first | decide | omega) | (exact .inl ⟨by omega, by omega⟩) | (exact .inr ⟨by decide, by decide⟩) | (refine ⟨?_, ?_⟩ <;> first | rfl | decide | omega) | (refine ⟨?_, ?_, ?_⟩ <;> first | rfl | decide | omega) | (exact ltN (Nat.le_of_ble_eq_true rfl)) | (exact leN (Nat.le_of_ble_eq_true rfl)))); (conv => whnf))
            exact r
        · conv => whnf
          repeat (refine Need.mk ?_ ?_; (focus (first | trivial | rfl | assumption | (exact Nat.le_trans (by assumption) le10) | (exact Nat.lt_of_le_of_lt (by assumption) lt10) | (show (0 : Int) < _; first | decide | omega) | (show (0 : Int) ≤ _; first | decide | omega) | (exact .inl ⟨by omega, by omega⟩) | (exact .inr ⟨by decide, by decide⟩) | (refine ⟨?_, ?_⟩ <;> first | rfl | decide | omega) | (refine ⟨?_, ?_, ?_⟩ <;> first | rfl | decide | omega) | (exact ltN (Nat.le_of_ble_eq_true rfl)) | (exact leN (Nat.le_of_ble_eq_true rfl)))); (conv => whnf))
          refine Need.mk (bad_len (Nat.le_of_ble_eq_true rfl)) ?_
          conv => whnf
          repeat (refine Need.mk ?_ ?_; (focus (first | trivial | rfl | assumption | (exact Nat.le_trans (by assumption) le10) | (exact Nat.lt_of_le_of_lt (by assumption) lt10) | (show (0 : Int) < _; first | decide | omega) | (show (0 : Int) ≤ _; first | decide | omega) | (exact .inl ⟨by omega, by omega⟩) | (exact .inr ⟨by decide, by decide⟩) | (refine ⟨?_, ?_⟩ <;> first | rfl | decide | omega) | (refine ⟨?_, ?_, ?_⟩ <;> first | rfl | decide | omega) | (exact ltN (Nat.le_of_ble_eq_true rfl)) | (exact leN (Nat.le_of_ble_eq_true rfl)))); (conv => whnf))
          refine optI (firstBad_at _) ?_
          have e : firstBad [cksPart p, cksCoat c, cksPart o, cksCoat d, (b, "sameone")] = _ := fb_paired hb
          rw [e]
          exact Rp q
  · conv => whnf
    repeat (refine Need.mk ?_ ?_; (focus (first | trivial | rfl | assumption | (exact Nat.le_trans (by assumption) le10) | (exact Nat.lt_of_le_of_lt (by assumption) lt10) | (show (0 : Int) < _; first | decide | omega) | (show (0 : Int) ≤ _; first | decide | omega) | (exact .inl ⟨by omega, by omega⟩) | (exact .inr ⟨by decide, by decide⟩) | (refine ⟨?_, ?_⟩ <;> first | rfl | decide | omega) | (refine ⟨?_, ?_, ?_⟩ <;> first | rfl | decide | omega) | (exact ltN (Nat.le_of_ble_eq_true rfl)) | (exact leN (Nat.le_of_ble_eq_true rfl)))); (conv => whnf))
    exact Rp q
  · conv => whnf
    repeat (refine Need.mk ?_ ?_; (focus (first | trivial | rfl | assumption | (exact Nat.le_trans (by assumption) le10) | (exact Nat.lt_of_le_of_lt (by assumption) lt10) | (show (0 : Int) < _; first | decide | omega) | (show (0 : Int) ≤ _; first | decide | omega) | (exact .inl ⟨by omega, by omega⟩) | (exact .inr ⟨by decide, by decide⟩) | (refine ⟨?_, ?_⟩ <;> first | rfl | decide | omega) | (refine ⟨?_, ?_, ?_⟩ <;> first | rfl | decide | omega) | (exact ltN (Nat.le_of_ble_eq_true rfl)) | (exact leN (Nat.le_of_ble_eq_true rfl)))); (conv => whnf))
    refine optI (show L2.atI (D.str x :: r) 0 = some (.str x) from atI_get (by decide) rfl) ?_
    conv => whnf
    repeat (refine Need.mk ?_ ?_; (focus (first | trivial | rfl | assumption | (exact Nat.le_trans (by assumption) le10) | (exact Nat.lt_of_le_of_lt (by assumption) lt10) | (show (0 : Int) < _; first | decide | omega) | (show (0 : Int) ≤ _; first | decide | omega) | (exact .inl ⟨by omega, by omega⟩) | (exact .inr ⟨by decide, by decide⟩) | (refine ⟨?_, ?_⟩ <;> first | rfl | decide | omega) | (refine ⟨?_, ?_, ?_⟩ <;> first | rfl | decide | omega) | (exact ltN (Nat.le_of_ble_eq_true rfl)) | (exact leN (Nat.le_of_ble_eq_true rfl)))); (conv => whnf))
    rw [dget_things x]
    conv => whnf
    repeat (refine Need.mk ?_ ?_; (focus (first | trivial | rfl | assumption | (exact Nat.le_trans (by assumption) le10) | (exact Nat.lt_of_le_of_lt (by assumption) lt10) | (show (0 : Int) < _; first | decide | omega) | (show (0 : Int) ≤ _; first | decide | omega) | (exact .inl ⟨by omega, by omega⟩) | (exact .inr ⟨by decide, by decide⟩) | (refine ⟨?_, ?_⟩ <;> first | rfl | decide | omega) | (refine ⟨?_, ?_, ?_⟩ <;> first | rfl | decide | omega) | (exact ltN (Nat.le_of_ble_eq_true rfl)) | (exact leN (Nat.le_of_ble_eq_true rfl)))); (conv => whnf))
    refine lifT (by show (!decide ((things.lookup x).getD 0 = (((D.str x :: r).length : Nat) : Int))) = true; rw [decide_eq_false (things_ne hne)]; rfl) ?_
    conv => whnf
    repeat (refine Need.mk ?_ ?_; (focus (first | trivial | rfl | assumption | (exact Nat.le_trans (by assumption) le10) | (exact Nat.lt_of_le_of_lt (by assumption) lt10) | (show (0 : Int) < _; first | decide | omega) | (show (0 : Int) ≤ _; first | decide | omega) | (exact .inl ⟨by omega, by omega⟩) | (exact .inr ⟨by decide, by decide⟩) | (refine ⟨?_, ?_⟩ <;> first | rfl | decide | omega) | (refine ⟨?_, ?_, ?_⟩ <;> first | rfl | decide | omega) | (exact ltN (Nat.le_of_ble_eq_true rfl)) | (exact leN (Nat.le_of_ble_eq_true rfl)))); (conv => whnf))
    exact Rp q
def Fc.wd : Fc → Str
  | .scrape _ _ _ => "scrape"
  | .cover _ _ _ => "cover"
  | .moved _ _ _ _ => "moved"
  | .year _ _ _ _ => "year"
  | .sold _ _ => "sold"
  | .ahead _ _ _ _ => "ahead"
  | .same _ _ _ _ => "same"
  | .apart _ _ _ _ => "apart"
def Fc.rs : Fc → List D
  | .scrape p c sh => [.int p, .int c, .tup (sh.map D.int)]
  | .cover p l d => [.int p, .int l, .int d]
  | .moved p c l d => [.int p, .int c, .int l, .int d]
  | .year p c f l => [.int p, .int c, .int f, .int l]
  | .sold s y => [.int s, .int y]
  | .ahead p c o d => [.int p, .int c, .int o, .int d]
  | .same p c o d => [.int p, .int c, .int o, .int d]
  | .apart p c o d => [.int p, .int c, .int o, .int d]
theorem Fc.d_is (f : Fc) : f.d = .tup (.str (Fc.wd f) :: Fc.rs f) := by cases f <;> rfl
theorem Fc.rs_len (f : Fc) : 2 ≤ (Fc.rs f).length ∧ (Fc.rs f).length ≤ 4 := by cases f <;> exact ⟨Nat.le_of_ble_eq_true rfl, Nat.le_of_ble_eq_true rfl⟩
theorem Fc.rs_pl (f : Fc) : D.pls (Fc.rs f) 9 := by
  have h : D.pl f.d 10 := Fc.pl (n := 8)
  rw [Fc.d_is] at h
  exact h.2
theorem Fc.things (f : Fc) : LC.things.lookup (Fc.wd f) = some (((Fc.rs f).length + 1 : Nat) : Int) := by cases f <;> rfl
theorem fc_fine {f : Fc} (h : f.good [1, 2, 3, 4] 5) : ocFc f = .fine := by
  have hp : ∀ p : Int, p ∈ ([1, 2, 3, 4] : List Int) → ocPart p = .fine := fun p hp => ocIf_pos (by simp at hp; omega)
  have hc : ∀ c : Int, 0 ≤ c → c < 5 → ocCoat c = .fine := fun c h0 h1 => ocIf_pos ⟨h0, h1⟩
  have hd : ∀ c l : Int, l ≤ c → c ≤ 5 → ocDepth c l = .fine := fun c l h0 h1 => ocIf_pos ⟨h0, h1⟩
  have hy : ∀ c : Int, 0 ≤ c → c ≤ 999 → ocYear c = .fine := fun c h0 h1 => ocIf_pos ⟨h0, h1⟩
  cases f with
  | scrape p c sh =>
    obtain ⟨h1, h2, h3, h4, h5⟩ := h
    show ocScrape p c sh = _
    unfold ocScrape
    rw [hp p h1, hc c h2 (by omega), ocIf_pos (c := sh ≠ [] ∧ goodN sh) ⟨by rintro rfl; simp at h3, h5⟩, ocIf_pos h4]
    rfl
  | cover p l d =>
    obtain ⟨h1, h2, h3, h4, h5⟩ := h
    show ocCover p l d = _
    unfold ocCover ocTwo
    rw [hp p h1, hp l h2, ocIf_pos h3, hd d 0 h4 h5]
    rfl
  | moved p c l d =>
    obtain ⟨h1, h2, h3, h4, h5, h6, h7⟩ := h
    show ocMoved p c l d = _
    unfold ocMoved ocTwo
    rw [hp p h1, hd c 1 h2 h3, hp l h4, ocIf_pos h5, hd d 0 h6 h7]
    rfl
  | year p c f l =>
    obtain ⟨h1, h2, h3, h4, h5, h6⟩ := h
    show ocDated p c f l = _
    unfold ocDated
    rw [hp p h1, hc c h2 h3, hy f h4 (by omega), hy l (by omega) h6, ocIf_pos h5]
    rfl
  | sold s y =>
    obtain ⟨h1, h2, h3, h4⟩ := h
    show ocSold s y = _
    unfold ocSold
    rw [ocIf_pos ⟨h1, h2⟩, hy y h3 h4]
    rfl
  | ahead p c o d =>
    obtain ⟨h1, h2, h3, h4, h5, h6, h7⟩ := h
    show ocAhead p c o d = _
    unfold ocAhead ocCoats
    rw [hp p h1, hc c h2 h3, hp o h4, hc d h5 h6, ocIf_pos h7]
    rfl
  | same p c o d =>
    obtain ⟨h1, h2, h3, h4, h5, h6, h7⟩ := h
    show ocPaired p c o d = _
    unfold ocPaired ocCoats
    rw [hp p h1, hc c h2 h3, hp o h4, hc d h5 h6, ocIf_pos h7]
    rfl
  | apart p c o d =>
    obtain ⟨h1, h2, h3, h4, h5, h6, h7⟩ := h
    show ocPaired p c o d = _
    unfold ocPaired ocCoats
    rw [hp p h1, hc c h2 h3, hp o h4, hc d h5 h6, ocIf_pos h7]
    rfl
/-- a thing that may be looked at: a finding of this house, the empty tuple, a tuple of a strange form -/
def FactD (d : D) : Prop := (∃ f : Fc, d = f.d ∧ f.sh.length ≤ 1000 ∧ f.good [1, 2, 3, 4] 5) ∨ d = .tup [] ∨ ∃ (x : Str) (r : List D), d = .tup (.str x :: r) ∧ r.length ≤ 1000 ∧ things.lookup x ≠ some ((r.length + 1 : Nat) : Int) ∧ PyData.strOk x = true ∧ D.pls r 9
theorem FactD.pl {d : D} (h : FactD d) : D.pl d 10 := by
  rcases h with ⟨f, rfl, _⟩ | rfl | ⟨x, r, rfl, _, _, hx, h⟩
  · exact Fc.pl (n := 8)
  · exact trivial
  · exact ⟨hx, h⟩
theorem FactD.lt {d : D} {n : Nat} (h : FactD d) : D.lt n d := h.pl.lt
/-- what naming it tells -/
def namedD (d : D) (e : D) : Prop := (∃ f : Fc, d = f.d ∧ f.sh.length ≤ 1000 ∧ f.good [1, 2, 3, 4] 5 ∧ e = .non) ∨ (d = .tup [] ∧ e = .lst [.str "badfact", .str ""]) ∨ ∃ (x : Str) (r : List D), d = .tup (.str x :: r) ∧ r.length ≤ 1000 ∧ things.lookup x ≠ some ((r.length + 1 : Nat) : Int) ∧ e = .lst [.str "badfact", .str x]
def sp__law_named (a : Ad) : SpP := fun ds Q _ => ∃ d : D, ds = [d] ∧ D.lt 0 d ∧ ∃ e, namedD d e ∧ Q e
theorem ok__law_named (T : Txt K w mg a) (G_need_fact : Fx P w K mg base 8 a.a_need_fact a.d_need_fact "need_fact" ["fact"] (lp (sp_need_fact a))) : Fx P w K mg base 9 a.a__law_named a.d__law_named "_law_named" ["_law_fact_here"] (lp (sp__law_named a)) := by
  refine ⟨fn_P T.F__law_named sc__law_named (by (intro ds Q E h; first | (obtain ⟨h, hr⟩ := h; subst h; (try (obtain ⟨_, hr⟩ := hr)); (try (obtain ⟨_, hr⟩ := hr)); (try (obtain ⟨_, hr⟩ := hr)); (try (obtain ⟨_, hr⟩ := hr)); (all_goals exact ⟨rfl, by (repeat' (first | trivial | exact D.lts_ints _ | exact D.lts_strs _ | exact Fc.lt | exact fcs_lt _ | exact nfs_lt _ | exact nf_lt | exact D.pl.lt (by assumption) | exact D.dp.lt (by assumption) | exact D.dps.lt (by assumption) | exact D.pls.lt (by assumption) | assumption | refine ⟨?_, ?_⟩))⟩)) | (obtain ⟨_, h, hr⟩ := h; subst h; (try (obtain ⟨_, hr⟩ := hr)); (try (obtain ⟨_, hr⟩ := hr)); (try (obtain ⟨_, hr⟩ := hr)); (try (obtain ⟨_, hr⟩ := hr)); (all_goals exact ⟨rfl, by (repeat' (first | trivial | exact D.lts_ints _ | exact D.lts_strs _ | exact Fc.lt | exact fcs_lt _ | exact nfs_lt _ | exact nf_lt | exact D.pl.lt (by assumption) | exact D.dp.lt (by assumption) | exact D.dps.lt (by assumption) | exact D.pls.lt (by assumption) | assumption | refine ⟨?_, ?_⟩))⟩)) | (obtain ⟨_, _, h, hr⟩ := h; subst h; (try (obtain ⟨_, hr⟩ := hr)); (try (obtain ⟨_, hr⟩ := hr)); (try (obtain ⟨_, hr⟩ := hr)); (try (obtain ⟨_, hr⟩ := hr)); (all_goals exact ⟨rfl, by (repeat' (first | trivial | exact D.lts_ints _ | exact D.lts_strs _ | exact Fc.lt | exact fcs_lt _ | exact nfs_lt _ | exact nf_lt | exact D.pl.lt (by assumption) | exact D.dp.lt (by assumption) | exact D.dps.lt (by assumption) | exact D.pls.lt (by assumption) | assumption | refine ⟨?_, ?_⟩))⟩)) | (obtain ⟨_, _, _, h, hr⟩ := h; subst h; (try (obtain ⟨_, hr⟩ := hr)); (try (obtain ⟨_, hr⟩ := hr)); (try (obtain ⟨_, hr⟩ := hr)); (try (obtain ⟨_, hr⟩ := hr)); (all_goals exact ⟨rfl, by (repeat' (first | trivial | exact D.lts_ints _ | exact D.lts_strs _ | exact Fc.lt | exact fcs_lt _ | exact nfs_lt _ | exact nf_lt | exact D.pl.lt (by assumption) | exact D.dp.lt (by assumption) | exact D.dps.lt (by assumption) | exact D.pls.lt (by assumption) | assumption | refine ⟨?_, ?_⟩))⟩)) | (obtain ⟨_, _, _, _, h, hr⟩ := h; subst h; (try (obtain ⟨_, hr⟩ := hr)); (try (obtain ⟨_, hr⟩ := hr)); (try (obtain ⟨_, hr⟩ := hr)); (try (obtain ⟨_, hr⟩ := hr)); (all_goals exact ⟨rfl, by (repeat' (first | trivial | exact D.lts_ints _ | exact D.lts_strs _ | exact Fc.lt | exact fcs_lt _ | exact nfs_lt _ | exact nf_lt | exact D.pl.lt (by assumption) | exact D.dp.lt (by assumption) | exact D.dps.lt (by assumption) | exact D.pls.lt (by assumption) | assumption | refine ⟨?_, ?_⟩))⟩)) | (obtain ⟨_, _, _, _, _, h, hr⟩ := h; subst h; (try (obtain ⟨_, hr⟩ := hr)); (try (obtain ⟨_, hr⟩ := hr)); (try (obtain ⟨_, hr⟩ := hr)); (try (obtain ⟨_, hr⟩ := hr)); (all_goals exact ⟨rfl, by (repeat' (first | trivial | exact D.lts_ints _ | exact D.lts_strs _ | exact Fc.lt | exact fcs_lt _ | exact nfs_lt _ | exact nf_lt | exact D.pl.lt (by assumption) | exact D.dp.lt (by assumption) | exact D.dps.lt (by assumption) | exact D.pls.lt (by assumption) | assumption | refine ⟨?_, ?_⟩))⟩)) | (obtain ⟨h, _⟩ := h; exact (by simp at h)))) fun cdv A outer s H E φ T0 W' room wl => ⟨_, (lss_consM (ls_try_as (c := .ref a.c_BadFact) (i := 1) rfl rfl sc__law_named.nd rfl rfl ⟨rfl, by decide, .inl T.k_BadFact⟩ (takes_of rfl rfl rfl rfl) wl (fun W1 V1 pn1 xe1 B1 bl1 tk1 wl1 ps1 => (lss_consW [0] (ls_expr (le_fx G_need_fact (room.mono (by decide)) tk1 wl1 (la_cons (lv 0) la_nil)))
    lss_nil)) (fun b1 oe1 cl1 d1 pm1 C1 fs1 B1 hz1 hf1 bl1 xr1 => (lss_cons (ls_ret (le_lst (la_cons (le_xf hz1 hf1 xr1 (lv 1)) (la_cons (le_xf hz1 hf1 xr1 (lv 1)) la_nil))))
    lss_nil)))
    (lss_w [0, 1] (lss_cons (ls_ret le_non)
    lss_nil))), fun ds S R X n h hW => ?_⟩, T.m__law_named, T.F__law_named.kp, T.b__law_named⟩
  obtain ⟨Q, E, h, rfl, rfl, rfl, rfl⟩ := h
  subst hW
  obtain ⟨d, rfl, hd, e, hn, q⟩ := h
  conv => whnf
  repeat (refine Need.mk ?_ ?_; (focus (first | trivial | rfl | assumption | (exact Nat.le_trans (by assumption) le10) | (exact Nat.lt_of_le_of_lt (by assumption) lt10) | (show (0 : Int) < _; first | decide | omega) | (show (0 : Int) ≤ _; first | decide | omega) | (exact .inl ⟨by omega, by omega⟩) | (exact .inr ⟨by decide, by decide⟩) | (refine ⟨?_, ?_⟩ <;> first | rfl | decide | omega) | (refine ⟨?_, ?_, ?_⟩ <;> first | rfl | decide | omega) | (exact ltN (Nat.le_of_ble_eq_true rfl)) | (exact leN (Nat.le_of_ble_eq_true rfl)))); (conv => whnf))
  refine sM (fun s' S' => e = .non ∧ S' = []) ?_ ?_
  · conv => whnf
    repeat (refine Need.mk ?_ ?_; (focus (first | trivial | rfl | assumption | (exact Nat.le_trans (by assumption) le10) | (exact Nat.lt_of_le_of_lt (by assumption) lt10) | (show (0 : Int) < _; first | decide | omega) | (show (0 : Int) ≤ _; first | decide | omega) | (exact .inl ⟨by omega, by omega⟩) | (exact .inr ⟨by decide, by decide⟩) | (refine ⟨?_, ?_⟩ <;> first | rfl | decide | omega) | (refine ⟨?_, ?_, ?_⟩ <;> first | rfl | decide | omega) | (exact ltN (Nat.le_of_ble_eq_true rfl)) | (exact leN (Nat.le_of_ble_eq_true rfl)))); (conv => whnf))
    rcases hn with ⟨f, rfl, hs, hg, rfl⟩ | ⟨rfl, rfl⟩ | ⟨x, r, rfl, hr, hne, rfl⟩
    · refine ⟨f.d, rfl, hd, .inl ⟨f, rfl, hs, ?_⟩⟩
      rw [fc_fine hg]
      conv => whnf
      repeat (refine Need.mk ?_ ?_; (focus (first | trivial | rfl | assumption | (exact Nat.le_trans (by assumption) le10) | (exact Nat.lt_of_le_of_lt (by assumption) lt10) | (show (0 : Int) < _; first | decide | omega) | (show (0 : Int) ≤ _; first | decide | omega) | (exact .inl ⟨by omega, by omega⟩) | (exact .inr ⟨by decide, by decide⟩) | (refine ⟨?_, ?_⟩ <;> first | rfl | decide | omega) | (refine ⟨?_, ?_, ?_⟩ <;> first | rfl | decide | omega) | (exact ltN (Nat.le_of_ble_eq_true rfl)) | (exact leN (Nat.le_of_ble_eq_true rfl)))); (conv => whnf))
      exact ⟨rfl, rfl⟩
    · refine ⟨_, rfl, hd, .inr (.inl ⟨rfl, ?_⟩)⟩
      refine ⟨true, T.es_BadFact, fun _ b => ?_, fun h => nomatch h⟩
      conv => whnf
      repeat (refine Need.mk ?_ ?_; (focus (first | trivial | rfl | assumption | (exact Nat.le_trans (by assumption) le10) | (exact Nat.lt_of_le_of_lt (by assumption) lt10) | (show (0 : Int) < _; first | decide | omega) | (show (0 : Int) ≤ _; first | decide | omega) | (exact .inl ⟨by omega, by omega⟩) | (exact .inr ⟨by decide, by decide⟩) | (refine ⟨?_, ?_⟩ <;> first | rfl | decide | omega) | (refine ⟨?_, ?_, ?_⟩ <;> first | rfl | decide | omega) | (exact ltN (Nat.le_of_ble_eq_true rfl)) | (exact leN (Nat.le_of_ble_eq_true rfl)))); (conv => whnf))
      refine Need.mk ⟨rfl, T.xf_BadFact, T.nc_BadFact⟩ ?_
      conv => whnf
      repeat (refine Need.mk ?_ ?_; (focus (first | trivial | rfl | assumption | (exact Nat.le_trans (by assumption) le10) | (exact Nat.lt_of_le_of_lt (by assumption) lt10) | (show (0 : Int) < _; first | decide | omega) | (show (0 : Int) ≤ _; first | decide | omega) | (exact .inl ⟨by omega, by omega⟩) | (exact .inr ⟨by decide, by decide⟩) | (refine ⟨?_, ?_⟩ <;> first | rfl | decide | omega) | (refine ⟨?_, ?_, ?_⟩ <;> first | rfl | decide | omega) | (exact ltN (Nat.le_of_ble_eq_true rfl)) | (exact leN (Nat.le_of_ble_eq_true rfl)))); (conv => whnf))
      refine Need.mk ⟨rfl, T.xf_BadFact, T.nf_BadFact_word⟩ ?_
      conv => whnf
      repeat (refine Need.mk ?_ ?_; (focus (first | trivial | rfl | assumption | (exact Nat.le_trans (by assumption) le10) | (exact Nat.lt_of_le_of_lt (by assumption) lt10) | (show (0 : Int) < _; first | decide | omega) | (show (0 : Int) ≤ _; first | decide | omega) | (exact .inl ⟨by omega, by omega⟩) | (exact .inr ⟨by decide, by decide⟩) | (refine ⟨?_, ?_⟩ <;> first | rfl | decide | omega) | (refine ⟨?_, ?_, ?_⟩ <;> first | rfl | decide | omega) | (exact ltN (Nat.le_of_ble_eq_true rfl)) | (exact leN (Nat.le_of_ble_eq_true rfl)))); (conv => whnf))
      exact Rp q
    · refine ⟨_, rfl, hd, .inr (.inr ⟨x, r, rfl, hr, hne, ?_⟩)⟩
      refine ⟨true, T.es_BadFact, fun _ b => ?_, fun h => nomatch h⟩
      conv => whnf
      repeat (refine Need.mk ?_ ?_; (focus (first | trivial | rfl | assumption | (exact Nat.le_trans (by assumption) le10) | (exact Nat.lt_of_le_of_lt (by assumption) lt10) | (show (0 : Int) < _; first | decide | omega) | (show (0 : Int) ≤ _; first | decide | omega) | (exact .inl ⟨by omega, by omega⟩) | (exact .inr ⟨by decide, by decide⟩) | (refine ⟨?_, ?_⟩ <;> first | rfl | decide | omega) | (refine ⟨?_, ?_, ?_⟩ <;> first | rfl | decide | omega) | (exact ltN (Nat.le_of_ble_eq_true rfl)) | (exact leN (Nat.le_of_ble_eq_true rfl)))); (conv => whnf))
      refine Need.mk ⟨rfl, T.xf_BadFact, T.nc_BadFact⟩ ?_
      conv => whnf
      repeat (refine Need.mk ?_ ?_; (focus (first | trivial | rfl | assumption | (exact Nat.le_trans (by assumption) le10) | (exact Nat.lt_of_le_of_lt (by assumption) lt10) | (show (0 : Int) < _; first | decide | omega) | (show (0 : Int) ≤ _; first | decide | omega) | (exact .inl ⟨by omega, by omega⟩) | (exact .inr ⟨by decide, by decide⟩) | (refine ⟨?_, ?_⟩ <;> first | rfl | decide | omega) | (refine ⟨?_, ?_, ?_⟩ <;> first | rfl | decide | omega) | (exact ltN (Nat.le_of_ble_eq_true rfl)) | (exact leN (Nat.le_of_ble_eq_true rfl)))); (conv => whnf))
      refine Need.mk ⟨rfl, T.xf_BadFact, T.nf_BadFact_word⟩ ?_
      conv => whnf
      repeat (refine Need.mk ?_ ?_; (focus (first | trivial | rfl | assumption | (exact Nat.le_trans (by assumption) le10) | (exact Nat.lt_of_le_of_lt (by assumption) lt10) | (show (0 : Int) < _; first | decide | omega) | (show (0 : Int) ≤ _; first | decide | omega) | (exact .inl ⟨by omega, by omega⟩) | (exact .inr ⟨by decide, by decide⟩) | (refine ⟨?_, ?_⟩ <;> first | rfl | decide | omega) | (refine ⟨?_, ?_, ?_⟩ <;> first | rfl | decide | omega) | (exact ltN (Nat.le_of_ble_eq_true rfl)) | (exact leN (Nat.le_of_ble_eq_true rfl)))); (conv => whnf))
      exact Rp q
  rintro s' S' ⟨rfl, rfl⟩
  conv => whnf
  repeat (refine Need.mk ?_ ?_; (focus (first | trivial | rfl | assumption | (exact Nat.le_trans (by assumption) le10) | (exact Nat.lt_of_le_of_lt (by assumption) lt10) | (show (0 : Int) < _; first | decide | omega) | (show (0 : Int) ≤ _; first | decide | omega) | (exact .inl ⟨by omega, by omega⟩) | (exact .inr ⟨by decide, by decide⟩) | (refine ⟨?_, ?_⟩ <;> first | rfl | decide | omega) | (refine ⟨?_, ?_, ?_⟩ <;> first | rfl | decide | omega) | (exact ltN (Nat.le_of_ble_eq_true rfl)) | (exact leN (Nat.le_of_ble_eq_true rfl)))); (conv => whnf))
  exact Rp q
theorem Fc.wd_ok : ∀ f : Fc, PyData.strOk (Fc.wd f) = true
  | .scrape _ _ _ => (by decide +kernel : PyData.strOk "scrape" = true)
  | .cover _ _ _ => (by decide +kernel : PyData.strOk "cover" = true)
  | .moved _ _ _ _ => (by decide +kernel : PyData.strOk "moved" = true)
  | .year _ _ _ _ => (by decide +kernel : PyData.strOk "year" = true)
  | .sold _ _ => (by decide +kernel : PyData.strOk "sold" = true)
  | .ahead _ _ _ _ => (by decide +kernel : PyData.strOk "ahead" = true)
  | .same _ _ _ _ => (by decide +kernel : PyData.strOk "same" = true)
  | .apart _ _ _ _ => (by decide +kernel : PyData.strOk "apart" = true)
theorem odd_words {m : Int} (h0 : 0 ≤ m) (h1 : m < 8) : ∃ w : Str, L2.atI [D.str "scrapes", D.str "", D.str "Cover", D.str "paint", D.str "up", D.str "tell", D.str "strike", D.str "year "] m = some (.str w) ∧ things.lookup w = none ∧ PyData.strOk w = true := by
  have h : m = 0 ∨ m = 1 ∨ m = 2 ∨ m = 3 ∨ m = 4 ∨ m = 5 ∨ m = 6 ∨ m = 7 := by omega
  rcases h with rfl | rfl | rfl | rfl | rfl | rfl | rfl | rfl <;> exact ⟨_, rfl, by rfl, by decide +kernel⟩
theorem ok_law (T : Txt K w mg a) (G__law_open : Fx P w K mg base 1 a.a__law_open a.d__law_open "_law_open" ["_law_script"] (sp__law_open a)) (G__law_fact : Fx P w K mg base 3 a.a__law_fact a.d__law_fact "_law_fact" ["_law_draw", "_law_parts", "_law_most"] (ld (sp__law_fact a))) (G__law_pull : Fx P w K mg base 1 a.a__law_pull a.d__law_pull "_law_pull" ["_law_draw", "_law_many"] (ld (sp__law_pull a))) (G__law_fact_word : Fx P w K mg base 2 a.a__law_fact_word a.d__law_fact_word "_law_fact_word" ["_law_fact_here"] (lp (sp__law_fact_word a))) (G__law_like : Fx P w K mg base 12 a.a__law_like a.d__law_like "_law_like" ["_law_found", "_law_due"] (lp (sp__law_like a))) (G__law_named : Fx P w K mg base 9 a.a__law_named a.d__law_named "_law_named" ["_law_fact_here"] (lp (sp__law_named a))) : FnOk P w K mg base (L2.CX P w) 13 a.a_law a.d_law ["_law_script"] (upFT K [] spLaw) := by
  refine FunC.ok conv_S T.F_law sc_law (fun ds S Q E ⟨_, h, _⟩ => by rw [h]; rfl) fun A outer s H E φ W' room wl => ⟨_, (lss_consW [0] (ls_set 1 (le_fx G__law_open (room.mono (by decide)) (takes_of rfl rfl rfl rfl) wl (la_cons (lv 0) la_nil)) sc_law.nd)
    (lss_consW [1, 2, 3, 4, 5, 6] (ls_for (passes_of rfl) rfl (li_rng1 rfl T.n_range (la_cons le_int la_nil)) (lg_name (i := 2) sc_law.nd rfl)
    (lss_consW [2, 4, 5, 6] (ls_set 3 (le_fx G__law_fact (room.mono (by decide)) (takes_of rfl rfl rfl rfl) wl (la_cons (lv 1) (la_cons (le_lst (la_cons le_int (la_cons le_int (la_cons le_int (la_cons le_int la_nil))))) (la_cons le_int la_nil)))) sc_law.nd)
    (lss_cons (ls_set 4 (le_fx G__law_pull (room.mono (by decide)) (takes_of rfl rfl rfl rfl) wl (la_cons (lv 1) (la_cons le_int la_nil))) sc_law.nd)
    (lss_consM (ls_if (lt_cmp (oo_eq room.units) (lv 4) le_int (by rfl)) (lss_cons (ls_set 5 (le_lst (la_cons le_str (la_cons le_str (la_cons le_str (la_cons le_str (la_cons le_str (la_cons le_str (la_cons le_str (la_cons le_str la_nil))))))))) sc_law.nd)
    (lss_consW [5] (ls_set 3 (le_op oo_add (le_tup (la_cons (le_ix ox_seq (lv 5) (le_fx G__law_pull (room.mono (by decide)) (takes_of rfl rfl rfl rfl) wl (la_cons (lv 1) (la_cons le_int la_nil)))) la_nil)) (le_slice (lv 3) (lp_some le_int) lp_none)) sc_law.nd)
    lss_nil)) lss_nil)
    (lss_w [5] (lss_consM (ls_if (lt_cmp (oo_eq room.units) (lv 4) le_int (by rfl)) (lss_cons (ls_set 3 (le_slice (lv 3) lp_none (lp_some (le_fx G__law_pull (room.mono (by decide)) (takes_of rfl rfl rfl rfl) wl (la_cons (lv 1) (la_cons (le_callB cc_len rfl T.n_len (by rfl) (la_cons (lv 3) la_nil)) la_nil))))) sc_law.nd)
    lss_nil) lss_nil)
    (lss_consM (ls_if (lt_cmp (oo_eq room.units) (lv 4) le_int (by rfl)) (lss_consW [4] (ls_set 3 (le_op oo_add (lv 3) (le_op oo_mulX (le_tup (la_cons (le_fx G__law_pull (room.mono (by decide)) (takes_of rfl rfl rfl rfl) wl (la_cons (lv 1) (la_cons le_int la_nil))) la_nil)) (le_op oo_add le_int (le_fx G__law_pull (room.mono (by decide)) (takes_of rfl rfl rfl rfl) wl (la_cons (lv 1) (la_cons le_int la_nil)))))) sc_law.nd)
    lss_nil) lss_nil)
    (lss_w [4] (lss_cons (ls_set 6 le_non sc_law.nd)
    (lss_consM (ls_if (lt_cmp (oo_eq room.units) (le_fx G__law_fact_word (room.mono (by decide)) (takes_of rfl rfl rfl rfl) wl (la_cons (lv 3) la_nil)) le_str (by rfl)) (lss_cons (ls_set 6 (le_lst (la_cons le_str (la_cons (le_if (lt_cmp (oo_ne room.units) (lv 3) (le_tup la_nil) (by rfl)) (le_ix ox_seq (lv 3) le_int) le_str) la_nil))) sc_law.nd)
    lss_nil) lss_nil)
    (lss_consW [3, 6] (ls_if (lt_not (lt_truth (le_fx G__law_like (room.mono (by decide)) (takes_of rfl rfl rfl rfl) wl (la_cons (le_fx G__law_named (room.mono (by decide)) (takes_of rfl rfl rfl rfl) wl (la_cons (lv 3) la_nil)) (la_cons (lv 6) la_nil))))) (lss_cons (ls_ret le_bl)
    lss_nil) lss_nil)
    lss_nil)))))))))))
    (lss_cons (ls_ret (le_fx G__law_like (room.mono (by decide)) (takes_of rfl rfl rfl rfl) wl (la_cons (le_fx G__law_named (room.mono (by decide)) (takes_of rfl rfl rfl rfl) wl (la_cons (le_tup la_nil) la_nil)) (la_cons (le_lst (la_cons le_str (la_cons le_str la_nil))) la_nil))))
    lss_nil))), fun ds S R X n h hW => ?_⟩
  obtain ⟨Q, E, ⟨ns, rfl, rfl, hlen, hbits, q⟩, hlt, rfl, rfl, rfl⟩ := h
  subst hW
  conv => whnf
  repeat (refine Need.mk ?_ ?_; (focus (first | trivial | rfl | assumption | (exact Nat.le_trans (by assumption) le10) | (exact Nat.lt_of_le_of_lt (by assumption) lt10) | (show (0 : Int) < _; first | decide | omega) | (show (0 : Int) ≤ _; first | decide | omega) | (exact .inl ⟨by omega, by omega⟩) | (exact .inr ⟨by decide, by decide⟩) | (refine ⟨?_, ?_⟩ <;> first | rfl | decide | omega) | (refine ⟨?_, ?_, ?_⟩ <;> first | rfl | decide | omega) | (exact ltN (Nat.le_of_ble_eq_true rfl)) | (exact leN (Nat.le_of_ble_eq_true rfl)))); (conv => whnf))
  refine ⟨ns, rfl, hlen, rfl, ?_⟩
  conv => whnf
  repeat (refine Need.mk ?_ ?_; (focus (first | trivial | rfl | assumption | (exact Nat.le_trans (by assumption) le10) | (exact Nat.lt_of_le_of_lt (by assumption) lt10) | (show (0 : Int) < _; first | decide | omega) | (show (0 : Int) ≤ _; first | decide | omega) | (exact .inl ⟨by omega, by omega⟩) | (exact .inr ⟨by decide, by decide⟩) | (refine ⟨?_, ?_⟩ <;> first | rfl | decide | omega) | (refine ⟨?_, ?_, ?_⟩ <;> first | rfl | decide | omega) | (exact ltN (Nat.le_of_ble_eq_true rfl)) | (exact leN (Nat.le_of_ble_eq_true rfl)))); (conv => whnf))
  refine ⟨by decide, by decide, ?_⟩
  refine ⟨fun i s' S' => S' = [.drw] ∧ s' = [none, some (.ref 0), none, none, none, none, none], ⟨rfl, rfl⟩, fun _ _ _ _ _ => trivial, ?_, ?_⟩
  · rintro i x s' S' hi ⟨rfl, rfl⟩
    obtain ⟨_, rfl⟩ := rngD_get hi
    conv => whnf
    repeat (refine Need.mk ?_ ?_; (focus (first | trivial | rfl | assumption | (exact Nat.le_trans (by assumption) le10) | (exact Nat.lt_of_le_of_lt (by assumption) lt10) | (show (0 : Int) < _; first | decide | omega) | (show (0 : Int) ≤ _; first | decide | omega) | (exact .inl ⟨by omega, by omega⟩) | (exact .inr ⟨by decide, by decide⟩) | (refine ⟨?_, ?_⟩ <;> first | rfl | decide | omega) | (refine ⟨?_, ?_, ?_⟩ <;> first | rfl | decide | omega) | (exact ltN (Nat.le_of_ble_eq_true rfl)) | (exact leN (Nat.le_of_ble_eq_true rfl)))); (conv => whnf))
    refine ⟨[1, 2, 3, 4], 5, rfl, by decide, by decide, by decide, by decide, by decide, fun f hf => ?_⟩
    have hs : f.sh.length ≤ 1000 := by
      cases f with
      | scrape p c sh => have := hf.2.1; have := hf.2.2.2.1; show sh.length ≤ _; omega
      | _ => exact Nat.zero_le _
    have hrl := Fc.rs_len f
    have hpl := Fc.rs_pl f
    have hth := Fc.things f
    have hx : PyData.strOk (Fc.wd f) = true := Fc.wd_ok f
    have hfd := Fc.d_is f
    have hall : FactD f.d := .inl ⟨f, rfl, hs, hf⟩
    generalize Fc.wd f = x at *
    generalize Fc.rs f = r at *
    rw [hfd] at hall
    rw [hfd]
    clear hfd hs hf
    conv => whnf
    repeat (refine Need.mk ?_ ?_; (focus (first | trivial | rfl | assumption | (exact Nat.le_trans (by assumption) le10) | (exact Nat.lt_of_le_of_lt (by assumption) lt10) | (show (0 : Int) < _; first | decide | omega) | (show (0 : Int) ≤ _; first | decide | omega) | (exact .inl ⟨by omega, by omega⟩) | (exact .inr ⟨by decide, by decide⟩) | (refine ⟨?_, ?_⟩ <;> first | rfl | decide | omega) | (refine ⟨?_, ?_, ?_⟩ <;> first | rfl | decide | omega) | (exact ltN (Nat.le_of_ble_eq_true rfl)) | (exact leN (Nat.le_of_ble_eq_true rfl)))); (conv => whnf))
    refine ⟨_, rfl, ⟨by first | decide | omega, by first | decide | omega⟩, fun n h0 h1 => ?_⟩
    have hn : n = 0 ∨ n = 1 ∨ n = 2 ∨ n = 3 := by omega
    refine sM (fun s' S' => S' = [.drw] ∧ ∃ d, FactD d ∧ s' = [none, some (.ref 0), none, some d, some (.int n), none, none] ∧ (n = 0 ∨ d = .tup (.str x :: r))) ?_ ?_
    · by_cases h : n = 0
      · subst h
        conv => whnf
        repeat (refine Need.mk ?_ ?_; (focus (first | trivial | rfl | assumption | (exact Nat.le_trans (by assumption) le10) | (exact Nat.lt_of_le_of_lt (by assumption) lt10) | (show (0 : Int) < _; first | decide | omega) | (show (0 : Int) ≤ _; first | decide | omega) | (exact .inl ⟨by omega, by omega⟩) | (exact .inr ⟨by decide, by decide⟩) | (refine ⟨?_, ?_⟩ <;> first | rfl | decide | omega) | (refine ⟨?_, ?_, ?_⟩ <;> first | rfl | decide | omega) | (exact ltN (Nat.le_of_ble_eq_true rfl)) | (exact leN (Nat.le_of_ble_eq_true rfl)))); (conv => whnf))
        refine ⟨_, rfl, ⟨by first | decide | omega, by first | decide | omega⟩, fun m m0 m1 => ?_⟩
        obtain ⟨y, hy, hy1, hy2⟩ := odd_words m0 m1
        conv => whnf
        repeat (refine Need.mk ?_ ?_; (focus (first | trivial | rfl | assumption | (exact Nat.le_trans (by assumption) le10) | (exact Nat.lt_of_le_of_lt (by assumption) lt10) | (show (0 : Int) < _; first | decide | omega) | (show (0 : Int) ≤ _; first | decide | omega) | (exact .inl ⟨by omega, by omega⟩) | (exact .inr ⟨by decide, by decide⟩) | (refine ⟨?_, ?_⟩ <;> first | rfl | decide | omega) | (refine ⟨?_, ?_, ?_⟩ <;> first | rfl | decide | omega) | (exact ltN (Nat.le_of_ble_eq_true rfl)) | (exact leN (Nat.le_of_ble_eq_true rfl)))); (conv => whnf))
        refine optI hy ?_
        conv => whnf
        repeat (refine Need.mk ?_ ?_; (focus (first | trivial | rfl | assumption | (exact Nat.le_trans (by assumption) le10) | (exact Nat.lt_of_le_of_lt (by assumption) lt10) | (show (0 : Int) < _; first | decide | omega) | (show (0 : Int) ≤ _; first | decide | omega) | (exact .inl ⟨by omega, by omega⟩) | (exact .inr ⟨by decide, by decide⟩) | (refine ⟨?_, ?_⟩ <;> first | rfl | decide | omega) | (refine ⟨?_, ?_, ?_⟩ <;> first | rfl | decide | omega) | (exact ltN (Nat.le_of_ble_eq_true rfl)) | (exact leN (Nat.le_of_ble_eq_true rfl)))); (conv => whnf))
        rw [cutD_from1]
        refine Need.mk ⟨List.cons_ne_nil _ _, leN (by show 1 + r.length ≤ 1000; omega)⟩ ?_
        conv => whnf
        repeat (refine Need.mk ?_ ?_; (focus (first | trivial | rfl | assumption | (exact Nat.le_trans (by assumption) le10) | (exact Nat.lt_of_le_of_lt (by assumption) lt10) | (show (0 : Int) < _; first | decide | omega) | (show (0 : Int) ≤ _; first | decide | omega) | (exact .inl ⟨by omega, by omega⟩) | (exact .inr ⟨by decide, by decide⟩) | (refine ⟨?_, ?_⟩ <;> first | rfl | decide | omega) | (refine ⟨?_, ?_, ?_⟩ <;> first | rfl | decide | omega) | (exact ltN (Nat.le_of_ble_eq_true rfl)) | (exact leN (Nat.le_of_ble_eq_true rfl)))); (conv => whnf))
        exact ⟨rfl, .tup (.str y :: r), .inr (.inr ⟨y, r, rfl, by omega, (by rw [hy1]; exact fun z => nomatch z), hy2, hpl⟩), rfl, .inl rfl⟩
      · conv => whnf
        repeat (refine Need.mk ?_ ?_; (focus (first | trivial | rfl | assumption | (exact Nat.le_trans (by assumption) le10) | (exact Nat.lt_of_le_of_lt (by assumption) lt10) | (show (0 : Int) < _; first | decide | omega) | (show (0 : Int) ≤ _; first | decide | omega) | (exact .inl ⟨by omega, by omega⟩) | (exact .inr ⟨by decide, by decide⟩) | (refine ⟨?_, ?_⟩ <;> first | rfl | decide | omega) | (refine ⟨?_, ?_, ?_⟩ <;> first | rfl | decide | omega) | (exact ltN (Nat.le_of_ble_eq_true rfl)) | (exact leN (Nat.le_of_ble_eq_true rfl)))); (conv => whnf))
        refine brF h ?_
        conv => whnf
        repeat (refine Need.mk ?_ ?_; (focus (first | trivial | rfl | assumption | (exact Nat.le_trans (by assumption) le10) | (exact Nat.lt_of_le_of_lt (by assumption) lt10) | (show (0 : Int) < _; first | decide | omega) | (show (0 : Int) ≤ _; first | decide | omega) | (exact .inl ⟨by omega, by omega⟩) | (exact .inr ⟨by decide, by decide⟩) | (refine ⟨?_, ?_⟩ <;> first | rfl | decide | omega) | (refine ⟨?_, ?_, ?_⟩ <;> first | rfl | decide | omega) | (exact ltN (Nat.le_of_ble_eq_true rfl)) | (exact leN (Nat.le_of_ble_eq_true rfl)))); (conv => whnf))
        exact ⟨rfl, _, hall, rfl, .inr rfl⟩
    rintro s' S' ⟨rfl, d, hd, rfl, hor⟩
    conv => whnf
    repeat (refine Need.mk ?_ ?_; (focus (first | trivial | rfl | assumption | (exact Nat.le_trans (by assumption) le10) | (exact Nat.lt_of_le_of_lt (by assumption) lt10) | (show (0 : Int) < _; first | decide | omega) | (show (0 : Int) ≤ _; first | decide | omega) | (exact .inl ⟨by omega, by omega⟩) | (exact .inr ⟨by decide, by decide⟩) | (refine ⟨?_, ?_⟩ <;> first | rfl | decide | omega) | (refine ⟨?_, ?_, ?_⟩ <;> first | rfl | decide | omega) | (exact ltN (Nat.le_of_ble_eq_true rfl)) | (exact leN (Nat.le_of_ble_eq_true rfl)))); (conv => whnf))
    refine sM (fun s' S' => S' = [.drw] ∧ ∃ d, FactD d ∧ s' = [none, some (.ref 0), none, some d, some (.int n), none, none] ∧ (n ≠ 2 ∨ d = .tup (.str x :: r))) ?_ ?_
    · by_cases h : n = 1
      · subst h
        have hor := hor.resolve_left (by decide)
        subst hor
        conv => whnf
        repeat (refine Need.mk ?_ ?_; (focus (first | trivial | rfl | assumption | (exact Nat.le_trans (by assumption) le10) | (exact Nat.lt_of_le_of_lt (by assumption) lt10) | (show (0 : Int) < _; first | decide | omega) | (show (0 : Int) ≤ _; first | decide | omega) | (exact .inl ⟨by omega, by omega⟩) | (exact .inr ⟨by decide, by decide⟩) | (refine ⟨?_, ?_⟩ <;> first | rfl | decide | omega) | (refine ⟨?_, ?_, ?_⟩ <;> first | rfl | decide | omega) | (exact ltN (Nat.le_of_ble_eq_true rfl)) | (exact leN (Nat.le_of_ble_eq_true rfl)))); (conv => whnf))
        refine ⟨_, rfl, ⟨by (show (1 : Int) ≤ ((r.length + 1 : Nat) : Int); omega), by (show ((r.length + 1 : Nat) : Int) < 1073741824; omega)⟩, fun j j0 j1 => ?_⟩
        have j1 : j < ((r.length + 1 : Nat) : Int) := j1
        obtain ⟨k, rfl⟩ : ∃ k : Nat, j = k := ⟨j.toNat, by omega⟩
        conv => whnf
        repeat (refine Need.mk ?_ ?_; (focus (first | trivial | rfl | assumption | (exact Nat.le_trans (by assumption) le10) | (exact Nat.lt_of_le_of_lt (by assumption) lt10) | (show (0 : Int) < _; first | decide | omega) | (show (0 : Int) ≤ _; first | decide | omega) | (exact .inl ⟨by omega, by omega⟩) | (exact .inr ⟨by decide, by decide⟩) | (refine ⟨?_, ?_⟩ <;> first | rfl | decide | omega) | (refine ⟨?_, ?_, ?_⟩ <;> first | rfl | decide | omega) | (exact ltN (Nat.le_of_ble_eq_true rfl)) | (exact leN (Nat.le_of_ble_eq_true rfl)))); (conv => whnf))
        rw [cutD_take]
        refine ⟨rfl, _, ?_, rfl, .inl (by decide)⟩
        cases k with
        | zero => exact .inr (.inl rfl)
        | succ k => exact .inr (.inr ⟨x, r.take k, rfl, by simp; omega, by rw [hth]; intro z; have := Option.some.inj z; simp at this; omega, hx, D.pls_take hpl⟩)
      · conv => whnf
        repeat (refine Need.mk ?_ ?_; (focus (first | trivial | rfl | assumption | (exact Nat.le_trans (by assumption) le10) | (exact Nat.lt_of_le_of_lt (by assumption) lt10) | (show (0 : Int) < _; first | decide | omega) | (show (0 : Int) ≤ _; first | decide | omega) | (exact .inl ⟨by omega, by omega⟩) | (exact .inr ⟨by decide, by decide⟩) | (refine ⟨?_, ?_⟩ <;> first | rfl | decide | omega) | (refine ⟨?_, ?_, ?_⟩ <;> first | rfl | decide | omega) | (exact ltN (Nat.le_of_ble_eq_true rfl)) | (exact leN (Nat.le_of_ble_eq_true rfl)))); (conv => whnf))
        refine brF h ?_
        conv => whnf
        repeat (refine Need.mk ?_ ?_; (focus (first | trivial | rfl | assumption | (exact Nat.le_trans (by assumption) le10) | (exact Nat.lt_of_le_of_lt (by assumption) lt10) | (show (0 : Int) < _; first | decide | omega) | (show (0 : Int) ≤ _; first | decide | omega) | (exact .inl ⟨by omega, by omega⟩) | (exact .inr ⟨by decide, by decide⟩) | (refine ⟨?_, ?_⟩ <;> first | rfl | decide | omega) | (refine ⟨?_, ?_, ?_⟩ <;> first | rfl | decide | omega) | (exact ltN (Nat.le_of_ble_eq_true rfl)) | (exact leN (Nat.le_of_ble_eq_true rfl)))); (conv => whnf))
        exact ⟨rfl, _, hd, rfl, by rcases hor with h | h; exact .inl (by omega); exact .inr h⟩
    clear hd hor
    rintro s' S' ⟨rfl, d, hd, rfl, hor⟩
    conv => whnf
    repeat (refine Need.mk ?_ ?_; (focus (first | trivial | rfl | assumption | (exact Nat.le_trans (by assumption) le10) | (exact Nat.lt_of_le_of_lt (by assumption) lt10) | (show (0 : Int) < _; first | decide | omega) | (show (0 : Int) ≤ _; first | decide | omega) | (exact .inl ⟨by omega, by omega⟩) | (exact .inr ⟨by decide, by decide⟩) | (refine ⟨?_, ?_⟩ <;> first | rfl | decide | omega) | (refine ⟨?_, ?_, ?_⟩ <;> first | rfl | decide | omega) | (exact ltN (Nat.le_of_ble_eq_true rfl)) | (exact leN (Nat.le_of_ble_eq_true rfl)))); (conv => whnf))
    refine sM (fun s' S' => S' = [.drw] ∧ ∃ d, FactD d ∧ ∃ z, s' = [none, some (.ref 0), none, some d, z, none, none]) ?_ ?_
    · by_cases h : n = 2
      · subst h
        have hor := hor.resolve_left (fun z => z rfl)
        subst hor
        conv => whnf
        repeat (refine Need.mk ?_ ?_; (focus (first | trivial | rfl | assumption | (exact Nat.le_trans (by assumption) le10) | (exact Nat.lt_of_le_of_lt (by assumption) lt10) | (show (0 : Int) < _; first | decide | omega) | (show (0 : Int) ≤ _; first | decide | omega) | (exact .inl ⟨by omega, by omega⟩) | (exact .inr ⟨by decide, by decide⟩) | (refine ⟨?_, ?_⟩ <;> first | rfl | decide | omega) | (refine ⟨?_, ?_, ?_⟩ <;> first | rfl | decide | omega) | (exact ltN (Nat.le_of_ble_eq_true rfl)) | (exact leN (Nat.le_of_ble_eq_true rfl)))); (conv => whnf))
        refine ⟨_, rfl, ⟨by first | decide | omega, by first | decide | omega⟩, fun j j0 j1 => ?_⟩
        conv => whnf
        repeat (refine Need.mk ?_ ?_; (focus (first | trivial | rfl | assumption | (exact Nat.le_trans (by assumption) le10) | (exact Nat.lt_of_le_of_lt (by assumption) lt10) | (show (0 : Int) < _; first | decide | omega) | (show (0 : Int) ≤ _; first | decide | omega) | (exact .inl ⟨by omega, by omega⟩) | (exact .inr ⟨by decide, by decide⟩) | (refine ⟨?_, ?_⟩ <;> first | rfl | decide | omega) | (refine ⟨?_, ?_, ?_⟩ <;> first | rfl | decide | omega) | (exact ltN (Nat.le_of_ble_eq_true rfl)) | (exact leN (Nat.le_of_ble_eq_true rfl)))); (conv => whnf))
        refine ⟨_, rfl, ⟨by first | decide | omega, by first | decide | omega⟩, fun k k0 k1 => ?_⟩
        conv => whnf
        repeat (refine Need.mk ?_ ?_; (focus (first | trivial | rfl | assumption | (exact Nat.le_trans (by assumption) le10) | (exact Nat.lt_of_le_of_lt (by assumption) lt10) | (show (0 : Int) < _; first | decide | omega) | (show (0 : Int) ≤ _; first | decide | omega) | (exact .inl ⟨by omega, by omega⟩) | (exact .inr ⟨by decide, by decide⟩) | (refine ⟨?_, ?_⟩ <;> first | rfl | decide | omega) | (refine ⟨?_, ?_, ?_⟩ <;> first | rfl | decide | omega) | (exact ltN (Nat.le_of_ble_eq_true rfl)) | (exact leN (Nat.le_of_ble_eq_true rfl)))); (conv => whnf))
        refine Need.mk ⟨List.cons_ne_nil _ _, by omega, by omega, Nat.le_of_ble_eq_true rfl⟩ ?_
        conv => whnf
        repeat (refine Need.mk ?_ ?_; (focus (first | trivial | rfl | assumption | (exact Nat.le_trans (by assumption) le10) | (exact Nat.lt_of_le_of_lt (by assumption) lt10) | (show (0 : Int) < _; first | decide | omega) | (show (0 : Int) ≤ _; first | decide | omega) | (exact .inl ⟨by omega, by omega⟩) | (exact .inr ⟨by decide, by decide⟩) | (refine ⟨?_, ?_⟩ <;> first | rfl | decide | omega) | (refine ⟨?_, ?_, ?_⟩ <;> first | rfl | decide | omega) | (exact ltN (Nat.le_of_ble_eq_true rfl)) | (exact leN (Nat.le_of_ble_eq_true rfl)))); (conv => whnf))
        have e : (List.replicate (1 + k).toNat [D.int j]).flatten = List.replicate (1 + k).toNat (D.int j) := by simp
        rw [e]
        refine Need.mk ⟨List.cons_ne_nil _ _, leN (by simp; omega)⟩ ?_
        conv => whnf
        repeat (refine Need.mk ?_ ?_; (focus (first | trivial | rfl | assumption | (exact Nat.le_trans (by assumption) le10) | (exact Nat.lt_of_le_of_lt (by assumption) lt10) | (show (0 : Int) < _; first | decide | omega) | (show (0 : Int) ≤ _; first | decide | omega) | (exact .inl ⟨by omega, by omega⟩) | (exact .inr ⟨by decide, by decide⟩) | (refine ⟨?_, ?_⟩ <;> first | rfl | decide | omega) | (refine ⟨?_, ?_, ?_⟩ <;> first | rfl | decide | omega) | (exact ltN (Nat.le_of_ble_eq_true rfl)) | (exact leN (Nat.le_of_ble_eq_true rfl)))); (conv => whnf))
        exact ⟨rfl, _, .inr (.inr ⟨x, r ++ List.replicate (1 + k).toNat (D.int j), rfl, by simp; omega, by rw [hth]; intro z; have := Option.some.inj z; simp at this; omega, hx, D.pls_app hpl (D.pls_mem.mpr fun d hd => by rw [(List.mem_replicate.mp hd).2]; trivial)⟩), _, rfl⟩
      · conv => whnf
        repeat (refine Need.mk ?_ ?_; (focus (first | trivial | rfl | assumption | (exact Nat.le_trans (by assumption) le10) | (exact Nat.lt_of_le_of_lt (by assumption) lt10) | (show (0 : Int) < _; first | decide | omega) | (show (0 : Int) ≤ _; first | decide | omega) | (exact .inl ⟨by omega, by omega⟩) | (exact .inr ⟨by decide, by decide⟩) | (refine ⟨?_, ?_⟩ <;> first | rfl | decide | omega) | (refine ⟨?_, ?_, ?_⟩ <;> first | rfl | decide | omega) | (exact ltN (Nat.le_of_ble_eq_true rfl)) | (exact leN (Nat.le_of_ble_eq_true rfl)))); (conv => whnf))
        refine brF h ?_
        conv => whnf
        repeat (refine Need.mk ?_ ?_; (focus (first | trivial | rfl | assumption | (exact Nat.le_trans (by assumption) le10) | (exact Nat.lt_of_le_of_lt (by assumption) lt10) | (show (0 : Int) < _; first | decide | omega) | (show (0 : Int) ≤ _; first | decide | omega) | (exact .inl ⟨by omega, by omega⟩) | (exact .inr ⟨by decide, by decide⟩) | (refine ⟨?_, ?_⟩ <;> first | rfl | decide | omega) | (refine ⟨?_, ?_, ?_⟩ <;> first | rfl | decide | omega) | (exact ltN (Nat.le_of_ble_eq_true rfl)) | (exact leN (Nat.le_of_ble_eq_true rfl)))); (conv => whnf))
        exact ⟨rfl, _, hd, _, rfl⟩
    clear hd hor
    clear hall hrl hpl hth hx h0 h1 hn
    rintro s' S' ⟨rfl, d, hd, z, rfl⟩
    conv => whnf
    repeat (refine Need.mk ?_ ?_; (focus (first | trivial | rfl | assumption | (exact Nat.le_trans (by assumption) le10) | (exact Nat.lt_of_le_of_lt (by assumption) lt10) | (show (0 : Int) < _; first | decide | omega) | (show (0 : Int) ≤ _; first | decide | omega) | (exact .inl ⟨by omega, by omega⟩) | (exact .inr ⟨by decide, by decide⟩) | (refine ⟨?_, ?_⟩ <;> first | rfl | decide | omega) | (refine ⟨?_, ?_, ?_⟩ <;> first | rfl | decide | omega) | (exact ltN (Nat.le_of_ble_eq_true rfl)) | (exact leN (Nat.le_of_ble_eq_true rfl)))); (conv => whnf))
    have hlt : D.lt 0 d := hd.lt
    refine sM (fun s' S' => S' = [.drw] ∧ ∃ e, namedD d e ∧ D.dp e 9 ∧ s' = [none, some (.ref 0), none, some d, none, none, some e]) ?_ ?_
    · conv => whnf
      repeat (refine Need.mk ?_ ?_; (focus (first | trivial | rfl | assumption | (exact Nat.le_trans (by assumption) le10) | (exact Nat.lt_of_le_of_lt (by assumption) lt10) | (show (0 : Int) < _; first | decide | omega) | (show (0 : Int) ≤ _; first | decide | omega) | (exact .inl ⟨by omega, by omega⟩) | (exact .inr ⟨by decide, by decide⟩) | (refine ⟨?_, ?_⟩ <;> first | rfl | decide | omega) | (refine ⟨?_, ?_, ?_⟩ <;> first | rfl | decide | omega) | (exact ltN (Nat.le_of_ble_eq_true rfl)) | (exact leN (Nat.le_of_ble_eq_true rfl)))); (conv => whnf))
      rcases id hd with ⟨f, rfl, hs, hg⟩ | rfl | ⟨x, r, rfl, hr, hne, hx, hp⟩
      · refine ⟨f.d, rfl, hlt, .inl ⟨f, rfl, hs, ?_⟩⟩
        rw [fc_fine hg]
        conv => whnf
        repeat (refine Need.mk ?_ ?_; (focus (first | trivial | rfl | assumption | (exact Nat.le_trans (by assumption) le10) | (exact Nat.lt_of_le_of_lt (by assumption) lt10) | (show (0 : Int) < _; first | decide | omega) | (show (0 : Int) ≤ _; first | decide | omega) | (exact .inl ⟨by omega, by omega⟩) | (exact .inr ⟨by decide, by decide⟩) | (refine ⟨?_, ?_⟩ <;> first | rfl | decide | omega) | (refine ⟨?_, ?_, ?_⟩ <;> first | rfl | decide | omega) | (exact ltN (Nat.le_of_ble_eq_true rfl)) | (exact leN (Nat.le_of_ble_eq_true rfl)))); (conv => whnf))
        exact ⟨rfl, .non, .inl ⟨f, rfl, hs, hg, rfl⟩, trivial, rfl⟩
      · refine ⟨_, rfl, hlt, .inr (.inl ⟨rfl, ?_⟩)⟩
        conv => whnf
        repeat (refine Need.mk ?_ ?_; (focus (first | trivial | rfl | assumption | (exact Nat.le_trans (by assumption) le10) | (exact Nat.lt_of_le_of_lt (by assumption) lt10) | (show (0 : Int) < _; first | decide | omega) | (show (0 : Int) ≤ _; first | decide | omega) | (exact .inl ⟨by omega, by omega⟩) | (exact .inr ⟨by decide, by decide⟩) | (refine ⟨?_, ?_⟩ <;> first | rfl | decide | omega) | (refine ⟨?_, ?_, ?_⟩ <;> first | rfl | decide | omega) | (exact ltN (Nat.le_of_ble_eq_true rfl)) | (exact leN (Nat.le_of_ble_eq_true rfl)))); (conv => whnf))
        exact ⟨rfl, _, .inr (.inl ⟨rfl, rfl⟩), ⟨by decide, trivial, trivial, trivial⟩, rfl⟩
      · refine ⟨_, rfl, hlt, .inr (.inr ⟨x, r, rfl, hr, hne, ?_⟩)⟩
        conv => whnf
        repeat (refine Need.mk ?_ ?_; (focus (first | trivial | rfl | assumption | (exact Nat.le_trans (by assumption) le10) | (exact Nat.lt_of_le_of_lt (by assumption) lt10) | (show (0 : Int) < _; first | decide | omega) | (show (0 : Int) ≤ _; first | decide | omega) | (exact .inl ⟨by omega, by omega⟩) | (exact .inr ⟨by decide, by decide⟩) | (refine ⟨?_, ?_⟩ <;> first | rfl | decide | omega) | (refine ⟨?_, ?_, ?_⟩ <;> first | rfl | decide | omega) | (exact ltN (Nat.le_of_ble_eq_true rfl)) | (exact leN (Nat.le_of_ble_eq_true rfl)))); (conv => whnf))
        refine Need.mk ⟨D.pl.mono (d := .tup (.str x :: r)) (by decide) hd.pl, trivial⟩ ?_
        conv => whnf
        repeat (refine Need.mk ?_ ?_; (focus (first | trivial | rfl | assumption | (exact Nat.le_trans (by assumption) le10) | (exact Nat.lt_of_le_of_lt (by assumption) lt10) | (show (0 : Int) < _; first | decide | omega) | (show (0 : Int) ≤ _; first | decide | omega) | (exact .inl ⟨by omega, by omega⟩) | (exact .inr ⟨by decide, by decide⟩) | (refine ⟨?_, ?_⟩ <;> first | rfl | decide | omega) | (refine ⟨?_, ?_, ?_⟩ <;> first | rfl | decide | omega) | (exact ltN (Nat.le_of_ble_eq_true rfl)) | (exact leN (Nat.le_of_ble_eq_true rfl)))); (conv => whnf))
        refine optI (show L2.atI (D.str x :: r) 0 = some (.str x) from atI_get (by decide) rfl) ?_
        conv => whnf
        repeat (refine Need.mk ?_ ?_; (focus (first | trivial | rfl | assumption | (exact Nat.le_trans (by assumption) le10) | (exact Nat.lt_of_le_of_lt (by assumption) lt10) | (show (0 : Int) < _; first | decide | omega) | (show (0 : Int) ≤ _; first | decide | omega) | (exact .inl ⟨by omega, by omega⟩) | (exact .inr ⟨by decide, by decide⟩) | (refine ⟨?_, ?_⟩ <;> first | rfl | decide | omega) | (refine ⟨?_, ?_, ?_⟩ <;> first | rfl | decide | omega) | (exact ltN (Nat.le_of_ble_eq_true rfl)) | (exact leN (Nat.le_of_ble_eq_true rfl)))); (conv => whnf))
        exact ⟨rfl, _, .inr (.inr ⟨x, r, rfl, hr, hne, rfl⟩), ⟨Nat.le_of_ble_eq_true rfl, trivial, trivial, trivial⟩, rfl⟩
    rintro s' S' ⟨rfl, e, he, hdp, rfl⟩
    conv => whnf
    repeat (refine Need.mk ?_ ?_; (focus (first | trivial | rfl | assumption | (exact Nat.le_trans (by assumption) le10) | (exact Nat.lt_of_le_of_lt (by assumption) lt10) | (show (0 : Int) < _; first | decide | omega) | (show (0 : Int) ≤ _; first | decide | omega) | (exact .inl ⟨by omega, by omega⟩) | (exact .inr ⟨by decide, by decide⟩) | (refine ⟨?_, ?_⟩ <;> first | rfl | decide | omega) | (refine ⟨?_, ?_, ?_⟩ <;> first | rfl | decide | omega) | (exact ltN (Nat.le_of_ble_eq_true rfl)) | (exact leN (Nat.le_of_ble_eq_true rfl)))); (conv => whnf))
    refine ⟨d, rfl, hlt, e, he, ?_⟩
    conv => whnf
    repeat (refine Need.mk ?_ ?_; (focus (first | trivial | rfl | assumption | (exact Nat.le_trans (by assumption) le10) | (exact Nat.lt_of_le_of_lt (by assumption) lt10) | (show (0 : Int) < _; first | decide | omega) | (show (0 : Int) ≤ _; first | decide | omega) | (exact .inl ⟨by omega, by omega⟩) | (exact .inr ⟨by decide, by decide⟩) | (refine ⟨?_, ?_⟩ <;> first | rfl | decide | omega) | (refine ⟨?_, ?_, ?_⟩ <;> first | rfl | decide | omega) | (exact ltN (Nat.le_of_ble_eq_true rfl)) | (exact leN (Nat.le_of_ble_eq_true rfl)))); (conv => whnf))
    refine ⟨e, rfl, D.dp.mono (by decide) hdp, ?_⟩
    conv => whnf
    repeat (refine Need.mk ?_ ?_; (focus (first | trivial | rfl | assumption | (exact Nat.le_trans (by assumption) le10) | (exact Nat.lt_of_le_of_lt (by assumption) lt10) | (show (0 : Int) < _; first | decide | omega) | (show (0 : Int) ≤ _; first | decide | omega) | (exact .inl ⟨by omega, by omega⟩) | (exact .inr ⟨by decide, by decide⟩) | (refine ⟨?_, ?_⟩ <;> first | rfl | decide | omega) | (refine ⟨?_, ?_, ?_⟩ <;> first | rfl | decide | omega) | (exact ltN (Nat.le_of_ble_eq_true rfl)) | (exact leN (Nat.le_of_ble_eq_true rfl)))); (conv => whnf))
    exact .inl ⟨rfl, rfl⟩
  · rintro s' S' ⟨rfl, rfl⟩
    conv => whnf
    repeat (refine Need.mk ?_ ?_; (focus (first | trivial | rfl | assumption | (exact Nat.le_trans (by assumption) le10) | (exact Nat.lt_of_le_of_lt (by assumption) lt10) | (show (0 : Int) < _; first | decide | omega) | (show (0 : Int) ≤ _; first | decide | omega) | (exact .inl ⟨by omega, by omega⟩) | (exact .inr ⟨by decide, by decide⟩) | (refine ⟨?_, ?_⟩ <;> first | rfl | decide | omega) | (refine ⟨?_, ?_, ?_⟩ <;> first | rfl | decide | omega) | (exact ltN (Nat.le_of_ble_eq_true rfl)) | (exact leN (Nat.le_of_ble_eq_true rfl)))); (conv => whnf))
    refine ⟨_, rfl, trivial, .lst [.str "badfact", .str ""], .inr (.inl ⟨rfl, rfl⟩), ?_⟩
    conv => whnf
    repeat (refine Need.mk ?_ ?_; (focus (first | trivial | rfl | assumption | (exact Nat.le_trans (by assumption) le10) | (exact Nat.lt_of_le_of_lt (by assumption) lt10) | (show (0 : Int) < _; first | decide | omega) | (show (0 : Int) ≤ _; first | decide | omega) | (exact .inl ⟨by omega, by omega⟩) | (exact .inr ⟨by decide, by decide⟩) | (refine ⟨?_, ?_⟩ <;> first | rfl | decide | omega) | (refine ⟨?_, ?_, ?_⟩ <;> first | rfl | decide | omega) | (exact ltN (Nat.le_of_ble_eq_true rfl)) | (exact leN (Nat.le_of_ble_eq_true rfl)))); (conv => whnf))
    refine ⟨.lst [.str "badfact", .str ""], rfl, ⟨by decide, trivial, trivial, trivial⟩, ?_⟩
    exact ⟨0, _, [], Nat.le_refl _, Nat.zero_le _, rfl, Rs.same trivial, q _⟩
end
theorem all_mk {l : PySem.W.OpenLaw} {w : World} {K : PySem.W.Frag} {h : Heap} {mg : Str → Option Value} {fa : Addr} (X : K.In h) (G : h.Ns mainGlobals mg) (hfa : mg "law" = some (.ref fa))
    {c_BadFact : Addr} {c_SameOne : Addr} {c_Backward : Addr} {c_BadDepth : Addr} {c_BadYear : Addr} {c_BadShade : Addr} {c_BadCoat : Addr} {c_BadPart : Addr} {c_LimeError : Addr} {f_need_part : Addr} {od_need_part an_need_part : Option Addr} {sl_need_part : Array (Option Value)} {oc_need_part kV_need_part dc_need_part pm_need_part cd_need_part ct_need_part : Value} {f_need_coat : Addr} {od_need_coat an_need_coat : Option Addr} {sl_need_coat : Array (Option Value)} {oc_need_coat kV_need_coat dc_need_coat pm_need_coat cd_need_coat ct_need_coat : Value} {f_need_year : Addr} {od_need_year an_need_year : Option Addr} {sl_need_year : Array (Option Value)} {oc_need_year kV_need_year dc_need_year pm_need_year cd_need_year ct_need_year : Value} {f_need_depth : Addr} {od_need_depth an_need_depth : Option Addr} {sl_need_depth : Array (Option Value)} {oc_need_depth kV_need_depth dc_need_depth pm_need_depth cd_need_depth ct_need_depth : Value} {dv_need_depth : Addr} {do_need_depth : Value} {dd_need_depth : Option Addr} {di_need_depth : Array Value} {dn_need_depth : Nat} {ds_need_depth : Array (Option Value)} {f_need_scrape : Addr} {od_need_scrape an_need_scrape : Option Addr} {sl_need_scrape : Array (Option Value)} {oc_need_scrape kV_need_scrape dc_need_scrape pm_need_scrape cd_need_scrape ct_need_scrape : Value} {f_need_two : Addr} {od_need_two an_need_two : Option Addr} {sl_need_two : Array (Option Value)} {oc_need_two kV_need_two dc_need_two pm_need_two cd_need_two ct_need_two : Value} {f_need_cover : Addr} {od_need_cover an_need_cover : Option Addr} {sl_need_cover : Array (Option Value)} {oc_need_cover kV_need_cover dc_need_cover pm_need_cover cd_need_cover ct_need_cover : Value} {f_need_moved : Addr} {od_need_moved an_need_moved : Option Addr} {sl_need_moved : Array (Option Value)} {oc_need_moved kV_need_moved dc_need_moved pm_need_moved cd_need_moved ct_need_moved : Value} {f_need_dated : Addr} {od_need_dated an_need_dated : Option Addr} {sl_need_dated : Array (Option Value)} {oc_need_dated kV_need_dated dc_need_dated pm_need_dated cd_need_dated ct_need_dated : Value} {f_need_sold : Addr} {od_need_sold an_need_sold : Option Addr} {sl_need_sold : Array (Option Value)} {oc_need_sold kV_need_sold dc_need_sold pm_need_sold cd_need_sold ct_need_sold : Value} {f_need_coats : Addr} {od_need_coats an_need_coats : Option Addr} {sl_need_coats : Array (Option Value)} {oc_need_coats kV_need_coats dc_need_coats pm_need_coats cd_need_coats ct_need_coats : Value} {f_need_ahead : Addr} {od_need_ahead an_need_ahead : Option Addr} {sl_need_ahead : Array (Option Value)} {oc_need_ahead kV_need_ahead dc_need_ahead pm_need_ahead cd_need_ahead ct_need_ahead : Value} {f_need_paired : Addr} {od_need_paired an_need_paired : Option Addr} {sl_need_paired : Array (Option Value)} {oc_need_paired kV_need_paired dc_need_paired pm_need_paired cd_need_paired ct_need_paired : Value} {f_scrape_of : Addr} {od_scrape_of an_scrape_of : Option Addr} {sl_scrape_of : Array (Option Value)} {oc_scrape_of kV_scrape_of dc_scrape_of pm_scrape_of cd_scrape_of ct_scrape_of : Value} {f_cover_of : Addr} {od_cover_of an_cover_of : Option Addr} {sl_cover_of : Array (Option Value)} {oc_cover_of kV_cover_of dc_cover_of pm_cover_of cd_cover_of ct_cover_of : Value} {f_moved_of : Addr} {od_moved_of an_moved_of : Option Addr} {sl_moved_of : Array (Option Value)} {oc_moved_of kV_moved_of dc_moved_of pm_moved_of cd_moved_of ct_moved_of : Value} {f_dated_of : Addr} {od_dated_of an_dated_of : Option Addr} {sl_dated_of : Array (Option Value)} {oc_dated_of kV_dated_of dc_dated_of pm_dated_of cd_dated_of ct_dated_of : Value} {f_sold_of : Addr} {od_sold_of an_sold_of : Option Addr} {sl_sold_of : Array (Option Value)} {oc_sold_of kV_sold_of dc_sold_of pm_sold_of cd_sold_of ct_sold_of : Value} {f_ahead_of : Addr} {od_ahead_of an_ahead_of : Option Addr} {sl_ahead_of : Array (Option Value)} {oc_ahead_of kV_ahead_of dc_ahead_of pm_ahead_of cd_ahead_of ct_ahead_of : Value} {f_paired_of : Addr} {od_paired_of an_paired_of : Option Addr} {sl_paired_of : Array (Option Value)} {oc_paired_of kV_paired_of dc_paired_of pm_paired_of cd_paired_of ct_paired_of : Value} {f_need_fact : Addr} {od_need_fact an_need_fact : Option Addr} {sl_need_fact : Array (Option Value)} {oc_need_fact kV_need_fact dc_need_fact pm_need_fact cd_need_fact ct_need_fact : Value} {f__law_open : Addr} {od__law_open an__law_open : Option Addr} {sl__law_open : Array (Option Value)} {oc__law_open kV__law_open dc__law_open pm__law_open cd__law_open ct__law_open : Value} {f__law_pull : Addr} {od__law_pull an__law_pull : Option Addr} {sl__law_pull : Array (Option Value)} {oc__law_pull kV__law_pull dc__law_pull pm__law_pull cd__law_pull ct__law_pull : Value} {f__law_num : Addr} {od__law_num an__law_num : Option Addr} {sl__law_num : Array (Option Value)} {oc__law_num kV__law_num dc__law_num pm__law_num cd__law_num ct__law_num : Value} {f__law_like : Addr} {od__law_like an__law_like : Option Addr} {sl__law_like : Array (Option Value)} {oc__law_like kV__law_like dc__law_like pm__law_like cd__law_like ct__law_like : Value} {f__law_shades : Addr} {od__law_shades an__law_shades : Option Addr} {sl__law_shades : Array (Option Value)} {oc__law_shades kV__law_shades dc__law_shades pm__law_shades cd__law_shades ct__law_shades : Value} {f__law_fact : Addr} {od__law_fact an__law_fact : Option Addr} {sl__law_fact : Array (Option Value)} {oc__law_fact kV__law_fact dc__law_fact pm__law_fact cd__law_fact ct__law_fact : Value} {f__law_bad_shades : Addr} {od__law_bad_shades an__law_bad_shades : Option Addr} {sl__law_bad_shades : Array (Option Value)} {oc__law_bad_shades kV__law_bad_shades dc__law_bad_shades pm__law_bad_shades cd__law_bad_shades ct__law_bad_shades : Value} {f__law_fact_word : Addr} {od__law_fact_word an__law_fact_word : Option Addr} {sl__law_fact_word : Array (Option Value)} {oc__law_fact_word kV__law_fact_word dc__law_fact_word pm__law_fact_word cd__law_fact_word ct__law_fact_word : Value} {f__law_named : Addr} {od__law_named an__law_named : Option Addr} {sl__law_named : Array (Option Value)} {oc__law_named kV__law_named dc__law_named pm__law_named cd__law_named ct__law_named : Value} {f_law : Addr} {od_law an_law : Option Addr} {sl_law : Array (Option Value)} {oc_law kV_law dc_law pm_law  ct_law : Value} {f_LimeError_init : Addr} {od_LimeError_init an_LimeError_init : Option Addr} {sl_LimeError_init : Array (Option Value)} {oc_LimeError_init kV_LimeError_init dc_LimeError_init pm_LimeError_init cd_LimeError_init ct_LimeError_init : Value} {f_BadPart_init : Addr} {od_BadPart_init an_BadPart_init : Option Addr} {sl_BadPart_init : Array (Option Value)} {oc_BadPart_init kV_BadPart_init dc_BadPart_init pm_BadPart_init cd_BadPart_init ct_BadPart_init : Value} {f_BadCoat_init : Addr} {od_BadCoat_init an_BadCoat_init : Option Addr} {sl_BadCoat_init : Array (Option Value)} {oc_BadCoat_init kV_BadCoat_init dc_BadCoat_init pm_BadCoat_init cd_BadCoat_init ct_BadCoat_init : Value} {f_BadShade_init : Addr} {od_BadShade_init an_BadShade_init : Option Addr} {sl_BadShade_init : Array (Option Value)} {oc_BadShade_init kV_BadShade_init dc_BadShade_init pm_BadShade_init cd_BadShade_init ct_BadShade_init : Value} {f_BadYear_init : Addr} {od_BadYear_init an_BadYear_init : Option Addr} {sl_BadYear_init : Array (Option Value)} {oc_BadYear_init kV_BadYear_init dc_BadYear_init pm_BadYear_init cd_BadYear_init ct_BadYear_init : Value} {f_BadDepth_init : Addr} {od_BadDepth_init an_BadDepth_init : Option Addr} {sl_BadDepth_init : Array (Option Value)} {oc_BadDepth_init kV_BadDepth_init dc_BadDepth_init pm_BadDepth_init cd_BadDepth_init ct_BadDepth_init : Value} {f_Backward_init : Addr} {od_Backward_init an_Backward_init : Option Addr} {sl_Backward_init : Array (Option Value)} {oc_Backward_init kV_Backward_init dc_Backward_init pm_Backward_init cd_Backward_init ct_Backward_init : Value} {f_SameOne_init : Addr} {od_SameOne_init an_SameOne_init : Option Addr} {sl_SameOne_init : Array (Option Value)} {oc_SameOne_init kV_SameOne_init dc_SameOne_init pm_SameOne_init cd_SameOne_init ct_SameOne_init : Value} {f_BadFact_init : Addr} {od_BadFact_init an_BadFact_init : Option Addr} {sl_BadFact_init : Array (Option Value)} {oc_BadFact_init kV_BadFact_init dc_BadFact_init pm_BadFact_init cd_BadFact_init ct_BadFact_init : Value} {nm_LimeError q_LimeError : Str} {N_LimeError : Addr} {bs_LimeError bm_LimeError : List Value} {sn_LimeError sub_LimeError ab_LimeError col_LimeError dd_LimeError x0_LimeError x1_LimeError x2_LimeError x3_LimeError x5_LimeError} {nm_BadPart q_BadPart : Str} {N_BadPart : Addr} {bs_BadPart bm_BadPart : List Value} {sn_BadPart sub_BadPart ab_BadPart col_BadPart dd_BadPart x0_BadPart x1_BadPart x2_BadPart x3_BadPart x5_BadPart} {nm_BadCoat q_BadCoat : Str} {N_BadCoat : Addr} {bs_BadCoat bm_BadCoat : List Value} {sn_BadCoat sub_BadCoat ab_BadCoat col_BadCoat dd_BadCoat x0_BadCoat x1_BadCoat x2_BadCoat x3_BadCoat x5_BadCoat} {nm_BadShade q_BadShade : Str} {N_BadShade : Addr} {bs_BadShade bm_BadShade : List Value} {sn_BadShade sub_BadShade ab_BadShade col_BadShade dd_BadShade x0_BadShade x1_BadShade x2_BadShade x3_BadShade x5_BadShade} {nm_BadYear q_BadYear : Str} {N_BadYear : Addr} {bs_BadYear bm_BadYear : List Value} {sn_BadYear sub_BadYear ab_BadYear col_BadYear dd_BadYear x0_BadYear x1_BadYear x2_BadYear x3_BadYear x5_BadYear} {nm_BadDepth q_BadDepth : Str} {N_BadDepth : Addr} {bs_BadDepth bm_BadDepth : List Value} {sn_BadDepth sub_BadDepth ab_BadDepth col_BadDepth dd_BadDepth x0_BadDepth x1_BadDepth x2_BadDepth x3_BadDepth x5_BadDepth} {nm_Backward q_Backward : Str} {N_Backward : Addr} {bs_Backward bm_Backward : List Value} {sn_Backward sub_Backward ab_Backward col_Backward dd_Backward x0_Backward x1_Backward x2_Backward x3_Backward x5_Backward} {nm_SameOne q_SameOne : Str} {N_SameOne : Addr} {bs_SameOne bm_SameOne : List Value} {sn_SameOne sub_SameOne ab_SameOne col_SameOne dd_SameOne x0_SameOne x1_SameOne x2_SameOne x3_SameOne x5_SameOne} {nm_BadFact q_BadFact : Str} {N_BadFact : Addr} {bs_BadFact bm_BadFact : List Value} {sn_BadFact sub_BadFact ab_BadFact col_BadFact dd_BadFact x0_BadFact x1_BadFact x2_BadFact x3_BadFact x5_BadFact} {v_PARTS : Addr} {gn_PARTS : Nat} {gs_PARTS : Array (Option Value)} {gi_PARTS : Array Value} {tg_MOST_COATS : Tok} {tg_LAST_YEAR : Tok} {tg_LAST_SHADE : Tok} {v_LOOKS : Addr} {de_LOOKS : Array DictEntry} {dn_LOOKS : Nat} {v_THINGS : Addr} {de_THINGS : Array DictEntry} {dn_THINGS : Nat} {code : Addr}
    (ac_LimeError : PySem.W.nsIn K mainGlobals "LimeError" = some (some (.ref c_LimeError))) (ac_BadPart : PySem.W.nsIn K mainGlobals "BadPart" = some (some (.ref c_BadPart))) (ac_BadCoat : PySem.W.nsIn K mainGlobals "BadCoat" = some (some (.ref c_BadCoat))) (ac_BadShade : PySem.W.nsIn K mainGlobals "BadShade" = some (some (.ref c_BadShade))) (ac_BadYear : PySem.W.nsIn K mainGlobals "BadYear" = some (some (.ref c_BadYear))) (ac_BadDepth : PySem.W.nsIn K mainGlobals "BadDepth" = some (some (.ref c_BadDepth))) (ac_Backward : PySem.W.nsIn K mainGlobals "Backward" = some (some (.ref c_Backward))) (ac_SameOne : PySem.W.nsIn K mainGlobals "SameOne" = some (some (.ref c_SameOne))) (ac_BadFact : PySem.W.nsIn K mainGlobals "BadFact" = some (some (.ref c_BadFact)))
        (a_need_part : PySem.W.nsIn K mainGlobals "need_part" = some (some (.ref f_need_part)))
    (l_need_part : K.lookup f_need_part = some ⟨oc_need_part, od_need_part, .func (PySem.W.fnOf "need_part" "need_part" (defArgs s_need_part) (defBody s_need_part) (defScope s_need_part) .none kV_need_part dc_need_part pm_need_part an_need_part (cd_need_part) ct_need_part), sl_need_part⟩)
    (e_need_part : PySem.W.codeIn K (cd_need_part) "need_part" = true)
    (k_need_part : PySem.W.keepIn K (.ref f_need_part) = true)
    (a_need_coat : PySem.W.nsIn K mainGlobals "need_coat" = some (some (.ref f_need_coat)))
    (l_need_coat : K.lookup f_need_coat = some ⟨oc_need_coat, od_need_coat, .func (PySem.W.fnOf "need_coat" "need_coat" (defArgs s_need_coat) (defBody s_need_coat) (defScope s_need_coat) .none kV_need_coat dc_need_coat pm_need_coat an_need_coat (cd_need_coat) ct_need_coat), sl_need_coat⟩)
    (e_need_coat : PySem.W.codeIn K (cd_need_coat) "need_coat" = true)
    (k_need_coat : PySem.W.keepIn K (.ref f_need_coat) = true)
    (a_need_year : PySem.W.nsIn K mainGlobals "need_year" = some (some (.ref f_need_year)))
    (l_need_year : K.lookup f_need_year = some ⟨oc_need_year, od_need_year, .func (PySem.W.fnOf "need_year" "need_year" (defArgs s_need_year) (defBody s_need_year) (defScope s_need_year) .none kV_need_year dc_need_year pm_need_year an_need_year (cd_need_year) ct_need_year), sl_need_year⟩)
    (e_need_year : PySem.W.codeIn K (cd_need_year) "need_year" = true)
    (k_need_year : PySem.W.keepIn K (.ref f_need_year) = true)
    (a_need_depth : PySem.W.nsIn K mainGlobals "need_depth" = some (some (.ref f_need_depth)))
    (l_need_depth : K.lookup f_need_depth = some ⟨oc_need_depth, od_need_depth, .func (PySem.W.fnOf "need_depth" "need_depth" (defArgs s_need_depth) (defBody s_need_depth) (defScope s_need_depth) (.ref dv_need_depth) kV_need_depth dc_need_depth pm_need_depth an_need_depth (cd_need_depth) ct_need_depth), sl_need_depth⟩)
    (e_need_depth : PySem.W.codeIn K (cd_need_depth) "need_depth" = true)
    (k_need_depth : PySem.W.keepIn K (.ref f_need_depth) = true)
    (ld_need_depth : K.lookup dv_need_depth = some ⟨do_need_depth, dd_need_depth, .seq di_need_depth dn_need_depth, ds_need_depth⟩)
    (rd_need_depth : Vals [V.int 0] di_need_depth.toList)
    (a_need_scrape : PySem.W.nsIn K mainGlobals "need_scrape" = some (some (.ref f_need_scrape)))
    (l_need_scrape : K.lookup f_need_scrape = some ⟨oc_need_scrape, od_need_scrape, .func (PySem.W.fnOf "need_scrape" "need_scrape" (defArgs s_need_scrape) (defBody s_need_scrape) (defScope s_need_scrape) .none kV_need_scrape dc_need_scrape pm_need_scrape an_need_scrape (cd_need_scrape) ct_need_scrape), sl_need_scrape⟩)
    (e_need_scrape : PySem.W.codeIn K (cd_need_scrape) "need_scrape" = true)
    (k_need_scrape : PySem.W.keepIn K (.ref f_need_scrape) = true)
    (a_need_two : PySem.W.nsIn K mainGlobals "need_two" = some (some (.ref f_need_two)))
    (l_need_two : K.lookup f_need_two = some ⟨oc_need_two, od_need_two, .func (PySem.W.fnOf "need_two" "need_two" (defArgs s_need_two) (defBody s_need_two) (defScope s_need_two) .none kV_need_two dc_need_two pm_need_two an_need_two (cd_need_two) ct_need_two), sl_need_two⟩)
    (e_need_two : PySem.W.codeIn K (cd_need_two) "need_two" = true)
    (k_need_two : PySem.W.keepIn K (.ref f_need_two) = true)
    (a_need_cover : PySem.W.nsIn K mainGlobals "need_cover" = some (some (.ref f_need_cover)))
    (l_need_cover : K.lookup f_need_cover = some ⟨oc_need_cover, od_need_cover, .func (PySem.W.fnOf "need_cover" "need_cover" (defArgs s_need_cover) (defBody s_need_cover) (defScope s_need_cover) .none kV_need_cover dc_need_cover pm_need_cover an_need_cover (cd_need_cover) ct_need_cover), sl_need_cover⟩)
    (e_need_cover : PySem.W.codeIn K (cd_need_cover) "need_cover" = true)
    (k_need_cover : PySem.W.keepIn K (.ref f_need_cover) = true)
    (a_need_moved : PySem.W.nsIn K mainGlobals "need_moved" = some (some (.ref f_need_moved)))
    (l_need_moved : K.lookup f_need_moved = some ⟨oc_need_moved, od_need_moved, .func (PySem.W.fnOf "need_moved" "need_moved" (defArgs s_need_moved) (defBody s_need_moved) (defScope s_need_moved) .none kV_need_moved dc_need_moved pm_need_moved an_need_moved (cd_need_moved) ct_need_moved), sl_need_moved⟩)
    (e_need_moved : PySem.W.codeIn K (cd_need_moved) "need_moved" = true)
    (k_need_moved : PySem.W.keepIn K (.ref f_need_moved) = true)
    (a_need_dated : PySem.W.nsIn K mainGlobals "need_dated" = some (some (.ref f_need_dated)))
    (l_need_dated : K.lookup f_need_dated = some ⟨oc_need_dated, od_need_dated, .func (PySem.W.fnOf "need_dated" "need_dated" (defArgs s_need_dated) (defBody s_need_dated) (defScope s_need_dated) .none kV_need_dated dc_need_dated pm_need_dated an_need_dated (cd_need_dated) ct_need_dated), sl_need_dated⟩)
    (e_need_dated : PySem.W.codeIn K (cd_need_dated) "need_dated" = true)
    (k_need_dated : PySem.W.keepIn K (.ref f_need_dated) = true)
    (a_need_sold : PySem.W.nsIn K mainGlobals "need_sold" = some (some (.ref f_need_sold)))
    (l_need_sold : K.lookup f_need_sold = some ⟨oc_need_sold, od_need_sold, .func (PySem.W.fnOf "need_sold" "need_sold" (defArgs s_need_sold) (defBody s_need_sold) (defScope s_need_sold) .none kV_need_sold dc_need_sold pm_need_sold an_need_sold (cd_need_sold) ct_need_sold), sl_need_sold⟩)
    (e_need_sold : PySem.W.codeIn K (cd_need_sold) "need_sold" = true)
    (k_need_sold : PySem.W.keepIn K (.ref f_need_sold) = true)
    (a_need_coats : PySem.W.nsIn K mainGlobals "need_coats" = some (some (.ref f_need_coats)))
    (l_need_coats : K.lookup f_need_coats = some ⟨oc_need_coats, od_need_coats, .func (PySem.W.fnOf "need_coats" "need_coats" (defArgs s_need_coats) (defBody s_need_coats) (defScope s_need_coats) .none kV_need_coats dc_need_coats pm_need_coats an_need_coats (cd_need_coats) ct_need_coats), sl_need_coats⟩)
    (e_need_coats : PySem.W.codeIn K (cd_need_coats) "need_coats" = true)
    (k_need_coats : PySem.W.keepIn K (.ref f_need_coats) = true)
    (a_need_ahead : PySem.W.nsIn K mainGlobals "need_ahead" = some (some (.ref f_need_ahead)))
    (l_need_ahead : K.lookup f_need_ahead = some ⟨oc_need_ahead, od_need_ahead, .func (PySem.W.fnOf "need_ahead" "need_ahead" (defArgs s_need_ahead) (defBody s_need_ahead) (defScope s_need_ahead) .none kV_need_ahead dc_need_ahead pm_need_ahead an_need_ahead (cd_need_ahead) ct_need_ahead), sl_need_ahead⟩)
    (e_need_ahead : PySem.W.codeIn K (cd_need_ahead) "need_ahead" = true)
    (k_need_ahead : PySem.W.keepIn K (.ref f_need_ahead) = true)
    (a_need_paired : PySem.W.nsIn K mainGlobals "need_paired" = some (some (.ref f_need_paired)))
    (l_need_paired : K.lookup f_need_paired = some ⟨oc_need_paired, od_need_paired, .func (PySem.W.fnOf "need_paired" "need_paired" (defArgs s_need_paired) (defBody s_need_paired) (defScope s_need_paired) .none kV_need_paired dc_need_paired pm_need_paired an_need_paired (cd_need_paired) ct_need_paired), sl_need_paired⟩)
    (e_need_paired : PySem.W.codeIn K (cd_need_paired) "need_paired" = true)
    (k_need_paired : PySem.W.keepIn K (.ref f_need_paired) = true)
    (a_scrape_of : PySem.W.nsIn K mainGlobals "scrape_of" = some (some (.ref f_scrape_of)))
    (l_scrape_of : K.lookup f_scrape_of = some ⟨oc_scrape_of, od_scrape_of, .func (PySem.W.fnOf "scrape_of" "scrape_of" (defArgs s_scrape_of) (defBody s_scrape_of) (defScope s_scrape_of) .none kV_scrape_of dc_scrape_of pm_scrape_of an_scrape_of (cd_scrape_of) ct_scrape_of), sl_scrape_of⟩)
    (e_scrape_of : PySem.W.codeIn K (cd_scrape_of) "scrape_of" = true)
    (k_scrape_of : PySem.W.keepIn K (.ref f_scrape_of) = true)
    (a_cover_of : PySem.W.nsIn K mainGlobals "cover_of" = some (some (.ref f_cover_of)))
    (l_cover_of : K.lookup f_cover_of = some ⟨oc_cover_of, od_cover_of, .func (PySem.W.fnOf "cover_of" "cover_of" (defArgs s_cover_of) (defBody s_cover_of) (defScope s_cover_of) .none kV_cover_of dc_cover_of pm_cover_of an_cover_of (cd_cover_of) ct_cover_of), sl_cover_of⟩)
    (e_cover_of : PySem.W.codeIn K (cd_cover_of) "cover_of" = true)
    (k_cover_of : PySem.W.keepIn K (.ref f_cover_of) = true)
    (a_moved_of : PySem.W.nsIn K mainGlobals "moved_of" = some (some (.ref f_moved_of)))
    (l_moved_of : K.lookup f_moved_of = some ⟨oc_moved_of, od_moved_of, .func (PySem.W.fnOf "moved_of" "moved_of" (defArgs s_moved_of) (defBody s_moved_of) (defScope s_moved_of) .none kV_moved_of dc_moved_of pm_moved_of an_moved_of (cd_moved_of) ct_moved_of), sl_moved_of⟩)
    (e_moved_of : PySem.W.codeIn K (cd_moved_of) "moved_of" = true)
    (k_moved_of : PySem.W.keepIn K (.ref f_moved_of) = true)
    (a_dated_of : PySem.W.nsIn K mainGlobals "dated_of" = some (some (.ref f_dated_of)))
    (l_dated_of : K.lookup f_dated_of = some ⟨oc_dated_of, od_dated_of, .func (PySem.W.fnOf "dated_of" "dated_of" (defArgs s_dated_of) (defBody s_dated_of) (defScope s_dated_of) .none kV_dated_of dc_dated_of pm_dated_of an_dated_of (cd_dated_of) ct_dated_of), sl_dated_of⟩)
    (e_dated_of : PySem.W.codeIn K (cd_dated_of) "dated_of" = true)
    (k_dated_of : PySem.W.keepIn K (.ref f_dated_of) = true)
    (a_sold_of : PySem.W.nsIn K mainGlobals "sold_of" = some (some (.ref f_sold_of)))
    (l_sold_of : K.lookup f_sold_of = some ⟨oc_sold_of, od_sold_of, .func (PySem.W.fnOf "sold_of" "sold_of" (defArgs s_sold_of) (defBody s_sold_of) (defScope s_sold_of) .none kV_sold_of dc_sold_of pm_sold_of an_sold_of (cd_sold_of) ct_sold_of), sl_sold_of⟩)
    (e_sold_of : PySem.W.codeIn K (cd_sold_of) "sold_of" = true)
    (k_sold_of : PySem.W.keepIn K (.ref f_sold_of) = true)
    (a_ahead_of : PySem.W.nsIn K mainGlobals "ahead_of" = some (some (.ref f_ahead_of)))
    (l_ahead_of : K.lookup f_ahead_of = some ⟨oc_ahead_of, od_ahead_of, .func (PySem.W.fnOf "ahead_of" "ahead_of" (defArgs s_ahead_of) (defBody s_ahead_of) (defScope s_ahead_of) .none kV_ahead_of dc_ahead_of pm_ahead_of an_ahead_of (cd_ahead_of) ct_ahead_of), sl_ahead_of⟩)
    (e_ahead_of : PySem.W.codeIn K (cd_ahead_of) "ahead_of" = true)
    (k_ahead_of : PySem.W.keepIn K (.ref f_ahead_of) = true)
    (a_paired_of : PySem.W.nsIn K mainGlobals "paired_of" = some (some (.ref f_paired_of)))
    (l_paired_of : K.lookup f_paired_of = some ⟨oc_paired_of, od_paired_of, .func (PySem.W.fnOf "paired_of" "paired_of" (defArgs s_paired_of) (defBody s_paired_of) (defScope s_paired_of) .none kV_paired_of dc_paired_of pm_paired_of an_paired_of (cd_paired_of) ct_paired_of), sl_paired_of⟩)
    (e_paired_of : PySem.W.codeIn K (cd_paired_of) "paired_of" = true)
    (k_paired_of : PySem.W.keepIn K (.ref f_paired_of) = true)
    (a_need_fact : PySem.W.nsIn K mainGlobals "need_fact" = some (some (.ref f_need_fact)))
    (l_need_fact : K.lookup f_need_fact = some ⟨oc_need_fact, od_need_fact, .func (PySem.W.fnOf "need_fact" "need_fact" (defArgs s_need_fact) (defBody s_need_fact) (defScope s_need_fact) .none kV_need_fact dc_need_fact pm_need_fact an_need_fact (cd_need_fact) ct_need_fact), sl_need_fact⟩)
    (e_need_fact : PySem.W.codeIn K (cd_need_fact) "need_fact" = true)
    (k_need_fact : PySem.W.keepIn K (.ref f_need_fact) = true)
    (a__law_open : PySem.W.nsIn K mainGlobals "_law_open" = some (some (.ref f__law_open)))
    (l__law_open : K.lookup f__law_open = some ⟨oc__law_open, od__law_open, .func (PySem.W.fnOf "_law_open" "_law_open" (defArgs s__law_open) (defBody s__law_open) (defScope s__law_open) .none kV__law_open dc__law_open pm__law_open an__law_open (cd__law_open) ct__law_open), sl__law_open⟩)
    (e__law_open : PySem.W.codeIn K (cd__law_open) "_law_open" = true)
    (k__law_open : PySem.W.keepIn K (.ref f__law_open) = true)
    (a__law_pull : PySem.W.nsIn K mainGlobals "_law_pull" = some (some (.ref f__law_pull)))
    (l__law_pull : K.lookup f__law_pull = some ⟨oc__law_pull, od__law_pull, .func (PySem.W.fnOf "_law_pull" "_law_pull" (defArgs s__law_pull) (defBody s__law_pull) (defScope s__law_pull) .none kV__law_pull dc__law_pull pm__law_pull an__law_pull (cd__law_pull) ct__law_pull), sl__law_pull⟩)
    (e__law_pull : PySem.W.codeIn K (cd__law_pull) "_law_pull" = true)
    (k__law_pull : PySem.W.keepIn K (.ref f__law_pull) = true)
    (a__law_num : PySem.W.nsIn K mainGlobals "_law_num" = some (some (.ref f__law_num)))
    (l__law_num : K.lookup f__law_num = some ⟨oc__law_num, od__law_num, .func (PySem.W.fnOf "_law_num" "_law_num" (defArgs s__law_num) (defBody s__law_num) (defScope s__law_num) .none kV__law_num dc__law_num pm__law_num an__law_num (cd__law_num) ct__law_num), sl__law_num⟩)
    (e__law_num : PySem.W.codeIn K (cd__law_num) "_law_num" = true)
    (k__law_num : PySem.W.keepIn K (.ref f__law_num) = true)
    (a__law_like : PySem.W.nsIn K mainGlobals "_law_like" = some (some (.ref f__law_like)))
    (l__law_like : K.lookup f__law_like = some ⟨oc__law_like, od__law_like, .func (PySem.W.fnOf "_law_like" "_law_like" (defArgs s__law_like) (defBody s__law_like) (defScope s__law_like) .none kV__law_like dc__law_like pm__law_like an__law_like (cd__law_like) ct__law_like), sl__law_like⟩)
    (e__law_like : PySem.W.codeIn K (cd__law_like) "_law_like" = true)
    (k__law_like : PySem.W.keepIn K (.ref f__law_like) = true)
    (a__law_shades : PySem.W.nsIn K mainGlobals "_law_shades" = some (some (.ref f__law_shades)))
    (l__law_shades : K.lookup f__law_shades = some ⟨oc__law_shades, od__law_shades, .func (PySem.W.fnOf "_law_shades" "_law_shades" (defArgs s__law_shades) (defBody s__law_shades) (defScope s__law_shades) .none kV__law_shades dc__law_shades pm__law_shades an__law_shades (cd__law_shades) ct__law_shades), sl__law_shades⟩)
    (e__law_shades : PySem.W.codeIn K (cd__law_shades) "_law_shades" = true)
    (k__law_shades : PySem.W.keepIn K (.ref f__law_shades) = true)
    (a__law_fact : PySem.W.nsIn K mainGlobals "_law_fact" = some (some (.ref f__law_fact)))
    (l__law_fact : K.lookup f__law_fact = some ⟨oc__law_fact, od__law_fact, .func (PySem.W.fnOf "_law_fact" "_law_fact" (defArgs s__law_fact) (defBody s__law_fact) (defScope s__law_fact) .none kV__law_fact dc__law_fact pm__law_fact an__law_fact (cd__law_fact) ct__law_fact), sl__law_fact⟩)
    (e__law_fact : PySem.W.codeIn K (cd__law_fact) "_law_fact" = true)
    (k__law_fact : PySem.W.keepIn K (.ref f__law_fact) = true)
    (a__law_bad_shades : PySem.W.nsIn K mainGlobals "_law_bad_shades" = some (some (.ref f__law_bad_shades)))
    (l__law_bad_shades : K.lookup f__law_bad_shades = some ⟨oc__law_bad_shades, od__law_bad_shades, .func (PySem.W.fnOf "_law_bad_shades" "_law_bad_shades" (defArgs s__law_bad_shades) (defBody s__law_bad_shades) (defScope s__law_bad_shades) .none kV__law_bad_shades dc__law_bad_shades pm__law_bad_shades an__law_bad_shades (cd__law_bad_shades) ct__law_bad_shades), sl__law_bad_shades⟩)
    (e__law_bad_shades : PySem.W.codeIn K (cd__law_bad_shades) "_law_bad_shades" = true)
    (k__law_bad_shades : PySem.W.keepIn K (.ref f__law_bad_shades) = true)
    (a__law_fact_word : PySem.W.nsIn K mainGlobals "_law_fact_word" = some (some (.ref f__law_fact_word)))
    (l__law_fact_word : K.lookup f__law_fact_word = some ⟨oc__law_fact_word, od__law_fact_word, .func (PySem.W.fnOf "_law_fact_word" "_law_fact_word" (defArgs s__law_fact_word) (defBody s__law_fact_word) (defScope s__law_fact_word) .none kV__law_fact_word dc__law_fact_word pm__law_fact_word an__law_fact_word (cd__law_fact_word) ct__law_fact_word), sl__law_fact_word⟩)
    (e__law_fact_word : PySem.W.codeIn K (cd__law_fact_word) "_law_fact_word" = true)
    (k__law_fact_word : PySem.W.keepIn K (.ref f__law_fact_word) = true)
    (a__law_named : PySem.W.nsIn K mainGlobals "_law_named" = some (some (.ref f__law_named)))
    (l__law_named : K.lookup f__law_named = some ⟨oc__law_named, od__law_named, .func (PySem.W.fnOf "_law_named" "_law_named" (defArgs s__law_named) (defBody s__law_named) (defScope s__law_named) .none kV__law_named dc__law_named pm__law_named an__law_named (cd__law_named) ct__law_named), sl__law_named⟩)
    (e__law_named : PySem.W.codeIn K (cd__law_named) "_law_named" = true)
    (k__law_named : PySem.W.keepIn K (.ref f__law_named) = true)
    (a_law : PySem.W.nsIn K mainGlobals "law" = some (some (.ref f_law)))
    (l_law : K.lookup f_law = some ⟨oc_law, od_law, .func (PySem.W.fnOf "law" "law" (defArgs s_law) (defBody s_law) (defScope s_law) .none kV_law dc_law pm_law an_law (.ref code) ct_law), sl_law⟩)
    (e_law : PySem.W.codeIn K (.ref code) "law" = true)
    (k_law : PySem.W.keepIn K (.ref f_law) = true)
    (i_LimeError_init : PySem.W.findIn K (.ref c_LimeError) "__init__" = some (some (.ref f_LimeError_init)))
    (t_LimeError_init : PySem.W.typeIn K (.ref f_LimeError_init) = some (.type "function"))
    (l_LimeError_init : K.lookup f_LimeError_init = some ⟨oc_LimeError_init, od_LimeError_init, .func (PySem.W.fnOf "__init__" "LimeError.__init__" (defArgs s_LimeError_init) (defBody s_LimeError_init) (defScope s_LimeError_init) .none kV_LimeError_init dc_LimeError_init pm_LimeError_init an_LimeError_init (cd_LimeError_init) ct_LimeError_init), sl_LimeError_init⟩)
    (e_LimeError_init : PySem.W.codeIn K (cd_LimeError_init) "LimeError.__init__" = true)
    (k_LimeError_init : PySem.W.keepIn K (.ref f_LimeError_init) = true)
    (i_BadPart_init : PySem.W.findIn K (.ref c_BadPart) "__init__" = some (some (.ref f_BadPart_init)))
    (t_BadPart_init : PySem.W.typeIn K (.ref f_BadPart_init) = some (.type "function"))
    (l_BadPart_init : K.lookup f_BadPart_init = some ⟨oc_BadPart_init, od_BadPart_init, .func (PySem.W.fnOf "__init__" "BadPart.__init__" (defArgs s_BadPart_init) (defBody s_BadPart_init) (defScope s_BadPart_init) .none kV_BadPart_init dc_BadPart_init pm_BadPart_init an_BadPart_init (cd_BadPart_init) ct_BadPart_init), sl_BadPart_init⟩)
    (e_BadPart_init : PySem.W.codeIn K (cd_BadPart_init) "BadPart.__init__" = true)
    (k_BadPart_init : PySem.W.keepIn K (.ref f_BadPart_init) = true)
    (i_BadCoat_init : PySem.W.findIn K (.ref c_BadCoat) "__init__" = some (some (.ref f_BadCoat_init)))
    (t_BadCoat_init : PySem.W.typeIn K (.ref f_BadCoat_init) = some (.type "function"))
    (l_BadCoat_init : K.lookup f_BadCoat_init = some ⟨oc_BadCoat_init, od_BadCoat_init, .func (PySem.W.fnOf "__init__" "BadCoat.__init__" (defArgs s_BadCoat_init) (defBody s_BadCoat_init) (defScope s_BadCoat_init) .none kV_BadCoat_init dc_BadCoat_init pm_BadCoat_init an_BadCoat_init (cd_BadCoat_init) ct_BadCoat_init), sl_BadCoat_init⟩)
    (e_BadCoat_init : PySem.W.codeIn K (cd_BadCoat_init) "BadCoat.__init__" = true)
    (k_BadCoat_init : PySem.W.keepIn K (.ref f_BadCoat_init) = true)
    (i_BadShade_init : PySem.W.findIn K (.ref c_BadShade) "__init__" = some (some (.ref f_BadShade_init)))
    (t_BadShade_init : PySem.W.typeIn K (.ref f_BadShade_init) = some (.type "function"))
    (l_BadShade_init : K.lookup f_BadShade_init = some ⟨oc_BadShade_init, od_BadShade_init, .func (PySem.W.fnOf "__init__" "BadShade.__init__" (defArgs s_BadShade_init) (defBody s_BadShade_init) (defScope s_BadShade_init) .none kV_BadShade_init dc_BadShade_init pm_BadShade_init an_BadShade_init (cd_BadShade_init) ct_BadShade_init), sl_BadShade_init⟩)
    (e_BadShade_init : PySem.W.codeIn K (cd_BadShade_init) "BadShade.__init__" = true)
    (k_BadShade_init : PySem.W.keepIn K (.ref f_BadShade_init) = true)
    (i_BadYear_init : PySem.W.findIn K (.ref c_BadYear) "__init__" = some (some (.ref f_BadYear_init)))
    (t_BadYear_init : PySem.W.typeIn K (.ref f_BadYear_init) = some (.type "function"))
    (l_BadYear_init : K.lookup f_BadYear_init = some ⟨oc_BadYear_init, od_BadYear_init, .func (PySem.W.fnOf "__init__" "BadYear.__init__" (defArgs s_BadYear_init) (defBody s_BadYear_init) (defScope s_BadYear_init) .none kV_BadYear_init dc_BadYear_init pm_BadYear_init an_BadYear_init (cd_BadYear_init) ct_BadYear_init), sl_BadYear_init⟩)
    (e_BadYear_init : PySem.W.codeIn K (cd_BadYear_init) "BadYear.__init__" = true)
    (k_BadYear_init : PySem.W.keepIn K (.ref f_BadYear_init) = true)
    (i_BadDepth_init : PySem.W.findIn K (.ref c_BadDepth) "__init__" = some (some (.ref f_BadDepth_init)))
    (t_BadDepth_init : PySem.W.typeIn K (.ref f_BadDepth_init) = some (.type "function"))
    (l_BadDepth_init : K.lookup f_BadDepth_init = some ⟨oc_BadDepth_init, od_BadDepth_init, .func (PySem.W.fnOf "__init__" "BadDepth.__init__" (defArgs s_BadDepth_init) (defBody s_BadDepth_init) (defScope s_BadDepth_init) .none kV_BadDepth_init dc_BadDepth_init pm_BadDepth_init an_BadDepth_init (cd_BadDepth_init) ct_BadDepth_init), sl_BadDepth_init⟩)
    (e_BadDepth_init : PySem.W.codeIn K (cd_BadDepth_init) "BadDepth.__init__" = true)
    (k_BadDepth_init : PySem.W.keepIn K (.ref f_BadDepth_init) = true)
    (i_Backward_init : PySem.W.findIn K (.ref c_Backward) "__init__" = some (some (.ref f_Backward_init)))
    (t_Backward_init : PySem.W.typeIn K (.ref f_Backward_init) = some (.type "function"))
    (l_Backward_init : K.lookup f_Backward_init = some ⟨oc_Backward_init, od_Backward_init, .func (PySem.W.fnOf "__init__" "Backward.__init__" (defArgs s_Backward_init) (defBody s_Backward_init) (defScope s_Backward_init) .none kV_Backward_init dc_Backward_init pm_Backward_init an_Backward_init (cd_Backward_init) ct_Backward_init), sl_Backward_init⟩)
    (e_Backward_init : PySem.W.codeIn K (cd_Backward_init) "Backward.__init__" = true)
    (k_Backward_init : PySem.W.keepIn K (.ref f_Backward_init) = true)
    (i_SameOne_init : PySem.W.findIn K (.ref c_SameOne) "__init__" = some (some (.ref f_SameOne_init)))
    (t_SameOne_init : PySem.W.typeIn K (.ref f_SameOne_init) = some (.type "function"))
    (l_SameOne_init : K.lookup f_SameOne_init = some ⟨oc_SameOne_init, od_SameOne_init, .func (PySem.W.fnOf "__init__" "SameOne.__init__" (defArgs s_SameOne_init) (defBody s_SameOne_init) (defScope s_SameOne_init) .none kV_SameOne_init dc_SameOne_init pm_SameOne_init an_SameOne_init (cd_SameOne_init) ct_SameOne_init), sl_SameOne_init⟩)
    (e_SameOne_init : PySem.W.codeIn K (cd_SameOne_init) "SameOne.__init__" = true)
    (k_SameOne_init : PySem.W.keepIn K (.ref f_SameOne_init) = true)
    (i_BadFact_init : PySem.W.findIn K (.ref c_BadFact) "__init__" = some (some (.ref f_BadFact_init)))
    (t_BadFact_init : PySem.W.typeIn K (.ref f_BadFact_init) = some (.type "function"))
    (l_BadFact_init : K.lookup f_BadFact_init = some ⟨oc_BadFact_init, od_BadFact_init, .func (PySem.W.fnOf "__init__" "BadFact.__init__" (defArgs s_BadFact_init) (defBody s_BadFact_init) (defScope s_BadFact_init) .none kV_BadFact_init dc_BadFact_init pm_BadFact_init an_BadFact_init (cd_BadFact_init) ct_BadFact_init), sl_BadFact_init⟩)
    (e_BadFact_init : PySem.W.codeIn K (cd_BadFact_init) "BadFact.__init__" = true)
    (k_BadFact_init : PySem.W.keepIn K (.ref f_BadFact_init) = true)
    (kc_LimeError : PySem.W.keepIn K (.ref c_LimeError) = true)
    (ty_LimeError : PySem.W.typeIn K (.ref c_LimeError) = some (.type "type"))
    (lc_LimeError : K.lookup c_LimeError = some (excClassObj nm_LimeError q_LimeError c_LimeError N_LimeError bs_LimeError bm_LimeError true sn_LimeError sub_LimeError ab_LimeError col_LimeError dd_LimeError x0_LimeError x1_LimeError x2_LimeError x3_LimeError x5_LimeError "ValueError.__new__"))
    (rv_LimeError : PySem.HandSPX.refsVE bm_LimeError = true)
    (sa_LimeError : PySem.W.findIn K (.ref c_LimeError) "__setattr__" = some (some (.builtin "object.__setattr__")))
    (eb_LimeError : PySem.W.subIn K (.ref c_LimeError) (.type "BaseException") = some true)
    (ga_LimeError : PySem.W.findIn K (.ref c_LimeError) "__getattribute__" = some (some (.builtin "BaseException.__getattribute__")))
    (gg_LimeError : PySem.W.findIn K (.ref c_LimeError) "__getattr__" = some none)
    (hd_LimeError : PySem.W.hasDictIn K c_LimeError = true)
    (nc_LimeError : PySem.W.findIn K (.ref c_LimeError) "called" = some none)
    (kc_BadPart : PySem.W.keepIn K (.ref c_BadPart) = true)
    (ty_BadPart : PySem.W.typeIn K (.ref c_BadPart) = some (.type "type"))
    (lc_BadPart : K.lookup c_BadPart = some (excClassObj nm_BadPart q_BadPart c_BadPart N_BadPart bs_BadPart bm_BadPart true sn_BadPart sub_BadPart ab_BadPart col_BadPart dd_BadPart x0_BadPart x1_BadPart x2_BadPart x3_BadPart x5_BadPart "ValueError.__new__"))
    (rv_BadPart : PySem.HandSPX.refsVE bm_BadPart = true)
    (sa_BadPart : PySem.W.findIn K (.ref c_BadPart) "__setattr__" = some (some (.builtin "object.__setattr__")))
    (eb_BadPart : PySem.W.subIn K (.ref c_BadPart) (.type "BaseException") = some true)
    (ga_BadPart : PySem.W.findIn K (.ref c_BadPart) "__getattribute__" = some (some (.builtin "BaseException.__getattribute__")))
    (gg_BadPart : PySem.W.findIn K (.ref c_BadPart) "__getattr__" = some none)
    (hd_BadPart : PySem.W.hasDictIn K c_BadPart = true)
    (nc_BadPart : PySem.W.findIn K (.ref c_BadPart) "called" = some none)
    (su_BadPart : PySem.W.subIn K (.ref c_BadPart) (.ref c_LimeError) = some true)
    (ss_BadPart : PySem.W.subIn K (.ref c_BadPart) (.ref c_BadPart) = some true)
    (kc_BadCoat : PySem.W.keepIn K (.ref c_BadCoat) = true)
    (ty_BadCoat : PySem.W.typeIn K (.ref c_BadCoat) = some (.type "type"))
    (lc_BadCoat : K.lookup c_BadCoat = some (excClassObj nm_BadCoat q_BadCoat c_BadCoat N_BadCoat bs_BadCoat bm_BadCoat true sn_BadCoat sub_BadCoat ab_BadCoat col_BadCoat dd_BadCoat x0_BadCoat x1_BadCoat x2_BadCoat x3_BadCoat x5_BadCoat "ValueError.__new__"))
    (rv_BadCoat : PySem.HandSPX.refsVE bm_BadCoat = true)
    (sa_BadCoat : PySem.W.findIn K (.ref c_BadCoat) "__setattr__" = some (some (.builtin "object.__setattr__")))
    (eb_BadCoat : PySem.W.subIn K (.ref c_BadCoat) (.type "BaseException") = some true)
    (ga_BadCoat : PySem.W.findIn K (.ref c_BadCoat) "__getattribute__" = some (some (.builtin "BaseException.__getattribute__")))
    (gg_BadCoat : PySem.W.findIn K (.ref c_BadCoat) "__getattr__" = some none)
    (hd_BadCoat : PySem.W.hasDictIn K c_BadCoat = true)
    (nc_BadCoat : PySem.W.findIn K (.ref c_BadCoat) "called" = some none)
    (su_BadCoat : PySem.W.subIn K (.ref c_BadCoat) (.ref c_LimeError) = some true)
    (ss_BadCoat : PySem.W.subIn K (.ref c_BadCoat) (.ref c_BadCoat) = some true)
    (kc_BadShade : PySem.W.keepIn K (.ref c_BadShade) = true)
    (ty_BadShade : PySem.W.typeIn K (.ref c_BadShade) = some (.type "type"))
    (lc_BadShade : K.lookup c_BadShade = some (excClassObj nm_BadShade q_BadShade c_BadShade N_BadShade bs_BadShade bm_BadShade true sn_BadShade sub_BadShade ab_BadShade col_BadShade dd_BadShade x0_BadShade x1_BadShade x2_BadShade x3_BadShade x5_BadShade "ValueError.__new__"))
    (rv_BadShade : PySem.HandSPX.refsVE bm_BadShade = true)
    (sa_BadShade : PySem.W.findIn K (.ref c_BadShade) "__setattr__" = some (some (.builtin "object.__setattr__")))
    (eb_BadShade : PySem.W.subIn K (.ref c_BadShade) (.type "BaseException") = some true)
    (ga_BadShade : PySem.W.findIn K (.ref c_BadShade) "__getattribute__" = some (some (.builtin "BaseException.__getattribute__")))
    (gg_BadShade : PySem.W.findIn K (.ref c_BadShade) "__getattr__" = some none)
    (hd_BadShade : PySem.W.hasDictIn K c_BadShade = true)
    (nc_BadShade : PySem.W.findIn K (.ref c_BadShade) "called" = some none)
    (su_BadShade : PySem.W.subIn K (.ref c_BadShade) (.ref c_LimeError) = some true)
    (ss_BadShade : PySem.W.subIn K (.ref c_BadShade) (.ref c_BadShade) = some true)
    (kc_BadYear : PySem.W.keepIn K (.ref c_BadYear) = true)
    (ty_BadYear : PySem.W.typeIn K (.ref c_BadYear) = some (.type "type"))
    (lc_BadYear : K.lookup c_BadYear = some (excClassObj nm_BadYear q_BadYear c_BadYear N_BadYear bs_BadYear bm_BadYear true sn_BadYear sub_BadYear ab_BadYear col_BadYear dd_BadYear x0_BadYear x1_BadYear x2_BadYear x3_BadYear x5_BadYear "ValueError.__new__"))
    (rv_BadYear : PySem.HandSPX.refsVE bm_BadYear = true)
    (sa_BadYear : PySem.W.findIn K (.ref c_BadYear) "__setattr__" = some (some (.builtin "object.__setattr__")))
    (eb_BadYear : PySem.W.subIn K (.ref c_BadYear) (.type "BaseException") = some true)
    (ga_BadYear : PySem.W.findIn K (.ref c_BadYear) "__getattribute__" = some (some (.builtin "BaseException.__getattribute__")))
    (gg_BadYear : PySem.W.findIn K (.ref c_BadYear) "__getattr__" = some none)
    (hd_BadYear : PySem.W.hasDictIn K c_BadYear = true)
    (nc_BadYear : PySem.W.findIn K (.ref c_BadYear) "called" = some none)
    (su_BadYear : PySem.W.subIn K (.ref c_BadYear) (.ref c_LimeError) = some true)
    (ss_BadYear : PySem.W.subIn K (.ref c_BadYear) (.ref c_BadYear) = some true)
    (kc_BadDepth : PySem.W.keepIn K (.ref c_BadDepth) = true)
    (ty_BadDepth : PySem.W.typeIn K (.ref c_BadDepth) = some (.type "type"))
    (lc_BadDepth : K.lookup c_BadDepth = some (excClassObj nm_BadDepth q_BadDepth c_BadDepth N_BadDepth bs_BadDepth bm_BadDepth true sn_BadDepth sub_BadDepth ab_BadDepth col_BadDepth dd_BadDepth x0_BadDepth x1_BadDepth x2_BadDepth x3_BadDepth x5_BadDepth "ValueError.__new__"))
    (rv_BadDepth : PySem.HandSPX.refsVE bm_BadDepth = true)
    (sa_BadDepth : PySem.W.findIn K (.ref c_BadDepth) "__setattr__" = some (some (.builtin "object.__setattr__")))
    (eb_BadDepth : PySem.W.subIn K (.ref c_BadDepth) (.type "BaseException") = some true)
    (ga_BadDepth : PySem.W.findIn K (.ref c_BadDepth) "__getattribute__" = some (some (.builtin "BaseException.__getattribute__")))
    (gg_BadDepth : PySem.W.findIn K (.ref c_BadDepth) "__getattr__" = some none)
    (hd_BadDepth : PySem.W.hasDictIn K c_BadDepth = true)
    (nc_BadDepth : PySem.W.findIn K (.ref c_BadDepth) "called" = some none)
    (su_BadDepth : PySem.W.subIn K (.ref c_BadDepth) (.ref c_LimeError) = some true)
    (ss_BadDepth : PySem.W.subIn K (.ref c_BadDepth) (.ref c_BadDepth) = some true)
    (kc_Backward : PySem.W.keepIn K (.ref c_Backward) = true)
    (ty_Backward : PySem.W.typeIn K (.ref c_Backward) = some (.type "type"))
    (lc_Backward : K.lookup c_Backward = some (excClassObj nm_Backward q_Backward c_Backward N_Backward bs_Backward bm_Backward true sn_Backward sub_Backward ab_Backward col_Backward dd_Backward x0_Backward x1_Backward x2_Backward x3_Backward x5_Backward "ValueError.__new__"))
    (rv_Backward : PySem.HandSPX.refsVE bm_Backward = true)
    (sa_Backward : PySem.W.findIn K (.ref c_Backward) "__setattr__" = some (some (.builtin "object.__setattr__")))
    (eb_Backward : PySem.W.subIn K (.ref c_Backward) (.type "BaseException") = some true)
    (ga_Backward : PySem.W.findIn K (.ref c_Backward) "__getattribute__" = some (some (.builtin "BaseException.__getattribute__")))
    (gg_Backward : PySem.W.findIn K (.ref c_Backward) "__getattr__" = some none)
    (hd_Backward : PySem.W.hasDictIn K c_Backward = true)
    (nc_Backward : PySem.W.findIn K (.ref c_Backward) "called" = some none)
    (su_Backward : PySem.W.subIn K (.ref c_Backward) (.ref c_LimeError) = some true)
    (ss_Backward : PySem.W.subIn K (.ref c_Backward) (.ref c_Backward) = some true)
    (kc_SameOne : PySem.W.keepIn K (.ref c_SameOne) = true)
    (ty_SameOne : PySem.W.typeIn K (.ref c_SameOne) = some (.type "type"))
    (lc_SameOne : K.lookup c_SameOne = some (excClassObj nm_SameOne q_SameOne c_SameOne N_SameOne bs_SameOne bm_SameOne true sn_SameOne sub_SameOne ab_SameOne col_SameOne dd_SameOne x0_SameOne x1_SameOne x2_SameOne x3_SameOne x5_SameOne "ValueError.__new__"))
    (rv_SameOne : PySem.HandSPX.refsVE bm_SameOne = true)
    (sa_SameOne : PySem.W.findIn K (.ref c_SameOne) "__setattr__" = some (some (.builtin "object.__setattr__")))
    (eb_SameOne : PySem.W.subIn K (.ref c_SameOne) (.type "BaseException") = some true)
    (ga_SameOne : PySem.W.findIn K (.ref c_SameOne) "__getattribute__" = some (some (.builtin "BaseException.__getattribute__")))
    (gg_SameOne : PySem.W.findIn K (.ref c_SameOne) "__getattr__" = some none)
    (hd_SameOne : PySem.W.hasDictIn K c_SameOne = true)
    (nc_SameOne : PySem.W.findIn K (.ref c_SameOne) "called" = some none)
    (su_SameOne : PySem.W.subIn K (.ref c_SameOne) (.ref c_LimeError) = some true)
    (ss_SameOne : PySem.W.subIn K (.ref c_SameOne) (.ref c_SameOne) = some true)
    (kc_BadFact : PySem.W.keepIn K (.ref c_BadFact) = true)
    (ty_BadFact : PySem.W.typeIn K (.ref c_BadFact) = some (.type "type"))
    (lc_BadFact : K.lookup c_BadFact = some (excClassObj nm_BadFact q_BadFact c_BadFact N_BadFact bs_BadFact bm_BadFact true sn_BadFact sub_BadFact ab_BadFact col_BadFact dd_BadFact x0_BadFact x1_BadFact x2_BadFact x3_BadFact x5_BadFact "ValueError.__new__"))
    (rv_BadFact : PySem.HandSPX.refsVE bm_BadFact = true)
    (sa_BadFact : PySem.W.findIn K (.ref c_BadFact) "__setattr__" = some (some (.builtin "object.__setattr__")))
    (eb_BadFact : PySem.W.subIn K (.ref c_BadFact) (.type "BaseException") = some true)
    (ga_BadFact : PySem.W.findIn K (.ref c_BadFact) "__getattribute__" = some (some (.builtin "BaseException.__getattribute__")))
    (gg_BadFact : PySem.W.findIn K (.ref c_BadFact) "__getattr__" = some none)
    (hd_BadFact : PySem.W.hasDictIn K c_BadFact = true)
    (nc_BadFact : PySem.W.findIn K (.ref c_BadFact) "called" = some none)
    (su_BadFact : PySem.W.subIn K (.ref c_BadFact) (.ref c_LimeError) = some true)
    (ss_BadFact : PySem.W.subIn K (.ref c_BadFact) (.ref c_BadFact) = some true)
    (nf_BadFact_word : PySem.W.findIn K (.ref c_BadFact) "word" = some none)
    (rdL : PySem.W.readsIn K c_LimeError (.type "type") = true)
    (gaL : PySem.W.specialIn K (.ref c_LimeError) "__getattribute__" = some (some (.builtin "type.__getattribute__")))
    (inL : PySem.W.findCls K (.ref c_LimeError) (.type "type") "__init__" = some (.val (.ref f_LimeError_init)))
    (vVE : PySem.W.findCls K (.type "ValueError") (.type "type") "__init__" = some (.val (.builtin "ValueError.__init__")))
    (z_KeyError : PySem.W.nsIn K mainGlobals "KeyError" = some none)
    (z_ValueError : PySem.W.nsIn K mainGlobals "ValueError" = some none)
    (z_all : PySem.W.nsIn K mainGlobals "all" = some none)
    (z_bool : PySem.W.nsIn K mainGlobals "bool" = some none)
    (z_int : PySem.W.nsIn K mainGlobals "int" = some none)
    (z_isinstance : PySem.W.nsIn K mainGlobals "isinstance" = some none)
    (z_len : PySem.W.nsIn K mainGlobals "len" = some none)
    (z_list : PySem.W.nsIn K mainGlobals "list" = some none)
    (z_min : PySem.W.nsIn K mainGlobals "min" = some none)
    (z_range : PySem.W.nsIn K mainGlobals "range" = some none)
    (z_str : PySem.W.nsIn K mainGlobals "str" = some none)
    (z_tuple : PySem.W.nsIn K mainGlobals "tuple" = some none)
    (ag_PARTS : PySem.W.nsIn K mainGlobals "PARTS" = some (some (.ref v_PARTS)))
    (lg_PARTS : K.lookup v_PARTS = some ⟨.type "tuple", none, .seq gi_PARTS gn_PARTS, gs_PARTS⟩)
    (zg_PARTS : gi_PARTS.size ≤ sizeLine)
    (rg_PARTS : Vals [V.int 1, V.int 2, V.int 3, V.int 4] gi_PARTS.toList)
    (ag_MOST_COATS : PySem.W.nsIn K mainGlobals "MOST_COATS" = some (some (.int 5 tg_MOST_COATS)))
    (ag_LAST_YEAR : PySem.W.nsIn K mainGlobals "LAST_YEAR" = some (some (.int 999 tg_LAST_YEAR)))
    (ag_LAST_SHADE : PySem.W.nsIn K mainGlobals "LAST_SHADE" = some (some (.int 6 tg_LAST_SHADE)))
    (ag_LOOKS : PySem.W.nsIn K mainGlobals "LOOKS" = some (some (.ref v_LOOKS)))
    (lg_LOOKS : K.lookup v_LOOKS = some ⟨.type "dict", none, .dict de_LOOKS dn_LOOKS, #[]⟩)
    (kl_LOOKS : PySem.W.KeysLit w.params de_LOOKS.toList)
    (el_LOOKS : EntL K de_LOOKS.toList [("scrape", .adr f_scrape_of), ("cover", .adr f_cover_of), ("moved", .adr f_moved_of), ("year", .adr f_dated_of), ("sold", .adr f_sold_of), ("ahead", .adr f_ahead_of), ("same", .adr f_paired_of), ("apart", .adr f_paired_of)])
    (lo_LOOKS : (v_LOOKS == sysModules) = false)
    (ag_THINGS : PySem.W.nsIn K mainGlobals "THINGS" = some (some (.ref v_THINGS)))
    (lg_THINGS : K.lookup v_THINGS = some ⟨.type "dict", none, .dict de_THINGS dn_THINGS, #[]⟩)
    (kl_THINGS : PySem.W.KeysLit w.params de_THINGS.toList)
    (el_THINGS : EntL K de_THINGS.toList [("scrape", .int 4), ("cover", .int 4), ("moved", .int 5), ("year", .int 5), ("sold", .int 3), ("ahead", .int 5), ("same", .int 5), ("apart", .int 5)])
    (lo_THINGS : (v_THINGS == sysModules) = false) :
    ∃ (fd : FuncData) (cs : List (Addr × Addr)) (qn : Str), (∀ p ∈ cs, h.get? p.2 = some { cls := .none, data := .fields #[] }) ∧ (∀ p ∈ cs, K.lookup p.2 = none) ∧ (∀ p ∈ cs, PySem.W.CodeHd h p.1 p.2) ∧
      (∀ (s : Shared) (u : Value), BindsTo s fd ⟨[u], []⟩ [("_law_script", u)]) ∧ ∀ base : Heap, K.In base → base.Ns mainGlobals mg → (∀ p ∈ cs, LamX.TabB base mg p.1 p.2) → FnOk l.prog w K mg base (L2.CX l.prog w) 13 fa fd ["_law_script"] (upFT K (cs.map fun p => (p.2, qn)) spLaw) := by
  have e := hfa.symm.trans (PySem.W.mg_of X G a_law)
  cases e
  have T : Txt K w mg { a_need_part := f_need_part, d_need_part := PySem.W.fnOf "need_part" "need_part" (defArgs s_need_part) (defBody s_need_part) (defScope s_need_part) .none kV_need_part dc_need_part pm_need_part an_need_part cd_need_part ct_need_part, a_need_coat := f_need_coat, d_need_coat := PySem.W.fnOf "need_coat" "need_coat" (defArgs s_need_coat) (defBody s_need_coat) (defScope s_need_coat) .none kV_need_coat dc_need_coat pm_need_coat an_need_coat cd_need_coat ct_need_coat, a_need_year := f_need_year, d_need_year := PySem.W.fnOf "need_year" "need_year" (defArgs s_need_year) (defBody s_need_year) (defScope s_need_year) .none kV_need_year dc_need_year pm_need_year an_need_year cd_need_year ct_need_year, a_need_depth := f_need_depth, d_need_depth := PySem.W.fnOf "need_depth" "need_depth" (defArgs s_need_depth) (defBody s_need_depth) (defScope s_need_depth) (.ref dv_need_depth) kV_need_depth dc_need_depth pm_need_depth an_need_depth cd_need_depth ct_need_depth, a_need_scrape := f_need_scrape, d_need_scrape := PySem.W.fnOf "need_scrape" "need_scrape" (defArgs s_need_scrape) (defBody s_need_scrape) (defScope s_need_scrape) .none kV_need_scrape dc_need_scrape pm_need_scrape an_need_scrape cd_need_scrape ct_need_scrape, a_need_two := f_need_two, d_need_two := PySem.W.fnOf "need_two" "need_two" (defArgs s_need_two) (defBody s_need_two) (defScope s_need_two) .none kV_need_two dc_need_two pm_need_two an_need_two cd_need_two ct_need_two, a_need_cover := f_need_cover, d_need_cover := PySem.W.fnOf "need_cover" "need_cover" (defArgs s_need_cover) (defBody s_need_cover) (defScope s_need_cover) .none kV_need_cover dc_need_cover pm_need_cover an_need_cover cd_need_cover ct_need_cover, a_need_moved := f_need_moved, d_need_moved := PySem.W.fnOf "need_moved" "need_moved" (defArgs s_need_moved) (defBody s_need_moved) (defScope s_need_moved) .none kV_need_moved dc_need_moved pm_need_moved an_need_moved cd_need_moved ct_need_moved, a_need_dated := f_need_dated, d_need_dated := PySem.W.fnOf "need_dated" "need_dated" (defArgs s_need_dated) (defBody s_need_dated) (defScope s_need_dated) .none kV_need_dated dc_need_dated pm_need_dated an_need_dated cd_need_dated ct_need_dated, a_need_sold := f_need_sold, d_need_sold := PySem.W.fnOf "need_sold" "need_sold" (defArgs s_need_sold) (defBody s_need_sold) (defScope s_need_sold) .none kV_need_sold dc_need_sold pm_need_sold an_need_sold cd_need_sold ct_need_sold, a_need_coats := f_need_coats, d_need_coats := PySem.W.fnOf "need_coats" "need_coats" (defArgs s_need_coats) (defBody s_need_coats) (defScope s_need_coats) .none kV_need_coats dc_need_coats pm_need_coats an_need_coats cd_need_coats ct_need_coats, a_need_ahead := f_need_ahead, d_need_ahead := PySem.W.fnOf "need_ahead" "need_ahead" (defArgs s_need_ahead) (defBody s_need_ahead) (defScope s_need_ahead) .none kV_need_ahead dc_need_ahead pm_need_ahead an_need_ahead cd_need_ahead ct_need_ahead, a_need_paired := f_need_paired, d_need_paired := PySem.W.fnOf "need_paired" "need_paired" (defArgs s_need_paired) (defBody s_need_paired) (defScope s_need_paired) .none kV_need_paired dc_need_paired pm_need_paired an_need_paired cd_need_paired ct_need_paired, a_scrape_of := f_scrape_of, d_scrape_of := PySem.W.fnOf "scrape_of" "scrape_of" (defArgs s_scrape_of) (defBody s_scrape_of) (defScope s_scrape_of) .none kV_scrape_of dc_scrape_of pm_scrape_of an_scrape_of cd_scrape_of ct_scrape_of, a_cover_of := f_cover_of, d_cover_of := PySem.W.fnOf "cover_of" "cover_of" (defArgs s_cover_of) (defBody s_cover_of) (defScope s_cover_of) .none kV_cover_of dc_cover_of pm_cover_of an_cover_of cd_cover_of ct_cover_of, a_moved_of := f_moved_of, d_moved_of := PySem.W.fnOf "moved_of" "moved_of" (defArgs s_moved_of) (defBody s_moved_of) (defScope s_moved_of) .none kV_moved_of dc_moved_of pm_moved_of an_moved_of cd_moved_of ct_moved_of, a_dated_of := f_dated_of, d_dated_of := PySem.W.fnOf "dated_of" "dated_of" (defArgs s_dated_of) (defBody s_dated_of) (defScope s_dated_of) .none kV_dated_of dc_dated_of pm_dated_of an_dated_of cd_dated_of ct_dated_of, a_sold_of := f_sold_of, d_sold_of := PySem.W.fnOf "sold_of" "sold_of" (defArgs s_sold_of) (defBody s_sold_of) (defScope s_sold_of) .none kV_sold_of dc_sold_of pm_sold_of an_sold_of cd_sold_of ct_sold_of, a_ahead_of := f_ahead_of, d_ahead_of := PySem.W.fnOf "ahead_of" "ahead_of" (defArgs s_ahead_of) (defBody s_ahead_of) (defScope s_ahead_of) .none kV_ahead_of dc_ahead_of pm_ahead_of an_ahead_of cd_ahead_of ct_ahead_of, a_paired_of := f_paired_of, d_paired_of := PySem.W.fnOf "paired_of" "paired_of" (defArgs s_paired_of) (defBody s_paired_of) (defScope s_paired_of) .none kV_paired_of dc_paired_of pm_paired_of an_paired_of cd_paired_of ct_paired_of, a_need_fact := f_need_fact, d_need_fact := PySem.W.fnOf "need_fact" "need_fact" (defArgs s_need_fact) (defBody s_need_fact) (defScope s_need_fact) .none kV_need_fact dc_need_fact pm_need_fact an_need_fact cd_need_fact ct_need_fact, a__law_open := f__law_open, d__law_open := PySem.W.fnOf "_law_open" "_law_open" (defArgs s__law_open) (defBody s__law_open) (defScope s__law_open) .none kV__law_open dc__law_open pm__law_open an__law_open cd__law_open ct__law_open, a__law_pull := f__law_pull, d__law_pull := PySem.W.fnOf "_law_pull" "_law_pull" (defArgs s__law_pull) (defBody s__law_pull) (defScope s__law_pull) .none kV__law_pull dc__law_pull pm__law_pull an__law_pull cd__law_pull ct__law_pull, a__law_num := f__law_num, d__law_num := PySem.W.fnOf "_law_num" "_law_num" (defArgs s__law_num) (defBody s__law_num) (defScope s__law_num) .none kV__law_num dc__law_num pm__law_num an__law_num cd__law_num ct__law_num, a__law_like := f__law_like, d__law_like := PySem.W.fnOf "_law_like" "_law_like" (defArgs s__law_like) (defBody s__law_like) (defScope s__law_like) .none kV__law_like dc__law_like pm__law_like an__law_like cd__law_like ct__law_like, a__law_shades := f__law_shades, d__law_shades := PySem.W.fnOf "_law_shades" "_law_shades" (defArgs s__law_shades) (defBody s__law_shades) (defScope s__law_shades) .none kV__law_shades dc__law_shades pm__law_shades an__law_shades cd__law_shades ct__law_shades, a__law_fact := f__law_fact, d__law_fact := PySem.W.fnOf "_law_fact" "_law_fact" (defArgs s__law_fact) (defBody s__law_fact) (defScope s__law_fact) .none kV__law_fact dc__law_fact pm__law_fact an__law_fact cd__law_fact ct__law_fact, a__law_bad_shades := f__law_bad_shades, d__law_bad_shades := PySem.W.fnOf "_law_bad_shades" "_law_bad_shades" (defArgs s__law_bad_shades) (defBody s__law_bad_shades) (defScope s__law_bad_shades) .none kV__law_bad_shades dc__law_bad_shades pm__law_bad_shades an__law_bad_shades cd__law_bad_shades ct__law_bad_shades, a__law_fact_word := f__law_fact_word, d__law_fact_word := PySem.W.fnOf "_law_fact_word" "_law_fact_word" (defArgs s__law_fact_word) (defBody s__law_fact_word) (defScope s__law_fact_word) .none kV__law_fact_word dc__law_fact_word pm__law_fact_word an__law_fact_word cd__law_fact_word ct__law_fact_word, a__law_named := f__law_named, d__law_named := PySem.W.fnOf "_law_named" "_law_named" (defArgs s__law_named) (defBody s__law_named) (defScope s__law_named) .none kV__law_named dc__law_named pm__law_named an__law_named cd__law_named ct__law_named, a_law := fa, d_law := PySem.W.fnOf "law" "law" (defArgs s_law) (defBody s_law) (defScope s_law) .none kV_law dc_law pm_law an_law (.ref code) ct_law, a_LimeError_init := f_LimeError_init, d_LimeError_init := PySem.W.fnOf "__init__" "LimeError.__init__" (defArgs s_LimeError_init) (defBody s_LimeError_init) (defScope s_LimeError_init) .none kV_LimeError_init dc_LimeError_init pm_LimeError_init an_LimeError_init cd_LimeError_init ct_LimeError_init, a_BadPart_init := f_BadPart_init, d_BadPart_init := PySem.W.fnOf "__init__" "BadPart.__init__" (defArgs s_BadPart_init) (defBody s_BadPart_init) (defScope s_BadPart_init) .none kV_BadPart_init dc_BadPart_init pm_BadPart_init an_BadPart_init cd_BadPart_init ct_BadPart_init, a_BadCoat_init := f_BadCoat_init, d_BadCoat_init := PySem.W.fnOf "__init__" "BadCoat.__init__" (defArgs s_BadCoat_init) (defBody s_BadCoat_init) (defScope s_BadCoat_init) .none kV_BadCoat_init dc_BadCoat_init pm_BadCoat_init an_BadCoat_init cd_BadCoat_init ct_BadCoat_init, a_BadShade_init := f_BadShade_init, d_BadShade_init := PySem.W.fnOf "__init__" "BadShade.__init__" (defArgs s_BadShade_init) (defBody s_BadShade_init) (defScope s_BadShade_init) .none kV_BadShade_init dc_BadShade_init pm_BadShade_init an_BadShade_init cd_BadShade_init ct_BadShade_init, a_BadYear_init := f_BadYear_init, d_BadYear_init := PySem.W.fnOf "__init__" "BadYear.__init__" (defArgs s_BadYear_init) (defBody s_BadYear_init) (defScope s_BadYear_init) .none kV_BadYear_init dc_BadYear_init pm_BadYear_init an_BadYear_init cd_BadYear_init ct_BadYear_init, a_BadDepth_init := f_BadDepth_init, d_BadDepth_init := PySem.W.fnOf "__init__" "BadDepth.__init__" (defArgs s_BadDepth_init) (defBody s_BadDepth_init) (defScope s_BadDepth_init) .none kV_BadDepth_init dc_BadDepth_init pm_BadDepth_init an_BadDepth_init cd_BadDepth_init ct_BadDepth_init, a_Backward_init := f_Backward_init, d_Backward_init := PySem.W.fnOf "__init__" "Backward.__init__" (defArgs s_Backward_init) (defBody s_Backward_init) (defScope s_Backward_init) .none kV_Backward_init dc_Backward_init pm_Backward_init an_Backward_init cd_Backward_init ct_Backward_init, a_SameOne_init := f_SameOne_init, d_SameOne_init := PySem.W.fnOf "__init__" "SameOne.__init__" (defArgs s_SameOne_init) (defBody s_SameOne_init) (defScope s_SameOne_init) .none kV_SameOne_init dc_SameOne_init pm_SameOne_init an_SameOne_init cd_SameOne_init ct_SameOne_init, a_BadFact_init := f_BadFact_init, d_BadFact_init := PySem.W.fnOf "__init__" "BadFact.__init__" (defArgs s_BadFact_init) (defBody s_BadFact_init) (defScope s_BadFact_init) .none kV_BadFact_init dc_BadFact_init pm_BadFact_init an_BadFact_init cd_BadFact_init ct_BadFact_init, c_LimeError := c_LimeError, c_BadPart := c_BadPart, c_BadCoat := c_BadCoat, c_BadShade := c_BadShade, c_BadYear := c_BadYear, c_BadDepth := c_BadDepth, c_Backward := c_Backward, c_SameOne := c_SameOne, c_BadFact := c_BadFact, v_LOOKS := v_LOOKS, v_THINGS := v_THINGS, code := code, tab := 0 } := { F_need_part := fun_mk (st := s_need_part) l_need_part e_need_part k_need_part, b_need_part := Binds.all fun us hl => match us, hl with | [_], _ => rfl, m_need_part := PySem.W.mg_of X G a_need_part, F_need_coat := fun_mk (st := s_need_coat) l_need_coat e_need_coat k_need_coat, b_need_coat := Binds.all fun us hl => match us, hl with | [_], _ => rfl, m_need_coat := PySem.W.mg_of X G a_need_coat, F_need_year := fun_mk (st := s_need_year) l_need_year e_need_year k_need_year, b_need_year := Binds.all fun us hl => match us, hl with | [_], _ => rfl, m_need_year := PySem.W.mg_of X G a_need_year, F_need_depth := fund_mk (st := s_need_depth) l_need_depth e_need_depth k_need_depth ld_need_depth (by simp) rd_need_depth, m_need_depth := PySem.W.mg_of X G a_need_depth, F_need_scrape := fun_mk (st := s_need_scrape) l_need_scrape e_need_scrape k_need_scrape, b_need_scrape := Binds.all fun us hl => match us, hl with | [_, _, _], _ => rfl, m_need_scrape := PySem.W.mg_of X G a_need_scrape, F_need_two := fun_mk (st := s_need_two) l_need_two e_need_two k_need_two, b_need_two := Binds.all fun us hl => match us, hl with | [_, _], _ => rfl, m_need_two := PySem.W.mg_of X G a_need_two, F_need_cover := fun_mk (st := s_need_cover) l_need_cover e_need_cover k_need_cover, b_need_cover := Binds.all fun us hl => match us, hl with | [_, _, _], _ => rfl, m_need_cover := PySem.W.mg_of X G a_need_cover, F_need_moved := fun_mk (st := s_need_moved) l_need_moved e_need_moved k_need_moved, b_need_moved := Binds.all fun us hl => match us, hl with | [_, _, _, _], _ => rfl, m_need_moved := PySem.W.mg_of X G a_need_moved, F_need_dated := fun_mk (st := s_need_dated) l_need_dated e_need_dated k_need_dated, b_need_dated := Binds.all fun us hl => match us, hl with | [_, _, _, _], _ => rfl, m_need_dated := PySem.W.mg_of X G a_need_dated, F_need_sold := fun_mk (st := s_need_sold) l_need_sold e_need_sold k_need_sold, b_need_sold := Binds.all fun us hl => match us, hl with | [_, _], _ => rfl, m_need_sold := PySem.W.mg_of X G a_need_sold, F_need_coats := fun_mk (st := s_need_coats) l_need_coats e_need_coats k_need_coats, b_need_coats := Binds.all fun us hl => match us, hl with | [_, _, _, _], _ => rfl, m_need_coats := PySem.W.mg_of X G a_need_coats, F_need_ahead := fun_mk (st := s_need_ahead) l_need_ahead e_need_ahead k_need_ahead, b_need_ahead := Binds.all fun us hl => match us, hl with | [_, _, _, _], _ => rfl, m_need_ahead := PySem.W.mg_of X G a_need_ahead, F_need_paired := fun_mk (st := s_need_paired) l_need_paired e_need_paired k_need_paired, b_need_paired := Binds.all fun us hl => match us, hl with | [_, _, _, _], _ => rfl, m_need_paired := PySem.W.mg_of X G a_need_paired, F_scrape_of := fun_mk (st := s_scrape_of) l_scrape_of e_scrape_of k_scrape_of, b_scrape_of := Binds.all fun us hl => match us, hl with | [_], _ => rfl, m_scrape_of := PySem.W.mg_of X G a_scrape_of, F_cover_of := fun_mk (st := s_cover_of) l_cover_of e_cover_of k_cover_of, b_cover_of := Binds.all fun us hl => match us, hl with | [_], _ => rfl, m_cover_of := PySem.W.mg_of X G a_cover_of, F_moved_of := fun_mk (st := s_moved_of) l_moved_of e_moved_of k_moved_of, b_moved_of := Binds.all fun us hl => match us, hl with | [_], _ => rfl, m_moved_of := PySem.W.mg_of X G a_moved_of, F_dated_of := fun_mk (st := s_dated_of) l_dated_of e_dated_of k_dated_of, b_dated_of := Binds.all fun us hl => match us, hl with | [_], _ => rfl, m_dated_of := PySem.W.mg_of X G a_dated_of, F_sold_of := fun_mk (st := s_sold_of) l_sold_of e_sold_of k_sold_of, b_sold_of := Binds.all fun us hl => match us, hl with | [_], _ => rfl, m_sold_of := PySem.W.mg_of X G a_sold_of, F_ahead_of := fun_mk (st := s_ahead_of) l_ahead_of e_ahead_of k_ahead_of, b_ahead_of := Binds.all fun us hl => match us, hl with | [_], _ => rfl, m_ahead_of := PySem.W.mg_of X G a_ahead_of, F_paired_of := fun_mk (st := s_paired_of) l_paired_of e_paired_of k_paired_of, b_paired_of := Binds.all fun us hl => match us, hl with | [_], _ => rfl, m_paired_of := PySem.W.mg_of X G a_paired_of, F_need_fact := fun_mk (st := s_need_fact) l_need_fact e_need_fact k_need_fact, b_need_fact := Binds.all fun us hl => match us, hl with | [_], _ => rfl, m_need_fact := PySem.W.mg_of X G a_need_fact, F__law_open := fun_mk (st := s__law_open) l__law_open e__law_open k__law_open, b__law_open := Binds.all fun us hl => match us, hl with | [_], _ => rfl, m__law_open := PySem.W.mg_of X G a__law_open, F__law_pull := fun_mk (st := s__law_pull) l__law_pull e__law_pull k__law_pull, b__law_pull := Binds.all fun us hl => match us, hl with | [_, _], _ => rfl, m__law_pull := PySem.W.mg_of X G a__law_pull, F__law_num := fun_mk (st := s__law_num) l__law_num e__law_num k__law_num, b__law_num := Binds.all fun us hl => match us, hl with | [_], _ => rfl, m__law_num := PySem.W.mg_of X G a__law_num, F__law_like := fun_mk (st := s__law_like) l__law_like e__law_like k__law_like, b__law_like := Binds.all fun us hl => match us, hl with | [_, _], _ => rfl, m__law_like := PySem.W.mg_of X G a__law_like, F__law_shades := fun_mk (st := s__law_shades) l__law_shades e__law_shades k__law_shades, b__law_shades := Binds.all fun us hl => match us, hl with | [_, _], _ => rfl, m__law_shades := PySem.W.mg_of X G a__law_shades, F__law_fact := fun_mk (st := s__law_fact) l__law_fact e__law_fact k__law_fact, b__law_fact := Binds.all fun us hl => match us, hl with | [_, _, _], _ => rfl, m__law_fact := PySem.W.mg_of X G a__law_fact, F__law_bad_shades := fun_mk (st := s__law_bad_shades) l__law_bad_shades e__law_bad_shades k__law_bad_shades, b__law_bad_shades := Binds.all fun us hl => match us, hl with | [_, _], _ => rfl, m__law_bad_shades := PySem.W.mg_of X G a__law_bad_shades, F__law_fact_word := fun_mk (st := s__law_fact_word) l__law_fact_word e__law_fact_word k__law_fact_word, b__law_fact_word := Binds.all fun us hl => match us, hl with | [_], _ => rfl, m__law_fact_word := PySem.W.mg_of X G a__law_fact_word, F__law_named := fun_mk (st := s__law_named) l__law_named e__law_named k__law_named, b__law_named := Binds.all fun us hl => match us, hl with | [_], _ => rfl, m__law_named := PySem.W.mg_of X G a__law_named, F_law := ⟨_, _, _, _, _, _, _, _, rfl, l_law, e_law⟩, b_law := Binds.all fun us hl => match us, hl with | [_], _ => rfl, m_law := PySem.W.mg_of X G a_law, F_LimeError_init := fun_mk (st := s_LimeError_init) l_LimeError_init e_LimeError_init k_LimeError_init, b_LimeError_init := Binds.all fun us hl => match us, hl with | [_, _], _ => rfl, i_LimeError_init := i_LimeError_init, t_LimeError_init := t_LimeError_init, F_BadPart_init := fun_mk (st := s_BadPart_init) l_BadPart_init e_BadPart_init k_BadPart_init, b_BadPart_init := Binds.all fun us hl => match us, hl with | [_], _ => rfl, i_BadPart_init := i_BadPart_init, t_BadPart_init := t_BadPart_init, F_BadCoat_init := fun_mk (st := s_BadCoat_init) l_BadCoat_init e_BadCoat_init k_BadCoat_init, b_BadCoat_init := Binds.all fun us hl => match us, hl with | [_], _ => rfl, i_BadCoat_init := i_BadCoat_init, t_BadCoat_init := t_BadCoat_init, F_BadShade_init := fun_mk (st := s_BadShade_init) l_BadShade_init e_BadShade_init k_BadShade_init, b_BadShade_init := Binds.all fun us hl => match us, hl with | [_], _ => rfl, i_BadShade_init := i_BadShade_init, t_BadShade_init := t_BadShade_init, F_BadYear_init := fun_mk (st := s_BadYear_init) l_BadYear_init e_BadYear_init k_BadYear_init, b_BadYear_init := Binds.all fun us hl => match us, hl with | [_], _ => rfl, i_BadYear_init := i_BadYear_init, t_BadYear_init := t_BadYear_init, F_BadDepth_init := fun_mk (st := s_BadDepth_init) l_BadDepth_init e_BadDepth_init k_BadDepth_init, b_BadDepth_init := Binds.all fun us hl => match us, hl with | [_], _ => rfl, i_BadDepth_init := i_BadDepth_init, t_BadDepth_init := t_BadDepth_init, F_Backward_init := fun_mk (st := s_Backward_init) l_Backward_init e_Backward_init k_Backward_init, b_Backward_init := Binds.all fun us hl => match us, hl with | [_], _ => rfl, i_Backward_init := i_Backward_init, t_Backward_init := t_Backward_init, F_SameOne_init := fun_mk (st := s_SameOne_init) l_SameOne_init e_SameOne_init k_SameOne_init, b_SameOne_init := Binds.all fun us hl => match us, hl with | [_], _ => rfl, i_SameOne_init := i_SameOne_init, t_SameOne_init := t_SameOne_init, F_BadFact_init := fun_mk (st := s_BadFact_init) l_BadFact_init e_BadFact_init k_BadFact_init, b_BadFact_init := Binds.all fun us hl => match us, hl with | [_, _], _ => rfl, i_BadFact_init := i_BadFact_init, t_BadFact_init := t_BadFact_init, k_LimeError := PySem.W.mg_of X G ac_LimeError, k_BadPart := PySem.W.mg_of X G ac_BadPart, k_BadCoat := PySem.W.mg_of X G ac_BadCoat, k_BadShade := PySem.W.mg_of X G ac_BadShade, k_BadYear := PySem.W.mg_of X G ac_BadYear, k_BadDepth := PySem.W.mg_of X G ac_BadDepth, k_Backward := PySem.W.mg_of X G ac_Backward, k_SameOne := PySem.W.mg_of X G ac_SameOne, k_BadFact := PySem.W.mg_of X G ac_BadFact, xf_BadPart := ⟨ga_BadPart, gg_BadPart, eb_BadPart, hd_BadPart⟩, nc_BadPart := nc_BadPart, ex_BadPart := exm_by lc_LimeError ty_LimeError eb_LimeError su_BadPart, es_BadPart := exm_by lc_BadPart ty_BadPart eb_BadPart ss_BadPart, xf_BadCoat := ⟨ga_BadCoat, gg_BadCoat, eb_BadCoat, hd_BadCoat⟩, nc_BadCoat := nc_BadCoat, ex_BadCoat := exm_by lc_LimeError ty_LimeError eb_LimeError su_BadCoat, es_BadCoat := exm_by lc_BadCoat ty_BadCoat eb_BadCoat ss_BadCoat, xf_BadShade := ⟨ga_BadShade, gg_BadShade, eb_BadShade, hd_BadShade⟩, nc_BadShade := nc_BadShade, ex_BadShade := exm_by lc_LimeError ty_LimeError eb_LimeError su_BadShade, es_BadShade := exm_by lc_BadShade ty_BadShade eb_BadShade ss_BadShade, xf_BadYear := ⟨ga_BadYear, gg_BadYear, eb_BadYear, hd_BadYear⟩, nc_BadYear := nc_BadYear, ex_BadYear := exm_by lc_LimeError ty_LimeError eb_LimeError su_BadYear, es_BadYear := exm_by lc_BadYear ty_BadYear eb_BadYear ss_BadYear, xf_BadDepth := ⟨ga_BadDepth, gg_BadDepth, eb_BadDepth, hd_BadDepth⟩, nc_BadDepth := nc_BadDepth, ex_BadDepth := exm_by lc_LimeError ty_LimeError eb_LimeError su_BadDepth, es_BadDepth := exm_by lc_BadDepth ty_BadDepth eb_BadDepth ss_BadDepth, xf_Backward := ⟨ga_Backward, gg_Backward, eb_Backward, hd_Backward⟩, nc_Backward := nc_Backward, ex_Backward := exm_by lc_LimeError ty_LimeError eb_LimeError su_Backward, es_Backward := exm_by lc_Backward ty_Backward eb_Backward ss_Backward, xf_SameOne := ⟨ga_SameOne, gg_SameOne, eb_SameOne, hd_SameOne⟩, nc_SameOne := nc_SameOne, ex_SameOne := exm_by lc_LimeError ty_LimeError eb_LimeError su_SameOne, es_SameOne := exm_by lc_SameOne ty_SameOne eb_SameOne ss_SameOne, xf_BadFact := ⟨ga_BadFact, gg_BadFact, eb_BadFact, hd_BadFact⟩, nc_BadFact := nc_BadFact, ex_BadFact := exm_by lc_LimeError ty_LimeError eb_LimeError su_BadFact, es_BadFact := exm_by lc_BadFact ty_BadFact eb_BadFact ss_BadFact, nf_BadFact_word := nf_BadFact_word, n_KeyError := PySem.W.mg_none_of X G z_KeyError, n_ValueError := PySem.W.mg_none_of X G z_ValueError, n_all := PySem.W.mg_none_of X G z_all, n_bool := PySem.W.mg_none_of X G z_bool, n_int := PySem.W.mg_none_of X G z_int, n_isinstance := PySem.W.mg_none_of X G z_isinstance, n_len := PySem.W.mg_none_of X G z_len, n_list := PySem.W.mg_none_of X G z_list, n_min := PySem.W.mg_none_of X G z_min, n_range := PySem.W.mg_none_of X G z_range, n_str := PySem.W.mg_none_of X G z_str, n_tuple := PySem.W.mg_none_of X G z_tuple, gm_LOOKS := PySem.W.mg_of X G ag_LOOKS, kd_LOOKS := ⟨⟨de_LOOKS, dn_LOOKS, lg_LOOKS, kl_LOOKS, el_LOOKS⟩, lo_LOOKS⟩, gm_THINGS := PySem.W.mg_of X G ag_THINGS, kd_THINGS := ⟨⟨de_THINGS, dn_THINGS, lg_THINGS, kl_THINGS, el_THINGS⟩, lo_THINGS⟩, kb_need_dated_2_first_last := kb_plain fun us ws h1 h2 => match us, ws, h1, h2 with | [_, _], [_, _], _, _ => rfl, kb_need_depth_1_least := kb_dflt (fund_mk (st := s_need_depth) l_need_depth e_need_depth k_need_depth ld_need_depth (by simp) rd_need_depth) (by simp) fun _ _ _ _ _ _ _ us its ws h1 h2 h3 => match us, its, ws, h1, h2, h3 with | [_], [_], [_], _, _, _ => ⟨_, rfl, rfl⟩, kb_need_sold_0_shade_year := kb_plain fun us ws h1 h2 => match us, ws, h1, h2 with | [], [_, _], _, _ => rfl, g_PARTS := GlD.tup (PySem.W.mg_of X G ag_PARTS) lg_PARTS zg_PARTS rg_PARTS (fun _ _ => ⟨_, _, rfl, rfl, ⟨_, _, rfl, rfl, ⟨_, _, rfl, rfl, ⟨_, _, rfl, rfl, rfl⟩⟩⟩⟩), g_MOST_COATS := GlD.int (PySem.W.mg_of X G ag_MOST_COATS), g_LAST_YEAR := GlD.int (PySem.W.mg_of X G ag_LAST_YEAR), g_LAST_SHADE := GlD.int (PySem.W.mg_of X G ag_LAST_SHADE) }
  refine ⟨PySem.W.fnOf "law" "law" (defArgs s_law) (defBody s_law) (defScope s_law) .none kV_law dc_law pm_law an_law (.ref code) ct_law, [], "law.<locals>." ++ "<lambda>", (fun p hp => nomatch hp), (fun p hp => nomatch hp), (fun p hp => nomatch hp), fun s v => .of_eq rfl, fun base hb hn hT => ?_⟩
  · have FL := ok_lime (P := l.prog) (w := w) (base := base) T.F_LimeError_init sc_LimeError_init rfl rfl rfl rfl T.n_ValueError ⟨_, fun _ => rfl⟩ vVE
    have GL : XcOk K mg c_LimeError f_LimeError_init _ (.type "type") := ⟨T.k_LimeError, ⟨rdL, gaL⟩, inL, k_LimeError_init, T.b_LimeError_init⟩
    have FLH := hot_lime (P := l.prog) (w := w) (base := base) T.F_LimeError_init sc_LimeError_init rfl rfl rfl rfl T.n_ValueError ⟨_, fun _ => rfl⟩ vVE
    have Z_BadPart : XcD l.prog w K mg base "BadPart" c_BadPart f_BadPart_init _ ["self"] 0 (fl0 "badpart") (fd0 "badpart") [] [] :=
      ⟨fl0_ok, ⟨⟨_, _, _, _, _, _, _, _, _, _, _, _, _, _, _, lc_BadPart, rv_BadPart⟩, sa_BadPart, eb_BadPart, ty_BadPart, kc_BadPart⟩, T.xf_BadPart, i_BadPart_init, t_BadPart_init, ok_exc0 T.F_BadPart_init sc_BadPart_init rfl ⟨_, fun _ => rfl⟩ rfl rfl GL FL ⟨⟨_, _, _, _, _, _, _, _, _, _, _, _, _, _, _, lc_BadPart, rv_BadPart⟩, sa_BadPart, eb_BadPart, ty_BadPart, kc_BadPart⟩ nc_BadPart , ⟨[], .nil, T.b_BadPart_init⟩, (fun _ _ => rfl), T.k_BadPart, nc_BadPart⟩
    have Z_BadCoat : XcD l.prog w K mg base "BadCoat" c_BadCoat f_BadCoat_init _ ["self"] 0 (fl0 "badcoat") (fd0 "badcoat") [] [] :=
      ⟨fl0_ok, ⟨⟨_, _, _, _, _, _, _, _, _, _, _, _, _, _, _, lc_BadCoat, rv_BadCoat⟩, sa_BadCoat, eb_BadCoat, ty_BadCoat, kc_BadCoat⟩, T.xf_BadCoat, i_BadCoat_init, t_BadCoat_init, ok_exc0 T.F_BadCoat_init sc_BadCoat_init rfl ⟨_, fun _ => rfl⟩ rfl rfl GL FL ⟨⟨_, _, _, _, _, _, _, _, _, _, _, _, _, _, _, lc_BadCoat, rv_BadCoat⟩, sa_BadCoat, eb_BadCoat, ty_BadCoat, kc_BadCoat⟩ nc_BadCoat , ⟨[], .nil, T.b_BadCoat_init⟩, (fun _ _ => rfl), T.k_BadCoat, nc_BadCoat⟩
    have Z_BadShade : XcD l.prog w K mg base "BadShade" c_BadShade f_BadShade_init _ ["self"] 0 (fl0 "badshade") (fd0 "badshade") [] [] :=
      ⟨fl0_ok, ⟨⟨_, _, _, _, _, _, _, _, _, _, _, _, _, _, _, lc_BadShade, rv_BadShade⟩, sa_BadShade, eb_BadShade, ty_BadShade, kc_BadShade⟩, T.xf_BadShade, i_BadShade_init, t_BadShade_init, ok_exc0 T.F_BadShade_init sc_BadShade_init rfl ⟨_, fun _ => rfl⟩ rfl rfl GL FL ⟨⟨_, _, _, _, _, _, _, _, _, _, _, _, _, _, _, lc_BadShade, rv_BadShade⟩, sa_BadShade, eb_BadShade, ty_BadShade, kc_BadShade⟩ nc_BadShade , ⟨[], .nil, T.b_BadShade_init⟩, (fun _ _ => rfl), T.k_BadShade, nc_BadShade⟩
    have Z_BadYear : XcD l.prog w K mg base "BadYear" c_BadYear f_BadYear_init _ ["self"] 0 (fl0 "badyear") (fd0 "badyear") [] [] :=
      ⟨fl0_ok, ⟨⟨_, _, _, _, _, _, _, _, _, _, _, _, _, _, _, lc_BadYear, rv_BadYear⟩, sa_BadYear, eb_BadYear, ty_BadYear, kc_BadYear⟩, T.xf_BadYear, i_BadYear_init, t_BadYear_init, ok_exc0 T.F_BadYear_init sc_BadYear_init rfl ⟨_, fun _ => rfl⟩ rfl rfl GL FL ⟨⟨_, _, _, _, _, _, _, _, _, _, _, _, _, _, _, lc_BadYear, rv_BadYear⟩, sa_BadYear, eb_BadYear, ty_BadYear, kc_BadYear⟩ nc_BadYear , ⟨[], .nil, T.b_BadYear_init⟩, (fun _ _ => rfl), T.k_BadYear, nc_BadYear⟩
    have Z_BadDepth : XcD l.prog w K mg base "BadDepth" c_BadDepth f_BadDepth_init _ ["self"] 0 (fl0 "baddepth") (fd0 "baddepth") [] [] :=
      ⟨fl0_ok, ⟨⟨_, _, _, _, _, _, _, _, _, _, _, _, _, _, _, lc_BadDepth, rv_BadDepth⟩, sa_BadDepth, eb_BadDepth, ty_BadDepth, kc_BadDepth⟩, T.xf_BadDepth, i_BadDepth_init, t_BadDepth_init, ok_exc0 T.F_BadDepth_init sc_BadDepth_init rfl ⟨_, fun _ => rfl⟩ rfl rfl GL FL ⟨⟨_, _, _, _, _, _, _, _, _, _, _, _, _, _, _, lc_BadDepth, rv_BadDepth⟩, sa_BadDepth, eb_BadDepth, ty_BadDepth, kc_BadDepth⟩ nc_BadDepth , ⟨[], .nil, T.b_BadDepth_init⟩, (fun _ _ => rfl), T.k_BadDepth, nc_BadDepth⟩
    have Z_Backward : XcD l.prog w K mg base "Backward" c_Backward f_Backward_init _ ["self"] 0 (fl0 "backward") (fd0 "backward") [] [] :=
      ⟨fl0_ok, ⟨⟨_, _, _, _, _, _, _, _, _, _, _, _, _, _, _, lc_Backward, rv_Backward⟩, sa_Backward, eb_Backward, ty_Backward, kc_Backward⟩, T.xf_Backward, i_Backward_init, t_Backward_init, ok_exc0 T.F_Backward_init sc_Backward_init rfl ⟨_, fun _ => rfl⟩ rfl rfl GL FL ⟨⟨_, _, _, _, _, _, _, _, _, _, _, _, _, _, _, lc_Backward, rv_Backward⟩, sa_Backward, eb_Backward, ty_Backward, kc_Backward⟩ nc_Backward , ⟨[], .nil, T.b_Backward_init⟩, (fun _ _ => rfl), T.k_Backward, nc_Backward⟩
    have Z_SameOne : XcD l.prog w K mg base "SameOne" c_SameOne f_SameOne_init _ ["self"] 0 (fl0 "sameone") (fd0 "sameone") [] [] :=
      ⟨fl0_ok, ⟨⟨_, _, _, _, _, _, _, _, _, _, _, _, _, _, _, lc_SameOne, rv_SameOne⟩, sa_SameOne, eb_SameOne, ty_SameOne, kc_SameOne⟩, T.xf_SameOne, i_SameOne_init, t_SameOne_init, ok_exc0 T.F_SameOne_init sc_SameOne_init rfl ⟨_, fun _ => rfl⟩ rfl rfl GL FL ⟨⟨_, _, _, _, _, _, _, _, _, _, _, _, _, _, _, lc_SameOne, rv_SameOne⟩, sa_SameOne, eb_SameOne, ty_SameOne, kc_SameOne⟩ nc_SameOne , ⟨[], .nil, T.b_SameOne_init⟩, (fun _ _ => rfl), T.k_SameOne, nc_SameOne⟩
    have Z_BadFact : XcD l.prog w K mg base "BadFact" c_BadFact f_BadFact_init _ ["self", "word"] 1 (fl1 "badfact" "word") (fd1 "badfact" "word") [] [] :=
      ⟨fl1_ok, ⟨⟨_, _, _, _, _, _, _, _, _, _, _, _, _, _, _, lc_BadFact, rv_BadFact⟩, sa_BadFact, eb_BadFact, ty_BadFact, kc_BadFact⟩, T.xf_BadFact, i_BadFact_init, t_BadFact_init, ok_exc1 T.F_BadFact_init sc_BadFact_init rfl ⟨_, fun _ => rfl⟩ rfl rfl rfl GL FL ⟨⟨_, _, _, _, _, _, _, _, _, _, _, _, _, _, _, lc_BadFact, rv_BadFact⟩, sa_BadFact, eb_BadFact, ty_BadFact, kc_BadFact⟩ nc_BadFact nf_BadFact_word (by decide) (by decide), ⟨[], .nil, T.b_BadFact_init⟩, (fun _ _ => rfl), T.k_BadFact, nc_BadFact⟩
    have H_BadFact : L2H.FnH l.prog w K mg base (L2.CX l.prog w) 2 f_BadFact_init _ ["self", "word"] (spX c_BadFact 1 (fl1 "badfact" "word")) := hot_exc1 T.F_BadFact_init sc_BadFact_init rfl ⟨_, fun _ => rfl⟩ rfl rfl rfl GL FLH ⟨⟨_, _, _, _, _, _, _, _, _, _, _, _, _, _, _, lc_BadFact, rv_BadFact⟩, sa_BadFact, eb_BadFact, ty_BadFact, kc_BadFact⟩ nc_BadFact nf_BadFact_word (by decide) (by decide)
    have G_need_part := ok_need_part (P := l.prog) (w := w) (base := base) T Z_BadPart
    have G_need_coat := ok_need_coat (P := l.prog) (w := w) (base := base) T Z_BadCoat
    have G_need_year := ok_need_year (P := l.prog) (w := w) (base := base) T Z_BadYear
    have G_need_depth := ok_need_depth (P := l.prog) (w := w) (base := base) T Z_BadDepth
    have G_need_scrape := ok_need_scrape (P := l.prog) (w := w) (base := base) T G_need_part G_need_coat Z_BadShade Z_BadCoat
    have G_need_two := ok_need_two (P := l.prog) (w := w) (base := base) T G_need_part Z_SameOne
    have G_need_cover := ok_need_cover (P := l.prog) (w := w) (base := base) T G_need_two G_need_depth
    have G_need_moved := ok_need_moved (P := l.prog) (w := w) (base := base) T G_need_part G_need_depth G_need_two
    have G_need_dated := ok_need_dated (P := l.prog) (w := w) (base := base) T G_need_part G_need_coat G_need_year Z_Backward
    have G_need_sold := ok_need_sold (P := l.prog) (w := w) (base := base) T Z_BadShade G_need_year
    have G_need_coats := ok_need_coats (P := l.prog) (w := w) (base := base) T G_need_part G_need_coat
    have G_need_ahead := ok_need_ahead (P := l.prog) (w := w) (base := base) T G_need_coats Z_SameOne
    have G_need_paired := ok_need_paired (P := l.prog) (w := w) (base := base) T G_need_coats Z_SameOne
    have G_scrape_of := ok_scrape_of (P := l.prog) (w := w) (base := base) T G_need_scrape
    have G_cover_of := ok_cover_of (P := l.prog) (w := w) (base := base) T G_need_cover
    have G_moved_of := ok_moved_of (P := l.prog) (w := w) (base := base) T G_need_moved
    have G_dated_of := ok_dated_of (P := l.prog) (w := w) (base := base) T G_need_dated
    have G_sold_of := ok_sold_of (P := l.prog) (w := w) (base := base) T G_need_sold
    have G_ahead_of := ok_ahead_of (P := l.prog) (w := w) (base := base) T G_need_ahead
    have G_paired_of := ok_paired_of (P := l.prog) (w := w) (base := base) T G_need_paired
    have G_need_fact := ok_need_fact (P := l.prog) (w := w) (base := base) T Z_BadFact H_BadFact G_scrape_of G_cover_of G_moved_of G_dated_of G_sold_of G_ahead_of G_paired_of
    have G__law_open := ok__law_open (P := l.prog) (w := w) (base := base) T 
    have G__law_pull := ok__law_pull (P := l.prog) (w := w) (base := base) T 
    have G__law_num := ok__law_num (P := l.prog) (w := w) (base := base) T 
    have G__law_like := ok__law_like (P := l.prog) (w := w) (base := base) T G__law_num
    have G__law_shades := ok__law_shades (P := l.prog) (w := w) (base := base) T G__law_pull
    have G__law_fact := ok__law_fact (P := l.prog) (w := w) (base := base) T G__law_pull G__law_shades
    have G__law_bad_shades := ok__law_bad_shades (P := l.prog) (w := w) (base := base) T 
    have G__law_fact_word := ok__law_fact_word (P := l.prog) (w := w) (base := base) T G__law_bad_shades
    have G__law_named := ok__law_named (P := l.prog) (w := w) (base := base) T G_need_fact
    exact ok_law (P := l.prog) (w := w) (base := base) T G__law_open G__law_fact G__law_pull G__law_fact_word G__law_like G__law_named 
theorem roomLaw : Room 13 callerA := ⟨rfl, by decide, by decide⟩
end LW
open PySem PySem.W
open PyProof.Rows
set_option maxRecDepth 100001 in
set_option maxHeartbeats 0 in
theorem PySem.Challenge.cw_limecoat_k07_no_findings_holds : PySem.Challenge.rw_limecoat_k07_no_findings.Holds := by
  w_on
  o_law
  k_head
  (case hw => w_witness2)
  k_fill
  refine LC.walk_end (l := PySem.Challenge.rw_limecoat_k07_no_findings) (k := 13) (x := "_law_script") rfl rfl LW.roomLaw (fun w h Y => PySem.W.kIn_of Y) ?F
  case F =>
    intro w mg fa h Y KX G hmg
    refine' LW.all_mk KX G hmg ?ac_LimeError ?ac_BadPart ?ac_BadCoat ?ac_BadShade ?ac_BadYear ?ac_BadDepth ?ac_Backward ?ac_SameOne ?ac_BadFact ?a_need_part ?l_need_part ?e_need_part ?k_need_part ?a_need_coat ?l_need_coat ?e_need_coat ?k_need_coat ?a_need_year ?l_need_year ?e_need_year ?k_need_year ?a_need_depth ?l_need_depth ?e_need_depth ?k_need_depth ?ld_need_depth ?rd_need_depth ?a_need_scrape ?l_need_scrape ?e_need_scrape ?k_need_scrape ?a_need_two ?l_need_two ?e_need_two ?k_need_two ?a_need_cover ?l_need_cover ?e_need_cover ?k_need_cover ?a_need_moved ?l_need_moved ?e_need_moved ?k_need_moved ?a_need_dated ?l_need_dated ?e_need_dated ?k_need_dated ?a_need_sold ?l_need_sold ?e_need_sold ?k_need_sold ?a_need_coats ?l_need_coats ?e_need_coats ?k_need_coats ?a_need_ahead ?l_need_ahead ?e_need_ahead ?k_need_ahead ?a_need_paired ?l_need_paired ?e_need_paired ?k_need_paired ?a_scrape_of ?l_scrape_of ?e_scrape_of ?k_scrape_of ?a_cover_of ?l_cover_of ?e_cover_of ?k_cover_of ?a_moved_of ?l_moved_of ?e_moved_of ?k_moved_of ?a_dated_of ?l_dated_of ?e_dated_of ?k_dated_of ?a_sold_of ?l_sold_of ?e_sold_of ?k_sold_of ?a_ahead_of ?l_ahead_of ?e_ahead_of ?k_ahead_of ?a_paired_of ?l_paired_of ?e_paired_of ?k_paired_of ?a_need_fact ?l_need_fact ?e_need_fact ?k_need_fact ?a__law_open ?l__law_open ?e__law_open ?k__law_open ?a__law_pull ?l__law_pull ?e__law_pull ?k__law_pull ?a__law_num ?l__law_num ?e__law_num ?k__law_num ?a__law_like ?l__law_like ?e__law_like ?k__law_like ?a__law_shades ?l__law_shades ?e__law_shades ?k__law_shades ?a__law_fact ?l__law_fact ?e__law_fact ?k__law_fact ?a__law_bad_shades ?l__law_bad_shades ?e__law_bad_shades ?k__law_bad_shades ?a__law_fact_word ?l__law_fact_word ?e__law_fact_word ?k__law_fact_word ?a__law_named ?l__law_named ?e__law_named ?k__law_named ?a_law ?l_law ?e_law ?k_law ?i_LimeError_init ?t_LimeError_init ?l_LimeError_init ?e_LimeError_init ?k_LimeError_init ?i_BadPart_init ?t_BadPart_init ?l_BadPart_init ?e_BadPart_init ?k_BadPart_init ?i_BadCoat_init ?t_BadCoat_init ?l_BadCoat_init ?e_BadCoat_init ?k_BadCoat_init ?i_BadShade_init ?t_BadShade_init ?l_BadShade_init ?e_BadShade_init ?k_BadShade_init ?i_BadYear_init ?t_BadYear_init ?l_BadYear_init ?e_BadYear_init ?k_BadYear_init ?i_BadDepth_init ?t_BadDepth_init ?l_BadDepth_init ?e_BadDepth_init ?k_BadDepth_init ?i_Backward_init ?t_Backward_init ?l_Backward_init ?e_Backward_init ?k_Backward_init ?i_SameOne_init ?t_SameOne_init ?l_SameOne_init ?e_SameOne_init ?k_SameOne_init ?i_BadFact_init ?t_BadFact_init ?l_BadFact_init ?e_BadFact_init ?k_BadFact_init ?kc_LimeError ?ty_LimeError ?lc_LimeError ?rv_LimeError ?sa_LimeError ?eb_LimeError ?ga_LimeError ?gg_LimeError ?hd_LimeError ?nc_LimeError ?kc_BadPart ?ty_BadPart ?lc_BadPart ?rv_BadPart ?sa_BadPart ?eb_BadPart ?ga_BadPart ?gg_BadPart ?hd_BadPart ?nc_BadPart ?su_BadPart ?ss_BadPart ?kc_BadCoat ?ty_BadCoat ?lc_BadCoat ?rv_BadCoat ?sa_BadCoat ?eb_BadCoat ?ga_BadCoat ?gg_BadCoat ?hd_BadCoat ?nc_BadCoat ?su_BadCoat ?ss_BadCoat ?kc_BadShade ?ty_BadShade ?lc_BadShade ?rv_BadShade ?sa_BadShade ?eb_BadShade ?ga_BadShade ?gg_BadShade ?hd_BadShade ?nc_BadShade ?su_BadShade ?ss_BadShade ?kc_BadYear ?ty_BadYear ?lc_BadYear ?rv_BadYear ?sa_BadYear ?eb_BadYear ?ga_BadYear ?gg_BadYear ?hd_BadYear ?nc_BadYear ?su_BadYear ?ss_BadYear ?kc_BadDepth ?ty_BadDepth ?lc_BadDepth ?rv_BadDepth ?sa_BadDepth ?eb_BadDepth ?ga_BadDepth ?gg_BadDepth ?hd_BadDepth ?nc_BadDepth ?su_BadDepth ?ss_BadDepth ?kc_Backward ?ty_Backward ?lc_Backward ?rv_Backward ?sa_Backward ?eb_Backward ?ga_Backward ?gg_Backward ?hd_Backward ?nc_Backward ?su_Backward ?ss_Backward ?kc_SameOne ?ty_SameOne ?lc_SameOne ?rv_SameOne ?sa_SameOne ?eb_SameOne ?ga_SameOne ?gg_SameOne ?hd_SameOne ?nc_SameOne ?su_SameOne ?ss_SameOne ?kc_BadFact ?ty_BadFact ?lc_BadFact ?rv_BadFact ?sa_BadFact ?eb_BadFact ?ga_BadFact ?gg_BadFact ?hd_BadFact ?nc_BadFact ?su_BadFact ?ss_BadFact ?nf_BadFact_word ?rdL ?gaL ?inL ?vVE ?z_KeyError ?z_ValueError ?z_all ?z_bool ?z_int ?z_isinstance ?z_len ?z_list ?z_min ?z_range ?z_str ?z_tuple ?ag_PARTS ?lg_PARTS ?zg_PARTS ?rg_PARTS ?ag_MOST_COATS ?ag_LAST_YEAR ?ag_LAST_SHADE ?ag_LOOKS ?lg_LOOKS ?kl_LOOKS ?el_LOOKS ?lo_LOOKS ?ag_THINGS ?lg_THINGS ?kl_THINGS ?el_THINGS ?lo_THINGS
    (case ac_LimeError => k_is)
    (case ac_BadPart => k_is)
    (case ac_BadCoat => k_is)
    (case ac_BadShade => k_is)
    (case ac_BadYear => k_is)
    (case ac_BadDepth => k_is)
    (case ac_Backward => k_is)
    (case ac_SameOne => k_is)
    (case ac_BadFact => k_is)
    (case a_need_part => k_is)
    (case l_need_part => k_is)
    (case e_need_part => k_is)
    (case k_need_part => k_is)
    (case a_need_coat => k_is)
    (case l_need_coat => k_is)
    (case e_need_coat => k_is)
    (case k_need_coat => k_is)
    (case a_need_year => k_is)
    (case l_need_year => k_is)
    (case e_need_year => k_is)
    (case k_need_year => k_is)
    (case a_need_depth => k_is)
    (case l_need_depth => k_is)
    (case e_need_depth => k_is)
    (case k_need_depth => k_is)
    (case ld_need_depth => k_is)
    (case rd_need_depth => exact .cons ⟨_, rfl⟩ (.nil))
    (case a_need_scrape => k_is)
    (case l_need_scrape => k_is)
    (case e_need_scrape => k_is)
    (case k_need_scrape => k_is)
    (case a_need_two => k_is)
    (case l_need_two => k_is)
    (case e_need_two => k_is)
    (case k_need_two => k_is)
    (case a_need_cover => k_is)
    (case l_need_cover => k_is)
    (case e_need_cover => k_is)
    (case k_need_cover => k_is)
    (case a_need_moved => k_is)
    (case l_need_moved => k_is)
    (case e_need_moved => k_is)
    (case k_need_moved => k_is)
    (case a_need_dated => k_is)
    (case l_need_dated => k_is)
    (case e_need_dated => k_is)
    (case k_need_dated => k_is)
    (case a_need_sold => k_is)
    (case l_need_sold => k_is)
    (case e_need_sold => k_is)
    (case k_need_sold => k_is)
    (case a_need_coats => k_is)
    (case l_need_coats => k_is)
    (case e_need_coats => k_is)
    (case k_need_coats => k_is)
    (case a_need_ahead => k_is)
    (case l_need_ahead => k_is)
    (case e_need_ahead => k_is)
    (case k_need_ahead => k_is)
    (case a_need_paired => k_is)
    (case l_need_paired => k_is)
    (case e_need_paired => k_is)
    (case k_need_paired => k_is)
    (case a_scrape_of => k_is)
    (case l_scrape_of => k_is)
    (case e_scrape_of => k_is)
    (case k_scrape_of => k_is)
    (case a_cover_of => k_is)
    (case l_cover_of => k_is)
    (case e_cover_of => k_is)
    (case k_cover_of => k_is)
    (case a_moved_of => k_is)
    (case l_moved_of => k_is)
    (case e_moved_of => k_is)
    (case k_moved_of => k_is)
    (case a_dated_of => k_is)
    (case l_dated_of => k_is)
    (case e_dated_of => k_is)
    (case k_dated_of => k_is)
    (case a_sold_of => k_is)
    (case l_sold_of => k_is)
    (case e_sold_of => k_is)
    (case k_sold_of => k_is)
    (case a_ahead_of => k_is)
    (case l_ahead_of => k_is)
    (case e_ahead_of => k_is)
    (case k_ahead_of => k_is)
    (case a_paired_of => k_is)
    (case l_paired_of => k_is)
    (case e_paired_of => k_is)
    (case k_paired_of => k_is)
    (case a_need_fact => k_is)
    (case l_need_fact => k_is)
    (case e_need_fact => k_is)
    (case k_need_fact => k_is)
    (case a__law_open => k_is)
    (case l__law_open => k_is)
    (case e__law_open => k_is)
    (case k__law_open => k_is)
    (case a__law_pull => k_is)
    (case l__law_pull => k_is)
    (case e__law_pull => k_is)
    (case k__law_pull => k_is)
    (case a__law_num => k_is)
    (case l__law_num => k_is)
    (case e__law_num => k_is)
    (case k__law_num => k_is)
    (case a__law_like => k_is)
    (case l__law_like => k_is)
    (case e__law_like => k_is)
    (case k__law_like => k_is)
    (case a__law_shades => k_is)
    (case l__law_shades => k_is)
    (case e__law_shades => k_is)
    (case k__law_shades => k_is)
    (case a__law_fact => k_is)
    (case l__law_fact => k_is)
    (case e__law_fact => k_is)
    (case k__law_fact => k_is)
    (case a__law_bad_shades => k_is)
    (case l__law_bad_shades => k_is)
    (case e__law_bad_shades => k_is)
    (case k__law_bad_shades => k_is)
    (case a__law_fact_word => k_is)
    (case l__law_fact_word => k_is)
    (case e__law_fact_word => k_is)
    (case k__law_fact_word => k_is)
    (case a__law_named => k_is)
    (case l__law_named => k_is)
    (case e__law_named => k_is)
    (case k__law_named => k_is)
    (case a_law => k_is)
    (case l_law => k_is)
    (case e_law => k_is)
    (case k_law => k_is)
    (case i_LimeError_init => k_is)
    (case t_LimeError_init => k_is)
    (case l_LimeError_init => k_is)
    (case e_LimeError_init => k_is)
    (case k_LimeError_init => k_is)
    (case i_BadPart_init => k_is)
    (case t_BadPart_init => k_is)
    (case l_BadPart_init => k_is)
    (case e_BadPart_init => k_is)
    (case k_BadPart_init => k_is)
    (case i_BadCoat_init => k_is)
    (case t_BadCoat_init => k_is)
    (case l_BadCoat_init => k_is)
    (case e_BadCoat_init => k_is)
    (case k_BadCoat_init => k_is)
    (case i_BadShade_init => k_is)
    (case t_BadShade_init => k_is)
    (case l_BadShade_init => k_is)
    (case e_BadShade_init => k_is)
    (case k_BadShade_init => k_is)
    (case i_BadYear_init => k_is)
    (case t_BadYear_init => k_is)
    (case l_BadYear_init => k_is)
    (case e_BadYear_init => k_is)
    (case k_BadYear_init => k_is)
    (case i_BadDepth_init => k_is)
    (case t_BadDepth_init => k_is)
    (case l_BadDepth_init => k_is)
    (case e_BadDepth_init => k_is)
    (case k_BadDepth_init => k_is)
    (case i_Backward_init => k_is)
    (case t_Backward_init => k_is)
    (case l_Backward_init => k_is)
    (case e_Backward_init => k_is)
    (case k_Backward_init => k_is)
    (case i_SameOne_init => k_is)
    (case t_SameOne_init => k_is)
    (case l_SameOne_init => k_is)
    (case e_SameOne_init => k_is)
    (case k_SameOne_init => k_is)
    (case i_BadFact_init => k_is)
    (case t_BadFact_init => k_is)
    (case l_BadFact_init => k_is)
    (case e_BadFact_init => k_is)
    (case k_BadFact_init => k_is)
    (case kc_LimeError => k_is)
    (case ty_LimeError => k_is)
    (case lc_LimeError => k_is)
    (case rv_LimeError => (first | rfl | decide))
    (case sa_LimeError => k_is)
    (case eb_LimeError => k_is)
    (case ga_LimeError => k_is)
    (case gg_LimeError => k_is)
    (case hd_LimeError => k_is)
    (case nc_LimeError => k_is)
    (case kc_BadPart => k_is)
    (case ty_BadPart => k_is)
    (case lc_BadPart => k_is)
    (case rv_BadPart => (first | rfl | decide))
    (case sa_BadPart => k_is)
    (case eb_BadPart => k_is)
    (case ga_BadPart => k_is)
    (case gg_BadPart => k_is)
    (case hd_BadPart => k_is)
    (case nc_BadPart => k_is)
    (case su_BadPart => k_is)
    (case ss_BadPart => k_is)
    (case kc_BadCoat => k_is)
    (case ty_BadCoat => k_is)
    (case lc_BadCoat => k_is)
    (case rv_BadCoat => (first | rfl | decide))
    (case sa_BadCoat => k_is)
    (case eb_BadCoat => k_is)
    (case ga_BadCoat => k_is)
    (case gg_BadCoat => k_is)
    (case hd_BadCoat => k_is)
    (case nc_BadCoat => k_is)
    (case su_BadCoat => k_is)
    (case ss_BadCoat => k_is)
    (case kc_BadShade => k_is)
    (case ty_BadShade => k_is)
    (case lc_BadShade => k_is)
    (case rv_BadShade => (first | rfl | decide))
    (case sa_BadShade => k_is)
    (case eb_BadShade => k_is)
    (case ga_BadShade => k_is)
    (case gg_BadShade => k_is)
    (case hd_BadShade => k_is)
    (case nc_BadShade => k_is)
    (case su_BadShade => k_is)
    (case ss_BadShade => k_is)
    (case kc_BadYear => k_is)
    (case ty_BadYear => k_is)
    (case lc_BadYear => k_is)
    (case rv_BadYear => (first | rfl | decide))
    (case sa_BadYear => k_is)
    (case eb_BadYear => k_is)
    (case ga_BadYear => k_is)
    (case gg_BadYear => k_is)
    (case hd_BadYear => k_is)
    (case nc_BadYear => k_is)
    (case su_BadYear => k_is)
    (case ss_BadYear => k_is)
    (case kc_BadDepth => k_is)
    (case ty_BadDepth => k_is)
    (case lc_BadDepth => k_is)
    (case rv_BadDepth => (first | rfl | decide))
    (case sa_BadDepth => k_is)
    (case eb_BadDepth => k_is)
    (case ga_BadDepth => k_is)
    (case gg_BadDepth => k_is)
    (case hd_BadDepth => k_is)
    (case nc_BadDepth => k_is)
    (case su_BadDepth => k_is)
    (case ss_BadDepth => k_is)
    (case kc_Backward => k_is)
    (case ty_Backward => k_is)
    (case lc_Backward => k_is)
    (case rv_Backward => (first | rfl | decide))
    (case sa_Backward => k_is)
    (case eb_Backward => k_is)
    (case ga_Backward => k_is)
    (case gg_Backward => k_is)
    (case hd_Backward => k_is)
    (case nc_Backward => k_is)
    (case su_Backward => k_is)
    (case ss_Backward => k_is)
    (case kc_SameOne => k_is)
    (case ty_SameOne => k_is)
    (case lc_SameOne => k_is)
    (case rv_SameOne => (first | rfl | decide))
    (case sa_SameOne => k_is)
    (case eb_SameOne => k_is)
    (case ga_SameOne => k_is)
    (case gg_SameOne => k_is)
    (case hd_SameOne => k_is)
    (case nc_SameOne => k_is)
    (case su_SameOne => k_is)
    (case ss_SameOne => k_is)
    (case kc_BadFact => k_is)
    (case ty_BadFact => k_is)
    (case lc_BadFact => k_is)
    (case rv_BadFact => (first | rfl | decide))
    (case sa_BadFact => k_is)
    (case eb_BadFact => k_is)
    (case ga_BadFact => k_is)
    (case gg_BadFact => k_is)
    (case hd_BadFact => k_is)
    (case nc_BadFact => k_is)
    (case su_BadFact => k_is)
    (case ss_BadFact => k_is)
    (case nf_BadFact_word => k_is)
    (case rdL => k_is)
    (case gaL => k_is)
    (case inL => k_is)
    (case vVE => k_is)
    (case z_KeyError => k_is)
    (case z_ValueError => k_is)
    (case z_all => k_is)
    (case z_bool => k_is)
    (case z_int => k_is)
    (case z_isinstance => k_is)
    (case z_len => k_is)
    (case z_list => k_is)
    (case z_min => k_is)
    (case z_range => k_is)
    (case z_str => k_is)
    (case z_tuple => k_is)
    (case ag_PARTS => k_is)
    (case lg_PARTS => k_is)
    (case zg_PARTS => (show _ ≤ _; decide))
    (case rg_PARTS => exact .cons ⟨_, rfl⟩ (.cons ⟨_, rfl⟩ (.cons ⟨_, rfl⟩ (.cons ⟨_, rfl⟩ (.nil)))))
    (case ag_MOST_COATS => k_is)
    (case ag_LAST_YEAR => k_is)
    (case ag_LAST_SHADE => k_is)
    (case ag_LOOKS => k_is)
    (case lg_LOOKS => k_is)
    (case kl_LOOKS => exact ⟨⟨_, _, rfl, rfl⟩, ⟨⟨_, _, rfl, rfl⟩, ⟨⟨_, _, rfl, rfl⟩, ⟨⟨_, _, rfl, rfl⟩, ⟨⟨_, _, rfl, rfl⟩, ⟨⟨_, _, rfl, rfl⟩, ⟨⟨_, _, rfl, rfl⟩, ⟨⟨_, _, rfl, rfl⟩, trivial⟩⟩⟩⟩⟩⟩⟩⟩)
    (case el_LOOKS => exact ⟨_, _, _, _, rfl, rfl, ⟨.ref _, rfl, fun _ _ => rfl⟩, ⟨_, _, _, _, rfl, rfl, ⟨.ref _, rfl, fun _ _ => rfl⟩, ⟨_, _, _, _, rfl, rfl, ⟨.ref _, rfl, fun _ _ => rfl⟩, ⟨_, _, _, _, rfl, rfl, ⟨.ref _, rfl, fun _ _ => rfl⟩, ⟨_, _, _, _, rfl, rfl, ⟨.ref _, rfl, fun _ _ => rfl⟩, ⟨_, _, _, _, rfl, rfl, ⟨.ref _, rfl, fun _ _ => rfl⟩, ⟨_, _, _, _, rfl, rfl, ⟨.ref _, rfl, fun _ _ => rfl⟩, ⟨_, _, _, _, rfl, rfl, ⟨.ref _, rfl, fun _ _ => rfl⟩, rfl⟩⟩⟩⟩⟩⟩⟩⟩)
    (case lo_LOOKS => rfl)
    (case ag_THINGS => k_is)
    (case lg_THINGS => k_is)
    (case kl_THINGS => exact ⟨⟨_, _, rfl, rfl⟩, ⟨⟨_, _, rfl, rfl⟩, ⟨⟨_, _, rfl, rfl⟩, ⟨⟨_, _, rfl, rfl⟩, ⟨⟨_, _, rfl, rfl⟩, ⟨⟨_, _, rfl, rfl⟩, ⟨⟨_, _, rfl, rfl⟩, ⟨⟨_, _, rfl, rfl⟩, trivial⟩⟩⟩⟩⟩⟩⟩⟩)
    (case el_THINGS => exact ⟨_, _, _, _, rfl, rfl, ⟨.int _, ⟨_, rfl⟩, fun _ _ => rfl⟩, ⟨_, _, _, _, rfl, rfl, ⟨.int _, ⟨_, rfl⟩, fun _ _ => rfl⟩, ⟨_, _, _, _, rfl, rfl, ⟨.int _, ⟨_, rfl⟩, fun _ _ => rfl⟩, ⟨_, _, _, _, rfl, rfl, ⟨.int _, ⟨_, rfl⟩, fun _ _ => rfl⟩, ⟨_, _, _, _, rfl, rfl, ⟨.int _, ⟨_, rfl⟩, fun _ _ => rfl⟩, ⟨_, _, _, _, rfl, rfl, ⟨.int _, ⟨_, rfl⟩, fun _ _ => rfl⟩, ⟨_, _, _, _, rfl, rfl, ⟨.int _, ⟨_, rfl⟩, fun _ _ => rfl⟩, ⟨_, _, _, _, rfl, rfl, ⟨.int _, ⟨_, rfl⟩, fun _ _ => rfl⟩, rfl⟩⟩⟩⟩⟩⟩⟩⟩)
    (case lo_THINGS => rfl)
#print axioms PySem.Challenge.cw_limecoat_k07_no_findings_holds
