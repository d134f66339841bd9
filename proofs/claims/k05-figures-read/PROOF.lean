import PyProof.Rows.All
import Wide.All
import OpenK.AllK
import Wide.FinOn
import HandS.ForMost
import HandS.ForExc
import HandS.CallSlots
import HandS.Lambda
import HandS.IsInst
import HandS.Deep
import HandS.TupAny
import HandS.Comp
import HandS.ExcInit
import HandS.ExcField
import HandS.ClsMeth
import HandS.TryMany
import HandS.Defaults
import HandS.Style
import HandS.Iter
import HandS.Text
import HandS.More
import HandS.EndTab
import KE.KNestM
import HandS.IntHex
import PySem.Challenge.RW_limecoat_k05_figures_read
set_option Elab.async false
set_option linter.all false
set_option maxRecDepth 100000
/-! LC0: data as trees, a heap by numbers, and readings over them (lifted from HandS's). -/
namespace LC
open PySem PySem.Spec
open PyProof.Rows L2

/-- data: tuples by value, mutable objects by their number -/
inductive D where
  | non | bl (b : Bool) | int (i : Int) | str (x : Str) | ty (n : String) | adr (a : Addr) | ref (k : Nat) | tup (xs : List D) | bad

/-- what stands at a number -/
inductive O where
  | lst (xs : List D)
  | fro (xs : List D)
  | ins (C : Addr) (fs : List (Str × D))
  | dK (kvs : List (Key × D))
  | dT (kvs : List (List Key × D))
  | non
def O.mut : O → Bool
  | .lst _ | .ins _ _ | .dK _ | .dT _ => true
  | _ => false
/-- a list that is read and never written -/
def FrL (K : PySem.W.Frag) (H : Hp) (a : Addr) (xs : List V) : Prop :=
  (∃ o, H a = some (.frz o (.lst xs))) ∨
    ∃ (o : Obj) (its : Array Value) (n : Nat),
      K.lookup a = some o ∧ o.cls = .type "list" ∧ o.dict = none ∧ o.data = .seq its n ∧ its.size ≤ sizeLine ∧ Vals xs its.toList
theorem FrL.sql {K : PySem.W.Frag} {H : Hp} {a : Addr} {xs : List V} (h : FrL K H a xs) : SqL K H a xs := by
  rcases h with ⟨o, h⟩ | h
  · exact .inl (.inr ⟨o, h⟩)
  · exact .inr h
theorem FrL.of {K : PySem.W.Frag} {H : Hp} {a : Addr} {xs : List V} (h : SqL K H a xs) (n : H a ≠ some (.lst xs)) : FrL K H a xs := by
  rcases h with (h | h) | h
  · exact absurd h n
  · exact .inl h
  · exact .inr h

section
variable (K : PySem.W.Frag) (φ : List Addr) (H : Hp)
mutual
def RV : D → V → Prop
  | .non, v => v = .non
  | .bl b, v => v = .bl b
  | .int i, v => v = .int i
  | .str x, v => v = .str x
  | .ty n, v => v = .ty n
  | .adr a, v => v = .ref a
  | .ref k, v => ∃ a, φ[k]? = some a ∧ v = .ref a
  | .tup ds, v => ∃ p vs, v = .ref p ∧ SqT K H p vs ∧ RVs ds vs
  | .bad, _ => False
def RVs : List D → List V → Prop
  | [], vs => vs = []
  | d :: ds, vs => ∃ v ws, vs = v :: ws ∧ RV d v ∧ RVs ds ws
end
/-- pairs with plain keys -/
def RKV {κ : Type} : List (κ × D) → List (κ × V) → Prop
  | [], l => l = []
  | p :: ps, l => ∃ v r, l = (p.1, v) :: r ∧ RV K φ H p.2 v ∧ RKV ps r
def RO : O → Addr → Prop
  | .lst xs, a => ∃ vs, H a = some (.lst vs) ∧ RVs K φ H xs vs
  | .fro xs, a => ∃ vs, FrL K H a vs ∧ RVs K φ H xs vs
  | .ins C fs, a => ∃ dx gs, H a = some (.ins C dx gs) ∧ RKV K φ H fs gs
  | .dK kvs, a => ∃ l, H a = some (.dK l) ∧ RKV K φ H kvs l
  | .dT kvs, a => ∃ l, H a = some (.dT l) ∧ RKV K φ H kvs l
  | .non, _ => True
structure Rel (S : List O) : Prop where
  nd : ∀ (i j : Nat) (a : Addr) (x y : O), φ[i]? = some a → φ[j]? = some a → S[i]? = some x → S[j]? = some y → x.mut = true → y.mut = true → i = j
  len : φ.length = S.length
  ob : ∀ (i : Nat) (o : O), S[i]? = some o → ∃ a, φ[i]? = some a ∧ RO K φ H o a
end
/-- numbers stay, tuples stay -/
structure Ext (K : PySem.W.Frag) (φ φ' : List Addr) (H H' : Hp) : Prop where
  pre : φ <+: φ'
  tup : ∀ p vs, SqT K H p vs → SqT K H' p vs
  xd : ∀ p gs, H p = some (.xd gs) → H' p = some (.xd gs)
theorem Ext.refl {K : PySem.W.Frag} {φ : List Addr} {H : Hp} : Ext K φ φ H H := ⟨List.prefix_refl _, fun _ _ h => h, fun _ _ h => h⟩
theorem Ext.trans {K : PySem.W.Frag} {φ φ1 φ2 : List Addr} {H H1 H2 : Hp} (a : Ext K φ φ1 H H1) (b : Ext K φ1 φ2 H1 H2) : Ext K φ φ2 H H2 :=
  ⟨a.pre.trans b.pre, fun p vs h => b.tup p vs (a.tup p vs h), fun p gs h => b.xd p gs (a.xd p gs h)⟩
theorem Ext.get {K : PySem.W.Frag} {φ φ' : List Addr} {H H' : Hp} (e : Ext K φ φ' H H') {k : Nat} {a : Addr} (h : φ[k]? = some a) : φ'[k]? = some a := by
  obtain ⟨t, rfl⟩ := e.pre
  rw [List.getElem?_append_left (List.getElem?_eq_some_iff.mp h).1]; exact h

section
variable {K : PySem.W.Frag} {φ φ' : List Addr} {H H' : Hp}
mutual
theorem RV.mono (e : Ext K φ φ' H H') : ∀ {d : D} {v : V}, RV K φ H d v → RV K φ' H' d v
  | .non, _, h => h
  | .bl _, _, h => h
  | .int _, _, h => h
  | .str _, _, h => h
  | .ty _, _, h => h
  | .adr _, _, h => h
  | .ref _, _, ⟨a, h1, h2⟩ => ⟨a, e.get h1, h2⟩
  | .tup _, _, ⟨p, vs, h1, h2, h3⟩ => ⟨p, vs, h1, e.tup _ _ h2, RVs.mono e h3⟩
  | .bad, _, h => h.elim
theorem RVs.mono (e : Ext K φ φ' H H') : ∀ {ds : List D} {vs : List V}, RVs K φ H ds vs → RVs K φ' H' ds vs
  | [], _, h => h
  | _ :: _, _, ⟨v, ws, h1, h2, h3⟩ => ⟨v, ws, h1, RV.mono e h2, RVs.mono e h3⟩
end
theorem RKV.mono {κ : Type} (e : Ext K φ φ' H H') : ∀ {ds : List (κ × D)} {vs : List (κ × V)}, RKV K φ H ds vs → RKV K φ' H' ds vs
  | [], _, h => h
  | _ :: _, _, ⟨v, ws, h1, h2, h3⟩ => ⟨v, ws, h1, RV.mono e h2, RKV.mono e h3⟩
theorem RVs.len : ∀ {ds : List D} {vs : List V}, RVs K φ H ds vs → vs.length = ds.length
  | [], _, h => by cases h; rfl
  | _ :: _, _, ⟨v, ws, h1, h2, h3⟩ => by subst h1; simp [RVs.len h3]
theorem RVs.app : ∀ {ds es : List D} {vs ws : List V}, RVs K φ H ds vs → RVs K φ H es ws → RVs K φ H (ds ++ es) (vs ++ ws)
  | [], _, _, _, h, g => by cases h; exact g
  | _ :: _, _, _, _, ⟨v, ws, h1, h2, h3⟩, g => by subst h1; exact ⟨v, _, rfl, h2, RVs.app h3 g⟩
theorem RVs.get : ∀ {ds : List D} {vs : List V} {i : Nat} {d : D}, RVs K φ H ds vs → ds[i]? = some d → ∃ v, vs[i]? = some v ∧ RV K φ H d v
  | [], _, _, _, _, e => by simp at e
  | _ :: _, _, 0, _, ⟨v, ws, h1, h2, h3⟩, e => by subst h1; simp at e; subst e; exact ⟨v, rfl, h2⟩
  | _ :: _, _, i + 1, _, ⟨v, ws, h1, h2, h3⟩, e => by subst h1; exact RVs.get (i := i) h3 (by simpa using e)
theorem RVs.set {d : D} {v : V} (r : RV K φ H d v) : ∀ {ds : List D} {vs : List V} (i : Nat), RVs K φ H ds vs → RVs K φ H (ds.set i d) (vs.set i v)
  | [], _, _, h => (by cases h; rfl)
  | _ :: _, _, 0, ⟨v', ws, h1, h2, h3⟩ => by subst h1; exact ⟨v, ws, rfl, r, h3⟩
  | _ :: _, _, i + 1, ⟨v', ws, h1, h2, h3⟩ => by subst h1; exact ⟨v', _, rfl, h2, RVs.set r i h3⟩
theorem RVs.take : ∀ {ds : List D} {vs : List V} (n : Nat), RVs K φ H ds vs → RVs K φ H (ds.take n) (vs.take n)
  | [], _, _, h => by cases h; simp [RVs]
  | _ :: _, _, 0, _ => by simp [RVs]
  | _ :: _, _, n + 1, ⟨v, ws, h1, h2, h3⟩ => by subst h1; exact ⟨v, _, rfl, h2, RVs.take n h3⟩
theorem RVs.drop : ∀ {ds : List D} {vs : List V} (n : Nat), RVs K φ H ds vs → RVs K φ H (ds.drop n) (vs.drop n)
  | [], _, _, h => by cases h; simp [RVs]
  | _ :: _, _, 0, h => h
  | _ :: _, _, n + 1, ⟨v, ws, h1, h2, h3⟩ => by subst h1; exact RVs.drop n h3
theorem RVs.ofInts : ∀ {ns : List Int}, RVs K φ H (ns.map D.int) (ns.map V.int)
  | [] => rfl
  | n :: _ => ⟨.int n, _, rfl, rfl, RVs.ofInts⟩
end

/-- the ground of a body: the numbers and the heap at its entry -/
structure Bs where
  φ0 : List Addr
  H0 : Hp
  T : List (Addr × Str)
/-- a state over the ground -/
structure HR (K : PySem.W.Frag) (B : Bs) (φ : List Addr) (H : Hp) (S : List O) : Prop where
  ext : Ext K B.φ0 φ B.H0 H
  rel : Rel K φ H S
  tab : LamX.Tabs B.T H
abbrev Sl := List (Option D)
structure EV (K : PySem.W.Frag) (φ : List Addr) (H : Hp) (s : Sl) (σ : L2.St) : Prop where
  len : σ.length = s.length
  at' : ∀ (i : Nat) (d : D), s[i]? = some (some d) → ∃ v, σ[i]? = some (some v) ∧ RV K φ H d v
theorem EV.mono {X : Cx} {φ φ' : List Addr} {H H' : Hp} {s : Sl} {σ : L2.St} (h : EV X.K φ H s σ) (e : Ext X.K φ φ' H H') : EV X.K φ' H' s σ :=
  ⟨h.len, fun i d q => let ⟨v, a, b⟩ := h.at' i d q; ⟨v, a, b.mono e⟩⟩
theorem HR.mono {X : Cx} {B : Bs} {φ φ' : List Addr} {H H' : Hp} {S S' : List O} (h : HR X.K B φ H S) (e : Ext X.K φ φ' H H') (r : Rel X.K φ' H' S') (t : LamX.Tabs B.T H') : HR X.K B φ' H' S' := ⟨h.ext.trans e, r, t⟩

section
variable (K : PySem.W.Frag) (B : Bs)
/-- what is wanted of an outcome -/
def Kont {δ ν : Type} (rel : List Addr → Hp → δ → ν → Prop) (φ : List Addr) (H : Hp) (Q' : δ → List O → Prop) (Q : ν → Hp → Prop) : Prop :=
  ∀ φ' d S' v H', Ext K φ φ' H H' → HR K B φ' H' S' → rel φ' H' d v → Q' d S' → Q v H'
/-- a reading over data, as a reading of HandS's -/
def UP {δ ν : Type} (rel : List Addr → Hp → δ → ν → Prop) (q : Sl → List O → (δ → List O → Prop) → Prop)   : L2.St → Hp → (ν → Hp → Prop) → Prop :=
  fun σ H Q => ∃ φ s S Q', HR K B φ H S ∧ EV K φ H s σ ∧ q s S Q' ∧ Kont K B rel φ H Q' Q
abbrev QE := Sl → List O → (D → List O → Prop) → Prop
abbrev QA := Sl → List O → (List D → List O → Prop) → Prop
abbrev QT := Sl → List O → (Bool → List O → Prop) → Prop
abbrev rD : List Addr → Hp → D → V → Prop := fun φ H d v => RV K φ H d v
abbrev rDs : List Addr → Hp → List D → List V → Prop := fun φ H d v => RVs K φ H d v
abbrev rB : List Addr → Hp → Bool → Bool → Prop := fun _ _ a b => a = b
/-- wished behind a statement -/
structure Ed where
  nx : Sl → List O → Prop
  rt : D → List O → Prop
  bk : Sl → List O → Prop := fun _ _ => False
  ct : Sl → List O → Prop := fun _ _ => False
structure EK (φ : List Addr) (H : Hp) (D' : Ed) (D : Ends) : Prop where
  nx : ∀ φ' H' S' s' σ', Ext K φ φ' H H' → HR K B φ' H' S' → EV K φ' H' s' σ' → D'.nx s' S' → D.nx σ' H'
  rt : ∀ φ' H' S' d v, Ext K φ φ' H H' → HR K B φ' H' S' → RV K φ' H' d v → D'.rt d S' → D.rt v H'
  bk : ∀ φ' H' S' s' σ', Ext K φ φ' H H' → HR K B φ' H' S' → EV K φ' H' s' σ' → D'.bk s' S' → D.bk σ' H'
  ct : ∀ φ' H' S' s' σ', Ext K φ φ' H H' → HR K B φ' H' S' → EV K φ' H' s' σ' → D'.ct s' S' → D.ct σ' H'
abbrev QS := Ed → Sl → List O → Prop
def US (q : QS) : TS := fun D σ H => ∃ φ s S D', HR K B φ H S ∧ EV K φ H s σ ∧ q D' s S ∧ EK K B φ H D' D
end
abbrev LE (X : Cx) (B : Bs) (e : Expr) (q : QE) : Prop := PE X e (UP X.K B (rD X.K) q)
abbrev LA (X : Cx) (B : Bs) (e : List Expr) (q : QA) : Prop := PA X e (UP X.K B (rDs X.K) q)
abbrev LT (X : Cx) (B : Bs) (e : Expr) (q : QT) : Prop := PT X e (UP X.K B rB q)
abbrev LW (X : Cx) (B : Bs) (e : Expr) (q : QT) : Prop := PW X e (UP X.K B rB q)
abbrev LS (X : Cx) (B : Bs) (e : Stmt) (q : QS) : Prop := PS X e (US X.K B q)
abbrev LSs (X : Cx) (B : Bs) (e : List Stmt) (q : QS) : Prop := PSs X e (US X.K B q)
theorem EK.ext {X : Cx} {B : Bs} {φ φ1 : List Addr} {H H1 : Hp} {D' : Ed} {D : Ends} (k : EK X.K B φ H D' D) (e : Ext X.K φ φ1 H H1) : EK X.K B φ1 H1 D' D :=
  ⟨fun φ' H' S' s' σ' x => k.nx φ' H' S' s' σ' (e.trans x), fun φ' H' S' s' σ' x => k.rt φ' H' S' s' σ' (e.trans x), fun φ' H' S' s' σ' x => k.bk φ' H' S' s' σ' (e.trans x), fun φ' H' S' s' σ' x => k.ct φ' H' S' s' σ' (e.trans x)⟩
theorem Kont.ext {X : Cx} {B : Bs} {δ ν : Type} {rel : List Addr → Hp → δ → ν → Prop} {φ φ1 : List Addr} {H H1 : Hp} {Q' : δ → List O → Prop} {Q : ν → Hp → Prop} (k : Kont X.K B rel φ H Q' Q) (e : Ext X.K φ φ1 H H1) : Kont X.K B rel φ1 H1 Q' Q :=
  fun φ' d S' v H' e' hr r q => k φ' d S' v H' (e.trans e') hr r q
theorem PE.imp {X : Cx} {e : Expr} {t t' : TE} (h : PE X e t) (i : ∀ σ H Q, t' σ H Q → t σ H Q) : PE X e t' := ⟨fun pins s σ H Q I w => h.run pins s σ H Q I (i _ _ _ w)⟩
theorem PT.imp {X : Cx} {e : Expr} {t t' : TT} (h : PT X e t) (i : ∀ σ H Q, t' σ H Q → t σ H Q) : PT X e t' := ⟨fun pins s σ H Q I w => h.run pins s σ H Q I (i _ _ _ w)⟩
theorem PW.imp {X : Cx} {e : Expr} {t t' : TT} (h : PW X e t) (i : ∀ σ H Q, t' σ H Q → t σ H Q) : PW X e t' := ⟨fun wh pins s σ H Q I w => h.run wh pins s σ H Q I (i _ _ _ w)⟩
theorem PA.imp {X : Cx} {e : List Expr} {t t' : TA} (h : PA X e t) (i : ∀ σ H Q, t' σ H Q → t σ H Q) : PA X e t' := ⟨fun pos pins s σ H Q I w => h.run pos pins s σ H Q I (i _ _ _ w)⟩
theorem PS.imp {X : Cx} {e : Stmt} {t t' : TS} (h : PS X e t) (i : ∀ D σ H, t' D σ H → t D σ H) : PS X e t' := ⟨fun pins s σ H D I w => h.run pins s σ H D I (i _ _ _ w)⟩
theorem PSs.imp {X : Cx} {e : List Stmt} {t t' : TS} (h : PSs X e t) (i : ∀ D σ H, t' D σ H → t D σ H) : PSs X e t' := ⟨fun pins s σ H D I w => h.run pins s σ H D I (i _ _ _ w)⟩

/-! ### heaps change -/
section
variable {K : PySem.W.Frag} {φ : List Addr} {H : Hp} {S : List O} {p : Addr} {o : HO}
/-- a new object: all stays -/
theorem ext_new (hp : H p = none) : Ext K φ φ H (upd H p o) := ⟨List.prefix_refl _, fun q vs h => by
  rcases h with (h | ⟨ob, h⟩) | h
  · exact .inl (.inl (by rw [upd_ne (ne_of_none h hp)]; exact h))
  · exact .inl (.inr ⟨ob, by rw [upd_ne (ne_of_none h hp)]; exact h⟩)
  · exact .inr h, fun q gs h => by rw [upd_ne (ne_of_none h hp)]; exact h⟩
theorem ext_push : Ext K φ (φ ++ [p]) H H := ⟨List.prefix_append _ _, fun _ _ h => h, fun _ _ h => h⟩
/-- what an object's place says is kept where H keeps the object -/
theorem RO.mono {φ' : List Addr} {H' : Hp} (e : Ext K φ φ' H H') {x : O} {a : Addr} (hk : ∀ u, H a = some u → H' a = some u) (h : RO K φ H x a) : RO K φ' H' x a := by
  cases x with
  | lst xs => obtain ⟨vs, h1, h2⟩ := h; exact ⟨vs, hk _ h1, h2.mono e⟩
  | fro xs =>
    obtain ⟨vs, h1, h2⟩ := h
    refine ⟨vs, ?_, h2.mono e⟩
    rcases h1 with ⟨ob, h1⟩ | h1
    · exact .inl ⟨ob, hk _ h1⟩
    · exact .inr h1
  | ins C fs => obtain ⟨dx, gs, h1, h2⟩ := h; exact ⟨dx, gs, hk _ h1, h2.mono e⟩
  | dK l => obtain ⟨m, h1, h2⟩ := h; exact ⟨m, hk _ h1, h2.mono e⟩
  | dT l => obtain ⟨m, h1, h2⟩ := h; exact ⟨m, hk _ h1, h2.mono e⟩
  | non => trivial
/-- what we change: lists, instances, dicts -/
def Mu : HO → Prop
  | .lst _ => True
  | .ins _ _ _ => True
  | .dK _ => True
  | .dT _ => True
  | _ => False
theorem tab_write {a : Addr} {u : HO} (hu : H a = some u) (m : Mu u) {q : Addr} {n : Str} (h : LamX.TabS H q n) : LamX.TabS (upd H a o) q n := by
  obtain ⟨ps, h1, h2, h3⟩ := h
  have nq : q ≠ a := fun z => by subst z; rw [hu] at h1; cases h1; exact m
  refine ⟨ps, by rw [upd_ne nq]; exact h1, h2, fun pos cv hc => ?_⟩
  have ⟨c, e1, e2⟩ := h3 pos cv hc
  have nc : c ≠ a := fun z => by
    subst z
    rw [hu] at e2
    have e3 : u = LamX.CodeO c n := Option.some.inj e2
    subst e3
    exact m
  exact ⟨c, e1, by rw [upd_ne nc]; exact e2⟩
/-- an object that may be changed is tracked -/
theorem RO.here {x : O} {a : Addr} (h : RO K φ H x a) (m : x.mut = true) : ∃ u, H a = some u ∧ Mu u := by
  cases x with
  | lst xs => obtain ⟨vs, h1, h2⟩ := h; exact ⟨_, h1, trivial⟩
  | fro xs => cases m
  | ins C fs => obtain ⟨dx, gs, h1, h2⟩ := h; exact ⟨_, h1, trivial⟩
  | dK l => obtain ⟨m, h1, h2⟩ := h; exact ⟨_, h1, trivial⟩
  | dT l => obtain ⟨m, h1, h2⟩ := h; exact ⟨_, h1, trivial⟩
  | non => cases m
/-- all is kept -/
theorem Rel.kept {H' : Hp} (r : Rel K φ H S) (e : Ext K φ φ H H') (hk : ∀ b u, H b = some u → H' b = some u) : Rel K φ H' S :=
  ⟨r.nd, r.len, fun i x q => let ⟨a, h1, h2⟩ := r.ob i x q; ⟨a, h1, h2.mono e (hk a)⟩⟩
/-- a new object -/
theorem Rel.push {x : O} (r : Rel K φ H S) (hp : H p = none) (h : RO K (φ ++ [p]) (upd H p o) x p) : Rel K (φ ++ [p]) (upd H p o) (S ++ [x]) := by
  have e : Ext K φ (φ ++ [p]) H (upd H p o) := (ext_new hp).trans ext_push
  have old : ∀ {i : Nat} {a : Addr} {x : O}, (φ ++ [p])[i]? = some a → S[i]? = some x → x.mut = true → φ[i]? = some a ∧ a ≠ p := fun {i a x} q1 q2 m => by
    have hl : i < φ.length := by rw [r.len]; exact (List.getElem?_eq_some_iff.mp q2).1
    rw [List.getElem?_append_left hl] at q1
    refine ⟨q1, fun z => ?_⟩
    obtain ⟨a', h1, h2⟩ := r.ob i x q2
    rw [q1] at h1; cases h1
    obtain ⟨u, h3, _⟩ := h2.here m
    rw [z, hp] at h3; cases h3
  have cut : ∀ {i : Nat} {x' : O}, (S ++ [x])[i]? = some x' → S[i]? = some x' ∨ (i = S.length ∧ x' = x) := fun {i x'} q => by
    by_cases hl : i < S.length
    · rw [List.getElem?_append_left hl] at q; exact .inl q
    · rw [List.getElem?_append_right (by omega)] at q
      have : i - S.length = 0 := by
        have := (List.getElem?_eq_some_iff.mp q).1
        simp at this; omega
      rw [this] at q
      simp at q
      exact .inr ⟨by omega, q.symm⟩
  have lastA : ∀ {i : Nat} {a : Addr}, i = S.length → (φ ++ [p])[i]? = some a → a = p := fun {i a} hi q => by
    rw [hi, ← r.len] at q
    simp at q
    exact q.symm
  refine ⟨fun i j a y z q1 q2 q3 q4 m1 m2 => ?_, by simp [r.len], fun i y q => ?_⟩
  · rcases cut q3 with p3 | ⟨p3, _⟩ <;> rcases cut q4 with p4 | ⟨p4, _⟩
    · exact r.nd i j a y z (old q1 p3 m1).1 (old q2 p4 m2).1 p3 p4 m1 m2
    · exact absurd (lastA p4 q2) (old q1 p3 m1).2
    · exact absurd (lastA p3 q1) (old q2 p4 m2).2
    · omega
  · rcases cut q with q | ⟨rfl, rfl⟩
    · obtain ⟨a, h1, h2⟩ := r.ob i y q
      exact ⟨a, e.get h1, h2.mono e fun u hu => by rw [upd_ne (ne_of_none hu hp)]; exact hu⟩
    · exact ⟨p, by rw [← r.len]; simp, h⟩
/-- an object is written -/
theorem ext_write {a : Addr} {u : HO} (hu : H a = some u) (m : Mu u) : Ext K φ φ H (upd H a o) := ⟨List.prefix_refl _, fun q vs h => by
  have ne : ∀ {q : Addr} {v : HO}, H q = some v → ¬ Mu v → q ≠ a := fun {q v} h1 h2 z => by
    subst z
    rw [hu] at h1; cases h1; exact h2 m
  rcases h with (h | ⟨ob, h⟩) | h
  · exact .inl (.inl (by rw [upd_ne (ne h fun z => z)]; exact h))
  · exact .inl (.inr ⟨ob, by rw [upd_ne (ne h fun z => z)]; exact h⟩)
  · exact .inr h, fun q gs h => by
    have nq : q ≠ a := fun z => by subst z; rw [hu] at h; cases h; exact m
    rw [upd_ne nq]; exact h⟩
theorem Rel.write {x y : O} {k : Nat} {a : Addr} (r : Rel K φ H S) (hx : S[k]? = some x) (m : x.mut = true) (ha : φ[k]? = some a) (h : RO K φ (upd H a o) y a) (my : y.mut = true) : Rel K φ (upd H a o) (S.set k y) := by
  obtain ⟨a', h1, h2⟩ := r.ob k x hx
  rw [ha] at h1; cases h1
  obtain ⟨u, hu, mu⟩ := h2.here m
  have e : Ext K φ φ H (upd H a o) := ext_write hu mu
  have hl : k < S.length := (List.getElem?_eq_some_iff.mp hx).1
  have cut : ∀ {i : Nat} {z : O}, (S.set k y)[i]? = some z → (i = k ∧ z = y) ∨ (i ≠ k ∧ S[i]? = some z) := fun {i z} q => by
    by_cases hi : i = k
    · subst hi
      rw [List.getElem?_set_self hl] at q
      exact .inl ⟨rfl, (Option.some.inj q).symm⟩
    · rw [List.getElem?_set_ne (Ne.symm hi)] at q
      exact .inr ⟨hi, q⟩
  have back : ∀ {i : Nat} {z : O}, (S.set k y)[i]? = some z → z.mut = true → ∃ z', S[i]? = some z' ∧ z'.mut = true := fun {i z} q mz => by
    rcases cut q with ⟨rfl, rfl⟩ | ⟨_, q⟩
    · exact ⟨x, hx, m⟩
    · exact ⟨z, q, mz⟩
  refine ⟨fun i j b z z2 q1 q2 q3 q4 m1 m2 => ?_, by simpa using r.len, fun i z q => ?_⟩
  · obtain ⟨w1, q5, m5⟩ := back q3 m1
    obtain ⟨w2, q6, m6⟩ := back q4 m2
    exact r.nd i j b w1 w2 q1 q2 q5 q6 m5 m6
  · rcases cut q with ⟨rfl, rfl⟩ | ⟨hi, q⟩
    · exact ⟨a, ha, h⟩
    · obtain ⟨b, h3, h4⟩ := r.ob i z q
      refine ⟨b, h3, ?_⟩
      cases mz : z.mut with
      | true =>
        have hb : b ≠ a := fun hz => hi (r.nd i k a z x (hz ▸ h3) ha q hx mz m)
        exact h4.mono e fun v hv => by rw [upd_ne hb]; exact hv
      | false =>
        cases z with
        | fro xs =>
          obtain ⟨vs, h5, h6⟩ := h4
          refine ⟨vs, ?_, h6.mono e⟩
          rcases h5 with ⟨ob, h5⟩ | h5
          · refine .inl ⟨ob, ?_⟩
            have hb : b ≠ a := fun hz => by
              subst hz
              rw [hu] at h5; cases h5; exact mu
            rw [upd_ne hb]; exact h5
          · exact .inr h5
        | non => trivial
        | _ => cases mz
end
end LC

set_option Elab.async false
set_option linter.all false
set_option maxRecDepth 100000
set_option maxHeartbeats 5000000
/-! LC1: expressions over data. -/
namespace LC
open PySem PySem.Spec
open PyProof.Rows L2

section
variable {X : Cx} {B : Bs} {δ ν : Type} {rel : List Addr → Hp → δ → ν → Prop} {φ : List Addr} {H : Hp} {S : List O}
theorem Kont.here {Q' : δ → List O → Prop} {Q : ν → Hp → Prop} {d : δ} {v : ν} (k : Kont X.K B rel φ H Q' Q) (hr : HR X.K B φ H S) (r : rel φ H d v) (q : Q' d S) : Q v H := k φ d S v H Ext.refl hr r q
theorem tabs_new {H : Hp} {p : Addr} {o : HO} {T : List (Addr × Str)} (hp : H p = none) (t : LamX.Tabs T H) : LamX.Tabs T (upd H p o) := t.ext fun b u z => by rw [upd_ne (ne_of_none z hp)]; exact z
theorem tabs_write {H : Hp} {a : Addr} {u o : HO} {T : List (Addr × Str)} (hu : H a = some u) (m : Mu u) (t : LamX.Tabs T H) : LamX.Tabs T (upd H a o) := fun p hp => tab_write hu m (t p hp)
theorem HR.new {p : Addr} {o : HO} {x : O} (hr : HR X.K B φ H S) (hp : H p = none) (h : RO X.K φ (upd H p o) x p) : HR X.K B (φ ++ [p]) (upd H p o) (S ++ [x]) :=
  hr.mono ((ext_new hp).trans ext_push) (hr.rel.push hp (h.mono (φ' := φ ++ [p]) ext_push fun _ z => z)) (tabs_new hp hr.tab)
theorem Kont.new {Q' : D → List O → Prop} {Q : VK} {p : Addr} {o : HO} {x : O} (k : Kont X.K B (rD X.K) φ H Q' Q) (hr : HR X.K B φ H S) (hp : H p = none) (h : RO X.K φ (upd H p o) x p) (q : Q' (.ref S.length) (S ++ [x])) : Q (.ref p) (upd H p o) :=
  k _ _ _ _ _ ((ext_new hp).trans ext_push) (hr.new hp h) (show RV X.K _ _ (.ref S.length) _ from ⟨p, by rw [← hr.rel.len]; simp, rfl⟩) q
theorem HR.tup {p : Addr} {vs : List V} (hr : HR X.K B φ H S) (hp : H p = none) : HR X.K B φ (upd H p (.tup vs)) S :=
  hr.mono (ext_new hp) (hr.rel.kept (ext_new hp) fun b u z => by rw [upd_ne (ne_of_none z hp)]; exact z) (tabs_new hp hr.tab)
theorem RV.tup_new {K : PySem.W.Frag} {p : Addr} {ds : List D} {vs : List V} (hp : H p = none) (r : RVs K φ H ds vs) : RV K φ (upd H p (.tup vs)) (.tup ds) (.ref p) :=
  ⟨p, vs, rfl, .inl (.inl upd_same), r.mono (ext_new hp)⟩
theorem Kont.tup {Q' : D → List O → Prop} {Q : VK} {p : Addr} {ds : List D} {vs : List V} (k : Kont X.K B (rD X.K) φ H Q' Q) (hr : HR X.K B φ H S) (hp : H p = none) (r : RVs X.K φ H ds vs) (q : Q' (.tup ds) S) : Q (.ref p) (upd H p (.tup vs)) :=
  k _ _ _ _ _ (ext_new hp) (hr.tup hp) (RV.tup_new hp r) q
/-- an object is written -/
theorem Kont.write {Q' : D → List O → Prop} {Q : VK} {a : Addr} {o : HO} {x y : O} {k' : Nat} {d : D} {v : V} (k : Kont X.K B (rD X.K) φ H Q' Q) (hr : HR X.K B φ H S) (hx : S[k']? = some x) (m : x.mut = true) (ha : φ[k']? = some a) (h : RO X.K φ (upd H a o) y a) (my : y.mut = true)
    (rv : ∀ H', Ext X.K φ φ H H' → RV X.K φ H' d v) (q : Q' d (S.set k' y)) : Q v (upd H a o) := by
  obtain ⟨a', h1, h2⟩ := hr.rel.ob k' x hx
  rw [ha] at h1; cases h1
  obtain ⟨u, hu, mu⟩ := h2.here m
  exact k _ _ _ _ _ (ext_write hu mu) (hr.mono (ext_write hu mu) (hr.rel.write hx m ha h my) (tabs_write hu mu hr.tab)) (rv _ (ext_write hu mu)) q
theorem HR.lst {k : Nat} {xs : List D} (hr : HR X.K B φ H S) (h : S[k]? = some (.lst xs)) : ∃ a vs, φ[k]? = some a ∧ H a = some (.lst vs) ∧ RVs X.K φ H xs vs :=
  let ⟨a, h1, vs, h2, h3⟩ := hr.rel.ob k _ h; ⟨a, vs, h1, h2, h3⟩
/-- a list at a number: one's own or a read-only one -/
def lstAt (S : List O) (k : Nat) : Option (List D) := match S[k]? with
  | some (.lst xs) => some xs
  | some (.fro xs) => some xs
  | _ => none
theorem HR.sql {k : Nat} {xs : List D} (hr : HR X.K B φ H S) (h : lstAt S k = some xs) : ∃ a vs, φ[k]? = some a ∧ SqL X.K H a vs ∧ RVs X.K φ H xs vs := by
  unfold lstAt at h
  split at h
  · rename_i xs' e
    cases h
    obtain ⟨a, vs, h1, h2, h3⟩ := hr.lst e
    exact ⟨a, vs, h1, .inl (.inl h2), h3⟩
  · rename_i xs' e
    cases h
    obtain ⟨a, h1, vs, h2, h3⟩ := hr.rel.ob k _ e
    exact ⟨a, vs, h1, h2.sql, h3⟩
  · cases h
end

/-! ### names, constants -/
section
variable {X : Cx} {B : Bs}
def qVar (i : Nat) : QE := fun s S Q => match s[i]? with
  | some (some d) => Q d S
  | _ => False
theorem le_var {e : Expr} {i : Nat} (h : PE X e (tVar i)) : LE X B e (qVar i) := PE.imp h fun σ H Q ⟨φ, s, S, Q', hr, ev, q, k⟩ => by
  unfold qVar at q
  split at q
  · rename_i d e
    obtain ⟨v, h1, h2⟩ := ev.at' i d e
    exact ⟨v, h1, k.here hr h2 q⟩
  · exact q.elim
theorem lv (i : Nat) {x : Str} {pos : Pos} (hN : X.N[i]? = some x := by rfl) (hv : Vis X.env.scope x := by first | exact Or.inl rfl | exact Or.inr (Or.inl rfl) | exact Or.inr (Or.inr rfl)) (hd : (x == ("__debug__" : Str)) = false := by decide)
    (hcd : (x == ("__classdict__" : Str)) = false := by decide) : LE X B (.Name x pos) (qVar i) := le_var (pe_var hN hv hd hcd)
def qC (d : D) : QE := fun _ S Q => Q d S
theorem le_c {e : Expr} {v : V} {d : D} (h : PE X e (tC v)) (r : ∀ φ H, RV X.K φ H d v) : LE X B e (qC d) := PE.imp h fun σ H Q ⟨φ, s, S, Q', hr, ev, q, k⟩ => k.here hr (r _ _) q
theorem le_int {i j pos} : LE X B (.Constant (.int i) j pos) (qC (.int i)) := le_c pe_int fun _ _ => rfl
theorem le_str {i j pos} : LE X B (.Constant (.str i) j pos) (qC (.str i)) := le_c pe_str fun _ _ => rfl
theorem le_bl {i j pos} : LE X B (.Constant (.bool i) j pos) (qC (.bl i)) := le_c pe_bl fun _ _ => rfl
theorem le_non {j pos} : LE X B (.Constant .none j pos) (qC .non) := le_c pe_non fun _ _ => rfl
/-- a module's name that holds an int, a text, an object -/
theorem le_glob {x : Str} {v : V} {d : D} {u : Value} {pos : Pos} (hg : Gl X x) (hm : X.mg x = some u) (r : RelV v u) (rd : ∀ φ H, RV X.K φ H d v) (hd : (x == ("__debug__" : Str)) = false := by decide) : LE X B (.Name x pos) (qC d) := le_c (pe_glob hg hm r hd) rd

/-! ### two places -/
abbrev QO := D → D → List O → (D → List O → Prop) → Prop
def upR (K : PySem.W.Frag) (B : Bs) (ro : QO) : R2 := fun x y H Q => ∃ φ S d e Q', HR K B φ H S ∧ RV K φ H d x ∧ RV K φ H e y ∧ ro d e S Q' ∧ Kont K B (rD K) φ H Q' Q
theorem OpR.imp {f : Value → Value → Sem Value} {r r' : R2} (h : OpR X f r) (i : ∀ x y H Q, r' x y H Q → r x y H Q) : OpR X f r' :=
  fun pins s σ H x y v u Q I rx ry q => h pins s σ H x y v u Q I rx ry (i _ _ _ _ q)
def qOp (ro : QO) (qa qb : QE) : QE := fun s S Q => qa s S fun x S1 => qb s S1 fun y S2 => ro x y S2 Q
theorem up_op {ro : QO} {qa qb : QE} {σ : L2.St} {H : Hp} {Q : VK} (h : UP X.K B (rD X.K) (qOp ro qa qb) σ H Q) : tOp (upR X.K B ro) (UP X.K B (rD X.K) qa) (UP X.K B (rD X.K) qb) σ H Q := by
  obtain ⟨φ, s, S, Q', hr, ev, q, k⟩ := h
  refine ⟨φ, s, S, _, hr, ev, q, fun φ1 d S1 v H1 e1 hr1 r1 q1 => ?_⟩
  refine ⟨φ1, s, S1, _, hr1, ev.mono e1, q1, fun φ2 d2 S2 v2 H2 e2 hr2 r2 q2 => ?_⟩
  exact ⟨φ2, S2, d, d2, Q', hr2, r1.mono e2, r2, q2, k.ext (e1.trans e2)⟩
variable {a b c : Expr} {qa qb qc : QE} {pos : Pos} {ro ro' : QO}
theorem le_op {op : Operator} (ho : OpR X (binaryOp op) (upR X.K B ro)) (ha : LE X B a qa) (hb : LE X B b qb) : LE X B (.BinOp a op b pos) (qOp ro qa qb) := PE.imp (pe_op ho ha hb) fun _ _ _ => up_op
theorem le_cmp {op : CmpOp} (ho : OpR X (compareOp op) (upR X.K B ro)) (ha : LE X B a qa) (hb : LE X B b qb) (hm : behindInMarks op b = false) : LE X B (.Compare a [op] [b] pos) (qOp ro qa qb) := PE.imp (pe_cmpR ho ha hb hm) fun _ _ _ => up_op
def qTest (q : QE) : QT := fun s S Q => q s S fun d S1 => match d with
  | .bl b => Q b S1
  | _ => False
theorem up_test {q : QE} {t : TE} (hi : ∀ σ H Q, UP X.K B (rD X.K) q σ H Q → t σ H Q) {σ : L2.St} {H : Hp} {Q : Bool → Hp → Prop} (h : UP X.K B rB (qTest q) σ H Q) : tTest t σ H Q := by
  obtain ⟨φ, s, S, Q', hr, ev, q, k⟩ := h
  refine hi _ _ _ ⟨φ, s, S, _, hr, ev, q, fun φ1 d S1 v H1 e1 hr1 r1 q1 => ?_⟩
  split at q1
  · rename_i b
    exact ⟨b, r1, k _ _ _ _ _ e1 hr1 rfl q1⟩
  · exact q1.elim
theorem lt_cmp {op : CmpOp} (ho : OpR X (compareOp op) (upR X.K B ro)) (ha : LE X B a qa) (hb : LE X B b qb) (hm : behindInMarks op b = false) : LT X B (.Compare a [op] [b] pos) (qTest (qOp ro qa qb)) := PT.imp (pt_cmpR ho ha hb hm) fun _ _ _ => up_test fun _ _ _ => up_op
/-- what is wanted where c is true, and where it is not -/
structure Sel (c : Bool) (a b : Prop) : Prop where
  t : c = true → a
  f : c = false → b
/-! ### whole numbers -/
def oI (C : Int → Int → Prop) (f : Int → Int → Int) : QO := fun d e S Q => match d, e with
  | .int i, .int j => C i j ∧ Q (.int (f i j)) S
  | _, _ => False
theorem lift_I {C : Int → Int → Prop} {f : Int → Int → Int} {x y : V} {H : Hp} {Q : VK} (h : upR X.K B (oI C f) x y H Q) : rI C (fun i j => .int (f i j)) x y H Q := by
  obtain ⟨φ, S, d, e, Q', hr, r1, r2, q, k⟩ := h
  unfold oI at q
  split at q
  · exact ⟨_, _, r1, r2, q.1, k.here (d := D.int _) hr rfl q.2⟩
  · exact q.elim
theorem oo_sub : OpR X (binaryOp .Sub) (upR X.K B (oI (fun _ _ => True) fun i j => i - j)) := OpR.imp op_sub fun _ _ _ _ h => let ⟨i, j, a, b, _, q⟩ := lift_I h; ⟨i, j, a, b, q⟩
theorem oo_fdiv : OpR X (binaryOp .FloorDiv) (upR X.K B (oI CDiv fun i j => i / j)) := OpR.imp op_fdiv fun _ _ _ _ => lift_I
theorem oo_mod : OpR X (binaryOp .Mod) (upR X.K B (oI (fun _ j => 0 < j) fun i j => i % j)) := OpR.imp op_mod fun _ _ _ _ => lift_I
theorem oo_pow : OpR X (binaryOp .Pow) (upR X.K B (oI CPow fun i j => i ^ j.toNat)) := OpR.imp op_pow fun _ _ _ _ => lift_I
/-- + of ints, texts, lists -/
def oAdd : QO := fun d e S Q => match d, e with
  | .int i, .int j => Q (.int (i + j)) S
  | .str i, .str j => i.length + j.length ≤ sizeLine ∧ Q (.str (i ++ j)) S
  | .ref i, .ref j => ∃ xs ys, S[i]? = some (.lst xs) ∧ S[j]? = some (.lst ys) ∧ xs.length + ys.length ≤ sizeLine ∧ Q (.ref S.length) (S ++ [.lst (xs ++ ys)])
  | _, _ => False
theorem oo_add : OpR X (binaryOp .Add) (upR X.K B oAdd) := OpR.imp (op_add.or (op_add_str.or op_cat)) fun x y H Q h => by
  obtain ⟨φ, S, d, e, Q', hr, r1, r2, q, k⟩ := h
  unfold oAdd at q
  split at q
  · exact .inl ⟨_, _, r1, r2, k.here (d := D.int _) hr rfl q⟩
  · exact .inr (.inl ⟨_, _, r1, r2, q.1, k.here (d := D.str _) hr rfl q.2⟩)
  · obtain ⟨xs, ys, h1, h2, hl, q⟩ := q
    obtain ⟨a, vs, a1, a2, a3⟩ := hr.lst h1
    obtain ⟨b, ws, b1, b2, b3⟩ := hr.lst h2
    obtain ⟨a', z1, rfl⟩ := r1
    obtain ⟨b', z2, rfl⟩ := r2
    rw [a1] at z1; cases z1
    rw [b1] at z2; cases z2
    exact .inr (.inr ⟨a, b, vs, ws, rfl, rfl, a2, b2, by rw [a3.len, b3.len]; exact hl, fun p hp => k.new (x := .lst _) hr hp ⟨_, upd_same, (a3.app b3).mono (ext_new hp)⟩ q⟩)
  · exact q.elim
def oIB (f : Int → Int → Bool) : QO := fun d e S Q => match d, e with
  | .int i, .int j => Q (.bl (f i j)) S
  | _, _ => False
theorem lift_IB {f : Int → Int → Bool} {x y : V} {H : Hp} {Q : VK} (h : upR X.K B (oIB f) x y H Q) : rI0 (fun i j => .bl (f i j)) x y H Q := by
  obtain ⟨φ, S, d, e, Q', hr, r1, r2, q, k⟩ := h
  unfold oIB at q
  split at q
  · exact ⟨_, _, r1, r2, k.here (d := D.bl _) hr rfl q⟩
  · exact q.elim
theorem oo_lt : OpR X (compareOp .Lt) (upR X.K B (oIB fun i j => decide (i < j))) := OpR.imp op_lt fun _ _ _ _ => lift_IB
theorem oo_gt : OpR X (compareOp .Gt) (upR X.K B (oIB fun i j => decide (j < i))) := OpR.imp op_gt fun _ _ _ _ => lift_IB
theorem oo_ge : OpR X (compareOp .GtE) (upR X.K B (oIB fun i j => decide (j ≤ i))) := OpR.imp op_ge fun _ _ _ _ => lift_IB
/-- is None -/
def D.isNon : D → Bool
  | .non => true
  | _ => false
theorem RV.isNon {K : PySem.W.Frag} {φ : List Addr} {H : Hp} {d : D} {v : V} (r : RV K φ H d v) : decide (v = .non) = d.isNon := by
  cases d with
  | non => cases r; rfl
  | bl _ => cases r; rfl
  | int _ => cases r; rfl
  | str _ => cases r; rfl
  | ty _ => cases r; rfl
  | adr _ => cases r; rfl
  | ref _ => obtain ⟨a, _, rfl⟩ := r; rfl
  | tup _ => obtain ⟨a, _, rfl, _⟩ := r; rfl
  | bad => exact r.elim
def oIs (neg : Bool) : QO := fun d e S Q => match e with
  | .non => Q (.bl (if neg then !d.isNon else d.isNon)) S
  | _ => False
theorem oo_is : OpR X (compareOp .Is) (upR X.K B (oIs false)) := OpR.imp op_isN fun x y H Q ⟨φ, S, d, e, Q', hr, r1, r2, q, k⟩ => by
  unfold oIs at q
  split at q
  · exact ⟨r2, by rw [r1.isNon]; exact k.here (d := D.bl _) hr rfl q⟩
  · exact q.elim
end
end LC

set_option Elab.async false
set_option linter.all false
set_option maxRecDepth 100000
set_option maxHeartbeats 5000000
/-! LC2: equality, membership, truth, displays, built-in calls, subscripts over data. -/
namespace LC
open PySem PySem.Spec
open PyProof.Rows L2

/-! ### == -/
section
variable (S : List O)
mutual
/-- d reads as the plain data p -/
def PyOf : PyData → D → Prop
  | .none, d => d = .non
  | .bool b, d => d = .bl b
  | .int i, d => d = .int i
  | .str x, d => d = .str x
  | .list ps, d => ∃ k xs, d = .ref k ∧ lstAt S k = some xs ∧ PyOfs ps xs
  | .tuple ps, d => ∃ xs, d = .tup xs ∧ PyOfs ps xs
  | .dict _, _ => False
def PyOfs : List PyData → List D → Prop
  | [], xs => xs = []
  | p :: ps, xs => ∃ d r, xs = d :: r ∧ PyOf p d ∧ PyOfs ps r
end
end
section
variable {X : Cx} {B : Bs} {φ : List Addr} {H : Hp} {S : List O}
mutual
theorem PyOf.dp (hr : HR X.K B φ H S) : ∀ {p : PyData} {d : D} {v : V}, PyOf S p d → RV X.K φ H d v → Dp X.K H v p
  | .none, _, _, e, r => by cases e; cases r; exact .non
  | .bool b, _, _, e, r => by cases e; cases r; exact .bl _
  | .int i, _, _, e, r => by cases e; cases r; exact .int _
  | .str x, _, _, e, r => by cases e; cases r; exact .str _
  | .list ps, _, _, ⟨k, xs, e, h1, h2⟩, r => by
    subst e
    obtain ⟨a, ea, rfl⟩ := r
    obtain ⟨b, vs, eb, h3, h4⟩ := hr.sql h1
    rw [ea] at eb; cases eb
    exact .lst h3 (PyOfs.dp hr h2 h4)
  | .tuple ps, _, _, ⟨xs, e, h2⟩, r => by
    subst e
    obtain ⟨a, vs, rfl, h3, h4⟩ := r
    exact .tup h3 (PyOfs.dp hr h2 h4)
  | .dict _, _, _, e, _ => e.elim
theorem PyOfs.dp (hr : HR X.K B φ H S) : ∀ {ps : List PyData} {ds : List D} {vs : List V}, PyOfs S ps ds → RVs X.K φ H ds vs → DpAll X.K H vs ps
  | [], _, _, e, r => by cases e; cases r; exact .nil
  | p :: ps, _, _, ⟨d, ds, e, h1, h2⟩, r => by
    subst e
    obtain ⟨v, ws, rfl, h3, h4⟩ := r
    exact .cons (PyOf.dp hr h1 h3) (PyOfs.dp hr h2 h4)
end
/-- scalars -/
def D.scal : D → D → Bool
  | .non, .non => true
  | .non, .int _ => true
  | .int _, .non => true
  | .non, .bl _ => true
  | .bl _, .non => true
  | .non, .str _ => true
  | .str _, .non => true
  | .int _, .int _ => true
  | .bl _, .bl _ => true
  | .str _, .str _ => true
  | .int _, .str _ => true
  | .str _, .int _ => true
  | .bl _, .str _ => true
  | .str _, .bl _ => true
  | _, _ => false
def D.seq : D → D → Bool
  | .non, .non => true
  | .int i, .int j => decide (i = j)
  | .bl i, .bl j => decide (i = j)
  | .str i, .str j => decide (i = j)
  | _, _ => false
theorem D.scal_ok {K : PySem.W.Frag} {φ : List Addr} {H : Hp} {d e : D} {x y : V} (h : D.scal d e = true) (r1 : RV K φ H d x) (r2 : RV K φ H e y) : L2.scal x y = true ∧ decide (x = y) = D.seq d e := by
  unfold D.scal at h
  split at h <;> first | (cases h; done) | (cases r1; cases r2; exact ⟨rfl, by simp [D.seq]⟩)
/-- ==, != -/
def oEq (neg : Bool) : QO := fun d e S Q => Sel (D.scal d e) (Q (.bl (if neg then !D.seq d e else D.seq d e)) S)
  (∃ p q, PyOf S p d ∧ PyOf S q e ∧ SeqAt.shaped p = true ∧ SeqAt.shaped q = true ∧ Q (.bl (if neg then !PyData.eqv p q else PyData.eqv p q)) S)
theorem oo_eq (hu : X.A.units + 64 < cLine) : OpR X (compareOp .Eq) (upR X.K B (oEq false)) := OpR.imp (op_eq.or (op_eqD hu)) fun x y H Q ⟨φ, S, d, e, Q', hr, r1, r2, q, k⟩ => by
  cases h : D.scal d e with
  | true =>
    have q := q.t h
    obtain ⟨h1, h2⟩ := D.scal_ok h r1 r2
    exact .inl ⟨h1, by rw [h2]; exact k.here (d := D.bl _) hr rfl q⟩
  | false =>
    obtain ⟨p, q', h1, h2, h3, h4, q⟩ := q.f h
    exact .inr ⟨p, q', h1.dp hr r1, h2.dp hr r2, h3, h4, k.here (d := D.bl _) hr rfl q⟩
theorem oo_ne (hu : X.A.units + 64 < cLine) : OpR X (compareOp .NotEq) (upR X.K B (oEq true)) := OpR.imp (op_ne.or (op_neD hu)) fun x y H Q ⟨φ, S, d, e, Q', hr, r1, r2, q, k⟩ => by
  cases h : D.scal d e with
  | true =>
    have q := q.t h
    obtain ⟨h1, h2⟩ := D.scal_ok h r1 r2
    exact .inl ⟨h1, by rw [h2]; exact k.here (d := D.bl _) hr rfl q⟩
  | false =>
    obtain ⟨p, q', h1, h2, h3, h4, q⟩ := q.f h
    exact .inr ⟨p, q', h1.dp hr r1, h2.dp hr r2, h3, h4, k.here (d := D.bl _) hr rfl q⟩

/-! ### in -/
/-- flat data -/
def D.flat : D → Bool
  | .non => true
  | .bl _ => true
  | .int _ => true
  | .str _ => true
  | _ => false
def D.feq : D → D → Bool
  | .non, .non => true
  | .bl a, .bl b => a == b
  | .bl p, .int z => (if p then 1 else 0) == z
  | .int z, .bl p => z == (if p then 1 else 0)
  | .int a, .int b => a == b
  | .str a, .str b => a == b
  | _, _ => false
theorem D.flat_ok {K : PySem.W.Frag} {φ : List Addr} {H : Hp} {d : D} {x : V} (h : D.flat d = true) (r : RV K φ H d x) : flatV x = true := by
  cases d <;> first | (cases h; done) | (cases r; rfl)
theorem D.feq_ok {K : PySem.W.Frag} {φ : List Addr} {H : Hp} {d e : D} {x y : V} (h : D.flat d = true) (h' : D.flat e = true) (r : RV K φ H d x) (r' : RV K φ H e y) : eqV x y = D.feq d e := by
  cases d <;> first | (cases h; done) | (cases e <;> first | (cases h'; done) | (cases r; cases r'; rfl))
theorem flats_ok {K : PySem.W.Frag} {φ : List Addr} {H : Hp} : ∀ {ds : List D} {vs : List V}, ds.all D.flat = true → RVs K φ H ds vs → vs.all flatV = true
  | [], _, _, r => (by cases r; rfl)
  | d :: ds, _, h, ⟨v, ws, e, r1, r2⟩ => by
    subst e
    rw [List.all_cons] at h
    rw [Bool.and_eq_true] at h
    rw [List.all_cons, D.flat_ok h.1 r1, flats_ok h.2 r2]; rfl
theorem inV_ok {K : PySem.W.Frag} {φ : List Addr} {H : Hp} {d : D} {x : V} (hf : D.flat d = true) (r : RV K φ H d x) : ∀ {ds : List D} {vs : List V}, ds.all D.flat = true → RVs K φ H ds vs → inV x vs = ds.any fun e => D.feq e d
  | [], _, _, r2 => by cases r2; rfl
  | e :: ds, _, h, ⟨v, ws, ee, r1, r2⟩ => by
    subst ee
    rw [List.all_cons] at h
    rw [Bool.and_eq_true] at h
    have ih := inV_ok hf r h.2 r2
    unfold inV at ih ⊢
    rw [List.any_cons, List.any_cons, ih, D.feq_ok h.1 hf r1 r]
/-- the items of a list or a tuple -/
def itemsOf (S : List O) : D → Option (List D)
  | .tup xs => some xs
  | .ref k => lstAt S k
  | _ => none
theorem HR.items (hr : HR X.K B φ H S) {d : D} {v : V} {xs : List D} (h : itemsOf S d = some xs) (r : RV X.K φ H d v) : ∃ p vs, v = .ref p ∧ (SqL X.K H p vs ∨ SqT X.K H p vs) ∧ RVs X.K φ H xs vs := by
  unfold itemsOf at h
  split at h
  · cases h
    obtain ⟨p, vs, rfl, h1, h2⟩ := r
    exact ⟨p, vs, rfl, .inr h1, h2⟩
  · obtain ⟨a, vs, h1, h2, h3⟩ := hr.sql h
    obtain ⟨b, e, rfl⟩ := r
    rw [h1] at e; cases e
    exact ⟨_, vs, rfl, .inl h2, h3⟩
  · cases h
/-- in a list, a tuple of flat data; a sign in a text -/
def oIn (neg : Bool) : QO := fun d e S Q => match e with
  | .str z => ∃ c, d = .str ⟨#[c]⟩ ∧ Q (.bl (if neg then !decide (c ∈ z.cps.toList) else decide (c ∈ z.cps.toList))) S
  | e => ∃ xs, itemsOf S e = some xs ∧ D.flat d = true ∧ xs.all D.flat = true ∧ Q (.bl (if neg then !(xs.any fun y => D.feq y d) else xs.any fun y => D.feq y d)) S
theorem lift_in {neg : Bool} {x y : V} {H : Hp} {Q : VK} (h : upR X.K B (oIn neg) x y H Q) : rIn X.K neg x y H Q ∨ ∃ (c : Nat) (z : Str), x = .str ⟨#[c]⟩ ∧ y = .str z ∧ Q (.bl (if neg then !decide (c ∈ z.cps.toList) else decide (c ∈ z.cps.toList))) H := by
  obtain ⟨φ, S, d, e, Q', hr, r1, r2, q, k⟩ := h
  unfold oIn at q
  split at q
  · obtain ⟨c, rfl, q⟩ := q
    exact .inr ⟨c, _, r1, r2, k.here (d := D.bl _) hr rfl q⟩
  · obtain ⟨xs, h1, h2, h3, q⟩ := q
    obtain ⟨p, vs, rfl, h4, h5⟩ := hr.items h1 r2
    exact .inl ⟨p, vs, rfl, h4, D.flat_ok h2 r1, flats_ok h3 h5, by rw [inV_ok h2 r1 h3 h5]; exact k.here (d := D.bl _) hr rfl q⟩
theorem oo_in : OpR X (compareOp .In) (upR X.K B (oIn false)) := OpR.imp (op_in_seq.or op_in_sign) fun _ _ _ _ => lift_in
end

/-! ### tests -/
section
variable {X : Cx} {B : Bs} {a b c : Expr} {qa qb qc : QE} {ta tb : QT} {pos : Pos} {rest : List Expr}
/-- truth -/
def qTruth (q : QE) : QT := fun s S Q => q s S fun d S1 => match d with
  | .bl b => Q b S1
  | .non => Q false S1
  | .int i => Q (i != 0) S1
  | .str x => x.length ≤ sizeLine ∧ Q ((x.length : Int) != 0) S1
  | .tup xs => Q (!xs.isEmpty) S1
  | .ref k => ∃ xs, lstAt S1 k = some xs ∧ Q (!xs.isEmpty) S1
  | _ => False
theorem RVs.isEmpty {K : PySem.W.Frag} {φ : List Addr} {H : Hp} {ds : List D} {vs : List V} (r : RVs K φ H ds vs) : vs.isEmpty = ds.isEmpty := by
  cases ds with
  | nil => cases r; rfl
  | cons d ds => obtain ⟨v, ws, rfl, _⟩ := r; rfl
theorem lt_truth (ha : LE X B a qa) (he : ∀ whole, isTrue a X.env whole = (do let v ← whole; standAt a.pos; holding [v] (truthy v)) := by intro _; rfl) : LT X B a (qTruth qa) := PT.imp (pt_truth ha he) fun σ H Q ⟨φ, s, S, Q', hr, ev, q, k⟩ => by
  refine ⟨φ, s, S, _, hr, ev, q, fun φ1 d S1 v H1 e1 hr1 r1 q1 => ?_⟩
  split at q1
  · cases r1; exact ⟨_, rfl, k _ _ _ _ _ e1 hr1 rfl q1⟩
  · cases r1; exact ⟨_, rfl, k _ _ _ _ _ e1 hr1 rfl q1⟩
  · cases r1; exact ⟨_, rfl, k _ _ _ _ _ e1 hr1 rfl q1⟩
  · cases r1; exact ⟨_, ⟨q1.1, rfl⟩, k _ _ _ _ _ e1 hr1 rfl q1.2⟩
  · obtain ⟨p, vs, rfl, h1, h2⟩ := r1
    exact ⟨_, .inr (.inl ⟨vs, h1, rfl⟩), k _ _ _ _ _ e1 hr1 (by rw [h2.isEmpty]) q1⟩
  · obtain ⟨xs, h0, q1⟩ := q1
    obtain ⟨a', ea, rfl⟩ := r1
    obtain ⟨b', vs, eb, h1, h2⟩ := hr1.sql h0
    rw [ea] at eb; cases eb
    exact ⟨_, .inl ⟨vs, h1, rfl⟩, k _ _ _ _ _ e1 hr1 (by rw [h2.isEmpty]) q1⟩
  · exact q1.elim
def qNot (t : QT) : QT := fun s S Q => t s S fun c S1 => Q (!c) S1
theorem lt_not (ha : LT X B a ta) : LT X B (.UnaryOp .Not a pos) (qNot ta) := PT.imp (pt_not ha) fun σ H Q ⟨φ, s, S, Q', hr, ev, q, k⟩ =>
  ⟨φ, s, S, _, hr, ev, q, fun φ1 d S1 v H1 e1 hr1 r1 q1 => k _ _ _ _ _ e1 hr1 (by rw [r1]) q1⟩
def qAnd (t u : QT) : QT := fun s S Q => t s S fun c S1 => Sel c (u s S1 Q) (Q false S1)
def qOr (t u : QT) : QT := fun s S Q => t s S fun c S1 => Sel c (Q true S1) (u s S1 Q)
theorem lw_and (ha : LT X B a ta) (hb : LW X B (.BoolOp .And (b :: rest) pos) tb) : LW X B (.BoolOp .And (a :: b :: rest) pos) (qAnd ta tb) := PW.imp (pw_and ha hb) fun σ H Q ⟨φ, s, S, Q', hr, ev, q, k⟩ =>
  ⟨φ, s, S, _, hr, ev, q, fun φ1 d S1 v H1 e1 hr1 r1 q1 => by
    cases r1
    cases d with
    | true => exact ⟨φ1, s, S1, Q', hr1, ev.mono e1, q1.t rfl, k.ext e1⟩
    | false => exact k _ _ _ _ _ e1 hr1 rfl (q1.f rfl)⟩
theorem lw_or (ha : LT X B a ta) (hb : LW X B (.BoolOp .Or (b :: rest) pos) tb) : LW X B (.BoolOp .Or (a :: b :: rest) pos) (qOr ta tb) := PW.imp (pw_or ha hb) fun σ H Q ⟨φ, s, S, Q', hr, ev, q, k⟩ =>
  ⟨φ, s, S, _, hr, ev, q, fun φ1 d S1 v H1 e1 hr1 r1 q1 => by
    cases r1
    cases d with
    | false => exact ⟨φ1, s, S1, Q', hr1, ev.mono e1, q1.f rfl, k.ext e1⟩
    | true => exact k _ _ _ _ _ e1 hr1 rfl (q1.t rfl)⟩
theorem lw_and1 (ha : LT X B a ta) : LW X B (.BoolOp .And [a] pos) ta := pw_and1 ha
theorem lw_or1 (ha : LT X B a ta) : LW X B (.BoolOp .Or [a] pos) ta := pw_or1 ha
theorem LW.t {q : QT} (h : LW X B a q) : LT X B a q := PW.pt h
/-- values of bools -/
def qAndV (qa qb : QE) : QE := fun s S Q => qa s S fun d S1 => match d with
  | .bl c => Sel c (qb s S1 Q) (Q (.bl false) S1)
  | _ => False
def qNotV (qa : QE) : QE := fun s S Q => qa s S fun d S1 => match d with
  | .bl c => Q (.bl (!c)) S1
  | _ => False
theorem le_one {op} (h : LE X B a qa) : LE X B (.BoolOp op [a] pos) qa := pe_one h
theorem le_and (ha : LE X B a qa) (hb : LE X B (.BoolOp .And (b :: rest) pos) qb) : LE X B (.BoolOp .And (a :: b :: rest) pos) (qAndV qa qb) := PE.imp (pe_and ha hb) fun σ H Q ⟨φ, s, S, Q', hr, ev, q, k⟩ =>
  ⟨φ, s, S, _, hr, ev, q, fun φ1 d S1 v H1 e1 hr1 r1 q1 => by
    split at q1
    · rename_i c
      cases r1
      refine ⟨c, rfl, ?_⟩
      cases c with
      | true => exact ⟨φ1, s, S1, Q', hr1, ev.mono e1, q1.t rfl, k.ext e1⟩
      | false => exact k _ (.bl false) _ _ _ e1 hr1 rfl (q1.f rfl)
    · exact q1.elim⟩
theorem le_not (ha : LE X B a qa) : LE X B (.UnaryOp .Not a pos) (qNotV qa) := PE.imp (pe_not ha) fun σ H Q ⟨φ, s, S, Q', hr, ev, q, k⟩ =>
  ⟨φ, s, S, _, hr, ev, q, fun φ1 d S1 v H1 e1 hr1 r1 q1 => by
    split at q1
    · cases r1; exact ⟨_, rfl, k _ (.bl _) _ _ _ e1 hr1 rfl q1⟩
    · exact q1.elim⟩
def qIf (t : QT) (qa qb : QE) : QE := fun s S Q => t s S fun c S1 => Sel c (qa s S1 Q) (qb s S1 Q)
theorem le_if (hc : LT X B c ta) (ha : LE X B a qa) (hb : LE X B b qb) : LE X B (.IfExp c a b pos) (qIf ta qa qb) := PE.imp (pe_ifExp hc ha hb) fun σ H Q ⟨φ, s, S, Q', hr, ev, q, k⟩ =>
  ⟨φ, s, S, _, hr, ev, q, fun φ1 d S1 v H1 e1 hr1 r1 q1 => by
    cases r1
    cases d with
    | false => exact ⟨φ1, s, S1, Q', hr1, ev.mono e1, q1.f rfl, k.ext e1⟩
    | true => exact ⟨φ1, s, S1, Q', hr1, ev.mono e1, q1.t rfl, k.ext e1⟩⟩
end

/-! ### argument lists, displays -/
section
variable {X : Cx} {B : Bs} {e : Expr} {es : List Expr} {qe : QE} {q : QA} {pos : Pos}
def qNil : QA := fun _ S Q => Q [] S
def qCons (qe : QE) (qr : QA) : QA := fun s S Q => qe s S fun d S1 => qr s S1 fun ds S2 => Q (d :: ds) S2
theorem la_nil : LA X B [] qNil := PA.imp pa_nil fun σ H Q ⟨φ, s, S, Q', hr, ev, q, k⟩ => k _ [] _ _ _ Ext.refl hr rfl q
theorem la_cons (ha : LE X B e qe) (hr : LA X B es q) (hs : starEach (e :: es) X.env = (false, eval e X.env) :: starEach es X.env := by rfl) : LA X B (e :: es) (qCons qe q) := PA.imp (pa_cons ha hr hs) fun σ H Q ⟨φ, s, S, Q', hr, ev, q, k⟩ =>
  ⟨φ, s, S, _, hr, ev, q, fun φ1 d S1 v H1 e1 hr1 r1 q1 => ⟨φ1, s, S1, _, hr1, ev.mono e1, q1, fun φ2 ds S2 vs H2 e2 hr2 r2 q2 =>
    k _ (d :: ds) _ _ _ (e1.trans e2) hr2 ⟨v, vs, rfl, r1.mono e2, r2⟩ q2⟩⟩
def qTup (q : QA) : QE := fun s S Q => q s S fun ds S1 => ds.length ≤ sizeLine ∧ Q (.tup ds) S1
def qLst (q : QA) : QE := fun s S Q => q s S fun ds S1 => ds.length ≤ sizeLine ∧ Q (.ref S1.length) (S1 ++ [.lst ds])
theorem le_tup {x1} (h : LA X B es q) : LE X B (.Tuple es x1 pos) (qTup q) := PE.imp (pe_tup h) fun σ H Q ⟨φ, s, S, Q', hr, ev, q, k⟩ =>
  ⟨φ, s, S, _, hr, ev, q, fun φ1 ds S1 vs H1 e1 hr1 r1 q1 => ⟨by rw [r1.len]; exact q1.1, fun p hp => (k.ext e1).tup hr1 hp r1 q1.2⟩⟩
theorem le_lst (h : LA X B es q) : LE X B (.List es pos) (qLst q) := PE.imp (pe_lst h) fun σ H Q ⟨φ, s, S, Q', hr, ev, q, k⟩ =>
  ⟨φ, s, S, _, hr, ev, q, fun φ1 ds S1 vs H1 e1 hr1 r1 q1 => ⟨by rw [r1.len]; exact q1.1, fun p hp => (k.ext e1).new (x := O.lst _) hr1 hp ⟨_, upd_same, r1.mono (ext_new hp)⟩ q1.2⟩⟩
end

/-! ### subscripts -/
section
variable {X : Cx} {B : Bs} {a b : Expr} {qa qb : QE} {pos : Pos}
theorem IxR.imp {r r' : R2} (h : IxR X r) (i : ∀ x y H Q, r' x y H Q → r x y H Q) : IxR X r' :=
  fun value slice pins s σ H x y v u Q I rx ry q hs => h value slice pins s σ H x y v u Q I rx ry (i _ _ _ _ q) hs
theorem RVs.atI {K : PySem.W.Frag} {φ : List Addr} {H : Hp} {ds : List D} {vs : List V} {i : Int} {d : D} (r : RVs K φ H ds vs) (h : L2.atI ds i = some d) : ∃ v, L2.atI vs i = some v ∧ RV K φ H d v := by
  unfold L2.atI at h ⊢
  rw [r.len]
  cases e : ixN ds.length i with
  | none => (rw [e] at h; cases h)
  | some j =>
    rw [e] at h
    obtain ⟨v, h1, h2⟩ := r.get (show ds[j]? = some d from h)
    exact ⟨v, h1, h2⟩
/-- a[i] of a list, a tuple, a text -/
def oIx : QO := fun d e S Q => match e with
  | .int i => match d with
    | .str z => z.length ≤ sizeLine ∧ ∃ c, L2.atI z.cps.toList i = some c ∧ Q (.str ⟨#[c]⟩) S
    | d => ∃ xs v, itemsOf S d = some xs ∧ L2.atI xs i = some v ∧ Q v S
  | _ => False
theorem ox_seq : IxR X (upR X.K B oIx) := IxR.imp ix_seq fun x y H Q ⟨φ, S, d, e, Q', hr, r1, r2, q, k⟩ => by
  unfold oIx at q
  split at q
  · cases r2
    split at q
    · cases r1
      obtain ⟨h1, c, h2, q⟩ := q
      exact .inr (.inr ⟨_, _, c, rfl, rfl, h1, h2, k.here (d := D.str _) hr rfl q⟩)
    · obtain ⟨xs, v, h1, h2, q⟩ := q
      obtain ⟨p, vs, rfl, h3, h4⟩ := hr.items h1 r1
      obtain ⟨w', h5, h6⟩ := h4.atI h2
      rcases h3 with h3 | h3
      · exact .inl ⟨p, vs, _, w', rfl, rfl, h3, h5, k.here hr h6 q⟩
      · exact .inr (.inl ⟨p, vs, _, w', rfl, rfl, h3, h5, k.here hr h6 q⟩)
  · exact q.elim
theorem le_ix {ro : QO} (hr : IxR X (upR X.K B ro)) (ha : LE X B a qa) (hb : LE X B b qb) (hs : PlainIx b := by intro _ _; rfl) : LE X B (.Subscript a b pos) (qOp ro qa qb) := PE.imp (pe_ix hr ha hb hs) fun _ _ _ => up_op
/-- slices -/
def cutD (xs : List D) (lo hi : Option Int) : List D := (xs.drop (HT.sIx xs.length 0 lo)).take (HT.sIx xs.length xs.length hi - HT.sIx xs.length 0 lo)
theorem RVs.cut {K : PySem.W.Frag} {φ : List Addr} {H : Hp} {ds : List D} {vs : List V} (lo hi : Option Int) (r : RVs K φ H ds vs) : RVs K φ H (cutD ds lo hi) (cutV vs lo hi) := by
  unfold cutD cutV
  rw [r.len]
  exact (r.drop _).take _
abbrev QP := Sl → List O → (Option Int → List O → Prop) → Prop
abbrev rP : List Addr → Hp → Option Int → Option Int → Prop := fun _ _ a b => a = b
abbrev LP (X : Cx) (B : Bs) (e : Option Expr) (q : QP) : Prop := PO X e (UP X.K B rP q)
theorem PO.imp {e : Option Expr} {t t' : TO} (h : PO X e t) (i : ∀ σ H Q, t' σ H Q → t σ H Q) : PO X e t' := ⟨fun pins s σ H Q I w => h.run pins s σ H Q I (i _ _ _ w)⟩
def qNoP : QP := fun _ S Q => Q none S
def qSomeP (q : QE) : QP := fun s S Q => q s S fun d S1 => match d with
  | .int i => Q (some i) S1
  | _ => False
theorem lp_none : LP X B none qNoP := PO.imp po_none fun σ H Q ⟨φ, s, S, Q', hr, ev, q, k⟩ => k.here hr rfl q
theorem lp_some (h : LE X B a qa) : LP X B (some a) (qSomeP qa) := PO.imp (po_some h) fun σ H Q ⟨φ, s, S, Q', hr, ev, q, k⟩ =>
  ⟨φ, s, S, _, hr, ev, q, fun φ1 d S1 v H1 e1 hr1 r1 q1 => by
    split at q1
    · cases r1; exact ⟨_, rfl, k _ _ _ _ _ e1 hr1 rfl q1⟩
    · exact q1.elim⟩
def oSl (d : D) (lo hi : Option Int) (S : List O) (Q : D → List O → Prop) : Prop := match d with
  | .str z => z.length ≤ sizeLine ∧ Q (.str (cutS z lo hi)) S
  | .tup xs => Q (.tup (cutD xs lo hi)) S
  | .ref k => ∃ xs, lstAt S k = some xs ∧ Q (.ref S.length) (S ++ [.lst (cutD xs lo hi)])
  | _ => False
def qSl (qa : QE) (ql qh : QP) : QE := fun s S Q => qa s S fun d S1 => ql s S1 fun lo S2 => qh s S2 fun hi S3 => oSl d lo hi S3 Q
def upSl (K : PySem.W.Frag) (B : Bs) : V → Option Int → Option Int → Hp → VK → Prop := fun x lo hi H Q => ∃ φ S d Q', HR K B φ H S ∧ RV K φ H d x ∧ oSl d lo hi S Q' ∧ Kont K B (rD K) φ H Q' Q
theorem SlR.imp {r r' : V → Option Int → Option Int → Hp → VK → Prop} (h : SlR X r) (i : ∀ x lo hi H Q, r' x lo hi H Q → r x lo hi H Q) : SlR X r' :=
  fun pins s σ H x v vl vu lo hi sl Q I rx hs pl pu q => h pins s σ H x v vl vu lo hi sl Q I rx hs pl pu (i _ _ _ _ _ q)
theorem cutD_whole (xs : List D) (lo hi : Option Int) (h : HT.sIx xs.length 0 lo = 0 ∧ HT.sIx xs.length xs.length hi = xs.length) : cutD xs lo hi = xs := by
  unfold cutD
  rw [h.1, h.2]
  simp
end
end LC

set_option Elab.async false
set_option linter.all false
set_option maxRecDepth 100000
set_option maxHeartbeats 5000000
/-! LC3: slices, built-in calls, methods of built-in types. -/
namespace LC
open PySem PySem.Spec
open PyProof.Rows L2

section
variable {X : Cx} {B : Bs} {a b e : Expr} {es : List Expr} {qa qb qe : QE} {pos p2 : Pos} {lo hi : Option Expr} {ql qh : QP} {q : QA}
theorem sl_any : SlR X (upSl X.K B) := SlR.imp (sl_list.or (sl_tupA.or sl_str)) fun x lo hi H Q ⟨φ, S, d, Q', hr, r, q, k⟩ => by
  unfold oSl at q
  split at q
  · cases r
    exact .inr (.inr ⟨_, rfl, q.1, k.here (d := D.str _) hr rfl q.2⟩)
  · rename_i xs
    obtain ⟨p, vs, rfl, h1, h2⟩ := r
    refine .inr (.inl ⟨p, vs, rfl, h1, fun hw => ?_, fun hw p' hp => k.tup hr hp (h2.cut lo hi) q⟩)
    rw [h2.len] at hw
    rw [cutD_whole xs lo hi hw] at q
    exact k.here (d := D.tup xs) hr (show RV _ _ _ _ _ from ⟨p, vs, rfl, h1, h2⟩) q
  · obtain ⟨xs, h0, q⟩ := q
    obtain ⟨a', ea, rfl⟩ := r
    obtain ⟨b', vs, eb, h1, h2⟩ := hr.sql h0
    rw [ea] at eb; cases eb
    exact .inl ⟨a', vs, rfl, h1, fun p hp => k.new (x := O.lst _) hr hp ⟨_, upd_same, (h2.cut lo hi).mono (ext_new hp)⟩ q⟩
  · exact q.elim
theorem le_slice (ha : LE X B e qa) (hl : LP X B lo ql) (hu : LP X B hi qh) : LE X B (.Subscript e (.Slice lo hi none p2) pos) (qSl qa ql qh) := PE.imp (pe_slice sl_any ha hl hu) fun σ H Q ⟨φ, s, S, Q', hr, ev, q, k⟩ =>
  ⟨φ, s, S, _, hr, ev, q, fun φ1 d S1 v H1 e1 hr1 r1 q1 => ⟨φ1, s, S1, _, hr1, ev.mono e1, q1, fun φ2 lo' S2 lo2 H2 e2 hr2 r2 q2 => ⟨φ2, s, S2, _, hr2, ev.mono (e1.trans e2), q2, fun φ3 hi' S3 hi2 H3 e3 hr3 r3 q3 => by
    cases r2
    cases r3
    exact ⟨φ3, S3, d, Q', hr3, r1.mono (e2.trans e3), q3, k.ext (e1.trans (e2.trans e3))⟩⟩⟩⟩

/-! ### calls of built-ins -/
abbrev QC := List D → List O → (D → List O → Prop) → Prop
def upC (K : PySem.W.Frag) (B : Bs) (rc : QC) : List V → Hp → VK → Prop := fun vs H Q => ∃ φ S ds Q', HR K B φ H S ∧ RVs K φ H ds vs ∧ rc ds S Q' ∧ Kont K B (rD K) φ H Q' Q
theorem CallR.imp {f : Value} {r r' : List V → Hp → VK → Prop} (h : CallR X f r) (i : ∀ x H Q, r' x H Q → r x H Q) : CallR X f r' :=
  fun pins s σ H x v Q I rx q => h pins s σ H x v Q I rx (i _ _ _ q)
def qCB (rc : QC) (q : QA) : QE := fun s S Q => q s S fun ds S1 => rc ds S1 Q
theorem up_cb {rc : QC} {q : QA} {σ : L2.St} {H : Hp} {Q : VK} (h : UP X.K B (rD X.K) (qCB rc q) σ H Q) : tCB (upC X.K B rc) (UP X.K B (rDs X.K) q) σ H Q := by
  obtain ⟨φ, s, S, Q', hr, ev, q, k⟩ := h
  exact ⟨φ, s, S, _, hr, ev, q, fun φ1 d S1 v H1 e1 hr1 r1 q1 => ⟨φ1, S1, d, Q', hr1, r1, q1, k.ext e1⟩⟩
theorem le_callB {x : Str} {p : Pos} {id : String} {rc : QC} (hc : CallR X (.builtin id) (upC X.K B rc)) (hg : Gl X x) (hm : X.mg x = none) (hv : bootBuiltins x = some (.builtin id)) (ha : LA X B (e :: es) q) (hn : x ≠ "__name__" := by decide) (hdb : (x == ("__debug__" : Str)) = false := by decide)
    (he : starEach (e :: es) X.env = (false, eval e X.env) :: starEach es X.env := by rfl) (hpl : (backTo pos (starEach es X.env)).any (·.1) = false := by rfl) : LE X B (.Call (.Name x p) (e :: es) [] pos) (qCB rc q) :=
  PE.imp (pe_callB hc hg hm hv ha hn hdb he hpl) fun _ _ _ => up_cb
theorem le_callTy {x : Str} {p : Pos} {T : String} {rc : QC} (hc : CallR X (.type T) (upC X.K B rc)) (hg : Gl X x) (hm : X.mg x = none) (hv : bootBuiltins x = some (.type T)) (ha : LA X B (e :: es) q) (hn : x ≠ "__name__" := by decide) (hdb : (x == ("__debug__" : Str)) = false := by decide)
    (he : starEach (e :: es) X.env = (false, eval e X.env) :: starEach es X.env := by rfl) (hpl : (backTo pos (starEach es X.env)).any (·.1) = false := by rfl) : LE X B (.Call (.Name x p) (e :: es) [] pos) (qCB rc q) :=
  PE.imp (pe_callTy hc hg hm hv ha hn hdb he hpl) fun _ _ _ => up_cb
/-- a built-in's name as a value -/
theorem le_ty {x : Str} {p : Pos} {T : String} (hg : Gl X x) (hm : X.mg x = none) (hv : bootBuiltins x = some (.type T)) (hn : x ≠ "__name__" := by decide) (hd : (x == ("__debug__" : Str)) = false := by decide) : LE X B (.Name x p) (qC (.ty T)) :=
  le_c (pe_bltn (v := .ty T) hg hm hv rfl hn hd) fun _ _ => rfl
/-- len -/
def rcLen : QC := fun ds S Q => match ds with
  | [.str z] => z.length ≤ sizeLine ∧ Q (.int z.length) S
  | [d] => ∃ xs, itemsOf S d = some xs ∧ Q (.int xs.length) S
  | _ => False
theorem cc_len : CallR X (.builtin "len") (upC X.K B rcLen) := CallR.imp (call_len_str.or call_len_seq) fun x H Q ⟨φ, S, ds, Q', hr, r, q, k⟩ => by
  unfold rcLen at q
  split at q
  · obtain ⟨v, w', rfl, r1, r2⟩ := r
    cases r1; cases r2
    exact .inl ⟨_, rfl, q.1, k.here (d := D.int _) hr rfl q.2⟩
  · obtain ⟨v, w', rfl, r1, r2⟩ := r
    cases r2
    obtain ⟨xs, h1, q⟩ := q
    obtain ⟨p, vs, rfl, h2, h3⟩ := hr.items h1 r1
    exact .inr ⟨p, vs, rfl, h2, by rw [h3.len]; exact k.here (d := D.int _) hr rfl q⟩
  · exact q.elim
def asBs : List D → Option (List Bool)
  | [] => some []
  | .bl b :: r => (asBs r).map (b :: ·)
  | _ => none
theorem asBs_ok {K : PySem.W.Frag} {φ : List Addr} {H : Hp} : ∀ {ds : List D} {vs : List V} {bs : List Bool}, asBs ds = some bs → RVs K φ H ds vs → vs = bs.map V.bl
  | [], _, _, h, r => by cases h; cases r; rfl
  | d :: ds, _, bs, h, ⟨v, ws, e, r1, r2⟩ => by
    subst e
    cases d <;> first | (cases h; done) | skip
    cases e2 : asBs ds with
    | none => simp [asBs, e2] at h
    | some cs =>
      simp [asBs, e2] at h
      subst h
      cases r1
      rw [asBs_ok e2 r2]; rfl
theorem asBs_map {α : Type} (f : α → Bool) (l : List α) : asBs (l.map fun x => D.bl (f x)) = some (l.map f) := by
  induction l with
  | nil => rfl
  | cons x r ih => simp [asBs, ih]
def rcAll (any : Bool) : QC := fun ds S Q => match ds with
  | [.ref k] => ∃ xs bs, lstAt S k = some xs ∧ asBs xs = some bs ∧ Q (.bl (if any then bs.any id else bs.all id)) S
  | _ => False
theorem lift_all {any : Bool} {x : List V} {H : Hp} {Q : VK} (h : upC X.K B (rcAll any) x H Q) : ∃ (a : Addr) (bs : List Bool), x = [V.ref a] ∧ SqL X.K H a (bs.map V.bl) ∧ Q (.bl (if any then bs.any id else bs.all id)) H := by
  obtain ⟨φ, S, ds, Q', hr, r, q, k⟩ := h
  unfold rcAll at q
  split at q
  · obtain ⟨v, w', rfl, r1, r2⟩ := r
    cases r2
    obtain ⟨xs, bs, h1, h2, q⟩ := q
    obtain ⟨a', ea, rfl⟩ := r1
    obtain ⟨b', vs, eb, h3, h4⟩ := hr.sql h1
    rw [ea] at eb; cases eb
    rw [asBs_ok h2 h4] at h3
    exact ⟨a', bs, rfl, h3, k.here (d := D.bl _) hr rfl q⟩
  · exact q.elim
theorem cc_all (hc : X.calm = true) : CallR X (.builtin "all") (upC X.K B (rcAll false)) := CallR.imp (cr_all hc) fun _ _ _ => lift_all
/-- list(..), tuple(..) of a list, a tuple -/
def rcList : QC := fun ds S Q => match ds with
  | [d] => ∃ xs, itemsOf S d = some xs ∧ Q (.ref S.length) (S ++ [.lst xs])
  | _ => False
theorem cc_list : CallR X (.type "list") (upC X.K B rcList) := CallR.imp call_list_of fun x H Q ⟨φ, S, ds, Q', hr, r, q, k⟩ => by
  unfold rcList at q
  split at q
  · obtain ⟨v, w', rfl, r1, r2⟩ := r
    cases r2
    obtain ⟨xs, h1, q⟩ := q
    obtain ⟨p, vs, rfl, h2, h3⟩ := hr.items h1 r1
    exact ⟨p, vs, rfl, h2, fun l hl => k.new (x := O.lst _) hr hl ⟨_, upd_same, h3.mono (ext_new hl)⟩ q⟩
  · exact q.elim
def rcTuple : QC := fun ds S Q => match ds with
  | [d] => ∃ xs, itemsOf S d = some xs ∧ Q (.tup xs) S
  | _ => False
theorem cc_tuple : CallR X (.type "tuple") (upC X.K B rcTuple) := CallR.imp call_tuple_of fun x H Q ⟨φ, S, ds, Q', hr, r, q, k⟩ => by
  unfold rcTuple at q
  split at q
  · obtain ⟨v, w', rfl, r1, r2⟩ := r
    cases r2
    obtain ⟨xs, h1, q⟩ := q
    obtain ⟨p, vs, rfl, h2, h3⟩ := hr.items h1 r1
    rcases h2 with h2 | h2
    · exact ⟨p, vs, rfl, .inl ⟨h2, fun l hl => k.tup hr hl h3 q⟩⟩
    · exact ⟨p, vs, rfl, .inr ⟨h2, k.here (d := D.tup xs) hr (show RV _ _ _ _ _ from ⟨p, vs, rfl, h2, h3⟩) q⟩⟩
  · exact q.elim
def rcStr : QC := fun ds S Q => match ds with
  | [.int i] => i.natAbs.log2 < 1920 ∧ Q (.str (toString i)) S
  | _ => False
theorem cc_str : CallR X (.type "str") (upC X.K B rcStr) := CallR.imp call_str_int fun x H Q ⟨φ, S, ds, Q', hr, r, q, k⟩ => by
  unfold rcStr at q
  split at q
  · obtain ⟨v, w', rfl, r1, r2⟩ := r
    cases r1; cases r2
    exact ⟨_, rfl, q.1, k.here (d := D.str _) hr rfl q.2⟩
  · exact q.elim
def rcDivmod : QC := fun ds S Q => match ds with
  | [.int i, .int j] => CDiv i j ∧ Q (.tup [.int (i / j), .int (i % j)]) S
  | _ => False
theorem cc_divmod : CallR X (.builtin "divmod") (upC X.K B rcDivmod) := CallR.imp call_divmod fun x H Q ⟨φ, S, ds, Q', hr, r, q, k⟩ => by
  unfold rcDivmod at q
  split at q
  · obtain ⟨v, w', rfl, r1, v2, w2, rfl, r2, r3⟩ := r
    cases r1; cases r2; cases r3
    exact ⟨_, _, rfl, q.1, fun p hp => k.tup (ds := [D.int _, D.int _]) hr hp ⟨_, _, rfl, rfl, _, _, rfl, rfl, rfl⟩ q.2⟩
  · exact q.elim
/-! ### isinstance -/
/-- what the written part says of an own class for isinstance -/
structure IsC (K : PySem.W.Frag) (C : Addr) : Prop where
  cl : Cls K C
  ha : PySem.W.findIn K (.ref C) "__class__" =
    some (some (.builtin "object.__class__"))
  hn : PySem.W.specialIn K (.builtin "object.__class__") "__get__" =
    some (some (.builtin "getset_descriptor.__get__"))
  htk : PySem.W.takesIn K (.builtin "object.__class__") =
    some true
  hm : PySem.W.mroIn K C (.type "object") =
    some true
def tyO : O → Option Value
  | .lst _ => some (.type "list")
  | .fro _ => some (.type "list")
  | .dK _ => some (.type "dict")
  | .dT _ => some (.type "dict")
  | .ins C _ => some (.ref C)
  | .non => none
def tyOf (S : List O) : D → Option Value
  | .non => some (.type "NoneType")
  | .bl _ => some (.type "bool")
  | .int _ => some (.type "int")
  | .str _ => some (.type "str")
  | .tup _ => some (.type "tuple")
  | .ref k => (S[k]?).bind tyO
  | _ => none
theorem tyOf_ok {φ : List Addr} {H : Hp} {S : List O} {d : D} {v : V} {t : Value} (hr : HR X.K B φ H S) (h : tyOf S d = some t) (hc : ∀ C, t = .ref C → IsC X.K C) (r : RV X.K φ H d v) : TyX X.K H v t := by
  cases d with
  | non => cases h; cases r; exact .base .non
  | bl _ => cases h; cases r; exact .base (.bl _)
  | int _ => cases h; cases r; exact .base (.int _)
  | str _ => cases h; cases r; exact .base (.str _)
  | tup xs =>
    cases h
    obtain ⟨p, vs, rfl, h1, h2⟩ := r
    rcases h1 with (h1 | ⟨o, h1⟩) | ⟨o, its, n, h1, h3, _⟩
    · exact .base (.tup h1)
    · exact .fTuple h1
    · exact .kTuple h1 h3
  | ref k =>
    obtain ⟨a, ea, rfl⟩ := r
    obtain ⟨o, e, h⟩ := Option.bind_eq_some_iff.mp (show (S[k]?).bind tyO = some t from h)
    obtain ⟨b, eb, ho⟩ := hr.rel.ob k _ e
    rw [ea] at eb; cases eb
    cases o with
    | lst xs => cases h; obtain ⟨vs, h1, h2⟩ := ho; exact .base (.lst h1)
    | fro xs =>
      cases h
      obtain ⟨vs, h1, h2⟩ := ho
      rcases h1 with ⟨o, h1⟩ | ⟨o, its, n, h1, h3, _⟩
      · exact .base (.frz h1)
      · exact .kList h1 h3
    | dK l => cases h; obtain ⟨vs, h1, h2⟩ := ho; exact .base (.dK h1)
    | dT l => cases h; obtain ⟨vs, h1, h2⟩ := ho; exact .base (.dT h1)
    | ins C fs =>
      cases h
      obtain ⟨dx, gs, h1, h2⟩ := ho
      have c := hc C rfl
      exact .base (.ins h1 c.cl c.ha c.hn c.htk c.hm)
    | non => cases h
  | ty _ => cases h
  | adr _ => cases h
  | bad => cases h
def clsOf : D → Option Value
  | .ty n => some (.type n)
  | .adr C => some (.ref C)
  | _ => none
theorem clsOf_ok {K : PySem.W.Frag} {φ : List Addr} {H : Hp} : ∀ {c : D} {v : V} {u : Value}, clsOf c = some u → RV K φ H c v → ClsV v u
  | .ty n, _, _, h, r => by cases h; cases r; exact .ty n
  | .adr C, _, _, h, r => by cases h; cases r; exact .own C
inductive rcIsi (K : PySem.W.Frag) : List D → List O → (D → List O → Prop) → Prop
  | mk {d c : D} {S : List O} {Q : D → List O → Prop} {t u : Value} {b : Bool} (h1 : tyOf S d = some t) (h2 : clsOf c = some u) (h3 : ∀ C, t = .ref C → IsC K C) (h4 : PySem.W.kitOne K t u = some b) (q : Q (.bl b) S) : rcIsi K [d, c] S Q
theorem cc_isi : CallR X (.builtin "isinstance") (upC X.K B (rcIsi X.K)) := CallR.imp call_isi fun x H Q ⟨φ, S, ds, Q', hr, r, q, k⟩ => by
  obtain ⟨h1, h2, h3, h4, q⟩ := q
  obtain ⟨v, w', rfl, r1, v2, w2, rfl, r2, r3⟩ := r
  cases r3
  exact ⟨v, v2, _, _, _, rfl, clsOf_ok h2 r2, tyOf_ok hr h1 h3 r1, h4, k.here (d := D.bl _) hr rfl q⟩

/-! ### methods -/
abbrev QM := D → List D → List O → (D → List O → Prop) → Prop
def upM (K : PySem.W.Frag) (B : Bs) (rm : QM) : V → List V → Hp → VK → Prop := fun x vs H Q => ∃ φ S d ds Q', HR K B φ H S ∧ RV K φ H d x ∧ RVs K φ H ds vs ∧ rm d ds S Q' ∧ Kont K B (rD K) φ H Q' Q
theorem MtR.imp {id : String} {r r' : V → List V → Hp → VK → Prop} (h : MtR X id r) (i : ∀ x xs H Q, r' x xs H Q → r x xs H Q) : MtR X id r' :=
  fun pins s σ H x xs v us Q I rx rs q => h pins s σ H x xs v us Q I rx rs (i _ _ _ _ q)
/-- a value of the built-in type T -/
def tyMO (T : String) : O → Prop
  | .lst _ => T = "list"
  | .fro _ => T = "list"
  | .dK _ => T = "dict"
  | .dT _ => T = "dict"
  | _ => False
def tyM (T : String) (d : D) (S : List O) : Prop := match d with
  | .str _ => T = "str"
  | .int _ => T = "int"
  | .ref k => ∃ o, S[k]? = some o ∧ tyMO T o
  | _ => False
theorem tyM_ok {T : String} {φ : List Addr} {H : Hp} {S : List O} {d : D} {v : V} (hr : HR X.K B φ H S) (h : tyM T d S) (r : RV X.K φ H d v) : tyV X.K T v H := by
  cases d with
  | str x => cases r; exact h
  | int x => cases r; exact h
  | ref k =>
    obtain ⟨a, ea, rfl⟩ := r
    obtain ⟨o, e, h⟩ := h
    obtain ⟨b, eb, ho⟩ := hr.rel.ob k _ e
    rw [ea] at eb; cases eb
    cases o with
    | lst xs => obtain ⟨vs, h1, h2⟩ := ho; exact .inl ⟨h, vs, .inl (.inl h1)⟩
    | fro xs => obtain ⟨vs, h1, h2⟩ := ho; exact .inl ⟨h, vs, h1.sql⟩
    | dK l => obtain ⟨vs, h1, h2⟩ := ho; exact .inr (.inr (.inl ⟨h, .inl ⟨vs, h1⟩⟩))
    | dT l => obtain ⟨vs, h1, h2⟩ := ho; exact .inr (.inr (.inl ⟨h, .inr ⟨vs, h1⟩⟩))
    | ins C fs => exact h.elim
    | non => exact h.elim
  | _ => exact h.elim
def qBM (T : String) (rm : QM) (qo : QE) (q : QA) : QE := fun s S Q => qo s S fun d S1 => tyM T d S1 ∧ q s S1 fun ds S2 => rm d ds S2 Q
theorem le_bm {T id : String} {rm : QM} {o : Expr} {qo : QE} {name : Str} {apos cpos : Pos} (pa : PlainAttrs T) (slot : Slot T name id) (hty : typeOf (.builtin id) = pure (.type "method_descriptor")) (hm : MtR X id (upM X.K B rm)) (ho : LE X B o qo) (ha : LA X B (e :: es) q)
    (hB0 :
      attributeBase o name X.env (eval o X.env) = eval o X.env := by rfl)
    (hF0 : ((backTo cpos (starEach (e :: es) X.env)).all (fun x => !x.1) && (backToKw cpos (keywordEach [] X.env)).all (fun x => x.1.isSome)  &&
      decide ((e :: es).length + ([] : List Keyword).length + (if ([] : List Keyword).isEmpty then 0 else 1) < 30)) = true := by rfl)
    (hL0 : (apos.endLine == cpos.line) = true := by rfl)
    (hs : starEach (e :: es) X.env = (false, eval e X.env) :: starEach es X.env := by rfl) (hP0 : (backTo cpos (starEach es X.env)).any (·.1) = false := by rfl) :
    LE X B (.Call (.Attribute o name apos) (e :: es) [] cpos) (qBM T rm qo q) := PE.imp (pe_bm pa slot hty hm ho ha hB0 hF0 hL0 hs hP0) fun σ H Q ⟨φ, s, S, Q', hr, ev, q, k⟩ =>
  ⟨φ, s, S, _, hr, ev, q, fun φ1 d S1 v H1 e1 hr1 r1 q1 => ⟨tyM_ok hr1 q1.1 r1, ⟨φ1, s, S1, _, hr1, ev.mono e1, q1.2, fun φ2 ds S2 vs H2 e2 hr2 r2 q2 => ⟨φ2, S2, d, ds, Q', hr2, r1.mono e2, r2, q2, k.ext (e1.trans e2)⟩⟩⟩⟩
theorem HR.lstW {φ : List Addr} {H : Hp} {S : List O} {k : Nat} {xs : List D} (hr : HR X.K B φ H S) (h : S[k]? = some (.lst xs)) {v : V} (r : RV X.K φ H (.ref k) v) : ∃ a vs, v = .ref a ∧ φ[k]? = some a ∧ H a = some (.lst vs) ∧ RVs X.K φ H xs vs := by
  obtain ⟨a, ea, rfl⟩ := r
  obtain ⟨b, vs, eb, h1, h2⟩ := hr.lst h
  rw [ea] at eb; cases eb
  exact ⟨a, vs, rfl, ea, h1, h2⟩
/-- append -/
def rmAppend : QM := fun d ds S Q => match d, ds with
  | .ref k, [x] => ∃ xs, S[k]? = some (.lst xs) ∧ xs.length < sizeLine ∧ Q .non (S.set k (.lst (xs ++ [x])))
  | _, _ => False
theorem mm_append : MtR X "list.append" (upM X.K B rmAppend) := MtR.imp mt_append fun x xs H Q ⟨φ, S, d, ds, Q', hr, r, rs, q, k⟩ => by
  unfold rmAppend at q
  split at q
  · obtain ⟨v, w', rfl, r1, r2⟩ := rs
    cases r2
    obtain ⟨ys, h1, h2, q⟩ := q
    obtain ⟨a, vs, rfl, ea, h3, h4⟩ := hr.lstW h1 r
    have e := ext_write (K := X.K) (φ := φ) (o := .lst (vs ++ [v])) h3 trivial
    exact ⟨a, vs, v, rfl, rfl, h3, by rw [h4.len]; exact h2, k.write (x := O.lst ys) (y := O.lst _) (d := D.non) hr h1 rfl ea ⟨_, upd_same, (RVs.app (es := [_]) (ws := [v]) h4 ⟨v, [], rfl, r1, rfl⟩).mono e⟩ rfl (fun _ _ => rfl) q⟩
  · exact q.elim
/-- join of texts -/
def asSs : List D → Option (List Str)
  | [] => some []
  | .str b :: r => (asSs r).map (b :: ·)
  | _ => none
theorem asSs_ok {K : PySem.W.Frag} {φ : List Addr} {H : Hp} : ∀ {ds : List D} {vs : List V} {bs : List Str}, asSs ds = some bs → RVs K φ H ds vs → vs = bs.map V.str
  | [], _, _, h, r => by cases h; cases r; rfl
  | d :: ds, _, bs, h, ⟨v, ws, e, r1, r2⟩ => by
    subst e
    cases d <;> first | (cases h; done) | skip
    cases e2 : asSs ds with
    | none => simp [asSs, e2] at h
    | some cs =>
      simp [asSs, e2] at h
      subst h
      cases r1
      rw [asSs_ok e2 r2]; rfl
end
end LC

set_option Elab.async false
set_option linter.all false
set_option maxRecDepth 100000
set_option maxHeartbeats 5000000
/-! LC4: targets, statements, calls of own defs, fields, instances. -/
namespace LC
open PySem PySem.Spec
open PyProof.Rows L2

/-! ### statements -/
section
variable {X : Cx} {B : Bs} {st : Stmt} {rest body : List Stmt} {qs qt : QS} {e : Expr} {qe : QE} {pos : Pos}
theorem EV.set {φ : List Addr} {H : Hp} {s : Sl} {σ : L2.St} {i : Nat} {d : D} {v : V} (ev : EV X.K φ H s σ) (r : RV X.K φ H d v) : EV X.K φ H (s.set i (some d)) (σ.set i (some v)) := by
  refine ⟨by simp [ev.len], fun j x q => ?_⟩
  by_cases hj : j = i
  · subst hj
    have hl : j < s.length := by
      have := (List.getElem?_eq_some_iff.mp q).1
      simpa using this
    rw [List.getElem?_set_self hl] at q
    cases q
    exact ⟨v, by rw [List.getElem?_set_self (by rw [ev.len]; exact hl)], r⟩
  · rw [List.getElem?_set_ne (Ne.symm hj)] at q
    obtain ⟨u, h1, h2⟩ := ev.at' j x q
    exact ⟨u, by rw [List.getElem?_set_ne (Ne.symm hj)]; exact h1, h2⟩
theorem EV.wipe {φ : List Addr} {H : Hp} {s : Sl} {σ : L2.St} {i : Nat} (ev : EV X.K φ H s σ) : EV X.K φ H (s.set i none) (σ.set i none) := by
  refine ⟨by simp [ev.len], fun j x q => ?_⟩
  by_cases hj : j = i
  · subst hj
    have hl : j < s.length := by
      have := (List.getElem?_eq_some_iff.mp q).1
      simpa using this
    rw [List.getElem?_set_self hl] at q
    cases q
  · rw [List.getElem?_set_ne (Ne.symm hj)] at q
    obtain ⟨u, h1, h2⟩ := ev.at' j x q
    exact ⟨u, by rw [List.getElem?_set_ne (Ne.symm hj)]; exact h1, h2⟩
def qNext : QS := fun D s S => D.nx s S
def qSeq (a b : QS) : QS := fun D s S => a { D with nx := b D } s S
theorem lss_nil : LSs X B [] qNext := PSs.imp pss_nil fun D σ H ⟨φ, s, S, D', hr, ev, q, ek⟩ => ek.nx _ _ _ _ _ Ext.refl hr ev q
theorem lss_cons (h1 : LS X B st qs) (h2 : LSs X B rest qt) : LSs X B (st :: rest) (qSeq qs qt) := PSs.imp (pss_cons h1 h2) fun D σ H ⟨φ, s, S, D', hr, ev, q, ek⟩ =>
  ⟨φ, s, S, { D' with nx := qt D' }, hr, ev, q, ⟨fun φ' H' S' s' σ' e' hr' ev' q' => ⟨φ', s', S', D', hr', ev', q', ek.ext e'⟩, ek.rt, ek.bk, ek.ct⟩⟩
def qDrop (qe : QE) : QS := fun D s S => qe s S fun _ S1 => D.nx s S1
theorem ls_expr (he : LE X B e qe) (hs : swapsWith e none pos.line X.env = pure false := by rfl) : LS X B (.Expr e pos) (qDrop qe) := PS.imp (ps_expr he hs) fun D σ H ⟨φ, s, S, D', hr, ev, q, ek⟩ =>
  ⟨φ, s, S, _, hr, ev, q, fun φ1 d S1 v H1 e1 hr1 r1 q1 => ek.nx _ _ _ _ _ e1 hr1 (ev.mono e1) q1⟩
def qRet (qe : QE) : QS := fun D s S => qe s S D.rt
theorem ls_ret (he : LE X B e qe) : LS X B (.Return (some e) pos) (qRet qe) := PS.imp (ps_ret he) fun D σ H ⟨φ, s, S, D', hr, ev, q, ek⟩ =>
  ⟨φ, s, S, _, hr, ev, q, fun φ1 d S1 v H1 e1 hr1 r1 q1 => ek.rt _ _ _ _ _ e1 hr1 r1 q1⟩
def qIfS (t : QT) (a b : QS) : QS := fun D s S => t s S fun c S1 => Sel c (a D s S1) (b D s S1)
theorem ls_if {c : Expr} {a b : List Stmt} {t : QT} {qa qb : QS} (hc : LT X B c t) (ha : LSs X B a qa) (hb : LSs X B b qb) : LS X B (.If c a b pos) (qIfS t qa qb) := PS.imp (ps_if hc ha hb) fun D σ H ⟨φ, s, S, D', hr, ev, q, ek⟩ =>
  ⟨φ, s, S, _, hr, ev, q, fun φ1 d S1 v H1 e1 hr1 r1 q1 => by
    cases r1
    cases d with
    | true => exact ⟨φ1, s, S1, D', hr1, ev.mono e1, q1.t rfl, ek.ext e1⟩
    | false => exact ⟨φ1, s, S1, D', hr1, ev.mono e1, q1.f rfl, ek.ext e1⟩⟩

/-! ### targets -/
abbrev QG := D → Sl → List O → (Sl → List O → Prop) → Prop
def KontG (K : PySem.W.Frag) (B : Bs) (φ : List Addr) (H : Hp) (Q' : Sl → List O → Prop) (Q : L2.St → Hp → Prop) : Prop :=
  ∀ φ' s' S' σ' H', Ext K φ φ' H H' → HR K B φ' H' S' → EV K φ' H' s' σ' → Q' s' S' → Q σ' H'
def UG (K : PySem.W.Frag) (B : Bs) (g : QG) : TG := fun v σ H Q => ∃ φ d s S Q', HR K B φ H S ∧ EV K φ H s σ ∧ RV K φ H d v ∧ g d s S Q' ∧ KontG K B φ H Q' Q
abbrev LG (X : Cx) (B : Bs) (e : Expr) (g : QG) : Prop := PG X e (UG X.K B g)
theorem PG.imp {e : Expr} {t t' : TG} (h : PG X e t) (i : ∀ v σ H Q, t' v σ H Q → t v σ H Q) : PG X e t' := ⟨fun pins s σ H v u Q I r w => h.run pins s σ H v u Q I r (i _ _ _ _ w)⟩
def qgName (i : Nat) : QG := fun d s S Q => Q (s.set i (some d)) S
theorem lg_name {i : Nat} {x : Str} (hN : X.N.Nodup) (hi : X.N[i]? = some x) (hx : Loc X.env.scope x := by first | exact .inl rfl | exact .inr rfl) (hf : X.fn x = true ∨ X.env.scope.names.lookup x = some .local := by first | exact .inl rfl | exact .inr rfl | assumption) : LG X B (.Name x pos) (qgName i) :=
  PG.imp (pg_name hN hi hx hf) fun v σ H Q ⟨φ, d, s, S, Q', hr, ev, r, q, k⟩ => k _ _ _ _ _ Ext.refl hr (ev.set r) q
/-- target = e -/
def qAsg (qe : QE) (g : QG) : QS := fun D s S => qe s S fun d S1 => g d s S1 D.nx
theorem up_asg {g : QG} {D : Ends} {σ : L2.St} {H : Hp} (h : US X.K B (qAsg qe g) D σ H) : tAsg (UP X.K B (rD X.K) qe) (UG X.K B g) D σ H := by
  obtain ⟨φ, s, S, D', hr, ev, q, ek⟩ := h
  exact ⟨φ, s, S, _, hr, ev, q, fun φ1 d S1 v H1 e1 hr1 r1 q1 => ⟨φ1, d, s, S1, D'.nx, hr1, ev.mono e1, r1, q1, fun φ2 s2 S2 σ2 H2 e2 hr2 ev2 q2 => ek.nx _ _ _ _ _ (e1.trans e2) hr2 ev2 q2⟩⟩
theorem ls_asg {tg : Expr} {g : QG} (he : LE X B e qe) (hg : LG X B tg g) (hs : swapsWithSole [tg] e pos.line X.env = pure false := by rfl) (hw : swappedStores [tg] e X.env = pure none := by rfl)
    (h1 : (assignEach [tg] X.env).map (·.2) = [assign tg X.env] := by rfl) : LS X B (.Assign [tg] e pos) (qAsg qe g) := PS.imp (ps_asg he hg hs hw h1) fun _ _ _ => up_asg
def qSet (i : Nat) (qe : QE) : QS := fun D s S => qe s S fun d S1 => D.nx (s.set i (some d)) S1
theorem ls_set (i : Nat) {x : Str} {pos' : Pos} (he : LE X B e qe) (hN : X.N.Nodup) (hi : X.N[i]? = some x := by rfl) (hx : Loc X.env.scope x := by first | exact .inl rfl | exact .inr rfl) (hs : swapsWith e (some (.Name x pos')) pos.line X.env = pure false := by rfl) (hf : X.fn x = true ∨ X.env.scope.names.lookup x = some .local := by first | exact .inl rfl | exact .inr rfl | assumption) :
    LS X B (.Assign [.Name x pos'] e pos) (qSet i qe) := PS.imp (ps_set hN hi hx he hs hf) fun D σ H ⟨φ, s, S, D', hr, ev, q, ek⟩ =>
  ⟨φ, s, S, _, hr, ev, q, fun φ1 d S1 v H1 e1 hr1 r1 q1 => ek.nx _ _ _ _ _ e1 hr1 ((ev.mono e1).set r1) q1⟩
/-- o[i] = .. -/
abbrev QSt := D → D → D → List O → (List O → Prop) → Prop
def upSet (K : PySem.W.Frag) (B : Bs) (t : QSt) : TSet := fun o i v H Q => ∃ φ S do' di dv Q', HR K B φ H S ∧ RV K φ H do' o ∧ RV K φ H di i ∧ RV K φ H dv v ∧ t do' di dv S Q' ∧ ∀ φ' S' H', Ext K φ φ' H H' → HR K B φ' H' S' → Q' S' → Q H'
theorem PSet.imp {t t' : TSet} (h : PSet X t) (i : ∀ o j v H Q, t' o j v H Q → t o j v H Q) : PSet X t' := fun pins s σ H o j v ov iv u Q I r1 r2 r3 w => h pins s σ H o j v ov iv u Q I r1 r2 r3 (i _ _ _ _ _ w)
def qgSub (qo qi : QE) (t : QSt) : QG := fun d s S Q => qo s S fun o S1 => qi s S1 fun i S2 => t o i d S2 fun S3 => Q s S3
theorem lg_sub {o i : Expr} {qo qi : QE} {t : QSt} (ho : LE X B o qo) (hi : LE X B i qi) (hs : PSet X (upSet X.K B t))
    (ha : ∀ v,
      assign (.Subscript o i pos) X.env v = (do
      let v1 ← holding [v] (eval o X.env); let v2 ← holding [v, v1] (eval i X.env)
      standAt pos
      holding [v, v1, v2] (setItem v1 v2 v)
      release [v, v1, v2] []) := by intro _; rfl) : LG X B (.Subscript o i pos) (qgSub qo qi t) := PG.imp (pg_sub ho hi hs ha) fun v σ H Q ⟨φ, d, s, S, Q', hr, ev, r, q, k⟩ =>
  ⟨φ, s, S, _, hr, ev, q, fun φ1 d1 S1 v1 H1 e1 hr1 r1 q1 => ⟨φ1, s, S1, _, hr1, ev.mono e1, q1, fun φ2 d2 S2 v2 H2 e2 hr2 r2 q2 =>
    ⟨φ2, S2, d1, d2, d, _, hr2, r1.mono e2, r2, r.mono (e1.trans e2), q2, fun φ3 S3 H3 e3 hr3 q3 => k _ _ _ _ _ (e1.trans (e2.trans e3)) hr3 (ev.mono (e1.trans (e2.trans e3))) q3⟩⟩⟩
def otList : QSt := fun o i d S Q => match o, i with
  | .ref k, .int z => ∃ xs j, S[k]? = some (.lst xs) ∧ ixN xs.length z = some j ∧ Q (S.set k (.lst (xs.set j d)))
  | _, _ => False
theorem HR.write {φ : List Addr} {H : Hp} {S : List O} {a : Addr} {o : HO} {x y : O} {k : Nat} (hr : HR X.K B φ H S) (hx : S[k]? = some x) (m : x.mut = true) (ha : φ[k]? = some a) (h : RO X.K φ (upd H a o) y a) (my : y.mut = true) : Ext X.K φ φ H (upd H a o) ∧ HR X.K B φ (upd H a o) (S.set k y) := by
  obtain ⟨a', h1, h2⟩ := hr.rel.ob k x hx
  rw [ha] at h1; cases h1
  obtain ⟨u, hu, mu⟩ := h2.here m
  exact ⟨ext_write hu mu, hr.mono (ext_write hu mu) (hr.rel.write hx m ha h my) (tabs_write hu mu hr.tab)⟩
theorem st_list : PSet X (upSet X.K B otList) := PSet.imp set_list fun o i v H Q ⟨φ, S, d1, d2, d3, Q', hr, r1, r2, r3, q, k⟩ => by
  unfold otList at q
  split at q
  · cases r2
    obtain ⟨xs, j, h1, h2, q⟩ := q
    obtain ⟨a, vs, rfl, ea, h3, h4⟩ := hr.lstW h1 r1
    have e := ext_write (K := X.K) (φ := φ) (o := .lst (vs.set j v)) h3 trivial
    obtain ⟨_, hr'⟩ := hr.write (x := O.lst xs) (y := O.lst (xs.set j d3)) h1 rfl ea ⟨_, upd_same, (RVs.set r3 j h4).mono e⟩ rfl
    exact ⟨a, vs, _, j, rfl, rfl, h3, by rw [h4.len]; exact h2, k _ _ _ e hr' q⟩
  · exact q.elim
end

/-! ### own defs: promises over data -/
abbrev EDt := Addr → List (Str × D) → List O → Prop
abbrev SpD := List D → List O → (D → List O → Prop) → EDt → Prop
/-- an exception of the class at C with its fields -/
def XRel (K : PySem.W.Frag) (φ : List Addr) (H : Hp) (C : Addr) (fs : List (Str × D)) (cls : Value) (d : Option Addr) : Prop := cls = .ref C ∧ ∃ dx gs, d = some dx ∧ H dx = some (.xd gs) ∧ RKV K φ H fs gs
def upF (K : PySem.W.Frag) (sp : SpD) : Sp := fun vs H Q E => ∃ φ ds S Q' E' T, Rel K φ H S ∧ RVs K φ H ds vs ∧ LamX.Tabs T H ∧ sp ds S Q' E' ∧ (∀ φ' d S' v H', Ext K φ φ' H H' → Rel K φ' H' S' → LamX.Tabs T H' → RV K φ' H' d v → Q' d S' → Q v H') ∧
  (∀ φ' C fs S' cls d H', Ext K φ φ' H H' → Rel K φ' H' S' → LamX.Tabs T H' → XRel K φ' H' C fs cls d → E' C fs S' → E cls d H')
/-- the wish about exceptions, with slots -/
abbrev WD := Addr → List (Str × D) → Sl → List O → Prop
def WL (K : PySem.W.Frag) (B : Bs) (W' : WD) (W : WX) : Prop := ∀ φ' C fs s S' cls d σ H', HR K B φ' H' S' → EV K φ' H' s σ → XRel K φ' H' C fs cls d → W' C fs s S' → W cls d σ H'
def W0 : WD := fun _ _ _ _ => False
theorem WL0 {X : Cx} {B : Bs} {W : WX} : WL X.K B W0 W := fun _ _ _ _ _ _ _ _ _ _ _ _ h => h.elim
section
variable {X : Cx} {B : Bs} {k : Nat} {f C : Addr} {fd : FuncData} {ps : List Str} {sp : SpD} {dds : List D} {dvs : List V} {ds : List Value} {W : WX} {W' : WD} {x m : Str} {p pos apos : Pos} {e o : Expr} {es : List Expr} {q : QA} {qo : QE}
def qCall (sp : SpD) (dds : List D) (W' : WD) (q : QA) : QE := fun s S Q => q s S fun ds S1 => sp (ds ++ dds) S1 Q fun C fs S' => W' C fs s S'
/-- data that stand for values anywhere -/
def RVc (K : PySem.W.Frag) (ds : List D) (vs : List V) : Prop := ∀ φ H, RVs K φ H ds vs
theorem RVc.nil {K : PySem.W.Frag} : RVc K [] [] := fun _ _ => rfl
theorem upF_at {φ : List Addr} {H : Hp} {S : List O} {s : Sl} {σ : L2.St} {ds : List D} {vs : List V} {Q' : D → List O → Prop} {Q : VK} (hr : HR X.K B φ H S) (ev : EV X.K φ H s σ) (r : RVs X.K φ H ds vs) (wl : WL X.K B W' W)
    (h : sp ds S Q' fun C fs S' => W' C fs s S') (k : Kont X.K B (rD X.K) φ H Q' Q) : upF X.K sp vs H Q (WE W σ) :=
  ⟨φ, ds, S, Q', _, B.T, hr.rel, r, hr.tab, h, fun φ' d S' v H' e1 r1 t1 rv q => k _ _ _ _ _ e1 (hr.mono e1 r1 t1) rv q, fun φ' C fs S' cls d H' e1 r1 t1 xr q => wl _ _ _ _ _ _ _ _ _ (hr.mono e1 r1 t1) (ev.mono e1) xr q⟩
theorem le_call (F : FnOk X.prog X.w X.K X.mg X.base (L2.CX X.prog X.w) k f fd ps (upF X.K sp)) (hr : Room k X.A) (hg : Gl X x) (hm : X.mg x = some (.ref f)) (hk : PySem.W.keepIn X.K (.ref f) = true) (hb : Binds X.K fd ps ds) (hd : Vals dvs ds) (hdd : RVc X.K dds dvs) (tk : Takes X W) (wl : WL X.K B W' W)
    (ha : LA X B (e :: es) q) (hdb : (x == ("__debug__" : Str)) = false := by decide) (he : starEach (e :: es) X.env = (false, eval e X.env) :: starEach es X.env := by rfl) (hpl : (backTo pos (starEach es X.env)).any (·.1) = false := by rfl) :
    LE X B (.Call (.Name x p) (e :: es) [] pos) (qCall sp dds W' q) := PE.imp (pe_callSD F hr hg hm hk hb hd (E := WE W) (fun σ => passAt tk σ) ha hdb he hpl) fun σ H Q ⟨φ, s, S, Q', hr, ev, q, k⟩ =>
  ⟨φ, s, S, _, hr, ev, q, fun φ1 ds S1 vs H1 e1 hr1 r1 q1 => upF_at hr1 (ev.mono e1) (r1.app (hdd _ _)) wl q1 (k.ext e1)⟩
theorem RKV.lookup {K : PySem.W.Frag} {φ : List Addr} {H : Hp} {m : Str} : ∀ {fs : List (Str × D)} {gs : List (Str × V)}, RKV K φ H fs gs → (match fs.lookup m with | some d => ∃ v, gs.lookup m = some v ∧ RV K φ H d v | none => gs.lookup m = none)
  | [], _, h => by cases h; rfl
  | (n, d) :: fs, _, ⟨v, r, e, h1, h2⟩ => by
    subst e
    have ih := RKV.lookup (m := m) h2
    by_cases hm : m = n
    · subst hm
      simp [List.lookup]
      exact h1
    · have hb : (m == n) = false := by simpa using hm
      simp only [List.lookup, hb]
      exact ih
theorem RKV.lookup_some {K : PySem.W.Frag} {φ : List Addr} {H : Hp} {m : Str} {d : D} {fs : List (Str × D)} {gs : List (Str × V)} (r : RKV K φ H fs gs) (h : fs.lookup m = some d) : ∃ v, gs.lookup m = some v ∧ RV K φ H d v := by
  have := RKV.lookup (m := m) r
  rw [h] at this
  exact this
/-! ### fields -/
end
end LC

set_option Elab.async false
set_option linter.all false
set_option maxRecDepth 100000
set_option maxHeartbeats 5000000
/-! LC5: what is dropped, loops, list comprehensions. -/
namespace LC
open PySem PySem.Spec
open PyProof.Rows L2

/-! ### data that speak of numbers below n alone -/
mutual
def D.lt (n : Nat) : D → Prop
  | .ref k => k < n
  | .tup xs => D.lts n xs
  | _ => True
def D.lts (n : Nat) : List D → Prop
  | [] => True
  | d :: r => D.lt n d ∧ D.lts n r
end
def kvLt {κ : Type} (n : Nat) : List (κ × D) → Prop
  | [] => True
  | p :: r => D.lt n p.2 ∧ kvLt n r
def O.lt (n : Nat) : O → Prop
  | .lst xs => D.lts n xs
  | .fro xs => D.lts n xs
  | .ins _ fs => kvLt n fs
  | .dK l => kvLt n l
  | .dT l => kvLt n l
  | .non => True
def Osl (n : Nat) : List O → Prop
  | [] => True
  | o :: r => O.lt n o ∧ Osl n r
/-! no numbers at all -/
mutual
def D.pure : D → Bool
  | .ref _ => false
  | .bad => false
  | .tup xs => D.pures xs
  | _ => true
def D.pures : List D → Bool
  | [] => true
  | d :: r => D.pure d && D.pures r
end
theorem D.lts_mem {n : Nat} {ds : List D} : D.lts n ds ↔ ∀ d ∈ ds, D.lt n d := by
  induction ds with
  | nil => exact ⟨fun _ d h => absurd h (List.not_mem_nil), fun _ => trivial⟩
  | cons d r ih =>
    constructor
    · rintro ⟨h1, h2⟩ x hx
      rcases (List.mem_cons).mp hx with rfl | hx
      · exact h1
      · exact ih.mp h2 x hx
    · intro h
      exact ⟨h d List.mem_cons_self, ih.mpr fun x hx => h x (List.mem_cons_of_mem _ hx)⟩
mutual
theorem D.lt.mono {n m : Nat} (hm : n ≤ m) : ∀ {d : D}, D.lt n d → D.lt m d
  | .ref _, h => Nat.lt_of_lt_of_le h hm
  | .tup _, h => D.lts.mono hm h
  | .non, _ => trivial
  | .bl _, _ => trivial
  | .int _, _ => trivial
  | .str _, _ => trivial
  | .ty _, _ => trivial
  | .adr _, _ => trivial
  | .bad, _ => trivial
theorem D.lts.mono {n m : Nat} (hm : n ≤ m) : ∀ {d : List D}, D.lts n d → D.lts m d
  | [], _ => trivial
  | _ :: _, h => ⟨D.lt.mono hm h.1, D.lts.mono hm h.2⟩
end
theorem kvLt.mono {κ : Type} {n m : Nat} (hm : n ≤ m) : ∀ {l : List (κ × D)}, kvLt n l → kvLt m l
  | [], _ => trivial
  | _ :: _, h => ⟨h.1.mono hm, kvLt.mono hm h.2⟩
theorem O.lt.mono {n m : Nat} (hm : n ≤ m) {o : O} (h : O.lt n o) : O.lt m o := by
  cases o with
  | lst xs => exact D.lts.mono hm h
  | fro xs => exact D.lts.mono hm h
  | ins C fs => exact kvLt.mono hm h
  | dK l => exact kvLt.mono hm h
  | dT l => exact kvLt.mono hm h
  | non => trivial
theorem Osl_mem {n : Nat} {S : List O} : Osl n S ↔ ∀ o ∈ S, O.lt n o := by
  induction S with
  | nil => exact ⟨fun _ d h => absurd h (List.not_mem_nil), fun _ => trivial⟩
  | cons d r ih =>
    constructor
    · rintro ⟨h1, h2⟩ x hx
      rcases (List.mem_cons).mp hx with rfl | hx
      · exact h1
      · exact ih.mp h2 x hx
    · intro h
      exact ⟨h d List.mem_cons_self, ih.mpr fun x hx => h x (List.mem_cons_of_mem _ hx)⟩
theorem Osl.mono {n m : Nat} (hm : n ≤ m) {S : List O} (h : Osl n S) : Osl m S := Osl_mem.mpr fun o ho => (Osl_mem.mp h o ho).mono hm
theorem Osl.app {n : Nat} {S T : List O} (h : Osl n S) (g : Osl n T) : Osl n (S ++ T) := Osl_mem.mpr fun o ho => (List.mem_append.mp ho).elim (Osl_mem.mp h o) (Osl_mem.mp g o)
theorem Osl.set {n k : Nat} {S : List O} {o : O} (h : Osl n S) (g : O.lt n o) : Osl n (S.set k o) := Osl_mem.mpr fun x hx => (List.mem_or_eq_of_mem_set hx).elim (Osl_mem.mp h x) fun e => e ▸ g

section
variable {K : PySem.W.Frag} {φ : List Addr} {H : Hp}
mutual
/-- with the first m addresses alone -/
theorem RV.cut {m : Nat} : ∀ {d : D} {v : V}, D.lt m d → RV K φ H d v → RV K (φ.take m) H d v
  | .non, _, _, h => h
  | .bl _, _, _, h => h
  | .int _, _, _, h => h
  | .str _, _, _, h => h
  | .ty _, _, _, h => h
  | .adr _, _, _, h => h
  | .ref k, _, l, ⟨a, h1, h2⟩ => ⟨a, by rw [List.getElem?_take_of_lt (show k < m from l)]; exact h1, h2⟩
  | .tup _, _, l, ⟨p, vs, h1, h2, h3⟩ => ⟨p, vs, h1, h2, RVs.cutA l h3⟩
  | .bad, _, _, h => h.elim
theorem RVs.cutA {m : Nat} : ∀ {ds : List D} {vs : List V}, D.lts m ds → RVs K φ H ds vs → RVs K (φ.take m) H ds vs
  | [], _, _, h => h
  | _ :: _, _, l, ⟨v, ws, h1, h2, h3⟩ => ⟨v, ws, h1, RV.cut l.1 h2, RVs.cutA l.2 h3⟩
end
theorem RKV.cut {κ : Type} {m : Nat} : ∀ {ds : List (κ × D)} {vs : List (κ × V)}, kvLt m ds → RKV K φ H ds vs → RKV K (φ.take m) H ds vs
  | [], _, _, h => h
  | _ :: _, _, l, ⟨v, ws, h1, h2, h3⟩ => ⟨v, ws, h1, RV.cut l.1 h2, RKV.cut l.2 h3⟩
theorem RO.cut {m : Nat} {o : O} {a : Addr} (l : O.lt m o) (h : RO K φ H o a) : RO K (φ.take m) H o a := by
  cases o with
  | lst xs => obtain ⟨vs, h1, h2⟩ := h; exact ⟨vs, h1, h2.cutA l⟩
  | fro xs => obtain ⟨vs, h1, h2⟩ := h; exact ⟨vs, h1, h2.cutA l⟩
  | ins C fs => obtain ⟨dx, gs, h1, h2⟩ := h; exact ⟨dx, gs, h1, h2.cut l⟩
  | dK l' => obtain ⟨mm, h1, h2⟩ := h; exact ⟨mm, h1, h2.cut l⟩
  | dT l' => obtain ⟨mm, h1, h2⟩ := h; exact ⟨mm, h1, h2.cut l⟩
  | non => trivial
theorem Rel.cut {S : List O} {m : Nat} (r : Rel K φ H S) (l : Osl m (S.take m)) : Rel K (φ.take m) H (S.take m) := by
  have tk : ∀ {α : Type} {l : List α} {i : Nat} {x : α}, (l.take m)[i]? = some x → i < m ∧ l[i]? = some x := fun {α l i x} h => by
    by_cases hi : i < m
    · exact ⟨hi, by rw [List.getElem?_take_of_lt hi] at h; exact h⟩
    · have := (List.getElem?_eq_some_iff.mp h).1
      rw [List.length_take] at this; omega
  refine ⟨fun i j a x y h1 h2 h3 h4 => r.nd i j a x y (tk h1).2 (tk h2).2 (tk h3).2 (tk h4).2, by rw [List.length_take, List.length_take, r.len], fun i o h => ?_⟩
  obtain ⟨a, h1, h2⟩ := r.ob i o (tk h).2
  exact ⟨a, by rw [List.getElem?_take_of_lt (tk h).1]; exact h1, h2.cut (Osl_mem.mp l o (List.mem_of_getElem? h))⟩
theorem Ext.cut {φ' : List Addr} {H' : Hp} {m : Nat} (e : Ext K φ φ' H H') (hm : φ.length ≤ m) : Ext K φ (φ'.take m) H H' := ⟨by
  obtain ⟨t, rfl⟩ := e.pre
  rw [List.take_append, List.take_of_length_le hm]
  exact List.prefix_append _ _, e.tup, e.xd⟩
mutual
theorem RV.lt : ∀ {d : D} {v : V}, RV K φ H d v → D.lt φ.length d
  | .non, _, _ => trivial
  | .bl _, _, _ => trivial
  | .int _, _, _ => trivial
  | .str _, _, _ => trivial
  | .ty _, _, _ => trivial
  | .adr _, _, _ => trivial
  | .ref k, _, ⟨a, h1, h2⟩ => (List.getElem?_eq_some_iff.mp h1).1
  | .tup _, _, ⟨p, vs, h1, h2, h3⟩ => RVs.lt h3
  | .bad, _, h => h.elim
theorem RVs.lt : ∀ {ds : List D} {vs : List V}, RVs K φ H ds vs → D.lts φ.length ds
  | [], _, h => trivial
  | _ :: _, _, ⟨v, ws, h1, h2, h3⟩ => ⟨RV.lt h2, RVs.lt h3⟩
end
theorem RKV.lt {κ : Type} : ∀ {ds : List (κ × D)} {vs : List (κ × V)}, RKV K φ H ds vs → kvLt φ.length ds
  | [], _, _ => trivial
  | _ :: _, _, ⟨v, ws, h1, h2, h3⟩ => ⟨RV.lt h2, RKV.lt h3⟩
theorem Rel.lt {S : List O} (r : Rel K φ H S) : Osl S.length S := Osl_mem.mpr fun o ho => by
  obtain ⟨i, hi⟩ := List.getElem?_of_mem ho
  obtain ⟨a, h1, h2⟩ := r.ob i o hi
  rw [← r.len]
  cases o with
  | lst xs => obtain ⟨vs, h1, h2⟩ := h2; exact h2.lt
  | fro xs => obtain ⟨vs, h1, h2⟩ := h2; exact h2.lt
  | ins C fs => obtain ⟨dx, gs, h1, h2⟩ := h2; exact h2.lt
  | dK l' => obtain ⟨mm, h1, h2⟩ := h2; exact h2.lt
  | dT l' => obtain ⟨mm, h1, h2⟩ := h2; exact h2.lt
  | non => trivial
end

/-! ### dropping what was made behind the n-th -/
def SlLe (m : Nat) : Sl → Sl → Prop
  | [], [] => True
  | none :: r, _ :: t => SlLe m r t
  | some d :: r, some e :: t => d = e ∧ D.lt m d ∧ SlLe m r t
  | _, _ => False
theorem EV.le {X : Cx} {φ : List Addr} {H : Hp} {m : Nat} : ∀ {s t : Sl} {σ : L2.St}, SlLe m s t → EV X.K φ H t σ → EV X.K (φ.take m) H s σ
  | [], [], σ, _, ev => ⟨ev.len, fun i d h => by simp at h⟩
  | none :: r, y :: t, σ, h, ev => by
    cases σ with
    | nil => have := ev.len; simp at this
    | cons x σ =>
      have ih := EV.le (σ := σ) (show SlLe m r t from h) ⟨by have := ev.len; simpa using this, fun i d q => ev.at' (i + 1) d (by simpa using q)⟩
      refine ⟨by have := ih.len; simp [this], fun i d q => ?_⟩
      cases i with
      | zero => simp at q
      | succ i => exact ih.at' i d (by simpa using q)
  | some d :: r, some e :: t, σ, ⟨h1, h2, h3⟩, ev => by
    subst h1
    cases σ with
    | nil => have := ev.len; simp at this
    | cons x σ =>
      have ih := EV.le (σ := σ) h3 ⟨by have := ev.len; simpa using this, fun i d q => ev.at' (i + 1) d (by simpa using q)⟩
      refine ⟨by have := ih.len; simp [this], fun i d' q => ?_⟩
      cases i with
      | zero =>
        have q' : d = d' := by simpa using q
        subst q'
        obtain ⟨v, e1, e2⟩ := ev.at' 0 d (by simp)
        exact ⟨v, e1, e2.cut h2⟩
      | succ i => exact ih.at' i d' (by simpa using q)
  | [], _ :: _, _, h, _ => h.elim
  | some _ :: _, [], _, h, _ => h.elim
  | some _ :: _, none :: _, _, h, _ => h.elim
  | none :: _, [], _, h, _ => h.elim
/-- P holds, or holds where all behind the m-th object is dropped -/
def Wk (n : Nat) (P : Sl → List O → Prop) (s : Sl) (S : List O) : Prop := P s S ∨ ∃ m s2, n ≤ m ∧ SlLe m s2 s ∧ Osl m (S.take m) ∧ P s2 (S.take m)
def WkO (n : Nat) (P : List O → Prop) (S : List O) : Prop := P S ∨ ∃ m, n ≤ m ∧ Osl m (S.take m) ∧ P (S.take m)
section
variable {X : Cx} {B : Bs}
theorem HR.cut {φ φ' : List Addr} {H H' : Hp} {S S' : List O} {m : Nat} (hr : HR X.K B φ H S) (e : Ext X.K φ φ' H H') (hr' : HR X.K B φ' H' S') (hm : S.length ≤ m) (l : Osl m (S'.take m)) : Ext X.K φ (φ'.take m) H H' ∧ HR X.K B (φ'.take m) H' (S'.take m) := by
  have e2 : Ext X.K φ (φ'.take m) H H' := e.cut (by rw [hr.rel.len]; exact hm)
  exact ⟨e2, hr.ext.trans e2, hr'.rel.cut l, hr'.tab⟩
theorem Wk.at {φ φ' : List Addr} {H H' : Hp} {S S' : List O} {P : Sl → List O → Prop} {s : Sl} {σ : L2.St} (hr : HR X.K B φ H S) (e : Ext X.K φ φ' H H') (hr' : HR X.K B φ' H' S') (ev : EV X.K φ' H' s σ) (w : Wk S.length P s S') :
    ∃ φ2 s2 S2, Ext X.K φ φ2 H H' ∧ HR X.K B φ2 H' S2 ∧ EV X.K φ2 H' s2 σ ∧ P s2 S2 := by
  rcases w with w | ⟨m, s2, h1, h2, h3, h4⟩
  · exact ⟨φ', s, S', e, hr', ev, w⟩
  · obtain ⟨e2, hr2⟩ := hr.cut e hr' h1 h3
    exact ⟨_, s2, _, e2, hr2, ev.le h2, h4⟩
theorem WkO.at {φ φ' : List Addr} {H H' : Hp} {S S' : List O} {P : List O → Prop} {n : Nat} (hn : S.length ≤ n) (hr : HR X.K B φ H S) (e : Ext X.K φ φ' H H') (hr' : HR X.K B φ' H' S') (w : WkO n P S') :
    ∃ φ2 S2, Ext X.K φ φ2 H H' ∧ HR X.K B φ2 H' S2 ∧ P S2 := by
  rcases w with w | ⟨m, h1, h3, h4⟩
  · exact ⟨φ', S', e, hr', w⟩
  · obtain ⟨e2, hr2⟩ := hr.cut e hr' (Nat.le_trans hn h1) h3
    exact ⟨_, _, e2, hr2, h4⟩

/-! ### what is walked -/
/-- J yields the values xs while keep stands -/
def ItOk (K : PySem.W.Frag) (B : Bs) (φ1 : List Addr) (H1 : Hp) (xs : List D) (keep : List O → Prop) (J : It) : Prop := ∀ (i : Nat) (φ : List Addr) (H : Hp) (S : List O), Ext K φ1 φ H1 H → HR K B φ H S → keep S →
  (i < xs.length → J.go i H) ∧ (i = xs.length → J.stop i H) ∧ ∀ x H' d, J.yld i H x H' → xs[i]? = some d → ∃ φ', Ext K φ φ' H H' ∧ HR K B φ' H' S ∧ RV K φ' H' d x
abbrev QI := Sl → List O → (List D → (List O → Prop) → List O → Prop) → Prop
def UI (K : PySem.W.Frag) (B : Bs) (q : QI) : TI := fun σ H R => ∃ φ s S R', HR K B φ H S ∧ EV K φ H s σ ∧ q s S R' ∧
  ∀ φ' xs keep S' J H', Ext K φ φ' H H' → HR K B φ' H' S' → ItOk K B φ' H' xs keep J → R' xs keep S' → R J H'
abbrev LI (X : Cx) (B : Bs) (tg iter : Expr) (q : QI) : Prop := PI X tg iter (UI X.K B q)
theorem PI.imp {tg iter : Expr} {t t' : TI} (h : PI X tg iter t) (i : ∀ σ H R, t' σ H R → t σ H R) : PI X tg iter t' := ⟨fun pins s σ H R I w => h.run pins s σ H R I (i _ _ _ w)⟩
variable {tg e : Expr} {qe : QE} {qa : QA} {p pos : Pos}
def qiTup (qe : QE) : QI := fun s S R => qe s S fun d S1 => match d with
  | .tup xs => R xs (fun _ => True) S1
  | _ => False
theorem li_tup (he : LE X B e qe) : LI X B tg e (qiTup qe) := PI.imp (pi_tup he) fun σ H R ⟨φ, s, S, R', hr, ev, q, k⟩ =>
  ⟨φ, s, S, _, hr, ev, q, fun φ1 d S1 v H1 e1 hr1 r1 q1 => by
    split at q1
    · obtain ⟨a, vs, rfl, h3, h4⟩ := r1
      refine ⟨a, rfl, ⟨vs, h3⟩, k _ _ _ _ _ _ e1 hr1 (fun i φ2 H2 S2 e2 hr2 hk => ?_) q1⟩
      have h5 := e2.tup _ _ h3
      have h6 := h4.mono e2
      refine ⟨fun hi => ⟨vs, vs[i]'(by rw [h6.len]; exact hi), h5, by simp [h6.len, hi]⟩, fun hi => ⟨vs, h5, by rw [h6.len, hi]; exact Nat.le_refl _⟩, fun x H' d y hd => ?_⟩
      obtain ⟨rfl, y⟩ := y
      obtain ⟨v, g1, g2⟩ := h6.get hd
      have := y vs h5
      rw [g1] at this; cases this
      exact ⟨φ2, Ext.refl, hr2, g2⟩
    · exact q1.elim⟩
/-- lo, lo + 1, .. -/
def rngD (lo : Int) (n : Nat) : List D := (List.range n).map fun i => D.int (lo + (i : Nat))
theorem rngD_get {lo : Int} {n i : Nat} {d : D} (h : (rngD lo n)[i]? = some d) : i < n ∧ d = .int (lo + i) := by
  unfold rngD at h
  rw [List.getElem?_map] at h
  by_cases hi : i < n
  · rw [List.getElem?_range hi] at h
    simp at h
    exact ⟨hi, h.symm⟩
  · rw [List.getElem?_eq_none (by simpa using hi)] at h; cases h
theorem rngD_len {lo : Int} {n : Nat} : (rngD lo n).length = n := by unfold rngD; simp
theorem itOk_rng {φ1 : List Addr} {H1 : Hp} (lo : Int) (n : Nat) : ItOk X.K B φ1 H1 (rngD lo n) (fun _ => True) (Itr lo n) := fun i φ H S e hr _ =>
  ⟨fun hi => by rw [rngD_len] at hi; exact hi, fun hi => by rw [rngD_len] at hi; exact Nat.le_of_eq hi.symm, fun x H' d y hd => by
    obtain ⟨rfl, rfl⟩ := y
    obtain ⟨_, rfl⟩ := rngD_get hd
    exact ⟨φ, Ext.refl, hr, rfl⟩⟩
def qiRng1 (qa : QA) : QI := fun s S R => qa s S fun ds S1 => match ds with
  | [.int j] => -(2 ^ 62) ≤ j ∧ j < 2 ^ 62 ∧ R (rngD 0 j.toNat) (fun _ => True) S1
  | _ => False
theorem li_rng1 {a : Expr} (hg : Gl X "range") (hm : X.mg "range" = none) (ha : LA X B [a] qa) (hs : starEach [a] X.env = [(false, eval a X.env)] := by rfl) : LI X B tg (.Call (.Name "range" p) [a] [] pos) (qiRng1 qa) := PI.imp (pi_range1 hg hm ha hs) fun σ H R ⟨φ, s, S, R', hr, ev, q, k⟩ =>
  ⟨φ, s, S, _, hr, ev, q, fun φ1 d S1 v H1 e1 hr1 r1 q1 => by
    split at q1
    · obtain ⟨v1, ws, rfl, r1, r2⟩ := r1
      cases r1; cases r2
      exact ⟨_, rfl, q1.1, q1.2.1, k _ _ _ _ _ _ e1 hr1 (itOk_rng 0 _) q1.2.2⟩
    · exact q1.elim⟩
/-! ### for -/
inductive forBody (g : QG) (qb : QS) (D : Ed) (s : Sl) (xs : List LC.D) (keep : List O → Prop) (S1 : List O) : Prop
  | mk (P : Nat → Sl → List O → Prop) (h0 : P 0 s S1) (hk : ∀ i s' S', i ≤ xs.length → P i s' S' → keep S')
    (st : ∀ i x s' S', xs[i]? = some x → P i s' S' → g x s' S' fun s2 S2 => qb { nx := Wk S1.length (P (i + 1)), ct := Wk S1.length (P (i + 1)), bk := D.nx, rt := D.rt } s2 S2)
    (he : ∀ s' S', P xs.length s' S' → D.nx s' S')
def qFor (qi : QI) (g : QG) (qb : QS) : QS := fun D s S => qi s S fun xs keep S1 => forBody g qb D s xs keep S1
theorem ls_for {iter : Expr} {body : List Stmt} {qi : QI} {g : QG} {qb : QS} (hp : PassesOwn (model X.prog X.w) X.A X.env X.xe) (hc : X.calm = true) (hi : LI X B tg iter qi) (hg : LG X B tg g) (hb : LSs X B body qb)
    (hs : ∀ x, foldedSetIterable iter X.env x = pure x := by intro _; rfl) : LS X B (.For tg iter body [] pos) (qFor qi g qb) := PS.imp (ps_for hp hc hi hg hb hs) fun D σ H ⟨φ, s, S, D', hr, ev, q, ek⟩ =>
  ⟨φ, s, S, _, hr, ev, q, fun φ1 xs keep S1 J H1 e1 hr1 ok q1 => by
    obtain ⟨P, p0, pk, ps, pe⟩ := q1
    refine ⟨fun i m σ H => m = xs.length - i ∧ i ≤ xs.length ∧ ∃ φ s S, Ext X.K φ1 φ H1 H ∧ HR X.K B φ H S ∧ EV X.K φ H s σ ∧ P i s S, ⟨xs.length, rfl, Nat.zero_le _, φ1, s, S1, Ext.refl, hr1, ev.mono e1, p0⟩, ?_⟩
    rintro i m σ2 H2 ⟨rfl, hi, φ2, s2, S2, e2, hr2, ev2, p2⟩
    have o := ok i φ2 H2 S2 e2 hr2 (pk i s2 S2 hi p2)
    by_cases hlt : i < xs.length
    · refine .inr ⟨o.1 hlt, fun σ' H' => ∃ φ s S, Ext X.K φ1 φ H1 H' ∧ HR X.K B φ H' S ∧ EV X.K φ H' s σ' ∧ P (i + 1) s S, fun σ' H' ⟨φ3, s3, S3, e3, hr3, ev3, p3⟩ => ⟨xs.length - (i + 1), by omega, rfl, hlt, φ3, s3, S3, e3, hr3, ev3, p3⟩, fun x H' y => ?_⟩
      have hx : xs[i]? = some xs[i] := List.getElem?_eq_getElem hlt
      obtain ⟨φ3, e3, hr3, r3⟩ := o.2.2 x H' _ y hx
      refine ⟨φ3, xs[i], s2, S2, _, hr3, ev2.mono e3, r3, ps i _ s2 S2 hx p2, fun φ4 s4 S4 σ4 H4 e4 hr4 ev4 q4 => ?_⟩
      refine ⟨φ4, s4, S4, _, hr4, ev4, q4, ?_⟩
      have e14 := e2.trans (e3.trans e4)
      exact ⟨fun φ' H' S' s' σ' e' hr' ev' w => Wk.at hr1 (e14.trans e') hr' ev' w, fun φ' H' S' d v e' hr' r w => ek.rt _ _ _ _ _ (e1.trans (e14.trans e')) hr' r w,
        fun φ' H' S' s' σ' e' hr' ev' w => ek.nx _ _ _ _ _ (e1.trans (e14.trans e')) hr' ev' w, fun φ' H' S' s' σ' e' hr' ev' w => Wk.at hr1 (e14.trans e') hr' ev' w⟩
    · have hi' : i = xs.length := by omega
      subst hi'
      exact .inl ⟨o.2.1 rfl, ek.nx _ _ _ _ _ (e1.trans e2) hr2 ev2 (pe s2 S2 p2)⟩⟩

/-! ### while -/
end
end LC

set_option Elab.async false
set_option linter.all false
set_option maxRecDepth 100000
set_option maxHeartbeats 5000000
/-! LC6: targets of names, list comprehensions, own defs. -/
namespace LC
open PySem PySem.Spec
open PyProof.Rows L2

/-! ### targets that are names, or tuples of such -/
inductive Tgt where
  | nm (i : Nat) | tp (ts : List Tgt)
mutual
def gT (K : PySem.W.Frag) : Tgt → TG
  | .nm i => gName i
  | .tp ts => gTup K ts.length (gTs K ts)
def gTs (K : PySem.W.Frag) : List Tgt → TGs
  | [] => gNil
  | t :: r => gCons (gT K t) (gTs K r)
end
mutual
def stT : Tgt → D → Sl → Option Sl
  | .nm i, d, s => some (s.set i (some d))
  | .tp ts, .tup xs, s => stTs ts xs s
  | .tp _, _, _ => none
def stTs : List Tgt → List D → Sl → Option Sl
  | [], [], s => some s
  | t :: ts, d :: ds, s => (stT t d s).bind (stTs ts ds)
  | _, _, _ => none
end
mutual
def Tgt.ix : Tgt → List Nat
  | .nm i => [i]
  | .tp ts => Tgt.ixs ts
def Tgt.ixs : List Tgt → List Nat
  | [] => []
  | t :: r => t.ix ++ Tgt.ixs r
end
theorem wipe_at {σ : L2.St} {j : Nat} : ∀ {vs : List Nat}, (wipe σ vs)[j]? = if j ∈ vs ∧ j < σ.length then some none else σ[j]?
  | [] => by simp [wipe]
  | v :: vs => by
    show ((wipe σ vs).set v none)[j]? = _
    by_cases hv : v = j
    · subst hv
      by_cases hl : v < σ.length
      · rw [List.getElem?_set_self (by rw [wipe_length]; exact hl), if_pos ⟨List.mem_cons_self, hl⟩]
      · rw [if_neg (fun h => hl h.2), List.getElem?_eq_none (by simp [wipe_length]; omega), List.getElem?_eq_none (by omega)]
    · rw [List.getElem?_set_ne hv, wipe_at (vs := vs)]
      by_cases hm : j ∈ vs ∧ j < σ.length
      · rw [if_pos hm, if_pos ⟨List.mem_cons_of_mem _ hm.1, hm.2⟩]
      · rw [if_neg hm, if_neg fun h => hm ⟨(List.mem_cons.mp h.1).resolve_left fun e => hv e.symm, h.2⟩]
theorem wipe_set {σ : L2.St} {i : Nat} {x : Option V} {vs : List Nat} (h : i ∈ vs) : wipe (σ.set i x) vs = wipe σ vs := by
  apply List.ext_getElem?
  intro j
  rw [wipe_at, wipe_at, List.length_set]
  by_cases hm : j ∈ vs ∧ j < σ.length
  · rw [if_pos hm, if_pos hm]
  · rw [if_neg hm, if_neg hm]
    by_cases hij : i = j
    · subst hij
      have hl : ¬ i < σ.length := fun q => hm ⟨h, q⟩
      rw [List.getElem?_eq_none (by simp; omega), List.getElem?_eq_none (by omega)]
    · rw [List.getElem?_set_ne hij]
section
variable {X : Cx} {B : Bs}
mutual
theorem gT_ok {φ : List Addr} {H : Hp} {vs : List Nat} : ∀ {t : Tgt} {d : D} {s s2 : Sl} {v : V} {σ : L2.St} {Q : L2.St → Hp → Prop}, stT t d s = some s2 → RV X.K φ H d v → EV X.K φ H s σ → (∀ i ∈ t.ix, i ∈ vs) → (∀ σ2, EV X.K φ H s2 σ2 → wipe σ2 vs = wipe σ vs → Q σ2 H) → gT X.K t v σ H Q
  | .nm i, d, s, _, v, σ, Q, h, r, ev, hi, q => by
    cases h
    exact q _ (ev.set r) (wipe_set (hi i (by simp [Tgt.ix])))
  | .tp ts, d, s, s2, v, σ, Q, h, r, ev, hi, q => by
    cases d with
    | tup xs =>
      obtain ⟨p, vs', rfl, h1, h2⟩ := r
      have hl := stTs_len h
      exact ⟨p, vs', rfl, h1, by rw [h2.len, hl], gTs_ok h h2 ev hi q⟩
    | _ => cases h
theorem gTs_ok {φ : List Addr} {H : Hp} {vs : List Nat} : ∀ {ts : List Tgt} {ds : List D} {s s2 : Sl} {us : List V} {σ : L2.St} {Q : L2.St → Hp → Prop}, stTs ts ds s = some s2 → RVs X.K φ H ds us → EV X.K φ H s σ → (∀ i ∈ Tgt.ixs ts, i ∈ vs) → (∀ σ2, EV X.K φ H s2 σ2 → wipe σ2 vs = wipe σ vs → Q σ2 H) → gTs X.K ts us σ H Q
  | [], [], s, s2, us, σ, Q, h, r, ev, hi, q => by
    cases h; cases r
    exact ⟨rfl, q _ ev rfl⟩
  | t :: ts, d :: ds, s, s2, us, σ, Q, h, r, ev, hi, q => by
    obtain ⟨v, ws, rfl, r1, r2⟩ := r
    cases e : stT t d s with
    | none => simp [stTs, e] at h
    | some s1 =>
      have h' : stTs ts ds s1 = some s2 := by simpa [stTs, e] using h
      exact ⟨v, ws, rfl, gT_ok e r1 ev (fun i m => hi i (by simp [Tgt.ixs, m])) fun σ1 ev1 w1 => gTs_ok h' r2 ev1 (fun i m => hi i (by simp [Tgt.ixs, m])) fun σ2 ev2 w2 => q σ2 ev2 (w2.trans w1)⟩
  | [], _ :: _, _, _, _, _, _, h, _, _, _, _ => by cases h
  | _ :: _, [], _, _, _, _, _, h, _, _, _, _ => by cases h
theorem stTs_len : ∀ {ts : List Tgt} {ds : List D} {s s2 : Sl}, stTs ts ds s = some s2 → ds.length = ts.length
  | [], [], _, _, _ => rfl
  | t :: ts, d :: ds, s, s2, h => by
    cases e : stT t d s with
    | none => simp [stTs, e] at h
    | some s1 =>
      have h' : stTs ts ds s1 = some s2 := by simpa [stTs, e] using h
      simp [stTs_len h']
  | [], _ :: _, _, _, h => by cases h
  | _ :: _, [], _, _, h => by cases h
end
/-- d goes to the target's names -/
def qgT (t : Tgt) : QG := fun d s S Q => ∃ s2, stT t d s = some s2 ∧ Q s2 S
theorem lg_T {tg : Expr} {t : Tgt} (h : PG X tg (gT X.K t)) : LG X B tg (qgT t) := PG.imp h fun v σ H Q ⟨φ, d, s, S, Q', hr, ev, r, ⟨s2, h1, q⟩, k⟩ =>
  gT_ok (vs := t.ix) h1 r ev (fun _ m => m) fun σ2 ev2 _ => k _ _ _ _ _ Ext.refl hr ev2 q
/-- a target of one name -/
theorem tg_nm (i : Nat) {x : Str} {pos : Pos} (hN : X.N.Nodup) (hi : X.N[i]? = some x := by rfl) (hx : Loc X.env.scope x := by first | exact .inl rfl | exact .inr rfl) (hf : X.fn x = true ∨ X.env.scope.names.lookup x = some .local := by first | exact .inl rfl | exact .inr rfl | assumption) : PG X (.Name x pos) (gT X.K (.nm i)) := pg_name hN hi hx hf
theorem tg_nil : PGs X [] (gTs X.K []) := pgs_nil
theorem tg_cons {e : Expr} {es : List Expr} {t : Tgt} {ts : List Tgt} (h1 : PG X e (gT X.K t)) (h2 : PGs X es (gTs X.K ts)) (hs : (assignEach (e :: es) X.env).map (·.2) = assign e X.env :: (assignEach es X.env).map (·.2) := by rfl) : PGs X (e :: es) (gTs X.K (t :: ts)) := pgs_cons h1 h2 hs
theorem tg_tp {es : List Expr} {k : Nat} {pos : Pos} {ts : List Tgt} (hc : X.calm = true) (h : PGs X es (gTs X.K ts)) (hn : (assignEach es X.env).length = ts.length := by rfl) (hst : (assignEach es X.env).findIdx? (·.1) = none := by rfl) : PG X (.Tuple es k pos) (gT X.K (.tp ts)) := pg_tup hc h hn hst

/-! ### list comprehensions -/
abbrev LTs (X : Cx) (B : Bs) (ifs : List Expr) (q : QT) : Prop := PTs X ifs (UP X.K B rB q)
def qYes : QT := fun _ S Q => Q true S
theorem PTs.imp {ifs : List Expr} {t t' : TT} (h : PTs X ifs t) (i : ∀ σ H Q, t' σ H Q → t σ H Q) : PTs X ifs t' := ⟨fun pins s σ H Q I w => h.run pins s σ H Q I (i _ _ _ w)⟩
theorem lts_nil : LTs X B [] qYes := PTs.imp pts_nil fun σ H Q ⟨φ, s, S, Q', hr, ev, q, k⟩ => k _ _ _ _ _ Ext.refl hr rfl q
theorem lts_one {c : Expr} {t : QT} (h : LT X B c t) : LTs X B [c] t := pts_one h
def wipeD (s : Sl) : List Nat → Sl
  | [] => s
  | v :: vs => (wipeD s vs).set v none
theorem EV.wipes {φ : List Addr} {H : Hp} {s : Sl} {σ : L2.St} (ev : EV X.K φ H s σ) : ∀ {vs : List Nat}, EV X.K φ H (wipeD s vs) (L2.wipe σ vs)
  | [] => ev
  | _ :: _ => (EV.wipes ev).wipe
/-- [e for t in .. if ..]: the new list stands at S1.length -/
inductive lcBody (t : Tgt) (qt : QT) (qe : QE) (vs : List Nat) (s : Sl) (Q : D → List O → Prop) (xs : List D) (keep : List O → Prop) (S1 : List O) : Prop
  | mk (P : Nat → List O → Prop) (h0 : P 0 (S1 ++ [.lst []])) (hk : ∀ i S', i ≤ xs.length → P i S' → keep S')
    (st : ∀ i x S', xs[i]? = some x → P i S' → ∃ s2, stT t x (wipeD s vs) = some s2 ∧ qt s2 S' fun b S3 => Sel b (qe s2 S3 fun y S4 => ∃ ys, S4[S1.length]? = some (.lst ys) ∧ ys.length < sizeLine ∧ WkO (S1.length + 1) (P (i + 1)) (S4.set S1.length (.lst (ys ++ [y]))))
      (WkO (S1.length + 1) (P (i + 1)) S3))
    (he : ∀ S', P xs.length S' → Q (.ref S1.length) S')
def qLc (qi : QI) (t : Tgt) (qt : QT) (qe : QE) (vs : List Nat) : QE := fun s S Q => qi s S fun xs keep S1 => lcBody t qt qe vs s Q xs keep S1
theorem up_lc {qi : QI} {t : Tgt} {qt : QT} {qe : QE} {vs : List Nat} (hv : ∀ i ∈ t.ix, i ∈ vs) {σ : L2.St} {H : Hp} {Q : VK} (h : UP X.K B (rD X.K) (qLc qi t qt qe vs) σ H Q) : tLc (UI X.K B qi) (gT X.K t) (UP X.K B rB qt) (UP X.K B (rD X.K) qe) vs σ H Q := by
  obtain ⟨φ, s, S, Q', hr, ev, q, k⟩ := h
  refine ⟨φ, s, S, _, hr, ev, q, fun φ1 xs keep S1 J H1 e1 hr1 ok q1 D hD => ?_⟩
  obtain ⟨P, p0, pk, ps, pe⟩ := q1
  have e2 : Ext X.K φ1 (φ1 ++ [D]) H1 (upd H1 D (.lst [])) := (ext_new hD).trans ext_push
  have hr2 : HR X.K B (φ1 ++ [D]) (upd H1 D (.lst [])) (S1 ++ [.lst []]) := hr1.new (x := O.lst []) hD ⟨[], upd_same, rfl⟩
  have hn : S1.length + 1 = (S1 ++ [O.lst []]).length := by simp
  have hDn : (φ1 ++ [D])[S1.length]? = some D := by rw [← hr1.rel.len]; simp
  refine ⟨fun i m H => m = xs.length - i ∧ i ≤ xs.length ∧ ∃ φ S, Ext X.K (φ1 ++ [D]) φ (upd H1 D (.lst [])) H ∧ HR X.K B φ H S ∧ P i S, ⟨xs.length, rfl, Nat.zero_le _, φ1 ++ [D], S1 ++ [.lst []], Ext.refl, hr2, p0⟩, ?_⟩
  rintro i m H2 ⟨rfl, hi, φ2, S2, e3, hr3, p2⟩
  have o := ok i φ2 H2 S2 (e2.trans e3) hr3 (pk i S2 hi p2)
  by_cases hlt : i < xs.length
  · refine .inr ⟨o.1 hlt, fun H' => ∃ φ S, Ext X.K (φ1 ++ [D]) φ (upd H1 D (.lst [])) H' ∧ HR X.K B φ H' S ∧ P (i + 1) S, fun H' ⟨φ3, S3, a1, a2, a3⟩ => ⟨xs.length - (i + 1), by omega, rfl, hlt, φ3, S3, a1, a2, a3⟩, fun x H' y => ?_⟩
    have hx : xs[i]? = some xs[i] := List.getElem?_eq_getElem hlt
    obtain ⟨φ3, e4, hr4, r4⟩ := o.2.2 x H' _ y hx
    obtain ⟨s2, hs2, q2⟩ := ps i _ S2 hx p2
    have ev4 : EV X.K φ3 H' (wipeD s vs) (wipe σ vs) := (ev.mono (e1.trans (e2.trans (e3.trans e4)))).wipes
    refine gT_ok (vs := vs) hs2 r4 ev4 hv fun σ5 ev5 w5 => ⟨?_, ?_⟩
    · rw [w5]
      have : ∀ (σ : L2.St), wipe (wipe σ vs) vs = wipe σ vs := fun σ => by
        apply List.ext_getElem?
        intro j
        rw [wipe_at, wipe_at, wipe_length]
        by_cases hm : j ∈ vs ∧ j < σ.length
        · simp [hm]
        · rw [if_neg hm]
      exact this σ
    · refine ⟨φ3, s2, S2, _, hr4, ev5, q2, fun φ6 b S6 v6 H6 e6 hr6 r6 q6 => ?_⟩
      cases r6
      have e06 := e3.trans (e4.trans e6)
      cases b with
      | false =>
        obtain ⟨φ7, S7, a1, a2, a3⟩ := WkO.at (Nat.le_of_eq hn.symm) hr2 e06 hr6 (q6.f rfl)
        exact ⟨φ7, S7, a1, a2, a3⟩
      | true =>
        refine ⟨φ6, s2, S6, _, hr6, ev5.mono e6, q6.t rfl, fun φ7 y S7 v7 H7 e7 hr7 r7 q7 => ?_⟩
        obtain ⟨ys, h8, h9, wk⟩ := q7
        have e07 := e06.trans e7
        obtain ⟨a, acc, ea, h10, h11⟩ := hr7.lst h8
        have : a = D := by
          have := e07.get hDn
          rw [ea] at this; exact Option.some.inj this
        subst this
        refine ⟨acc, h10, by rw [h11.len]; exact h9, ?_⟩
        have e8 := ext_write (K := X.K) (φ := φ7) (o := .lst (acc ++ [v7])) h10 trivial
        obtain ⟨_, hr8⟩ := hr7.write (o := .lst (acc ++ [v7])) (x := O.lst ys) (y := O.lst (ys ++ [y])) h8 rfl ea ⟨_, upd_same, (RVs.app (es := [y]) (ws := [v7]) h11 ⟨v7, [], rfl, r7, rfl⟩).mono e8⟩ rfl
        obtain ⟨φ9, S9, a1, a2, a3⟩ := WkO.at (Nat.le_of_eq hn.symm) hr2 (e07.trans e8) hr8 wk
        exact ⟨φ9, S9, a1, a2, a3⟩
  · have hi' : i = xs.length := by omega
    subst hi'
    exact .inl ⟨o.2.1 rfl, k _ (.ref S1.length) _ _ _ (e1.trans (e2.trans e3)) hr3 (show RV _ _ _ _ _ from ⟨D, e3.get hDn, rfl⟩) (pe S2 p2)⟩
section
variable {elt tg iter : Expr} {ifs : List Expr} {scope : Scope} {own : List (Str × Nat)} {pos : Pos} {qi : QI} {t : Tgt} {qt : QT} {qe : QE}
/-- the block's context -/
abbrev Blk (X : Cx) (scope : Scope) (C : Cx → Prop) : Prop := ∀ (s : Shared) (H : Hp) (A : Addr) (cl : List (Str × Addr)) (fp : List Addr), C (X.blk s H scope (compEnvC scope cl A X.env) fp)
theorem le_lc (own : List (Str × Nat)) (t : Tgt) (hc : X.calm = true) (hN : X.N.Nodup) (hi : LI X B tg iter qi) (ok : BlkOk X.N X.env.scope scope own)
    (hg : Blk X scope fun Y => PG Y tg (gT X.K t)) (ht : Blk X scope fun Y => LTs Y B ifs qt) (he : Blk X scope fun Y => LE Y B elt qe) (hv : ∀ i ∈ t.ix, i ∈ own.map (·.2) := by decide) (hs : ∀ x, foldedSetIterable iter X.env x = pure x := by intro _; rfl) :
    LE X B (.ListComp elt [⟨tg, iter, ifs, 0⟩] scope pos) (qLc qi t qt qe (own.map (·.2))) := PE.imp (pe_lc hc hN hi ok hg ht he hs) fun _ _ _ => up_lc hv
end
end

/-! ### own defs -/
/-- numbers exchanged: j stands for the number at j of sel -/
def subN (sel : List Nat) (j : Nat) : D := match sel[j]? with
  | some k => .ref k
  | none => .bad
mutual
def D.sub (sel : List Nat) : D → D
  | .ref j => subN sel j
  | .tup xs => .tup (D.subs sel xs)
  | .non => .non
  | .bl b => .bl b
  | .int i => .int i
  | .str x => .str x
  | .ty n => .ty n
  | .adr a => .adr a
  | .bad => .bad
def D.subs (sel : List Nat) : List D → List D
  | [] => []
  | d :: r => D.sub sel d :: D.subs sel r
end
def kvSub {κ : Type} (sel : List Nat) : List (κ × D) → List (κ × D)
  | [] => []
  | p :: r => (p.1, D.sub sel p.2) :: kvSub sel r
def O.sub (sel : List Nat) : O → O
  | .lst xs => .lst (D.subs sel xs)
  | .fro xs => .fro (D.subs sel xs)
  | .ins C fs => .ins C (kvSub sel fs)
  | .dK l => .dK (kvSub sel l)
  | .dT l => .dT (kvSub sel l)
  | .non => .non
/-- the addresses that are kept -/
def pick (φ : List Addr) (sel : List Nat) : List Addr := sel.filterMap fun k => φ[k]?
theorem pick_get {φ : List Addr} : ∀ {sel : List Nat} (h : ∀ k ∈ sel, k < φ.length) (j : Nat), (pick φ sel)[j]? = (sel[j]?).bind fun k => φ[k]?
  | [], _, j => by simp [pick]
  | k :: r, h, j => by
    have hk : k < φ.length := h k List.mem_cons_self
    have e : pick φ (k :: r) = φ[k] :: pick φ r := by unfold pick; rw [List.filterMap_cons, List.getElem?_eq_getElem hk]
    rw [e]
    cases j with
    | zero => simp [hk]
    | succ j => simpa using pick_get (fun k' hk' => h k' (List.mem_cons_of_mem _ hk')) j
theorem pick_len {φ : List Addr} : ∀ {sel : List Nat} (h : ∀ k ∈ sel, k < φ.length), (pick φ sel).length = sel.length
  | [], _ => rfl
  | k :: r, h => by
    have hk : k < φ.length := h k List.mem_cons_self
    have e : pick φ (k :: r) = φ[k] :: pick φ r := by unfold pick; rw [List.filterMap_cons, List.getElem?_eq_getElem hk]
    rw [e, List.length_cons, List.length_cons, pick_len fun k' hk' => h k' (List.mem_cons_of_mem _ hk')]
section
variable {K : PySem.W.Frag} {φ : List Addr} {H : Hp} {sel : List Nat}
mutual
theorem RV.unsub (h : ∀ k ∈ sel, k < φ.length) : ∀ {d : D} {v : V}, RV K φ H (D.sub sel d) v → RV K (pick φ sel) H d v
  | .ref j, v, r => by
    have r' : RV K φ H (subN sel j) v := r
    unfold subN at r'
    split at r'
    · rename_i k e
      obtain ⟨a, h1, h2⟩ := r'
      exact ⟨a, by rw [pick_get h, e]; exact h1, h2⟩
    · exact r'.elim
  | .tup xs, _, ⟨p, vs, h1, h2, h3⟩ => ⟨p, vs, h1, h2, RVs.unsub h h3⟩
  | .non, _, r => r
  | .bl _, _, r => r
  | .int _, _, r => r
  | .str _, _, r => r
  | .ty _, _, r => r
  | .adr _, _, r => r
  | .bad, _, r => r.elim
theorem RVs.unsub (h : ∀ k ∈ sel, k < φ.length) : ∀ {d : List D} {v : List V}, RVs K φ H (D.subs sel d) v → RVs K (pick φ sel) H d v
  | [], _, r => r
  | _ :: _, _, ⟨v, ws, h1, h2, h3⟩ => ⟨v, ws, h1, RV.unsub h h2, RVs.unsub h h3⟩
end
theorem RKV.unsub {κ : Type} (h : ∀ k ∈ sel, k < φ.length) : ∀ {d : List (κ × D)} {v : List (κ × V)}, RKV K φ H (kvSub sel d) v → RKV K (pick φ sel) H d v
  | [], _, r => r
  | _ :: _, _, ⟨v, ws, h1, h2, h3⟩ => ⟨v, ws, h1, RV.unsub h h2, RKV.unsub h h3⟩
theorem RO.unsub (h : ∀ k ∈ sel, k < φ.length) {o : O} {a : Addr} (r : RO K φ H (O.sub sel o) a) : RO K (pick φ sel) H o a := by
  cases o with
  | lst xs => obtain ⟨vs, h1, h2⟩ := r; exact ⟨vs, h1, h2.unsub h⟩
  | fro xs => obtain ⟨vs, h1, h2⟩ := r; exact ⟨vs, h1, h2.unsub h⟩
  | ins C fs => obtain ⟨dx, gs, h1, h2⟩ := r; exact ⟨dx, gs, h1, h2.unsub h⟩
  | dK l' => obtain ⟨mm, h1, h2⟩ := r; exact ⟨mm, h1, h2.unsub h⟩
  | dT l' => obtain ⟨mm, h1, h2⟩ := r; exact ⟨mm, h1, h2.unsub h⟩
  | non => trivial
end
/-- S2 is what sel keeps of S -/
structure Kept (n : Nat) (sel : List Nat) (S S2 : List O) : Prop where
  nd : sel.Nodup
  first : ∀ j : Nat, j < n → sel[j]? = some j
  inS : ∀ k ∈ sel, k < S.length
  len : S2.length = sel.length
  ob : ∀ (j : Nat) (o : O), S2[j]? = some o → ∃ k : Nat, sel[j]? = some k ∧ S[k]? = some (O.sub sel o)
theorem O.sub_mut {sel : List Nat} {o : O} : (O.sub sel o).mut = o.mut := by cases o <;> rfl
theorem Rel.keep {K : PySem.W.Frag} {φ : List Addr} {H : Hp} {n : Nat} {sel : List Nat} {S S2 : List O} (r : Rel K φ H S) (kp : Kept n sel S S2) : Rel K (pick φ sel) H S2 := by
  have hs : ∀ k ∈ sel, k < φ.length := fun k hk => by rw [r.len]; exact kp.inS k hk
  refine ⟨fun i j a x y h1 h2 h3 h4 m1 m2 => ?_, by rw [pick_len hs, kp.len], fun i o h => ?_⟩
  · obtain ⟨k1, e1, f1⟩ := kp.ob i x h3
    obtain ⟨k2, e2, f2⟩ := kp.ob j y h4
    rw [pick_get hs, e1] at h1
    rw [pick_get hs, e2] at h2
    have := r.nd k1 k2 a _ _ h1 h2 f1 f2 (by rw [O.sub_mut]; exact m1) (by rw [O.sub_mut]; exact m2)
    subst this
    obtain ⟨l1, g1⟩ := List.getElem?_eq_some_iff.mp e1
    obtain ⟨l2, g2⟩ := List.getElem?_eq_some_iff.mp e2
    exact (List.getElem_inj kp.nd).mp (g1.trans g2.symm)
  · obtain ⟨k, e1, f1⟩ := kp.ob i o h
    obtain ⟨a, h1, h2⟩ := r.ob k _ f1
    exact ⟨a, by rw [pick_get hs, e1]; exact h1, h2.unsub hs⟩
theorem Ext.keep {K : PySem.W.Frag} {φ φ' : List Addr} {H H' : Hp} {sel : List Nat} (e : Ext K φ φ' H H') (hs : ∀ k ∈ sel, k < φ'.length) (hf : ∀ j, j < φ.length → sel[j]? = some j) : Ext K φ (pick φ' sel) H H' := by
  refine ⟨?_, e.tup, e.xd⟩
  rw [List.prefix_iff_eq_take]
  apply List.ext_getElem?
  intro j
  by_cases hj : j < φ.length
  · rw [List.getElem?_take_of_lt hj, pick_get hs, hf j hj]
    have := e.get (List.getElem?_eq_getElem hj)
    rw [List.getElem?_eq_getElem hj]
    exact this.symm
  · rw [List.getElem?_eq_none (by omega), List.getElem?_eq_none (by rw [List.length_take]; omega)]
/-- what is handed back from a def that was entered with n objects -/
def Rt (n : Nat) (Q' : D → List O → Prop) (d : D) (S : List O) : Prop := ∃ sel d2 S2, Kept n sel S S2 ∧ D.sub sel d2 = d ∧ Q' d2 S2
def Xt (n : Nat) (E' : EDt) (C : Addr) (fs : List (Str × D)) (S : List O) : Prop := ∃ sel fs2 S2, Kept n sel S S2 ∧ kvSub sel fs2 = fs ∧ E' C fs2 S2
section
variable {P : Program} {w : World} {K : PySem.W.Frag}
variable {mg : Str → Option Value} {base : Heap}
/-- the slots at a def's entry -/
def startD (N : List Str) (ds : List D) : Sl := ds.map some ++ List.replicate (N.length - ds.length) none
theorem start_ok {X : Cx} {φ : List Addr} {H : Hp} {N : List Str} {ds : List D} {vs : List V} (r : RVs X.K φ H ds vs) : EV X.K φ H (startD N ds) (L2.start N vs) := by
  refine ⟨by simp [startD, L2.start, r.len], fun i d h => ?_⟩
  unfold startD at h
  by_cases hi : i < ds.length
  · rw [List.getElem?_append_left (by simpa using hi), List.getElem?_map] at h
    cases e : ds[i]? with
    | none => (rw [e] at h; cases h)
    | some x =>
      rw [e] at h
      cases h
      obtain ⟨v, h1, h2⟩ := r.get e
      refine ⟨v, ?_, h2⟩
      unfold L2.start
      rw [List.getElem?_append_left (by simpa [r.len] using hi), List.getElem?_map, h1]; rfl
  · rw [List.getElem?_append_right (by simpa using hi), List.getElem?_replicate] at h
    split at h <;> cases h
/-- a def's body, by a promise over data -/
theorem FunD.ok {x qual : Str} {st : Stmt} {f : Addr} {fd : FuncData} {N ps : List Str} {k : Nat} {sp : SpD} (F : Fun K x qual st f fd) (S : FnScope N ps (defScope st)) (len : ∀ ds S Q E, sp ds S Q E → ds.length = ps.length)
    (hbody : ∀ (cdv : Value) (A : Around) (outer : List Env) (s : Shared) (H : Hp) (E : XK) (φ : List Addr) (T : List (Addr × Str)) (W' : WD), Room k (A.deeper (envOfC qual (defScope st) s.heap.objs.size f cdv)) → WL K ⟨φ, H, T⟩ W' (fun cls d _ H => E cls d H) →
      ∃ q, LSs (cxOf (L2.CX P w) P w K mg base N qual (defScope st) f cdv A outer s H E) ⟨φ, H, T⟩ (defBody st) q ∧
        ∀ ds S Q' E', sp ds S Q' E' → W' = (fun C fs _ S' => Xt S.length E' C fs S') → Osl S.length S → q { nx := fun _ S' => Rt S.length Q' .non S', rt := Rt S.length Q' } (startD N ds) S) :
    FnOk P w K mg base (L2.CX P w) (k + 1) f fd ps (upF K sp) := by
  refine F.okX S (fun vs H Q E ⟨φ, ds, S, Q', E', T, r, rs, tt, h, _⟩ => by rw [rs.len]; exact len _ _ _ _ h) fun cdv A outer s H vs Q E hr ⟨φ, ds, S', Q', E', T, r, rs, tt, h, kq, ke⟩ => ?_
  have keep : ∀ {φ' : List Addr} {H' : Hp} {S1 S2 : List O} {sel : List Nat}, HR K ⟨φ, H, T⟩ φ' H' S1 → Kept S'.length sel S1 S2 → Ext K φ (pick φ' sel) H H' ∧ Rel K (pick φ' sel) H' S2 := fun {φ' H' S1 S2 sel} hr' kp =>
    ⟨hr'.ext.keep (fun k hk => by rw [hr'.rel.len]; exact kp.inS k hk) (fun j hj => kp.first j (by rw [← r.len]; exact hj)), hr'.rel.keep kp⟩
  have bound : ∀ {φ' : List Addr} {H' : Hp} {S1 S2 : List O} {sel : List Nat}, HR K ⟨φ, H, T⟩ φ' H' S1 → Kept S'.length sel S1 S2 → ∀ k ∈ sel, k < φ'.length := fun hr' kp k hk => by rw [hr'.rel.len]; exact kp.inS k hk
  obtain ⟨q, hq, hh⟩ := hbody cdv A outer s H E φ T (fun C fs _ S1 => Xt S'.length E' C fs S1) hr (fun φ' C fs s' S1 cls d σ H' hr' ev xr ⟨sel, fs2, S2, kp, e, he⟩ => by
    obtain ⟨e1, r1⟩ := keep hr' kp
    obtain ⟨rfl, dx, gs, rfl, h1, h2⟩ := xr
    rw [← e] at h2
    exact ke _ _ fs2 S2 _ _ _ e1 r1 hr'.tab ⟨rfl, dx, gs, rfl, h1, h2.unsub (bound hr' kp)⟩ he)
  refine ⟨_, hq, φ, startD N ds, S', { nx := fun _ S1 => Rt S'.length Q' .non S1, rt := Rt S'.length Q' }, ⟨Ext.refl, r, tt⟩, start_ok rs, hh ds S' Q' E' h rfl r.lt, ⟨?_, ?_, ?_, ?_⟩⟩
  · intro φ' H' S1 s' σ' e hr' ev ⟨sel, d2, S2, kp, ed, hd⟩
    obtain ⟨e1, r1⟩ := keep hr' kp
    have rd : RV K φ' H' (D.sub sel d2) .non := by rw [ed]; rfl
    exact kq _ d2 S2 _ _ e1 r1 hr'.tab (rd.unsub (bound hr' kp)) hd
  · intro φ' H' S1 d v e hr' rv ⟨sel, d2, S2, kp, ed, hd⟩
    obtain ⟨e1, r1⟩ := keep hr' kp
    rw [← ed] at rv
    exact kq _ d2 S2 _ _ e1 r1 hr'.tab (rv.unsub (bound hr' kp)) hd
  · intro φ' H' S1 s' σ' e hr' ev h; exact h.elim
  · intro φ' H' S1 s' σ' e hr' ev h; exact h.elim
end
/-- handing back: all that was there stays, with what is kept -/
theorem Kept.first' {n : Nat} {S : List O} (hn : n ≤ S.length) {S2 : List O} (h : S2 = S.take n) (l : Osl n S2) : Kept n (List.range n) S S2 := by
  subst h
  refine ⟨List.nodup_range, fun j hj => List.getElem?_range hj, fun k hk => Nat.lt_of_lt_of_le (List.mem_range.mp hk) hn, by rw [List.length_take, List.length_range]; omega, fun j o h => ?_⟩
  have hj : j < n := by
    have := (List.getElem?_eq_some_iff.mp h).1
    rw [List.length_take] at this; omega
  refine ⟨j, List.getElem?_range hj, ?_⟩
  rw [List.getElem?_take_of_lt hj] at h
  rw [h]
  have key : ∀ {o : O}, O.lt n o → O.sub (List.range n) o = o := fun {o} lo => by
    have d : ∀ d : D, D.lt n d → D.sub (List.range n) d = d := fun d => D.rec (motive_1 := fun d => D.lt n d → D.sub (List.range n) d = d) (motive_2 := fun ds => D.lts n ds → D.subs (List.range n) ds = ds)
      (fun _ => rfl) (fun _ _ => rfl) (fun _ _ => rfl) (fun _ _ => rfl) (fun _ _ => rfl) (fun _ _ => rfl) (fun k h => by
        show subN (List.range n) k = _
        unfold subN
        rw [List.getElem?_range (show k < n from h)])
      (fun xs ih h => congrArg D.tup (ih h)) (fun _ => rfl) (fun _ => rfl) (fun d ds i1 i2 h => by
        show D.sub _ d :: D.subs _ ds = _
        rw [i1 h.1, i2 h.2]) d
    have ds : ∀ l : List D, D.lts n l → D.subs (List.range n) l = l := fun l => by
      induction l with
      | nil => intro _; rfl
      | cons a r ih => intro h; show D.sub _ a :: D.subs _ r = _; rw [d a h.1, ih h.2]
    have kv : ∀ {κ : Type} (l : List (κ × D)), kvLt n l → kvSub (List.range n) l = l := fun l => by
      induction l with
      | nil => intro _; rfl
      | cons a r ih => intro h; show (a.1, D.sub _ a.2) :: kvSub _ r = _; rw [d _ h.1, ih h.2]
    cases o with
    | lst xs => exact congrArg O.lst (ds xs lo)
    | fro xs => exact congrArg O.fro (ds xs lo)
    | ins C fs => exact congrArg (O.ins C) (kv fs lo)
    | dK l => exact congrArg O.dK (kv l lo)
    | dT l => exact congrArg O.dT (kv l lo)
    | non => rfl
  rw [key (Osl_mem.mp l o (List.mem_of_getElem? (show (S.take n)[j]? = some o by rw [List.getElem?_take_of_lt hj]; exact h)))]
mutual
theorem D.sub_pure {sel : List Nat} : ∀ {d : D}, D.pure d = true → D.sub sel d = d
  | .ref _, h => by cases h
  | .tup xs, h => congrArg D.tup (D.subs_pure (show D.pures xs = true from h))
  | .non, _ => rfl
  | .bl _, _ => rfl
  | .int _, _ => rfl
  | .str _, _ => rfl
  | .ty _, _ => rfl
  | .adr _, _ => rfl
  | .bad, _ => rfl
theorem D.subs_pure {sel : List Nat} : ∀ {d : List D}, D.pures d = true → D.subs sel d = d
  | [], _ => rfl
  | d :: r, h => by
    have h' : (D.pure d && D.pures r) = true := h
    rw [Bool.and_eq_true] at h'
    show D.sub _ d :: D.subs _ r = _
    rw [D.sub_pure h'.1, D.subs_pure h'.2]
end
/-- plain data handed back; what was made is dropped -/
theorem Rt.pure {n : Nat} {Q' : D → List O → Prop} {d : D} {S S2 : List O} (hn : n ≤ S.length) (hp : D.pure d = true) (h2 : S.take n = S2) (l : Osl n S2) (q : Q' d S2) : Rt n Q' d S :=
  ⟨List.range n, d, S2, Kept.first' hn h2.symm l, D.sub_pure hp, q⟩
theorem Xt.pure {n : Nat} {E' : EDt} {C : Addr} {fs : List (Str × D)} {S S2 : List O} (hn : n ≤ S.length) (hp : fs.all (fun p => D.pure p.2) = true) (h2 : S.take n = S2) (l : Osl n S2) (q : E' C fs S2) : Xt n E' C fs S :=
  ⟨List.range n, fs, S2, Kept.first' hn h2.symm l, by
    clear q
    induction fs with
    | nil => rfl
    | cons p r ih =>
      rw [List.all_cons, Bool.and_eq_true] at hp
      show (p.1, D.sub _ p.2) :: kvSub _ r = _
      rw [D.sub_pure hp.1, ih hp.2], q⟩
end LC

set_option Elab.async false
set_option linter.all false
set_option maxRecDepth 100000
set_option maxHeartbeats 5000000
/-! LC7: exceptions: classes with an own __init__, raise, try .. except. -/
namespace LC
open PySem PySem.Spec
open PyProof.Rows L2

/-! ### C.m(..), m a plain def of the class -/
section
variable {X : Cx} {k : Nat} {f C : Addr} {fd : FuncData} {ps : List Str} {sp : Sp} {E : XK} {x m : Str} {p1 p2 pos : Pos} {e : Expr} {es : List Expr} {t : TA} {mc : Value}
theorem pe_clsm {pl : Sem Bool} (hg : Gl X x) (hm : X.mg x = some (.ref C)) (r : ClX.CRead X.K C mc) (hc : PySem.W.findCls X.K (.ref C) mc m = some (.val (.ref f))) (F : FnOk X.prog X.w X.K X.mg X.base (L2.CX X.prog X.w) k f fd ps sp) (hk : PySem.W.keepIn X.K (.ref f) = true) (hr : Room k X.A) (hb : Binds X.K fd ps [])
    (hx : Passes (L2.CX X.prog X.w) X E) (ha : PA X (e :: es) t) (hdb : (x == ("__debug__" : Str)) = false := by decide)
    (hst : starEach (e :: es) X.env = (false, eval e X.env) :: starEach es X.env := by rfl) 
    (hpl : (backTo pos (starEach es X.env)).any (·.1) = false := by rfl)
    (ht : eval (.Call (.Attribute (.Name x p1) m p2) (e :: es) [] pos) X.env = (do
      let ov ← eval (.Name x p1) X.env
      standAt p2.atName
      let (fn, pre) ← holding [ov] (getMethod ov m pl)
      callWith pos fn pre (backTo pos (starEach (e :: es) X.env)) (backToKw pos (keywordEach [] X.env))) := by rfl) :
    PE X (.Call (.Attribute (.Name x p1) m p2) (e :: es) [] pos) (tCall sp [] E t) := by
  refine ⟨fun pn s σ H Q I hh => ?_⟩
  refine PySem.W.methodCall_KW (pl := pl) (ld_glob I hg hm ?_ hdb) ht
  refine PySem.W.method_cls I.kIn r.ga (ClX.getcval_ok (v := .ref f) I r ⟨hc, rfl⟩ fun s' I' => ?_)
  refine PySem.W.callWith_K (first := []) (h₀ := X.base) I.ok.mod.kin hk (thn (ha.run pos pn s' σ H _ I' hh) fun ws t2 ⟨vs, M2, J2, r2, q2⟩ => ⟨J2.kIn, ?_⟩) hst hpl
  exact run_fn (us := ws) (vs := vs) F hr hb .nil hx J2 r2 q2
end

/-! ### an exception's __init__ -/
/-- self gets its own dict with the fields fl; all else stays -/
def spX (C : Addr) (n : Nat) (fl : List V → List (Str × V)) : Sp := fun vs H Q _ => ∃ (a : Addr) (us : List V), vs = .ref a :: us ∧ us.length = n ∧ H a = some (exo a C none) ∧
  ∀ (d : Addr) (Hf : Hp), H d = none → d ≠ a → Hf a = some (exo a C (some d)) → Hf d = some (exd d (fl us)) → (∀ b, b ≠ a → b ≠ d → Hf b = H b) → Q .non Hf
/-- the base's: called with any of the classes -/
def spX0 (K : PySem.W.Frag) : Sp := fun vs H Q _ => ∃ (a C : Addr) (y : V), vs = [.ref a, y] ∧ OexC K C ∧ PySem.W.findIn K (.ref C) "called" = some none ∧ H a = some (exo a C none) ∧
  ∀ d, H d = none → d ≠ a → Q .non (upd (upd H d (exd d [("called", y)])) a (exo a C (some d)))
section
variable {X : Cx} {B : Bs} {x : Str} {C fI : Addr} {k : Nat} {fd : FuncData} {ps : List Str} {ds : List Value} {dvs : List V} {p pos : Pos} {e : Expr} {es : List Expr} {q : QA}
/-- as HandS's pmk_oex, without arguments -/
theorem pmk_oex0 {sp : Sp} (T : OexC X.K C) (iC : PySem.W.findIn X.K (.ref C) "__init__" = some (some (.ref fI))) (tI : PySem.W.typeIn X.K (.ref fI) = some (.type "function"))
    (F1 : FnOk X.prog X.w X.K X.mg X.base (L2.CX X.prog X.w) k fI fd ps sp) (hr : Room (k + 1) X.A) (hb : Binds X.K fd ps ds) (hd : Vals dvs ds) (hx : Passes (L2.CX X.prog X.w) X (fun _ _ _ => False)) (hg : Gl X x) (hm : X.mg x = some (.ref C))
    (hdb : (x == ("__debug__" : Str)) = false := by decide) :
    PMk X (.Call (.Name x p) [] [] pos) (tMkO C sp dvs tNil) := by
  intro pn s σ H Q I h
  obtain ⟨hz, q1⟩ := h
  obtain ⟨m0, q, N, bs, bm, sn, sub, ab, col, dd, k0, k1, k2, k3, k5, gC, gbm⟩ := T.cls
  apply wpAny_Call_Name_kw; refine ld_glob I hg hm ?_ hdb
  refine PySem.W.callWith_K0 I.kIn T.kC ?_
  show wpAny _ _ (call (.ref C) []) _ _ _
  obtain ⟨hpo, gg, dd0, tt, oo⟩ := s
  have hSz : hpo.objs.size ≤ hpo.objs.size + 1 := Nat.le_succ _
  have hq := q1 (hpo.objs.size + 1) (I.hok.fresh hSz)
  have kp : ∀ b o, hpo.get? b = some o → ((hpo.push (PySem.W.kdv_tup [])).push (PySem.HandSPX.excO C hpo.objs.size)).get? b = some o := fun b o e => Heap.get?_push_of_some _ (Heap.get?_push_of_some _ e)
  have hGet : ((hpo.push (PySem.W.kdv_tup [])).push (PySem.HandSPX.excO C hpo.objs.size)).get? (hpo.objs.size + 1) = some (PySem.HandSPX.excO C hpo.objs.size) := by heap_get
  have J2 : Inv X pn σ (upd H (hpo.objs.size + 1) (exo (hpo.objs.size + 1) C none)) ⟨(hpo.push (PySem.W.kdv_tup [])).push (PySem.HandSPX.excO C hpo.objs.size), gg, dd0, tt, oo⟩ :=
    I.laid (t' := tt) (a := hpo.objs.size + 1) (o := exo (hpo.objs.size + 1) C none) (h' := (hpo.push (PySem.W.kdv_tup [])).push (PySem.HandSPX.excO C hpo.objs.size)) kp hSz (exo_ok hGet)
  have rr : Vals (V.ref (hpo.objs.size + 1) :: ([] ++ dvs)) (Value.ref (hpo.objs.size + 1) :: ([] ++ ds)) := .cons rfl hd
  have hLen : (Value.ref (hpo.objs.size + 1) :: ([] : List Value) ++ ds).length = ps.length := by
    have e := rr.length
    rw [F1.len _ _ _ _ hq] at e
    exact e.symm
  refine wpAny_call (PySem.HandSPX.call_own F.excBase_ValueError (fun Y => PySem.HandSPX.refsVE_contains Y bm gbm) (I.kIn _ _ gC) (PySem.W.looks_findIn I.kIn iC) (fun self => PySem.W.bind_fn I.kIn self tI) (by show 0 ≤ sizeLine; exact Nat.zero_le _)
    (codeAny_mono (F1.run _ X.stack _ _ ⟨Value.ref (hpo.objs.size + 1) :: [], []⟩ (Value.ref (hpo.objs.size + 1) :: ([] ++ ds)) _ _ (fun _ _ _ => False) (hr.make C [] []) (J2.env0.make C [] []) (by have z := hb ⟨(hpo.push (PySem.W.kdv_tup [])).push (PySem.HandSPX.excO C hpo.objs.size), gg, dd0, tt, oo⟩ [Value.ref (hpo.objs.size + 1)] J2.kIn hLen; simpa using z) rr hq) fun r s' hq' => ?_))
  cases r with
  | error ex => exact hx pn σ _ _ ex s' J2 hq'
  | ok fl =>
    cases fl with
    | ret u =>
      obtain ⟨v, M2, o2, b2, u2, k2, rv, ev, d, fs, e1, e2, e3, q2⟩ := hq'
      subst ev
      obtain ⟨h2, g2, dd2, t2, oo'⟩ := s'
      exact ⟨rv, mk_end (raises_own T.exC T.tyC) I hSz kp u2 k2 o2 b2 e1 e2 e3 q2⟩
    | next => exact hq'.elim
    | brk => exact False.elim hq'
    | cont => exact hq'.elim
/-- the fields of such an exception, over data -/
def FlD (K : PySem.W.Frag) (fl : List V → List (Str × V)) (flD : List D → List (Str × D)) : Prop := ∀ φ H ds us, RVs K φ H ds us → RKV K φ H (flD ds) (fl us)
theorem mk_at {φ : List Addr} {H : Hp} {S : List O} {dl dds : List D} {vs : List V} {n : Nat} {fl : List V → List (Str × V)} {flD : List D → List (Str × D)} {Q : XK} (hfl : FlD X.K fl flD) (hr : HR X.K B φ H S) (r : RVs X.K φ H dl vs) (hdd : RVc X.K dds dvs) (hn : dl.length + dds.length = n)
    (q : ∀ φ' H' cls d, Ext X.K φ φ' H H' → HR X.K B φ' H' S → XRel X.K φ' H' C (flD (dl ++ dds)) cls d → Q cls d H') :
    ∀ a, H a = none → spX C n fl (.ref a :: (vs ++ dvs)) (upd H a (exo a C none)) (fun v H2 => v = .non ∧ ∃ (d : Addr) (fs : List (Str × V)), H2 a = some (exo a C (some d)) ∧ H2 d = some (exd d fs) ∧ H d = none ∧ Q (.ref C) (some d) (upd (del H2 a) d (.xd fs))) (fun _ _ _ => False) := fun a ha => by
  have rr := r.app (hdd φ H)
  refine ⟨a, vs ++ dvs, rfl, by rw [rr.len, List.length_append]; exact hn, upd_same, fun d Hf hd hne h1 h2 h3 => ⟨rfl, d, fl (vs ++ dvs), h1, h2, by rw [upd_ne hne] at hd; exact hd, ?_⟩⟩
  rw [upd_ne hne] at hd
  have at_ : ∀ b u, H b = some u → upd (del Hf a) d (.xd (fl (vs ++ dvs))) b = some u := fun b u hb => by
    have h4 : b ≠ a := ne_of_none hb ha
    have h5 : b ≠ d := ne_of_none hb hd
    rw [upd_ne h5, del_ne h4, h3 b h4 h5, upd_ne h4]; exact hb
  have e : Ext X.K φ φ H (upd (del Hf a) d (.xd (fl (vs ++ dvs)))) := ⟨List.prefix_refl _, fun p vs h => by
      rcases h with (h | ⟨ob, h⟩) | h
      · exact .inl (.inl (at_ _ _ h))
      · exact .inl (.inr ⟨ob, at_ _ _ h⟩)
      · exact .inr h, fun p gs h => at_ _ _ h⟩
  exact q φ _ _ _ e (hr.mono e (hr.rel.kept e at_) (hr.tab.ext at_)) ⟨rfl, d, _, rfl, upd_same, hfl _ _ _ _ (rr.mono e)⟩
/-- raise C(..) -/
def qRaise (C : Addr) (flD : List D → List (Str × D)) (n : Nat) (dds : List D) (W' : WD) (q : QA) : QS := fun _ s S => q s S fun ds S1 => ds.length ≤ 1000 ∧ ds.length + dds.length = n ∧ W' C (flD (ds ++ dds)) s S1
theorem ls_raise0 {W : WX} {W' : WD} {n : Nat} {fl : List V → List (Str × V)} {flD : List D → List (Str × D)} {dds : List D} {rpos : Pos} (hfl : FlD X.K fl flD) (hc : X.calm = true) (T : OexC X.K C) (iC : PySem.W.findIn X.K (.ref C) "__init__" = some (some (.ref fI))) (tI : PySem.W.typeIn X.K (.ref fI) = some (.type "function"))
    (F1 : FnOk X.prog X.w X.K X.mg X.base (L2.CX X.prog X.w) k fI fd ps (spX C n fl)) (hr : Room (k + 1) X.A) (hb : Binds X.K fd ps ds) (hd : Vals dvs ds) (hdd : RVc X.K dds dvs) (tk : Takes X W) (wl : WL X.K B W' W) (hx : Passes (L2.CX X.prog X.w) X (fun _ _ _ => False)) (hg : Gl X x) (hm : X.mg x = some (.ref C))
    (hdb : (x == ("__debug__" : Str)) = false := by decide) :
    LS X B (.Raise (some (.Call (.Name x p) [] [] pos)) none rpos) (qRaise C flD n dds W' qNil) := PS.imp (ps_raise hc tk (pmk_oex0 T iC tI F1 hr hb hd hx hg hm hdb)) fun D σ H ⟨φ, s, S, D', hr', ev, ⟨h1, h2, q⟩, ek⟩ =>
  ⟨Nat.zero_le _, mk_at (dl := []) hfl hr' rfl hdd h2 fun φ' H' cls d e2 hr2 xr => wl _ _ _ _ _ _ _ _ _ hr2 (ev.mono e2) xr q⟩

/-! ### try .. except X as n -/
/-- a later ground -/
structure BLe (K : PySem.W.Frag) (B B' : Bs) : Prop where
  ext : Ext K B.φ0 B'.φ0 B.H0 B'.H0
  tab : B'.T = B.T
/-- n.f in the suite -/
def qXf (K : PySem.W.Frag) (a C : Addr) (fs : List (Str × D)) (m : Str) (qe : QE) : QE := fun s S Q => qe s S fun d S1 => d = .adr a ∧ XfC K C ∧ PySem.W.findIn K (.ref C) m = some none ∧ ∃ v, fs.lookup m = some v ∧ Q v S1
theorem pe_xfA {a : Addr} {oe : Obj} {cls : Value} {d : Option Addr} {pn : List (Addr × Obj)} {e : Expr} {te : TE} {pos : Pos} {n : Str}
    (hz : Zc cls d oe)
    (hf : ∃ vs, oe.data = .fields vs) (he : PE (X.suite a ((a, oe) :: pn)) e te) (hb : attributeBase e n X.env (eval e X.env) = eval e X.env := by rfl) :
    PE (X.suite a ((a, oe) :: pn)) (.Attribute e n pos) (fun σ H Q => te σ H fun x H1 => x = .ref a ∧ ∃ (C dd : Addr) (fs : List (Str × V)) (v : V), cls = .ref C ∧ XfC X.K C ∧ PySem.W.findIn X.K (.ref C) n = some none ∧ d = some dd ∧ H1 dd = some (.xd fs) ∧ fs.lookup n = some v ∧ Q v H1) := by
  refine ⟨fun pn s σ H Q I h => ?_⟩
  refine attr_of hb (thn (he.run pn s σ H _ I h) fun u t1 hz1 => ?_)
  obtain ⟨x, H1, J1, rx, ex, C, dd, fs, v, ec, T, hno, ed, ea, l, q⟩ := hz1
  subst ex
  have eu : u = Value.ref a := rx
  subst eu
  subst ec
  subst ed
  obtain ⟨ha, _⟩ := J1.pin (a, oe) (List.mem_append_left _ List.mem_cons_self)
  obtain ⟨vs, hd⟩ := hf
  have hOb : ObjOk X.prog X.w H1 t1.heap dd (.xd fs) := J1.hok dd _ ea
  obtain ⟨mm, hN, hr⟩ := hOb
  obtain ⟨o2, hO2, hL2⟩ := lookIn_ns hN
  obtain ⟨u, hu, rr⟩ := RelO.some_of (v := v) (o := mm n) (by rw [← l]; exact hr n)
  have JJ : PySem.W.InstAt t1.heap a oe C (some o2) := ⟨ha, hz.1, by unfold PySem.W.notCls; rw [hd] <;> rfl, by rw [hz.2]; exact hO2⟩
  exact HandSPX.exc_get J1.kIn JJ T.ga T.gg T.exC (PySem.W.findObj_own T.hdC hno rfl (by rw [hL2, hu])) (handed_of rr) ⟨v, H1, J1.tok _, rr, q⟩
theorem le_xf {a : Addr} {oe : Obj} {cls : Value} {d : Option Addr} {pn : List (Addr × Obj)} {e : Expr} {qe : QE} {pos : Pos} {n : Str} {fs : List (Str × D)}
    (hz : Zc cls d oe) (hf : ∃ vs, oe.data = .fields vs) (xr : XRel X.K B.φ0 B.H0 C fs cls d) (he : LE (X.suite a ((a, oe) :: pn)) B e qe) (hb : attributeBase e n X.env (eval e X.env) = eval e X.env := by rfl) :
    LE (X.suite a ((a, oe) :: pn)) B (.Attribute e n pos) (qXf X.K a C fs n qe) := PE.imp (pe_xfA hz hf he hb) fun σ H Q ⟨φ, s, S, Q', hr, ev, q, k⟩ =>
  ⟨φ, s, S, _, hr, ev, q, fun φ1 d1 S1 v1 H1 e1 hr1 r1 ⟨h1, h2, h3, v, h4, q1⟩ => by
    subst h1
    obtain ⟨rfl, dd, gs, rfl, h5, h6⟩ := xr
    have h7 := h6.mono hr1.ext
    obtain ⟨u, h8, h9⟩ := h7.lookup_some h4
    exact ⟨r1, C, dd, gs, u, rfl, h2, h3, rfl, hr1.ext.xd _ _ h5, h8, k _ _ _ _ _ e1 hr1 h9 q1⟩⟩
/-- the suite, over the exception that came -/
def tsX (K : PySem.W.Frag) (B : Bs) (qs : Addr → Addr → List (Str × D) → QS) (a : Addr) (cls : Value) (d : Option Addr) : TS := fun D σ H => ∃ φ C fs s S D', XRel K φ H C fs cls d ∧ HR K B φ H S ∧ EV K φ H s σ ∧ qs a C fs D' s S ∧ EK K B φ H D' D
def qTryAs (K : PySem.W.Frag) (c : Value) (i : Nat) (qb : WD → QS) (qs : Addr → Addr → List (Str × D) → QS) (Wo : WD) : QS := fun D s S => qb (fun C fs s1 S1 => ∃ b, PySem.W.exmOne K (.ref C) c = some b ∧
  (b = true → ∀ a, qs a C fs { nx := fun s' S' => D.nx (s'.set i none) S', rt := D.rt, bk := fun s' S' => D.bk (s'.set i none) S', ct := fun s' S' => D.ct (s'.set i none) S' } (s1.set i (some (.adr a))) S1) ∧ (b = false → Wo C fs s1 S1)) D s S
theorem ls_try_as {n : Str} {c : Value} {i : Nat} {body suite : List Stmt} {b₀ : Stmt} {np pos' : Pos} {qb : WD → QS} {qs : Addr → Addr → List (Str × D) → QS} {Wout : WX} {Wo : WD}
    (hs : X.stack = X.env :: X.outer) (hf : X.env.frame = some X.env.locals) (hN : X.N.Nodup) (hi : X.N[i]? = some n) (hln : X.env.kindOf n = some .local) (hc : Names X x c) (tk : Takes X Wout) (wl : WL X.K B Wo Wout)
    (hb : ∀ (W : WX) (W' : WD) (pn : List (Addr × Obj)) (xe : Value → Shared → Prop) (B' : Bs), BLe X.K B B' → Takes (X.tr pn xe) W → WL X.K B' W' W → PassesOwn (model X.prog X.w) X.A X.env xe → LSs (X.tr pn xe) B' body (qb W'))
    (hsu : ∀ (a : Addr) (oe : Obj) (cls : Value) (d : Option Addr) (pn : List (Addr × Obj)) (C : Addr) (fs : List (Str × D)) (B' : Bs), Zc cls d oe → (∃ vs, oe.data = .fields vs) → BLe X.K B B' → XRel X.K B'.φ0 B'.H0 C fs cls d → LSs (X.suite a ((a, oe) :: pn)) B' (b₀ :: suite) (qs a C fs)) :
    LS X B (.Try body [.ExceptHandler (some (.Name x np)) (some n) (b₀ :: suite) pos'] [] [] pos) (qTryAs X.K c i qb qs Wo) := by
  have key := ps_try_as (X := X) (Wout := Wout) (tb := fun W D σ H => ∃ (W' : WD) (B' : Bs), BLe X.K B B' ∧ WL X.K B' W' W ∧ US X.K B' (qb W') D σ H) (ts := tsX X.K B qs) (pos := pos) (np := np) (pos' := pos') (body := body) (suite := suite) (b₀ := b₀) hs hf hN hi hln hc tk ?_ ?_
  · refine PS.imp key ?_
    rintro D σ H ⟨φ, s, S, D', hr, ev, q, ek⟩
    refine ⟨_, ⟨φ, H, B.T⟩, ⟨hr.ext, rfl⟩, ?_, φ, s, S, D', ⟨Ext.refl, hr.rel, hr.tab⟩, ev, q, ?_⟩
    · rintro φ' C fs s1 S1 cls d σ1 H1 hr1 ev1 xr ⟨b, h1, h2, h3⟩
      have hrB : HR X.K B φ' H1 S1 := ⟨hr.ext.trans hr1.ext, hr1.rel, hr1.tab⟩
      obtain ⟨rfl, rest⟩ := id xr
      refine ⟨b, h1, fun hb a na => ⟨φ', C, fs, s1.set i (some (.adr a)), S1, _, xr, hrB, ev1.set rfl, h2 hb a, ?_⟩, fun hb => wl _ _ _ _ _ _ _ _ _ hrB ev1 xr (h3 hb)⟩
      have ek1 := ek.ext hr1.ext
      exact ⟨fun φ'' H'' S'' s' σ' e' hr' ev' w => ek1.nx _ _ _ _ _ e' hr' ev'.wipe w, fun φ'' H'' S'' d' v' e' hr' r w => ek1.rt _ _ _ _ _ e' hr' r w,
        fun φ'' H'' S'' s' σ' e' hr' ev' w => ek1.bk _ _ _ _ _ e' hr' ev'.wipe w, fun φ'' H'' S'' s' σ' e' hr' ev' w => ek1.ct _ _ _ _ _ e' hr' ev'.wipe w⟩
    · have up : ∀ {φ' : List Addr} {H' : Hp} {S' : List O}, HR X.K ⟨φ, H, B.T⟩ φ' H' S' → HR X.K B φ' H' S' := fun h => ⟨hr.ext.trans h.ext, h.rel, h.tab⟩
      exact ⟨fun φ' H' S' s' σ' e' hr' => ek.nx _ _ _ _ _ e' (up hr'), fun φ' H' S' d' v' e' hr' => ek.rt _ _ _ _ _ e' (up hr'), fun φ' H' S' s' σ' e' hr' => ek.bk _ _ _ _ _ e' (up hr'), fun φ' H' S' s' σ' e' hr' => ek.ct _ _ _ _ _ e' (up hr')⟩
  · intro W pn xe tk' ps'
    refine ⟨fun pins s σ H D I ⟨W', B', eB, wl', h⟩ => ?_⟩
    exact (hb W W' pn xe B' eB tk' wl' ps').run pins s σ H D I h
  · intro a oe cls d pn hz hfl
    refine ⟨fun pins s σ H D I ⟨φ, C, fs, sl, S, D', xr, hr, ev, q, ek⟩ => ?_⟩
    refine (hsu a oe cls d pn C fs ⟨φ, H, B.T⟩ hz hfl ⟨hr.ext, rfl⟩ xr).run pins s σ H D I ⟨φ, sl, S, D', ⟨Ext.refl, hr.rel, hr.tab⟩, ev, q, ?_⟩
    have up : ∀ {φ' : List Addr} {H' : Hp} {S' : List O}, HR X.K ⟨φ, H, B.T⟩ φ' H' S' → HR X.K B φ' H' S' := fun h => ⟨hr.ext.trans h.ext, h.rel, h.tab⟩
    exact ⟨fun φ' H' S' s' σ' e' hr' => ek.nx _ _ _ _ _ e' (up hr'), fun φ' H' S' d' v' e' hr' => ek.rt _ _ _ _ _ e' (up hr'), fun φ' H' S' s' σ' e' hr' => ek.bk _ _ _ _ _ e' (up hr'), fun φ' H' S' s' σ' e' hr' => ek.ct _ _ _ _ _ e' (up hr')⟩
end
end LC

set_option Elab.async false
set_option linter.all false
set_option maxRecDepth 100000
set_option maxHeartbeats 5000000
/-! LC8: why(lambda: e). -/
namespace LC
open PySem PySem.Spec
open PyProof.Rows L2

/-- def why(ask): told = None; word = ''; try: told = ask() / except LimeError as e: word = e.called; return (told, word) -/
def ttWhy (K : PySem.W.Frag) (CS : Addr) : (XK → Hp → VK → Prop) → Hp → VK → Prop := fun tl H Q =>
  tl (fun cls d H2 => PySem.W.exmOne K cls (.ref CS) = some true ∧ ∃ (C dd : Addr) (fs : List (Str × V)) (v : V), cls = .ref C ∧ XfC K C ∧ PySem.W.findIn K (.ref C) "called" = some none ∧ d = some dd ∧ H2 dd = some (.xd fs) ∧ fs.lookup ("called" : Str) = some v ∧
    ∀ p, H2 p = none → Q (.ref p) (upd H2 p (.tup [.non, v]))) H (fun v H2 => ∀ p, H2 p = none → Q (.ref p) (upd H2 p (.tup [v, .str ""])))
def qWhy (K : PySem.W.Frag) (CS : Addr) (qb : WD → QE) : QE := fun s S Q => qb (fun C fs _ S1 => PySem.W.exmOne K (.ref C) (.ref CS) = some true ∧ XfC K C ∧ PySem.W.findIn K (.ref C) "called" = some none ∧ ∃ v, fs.lookup ("called" : Str) = some v ∧ Q (.tup [.non, v]) S1) s S
  fun d S1 => Q (.tup [d, .str ""]) S1
section
variable {X : Cx} {B : Bs}
theorem ext_N {K : PySem.W.Frag} {φ : List Addr} {H H1 : Hp} (e : LamX.ExtN H H1) : Ext K φ φ H H1 := ⟨List.prefix_refl _, fun p vs h => by
  rcases h with (h | ⟨ob, h⟩) | h
  · exact .inl (.inl (e _ _ h fun ps z => by cases z))
  · exact .inl (.inr ⟨ob, e _ _ h fun ps z => by cases z⟩)
  · exact .inr h, fun p gs h => e _ _ h fun ps z => by cases z⟩
theorem rel_N {K : PySem.W.Frag} {φ : List Addr} {H H1 : Hp} {S : List O} (e : LamX.ExtN H H1) (r : Rel K φ H S) : Rel K φ H1 S := by
  refine ⟨r.nd, r.len, fun i x q => ?_⟩
  obtain ⟨a, h1, h2⟩ := r.ob i x q
  refine ⟨a, h1, ?_⟩
  have ee : Ext K φ φ H H1 := ext_N e
  cases x with
  | lst xs => obtain ⟨vs, g1, g2⟩ := h2; exact ⟨vs, e _ _ g1 (fun ps z => by cases z), g2.mono ee⟩
  | fro xs =>
    obtain ⟨vs, g1, g2⟩ := h2
    refine ⟨vs, ?_, g2.mono ee⟩
    rcases g1 with ⟨o, g1⟩ | g1
    · exact .inl ⟨o, e _ _ g1 fun ps z => by cases z⟩
    · exact .inr g1
  | ins C fs => obtain ⟨dx, gs, g1, g2⟩ := h2; exact ⟨dx, gs, e _ _ g1 (fun ps z => by cases z), g2.mono ee⟩
  | dK l => obtain ⟨m, g1, g2⟩ := h2; exact ⟨m, e _ _ g1 (fun ps z => by cases z), g2.mono ee⟩
  | dT l => obtain ⟨m, g1, g2⟩ := h2; exact ⟨m, e _ _ g1 (fun ps z => by cases z), g2.mono ee⟩
  | non => trivial
theorem up_why {CS : Addr} {qb : WD → QE} {σ : L2.St} {H : Hp} {Q : VK} (h : UP X.K B (rD X.K) (qWhy X.K CS qb) σ H Q) :
    LamX.tLam B.T (ttWhy X.K CS) (fun E σ H Q => ∃ (B1 : Bs) (W1 : WD), WL X.K B1 W1 (fun cls d _ H => E cls d H) ∧ UP X.K B1 (rD X.K) (qb W1) σ H Q) σ H Q := by
  obtain ⟨φ, s, S, Q', hr, ev, q, k⟩ := h
  refine ⟨hr.tab, fun H1 eN tT => ?_⟩
  have e1 : Ext X.K φ φ H H1 := ext_N eN
  have back : ∀ {φ' : List Addr} {H' : Hp} {S' : List O}, HR X.K ⟨φ, H1, B.T⟩ φ' H' S' → HR X.K B φ' H' S' := fun h => ⟨hr.ext.trans (e1.trans h.ext), h.rel, h.tab⟩
  refine ⟨⟨φ, H1, B.T⟩, _, ?_, φ, s, S, _, ⟨Ext.refl, rel_N eN hr.rel, tT⟩, ev.mono e1, q, ?_⟩
  · rintro φ' C fs s1 S1 cls d σ1 H' hr' ev' xr ⟨h1, h2, h3, v, h4, h5⟩
    obtain ⟨rfl, dd, gs, rfl, h6, h7⟩ := xr
    obtain ⟨u, h8, h9⟩ := h7.lookup_some h4
    exact ⟨h1, C, dd, gs, u, rfl, h2, h3, rfl, h6, h8, fun p hp => (k.ext (e1.trans hr'.ext)).tup (ds := [.non, v]) (back hr') hp ⟨_, _, rfl, rfl, _, _, rfl, h9, rfl⟩ h5⟩
  · intro φ' d S' v H' e2 hr' rv q' p hp
    exact (k.ext (e1.trans e2)).tup (ds := [d, .str ""]) (back hr') hp ⟨_, _, rfl, rv, _, _, rfl, rfl, rfl⟩ q'
/-- ask() in why: Z is why's context, the maker's state is I; what is raised is wished for at why's own slots -/
theorem pe_ask {Ng : List Str} {qg : Str} {sg : Scope} {g fl cl : Addr} {cdg pm ctv : Value} {params : Arguments} {body : Expr} {scope : Scope} {lv : Nat} {a : Str} {pn : List (Addr × Obj)} {xe : Value → Shared → Prop} {W : WX} {t : XK → TE} {p1 p2 : Pos}
    {pins : List (Addr × Obj)} {σ0 : L2.St} {H0 : Hp} {s0 : Shared} (I0 : Inv X pins σ0 H0 s0) (L : LamX.LamS X.env.scope scope) (hobj : s0.heap.get? fl = some (PySem.W.kla_obj "<lambda>" (X.env.qual ++ "<lambda>") params body scope (cloFrom X.env.cells scope.names []) pm cl ctv))
    (hun : H0 fl = none) (hnf : fl ∉ frs X.stack) (hbind : bindArgs (PySem.W.kla_fn "<lambda>" (X.env.qual ++ "<lambda>") params body scope (cloFrom X.env.cells scope.names []) pm (.ref cl) ctv) ⟨[], []⟩ = pure [])
    (tk : Takes ((cxOf C8.CX0 X.prog X.w X.K X.mg X.base Ng qg sg g cdg X.A X.stack s0 H0 C8.E0).tr pn xe) W) (room : Room (lv + 1) (X.A.deeper (envOfC qg sg s0.heap.objs.size g cdg)))
    (hbody : ∀ (A : Around) (outer : List Env) (s : Shared) (H : Hp) (E : XK), Room lv (A.deeper (LamX.lamEnv X scope s.heap.objs.size fl cl)) → PE (LamX.lamCx X A outer s H E scope fl cl) body (t E))
    (hN : Ng[0]? = some a) (hv : Vis sg a) (hd : (a == ("__debug__" : Str)) = false) (hcd : (a == ("__classdict__" : Str)) = false) :
    PE ((cxOf C8.CX0 X.prog X.w X.K X.mg X.base Ng qg sg g cdg X.A X.stack s0 H0 C8.E0).tr pn xe) (.Call (.Name a p1) [] [] p2)
      (fun σZ HZ Q => σZ[0]? = some (some (.ref fl)) ∧ HZ cl = some (LamX.CodeO cl (X.env.qual ++ "<lambda>")) ∧ t (WE W σZ) σ0 HZ Q) := ⟨fun pz sz σz Hz Q Iz ⟨h1, h2, h3⟩ => by
  have nm := (pe_var (X := (cxOf C8.CX0 X.prog X.w X.K X.mg X.base Ng qg sg g cdg X.A X.stack s0 H0 C8.E0).tr pn xe) (pos := p1) (i := 0) hN hv hd hcd).run pz sz σz Hz (fun v K1 => v = .ref fl ∧ K1 = Hz) Iz ⟨.ref fl, h1, rfl, rfl⟩
  refine wpAny_Call_Name_kw (thn nm fun u s1 ⟨v, K1, I1, r1, ev, eK⟩ => ?_)
  subst ev; subst eK
  cases r1
  have stays : s1.heap.get? fl = _ := I1.base.keep fl _ hobj hun hnf (List.not_mem_nil)
  obtain ⟨⟨oc, cv, tc, c1, c2, c3⟩, _, _⟩ := I1.hok cl _ h2
  refine PySem.W.callWith_F0 ⟨_, _, _, _, stays⟩ (wpAny_call ?_)
  have whole : codeAny (model X.prog X.w) (X.A.deeper (envOfC qg sg s0.heap.objs.size g cdg)) (.call (.ref fl) ⟨[], []⟩) (CR (L2.CX X.prog X.w) (envOfC qg sg s0.heap.objs.size g cdg :: X.stack) X.prog X.w K1 s1 Q (WE W σz)) s1 := by
    refine PySem.W.kla_callFunE room.depth stays rfl L.co L.gen rfl ⟨cl, oc, cv, tc, rfl, c1, c2, c3⟩ ?_
    rw [hbind]
    refine wpAny_pure (wpAny_newFunctionEnv (fun y hy => (L.own y hy).2) (fun y hy => (List.not_mem_nil hy).elim) (fun h₁ ns sb => ⟨I1.nolimit.fresh _ sb, ?_⟩) L.kind)
    have grown : ∀ b o, s1.heap.get? b = some o → h₁.get? b = some o := fun b o e => sb.extBut b o (Nat.ne_of_lt (Heap.lt_size e)) (Heap.get?_push_of_some _ e)
    have J := LamX.lam_start2 (E := WE W σz) (f := fl) (c' := cl) (tk := s1.toks + ([] : List (Str × Value)).length) I0 L I1.env0 room.hd I1.base ns grown
    refine PySem.W.kla_codeExpr (wpAny_mono ((hbody _ _ s1 K1 (WE W σz) (room.deeper _)).run [] _ σ0 K1 Q J h3) (fun v s' ⟨x, K2, J2, rx, qx⟩ => ⟨x, K2, J2.os, J2.bare, J2.base, J2.hok, rx, qx⟩) fun _ _ z => z)
  refine codeAny_mono whole fun r s' hq => ?_
  match r, hq with
  | .error e, hq => exact passAt tk σz pz K1 s1 e s' I1 hq
  | .ok (.ret u), hq => exact I1.after hq
  | .ok .next, hq => exact hq.elim
  | .ok .brk, hq => exact hq.elim
  | .ok .cont, hq => exact hq.elim⟩
/-- why's body, whatever ask() gives -/
def MonoL (tl : XK → Hp → VK → Prop) : Prop := ∀ (E E' : XK) (H : Hp) (Q Q' : VK), tl E H Q → (∀ cls d H', E cls d H' → E' cls d H') → (∀ v H', Q v H' → Q' v H') → tl E' H Q'
def Asks (X : Cx) (Ng : List Str) (x : Str) (sg : Scope) (g : Addr) (cdg : Value) (bg : List Stmt) (a q : Str) (TT : (XK → Hp → VK → Prop) → Hp → VK → Prop) : Prop :=
  ∀ (fl cl : Addr) (s : Shared) (H : Hp) (Q : VK) (tl : XK → Hp → VK → Prop), MonoL tl →
    (∀ (W : WX) (pn : List (Addr × Obj)) (xe : Value → Shared → Prop) (p1 p2 : Pos), Takes ((cxOf C8.CX0 X.prog X.w X.K X.mg X.base Ng x sg g cdg X.A X.stack s H C8.E0).tr pn xe) W →
      PE ((cxOf C8.CX0 X.prog X.w X.K X.mg X.base Ng x sg g cdg X.A X.stack s H C8.E0).tr pn xe) (.Call (.Name a p1) [] [] p2) (fun σZ HZ Q => σZ[0]? = some (some (.ref fl)) ∧ HZ cl = some (LamX.CodeO cl q) ∧ tl (WE W σZ) HZ Q)) →
    H cl = some (LamX.CodeO cl q) → TT tl H Q →
    ∃ t, PSs (cxOf C8.CX0 X.prog X.w X.K X.mg X.base Ng x sg g cdg X.A X.stack s H C8.E0).nox bg t ∧ t { nx := fun _ H' => Q .non H', rt := Q } (L2.start Ng [.ref fl]) H
/-- what is known of the def why -/
structure WhyOk (X : Cx) (x a : Str) (g : Addr) (CS : Addr) (qn : Str) : Prop where
  ex : ∃ (pg : Arguments) (bg : List Stmt) (sg : Scope) (dV kV doc pm cdv ct oc : Value) (an od : Option Addr) (osl : Array (Option Value)) (Ng : List Str), X.mg x = some (.ref g) ∧ PySem.W.keepIn X.K (.ref g) = true ∧
    X.K.lookup g = some ⟨oc, od, .func (PySem.W.fnOf x x pg bg sg dV kV doc pm an cdv ct), osl⟩ ∧ PySem.W.codeIn X.K cdv x = true ∧ L2.Binds X.K (PySem.W.fnOf x x pg bg sg dV kV doc pm an cdv ct) [a] [] ∧ FnScope Ng [a] sg ∧ Ng[0]? = some a ∧ Vis sg a ∧
    Asks X Ng x sg g cdv bg a (qn ++ "<lambda>") (ttWhy X.K CS)
theorem le_why {CS : Addr} {qb : WD → QE} {x a : Str} {g c P : Addr} {lv : Nat} {params : Arguments} {body : Expr} {scope : Scope} {p lpos pos : Pos} (G : WhyOk X x a g CS X.env.qual) (hg : Gl X x)
    (TB : LamX.TabB X.base X.mg c P) (hcode : X.env.code = .ref c) (hmT : (P, X.env.qual ++ "<lambda>") ∈ B.T) (hu : ∀ p ∈ B.T, p.1 = P → p.2 = X.env.qual ++ "<lambda>") (room : Room (lv + 2) X.A) (L : LamX.LamS X.env.scope scope) (hdef : defaultsOf params X.env = ([], []))
    (hbind : ∀ (q : Str) (cl : List (Str × Addr)) (pm cv ctv : Value),
      bindArgs (PySem.W.kla_fn "<lambda>" q params body scope cl pm cv ctv) ⟨[], []⟩ = pure [])
    (hbody : ∀ (A : Around) (outer : List Env) (s : Shared) (H : Hp) (E : XK) (f c' : Addr) (B1 : Bs) (W1 : WD), Room lv (A.deeper (LamX.lamEnv X scope s.heap.objs.size f c')) → WL X.K B1 W1 (fun cls d _ H => E cls d H) → LE (LamX.lamCx X A outer s H E scope f c') B1 body (qb W1))
    (hdb : (x == ("__debug__" : Str)) = false := by decide) (hd : (a == ("__debug__" : Str)) = false := by decide)
    (hcd : (a == ("__classdict__" : Str)) = false := by decide) :
    LE X B (.Call (.Name x p) [.Lambda params body scope lpos] [] pos) (qWhy X.K CS qb) := ⟨fun pins s σ H Q I h => by
  obtain ⟨pg, bg, sg, dV, kV, doc, pm, cdv, ct, oc, an, od, osl, Ng, hm, hk, lk, hcg, hb, Sg, hNg, hva, hA⟩ := G.ex
  obtain ⟨hT, h⟩ := up_why h
  refine wpAny_Call_Name_kw (ld_glob I hg hm (PySem.W.callWith_K (h₀ := X.base) I.ok.mod.kin hk ?_ (by rfl) (by rfl)) hdb)
  refine Calls.spliced_cons (LamX.lam_make2 I TB hcode hmT hu hT hdef (L.has I.ok) fun fl cl pm' ctv H1 s' I1 eN T1 ho hun hnf hco => Calls.spliced_nil ⟨I1.kIn, wpAny_call ?_⟩)
  have whole : codeAny (model X.prog X.w) X.A (.call (.ref g) ⟨[.ref fl], []⟩) (CR C8.CX0 X.stack X.prog X.w H1 s' Q C8.E0) s' :=
    LamX.run_ofS (N := Ng) (ps := [a]) (us := [.ref fl]) (vs := [.ref fl]) lk hcg Sg room I1.env0 (hb s' [.ref fl] I1.kIn rfl) (.cons rfl .nil) rfl fun room' => by
      obtain ⟨t', ht', hq'⟩ := hA fl cl s' H1 Q (fun E K1 Q1 => ∃ (B1 : Bs) (W1 : WD), WL X.K B1 W1 (fun cls d _ H => E cls d H) ∧ UP X.K B1 (rD X.K) (qb W1) σ K1 Q1)
        (fun E E' K1 Q1 Q2 ⟨B1, W1, wl, φ, s, S, Q', m1, m2, m3, kk⟩ hE hQ => ⟨B1, W1, fun φ' C fs s S' cls d σ H' a b c e => hE _ _ _ (wl φ' C fs s S' cls d σ H' a b c e), φ, s, S, Q', m1, m2, m3, fun φ' d S' v H' a b c e => hQ _ _ (kk φ' d S' v H' a b c e)⟩)
        (fun W pn xe p1 p2 tk => pe_ask (t := fun E σ H Q => ∃ (B1 : Bs) (W1 : WD), WL X.K B1 W1 (fun cls d _ H => E cls d H) ∧ UP X.K B1 (rD X.K) (qb W1) σ H Q) I1 L ho hun hnf (hbind _ _ _ _ _) tk room' (fun A outer s2 H2 E room2 => ⟨fun pins2 s3 σ3 H3 Q3 I3 ⟨B1, W1, wl, z⟩ => (hbody A outer _ _ E fl cl B1 W1 room2 wl).run pins2 s3 σ3 H3 Q3 I3 z⟩) hNg hva hd hcd) hco (h H1 eN T1)
      exact ⟨t', ht'.nox, hq'⟩
  refine codeAny_mono whole fun r s2 hq => ?_
  match r, hq with
  | .error e, hq => exact (show False from hq).elim
  | .ok (.ret u), hq => exact I1.after hq
  | .ok .next, hq => exact hq.elim
  | .ok .brk, hq => exact hq.elim
  | .ok .cont, hq => exact hq.elim⟩
/-- what the exceptions that leave a lambda's body are taken by -/
theorem takes_lam {A : Around} {outer : List Env} {s : Shared} {H : Hp} {E : XK} {scope : Scope} {f c' : Addr} : Takes (LamX.lamCx X A outer s H E scope f c') (fun cls d _ H => E cls d H) := takes_of rfl rfl rfl rfl
/-- the body of why -/
theorem why_asks {Ng : List Str} {x a e t w' q : Str} {sg : Scope} {g CS : Addr} {cdg : Value} {j1 j2 : Nat} {p1 p2 p3 p4 p5 p6 p7 p8 p9 p10 p11 p12 p13 p14 p15 p16 p17 p18 p19 p20 p21 : Pos} {kt}
    (hNg : Ng = [a, t, w', e]) (nd : Ng.Nodup) (la : sg.names.lookup a = some .local) (lt : sg.names.lookup t = some .local) (lw : sg.names.lookup w' = some .local) (le : sg.names.lookup e = some .local)
    (dt : (t == ("__debug__" : Str)) = false) (dw : (w' == ("__debug__" : Str)) = false) (de : (e == ("__debug__" : Str)) = false) (ct : (t == ("__classdict__" : Str)) = false) (cw : (w' == ("__classdict__" : Str)) = false) (ce : (e == ("__classdict__" : Str)) = false)
    (hge : sg.names.lookup ("LimeError" : Str) = some .globalImplicit) (hme : X.mg "LimeError" = some (.ref CS)) :
    Asks X Ng x sg g cdg [.Assign [.Name t p1] (.Constant .none j1 p2) p3, .Assign [.Name w' p4] (.Constant (.str "") j2 p5) p6,
      .Try [.Assign [.Name t p7] (.Call (.Name a p8) [] [] p9) p10] [.ExceptHandler (some (.Name "LimeError" p11)) (some e) [.Assign [.Name w' p12] (.Attribute (.Name e p13) "called" p14) p15] p16] [] [] p17,
      .Return (some (.Tuple [.Name t p18, .Name w' p19] kt p20)) p21] a q (ttWhy X.K CS) := by
  subst hNg
  intro fl cl s H Q tl mono act hc h
  refine ⟨_, pss_cons (ps_set (i := 1) nd rfl (.inl lt) pe_non) (pss_cons (ps_set (i := 2) nd rfl (.inl lw) pe_str) (pss_cons
    (ps_try_as (X := (cxOf C8.CX0 X.prog X.w X.K X.mg X.base [a, t, w', e] x sg g cdg X.A X.stack s H C8.E0).nox) (c := .ref CS) (i := 3)
      (tb := fun W D σ H => σ[0]? = some (some (.ref fl)) ∧ H cl = some (LamX.CodeO cl q) ∧ tl (WE W σ) H fun v H' => D.nx (σ.set 1 (some v)) H')
      (ts := fun b cls d => tAsg (fun σ H1 Q => ∃ v, σ[3]? = some (some v) ∧ v = .ref b ∧ ∃ (C dd : Addr) (fs : List (Str × V)) (u : V), cls = .ref C ∧ XfC X.K C ∧ PySem.W.findIn X.K (.ref C) "called" = some none ∧ d = some dd ∧ H1 dd = some (.xd fs) ∧ fs.lookup ("called" : Str) = some u ∧ Q u H1) (gName 2))
      rfl rfl nd rfl le ⟨hge, by decide, .inl hme⟩ LamX.takes0 (fun W pn xe tk _ => ?_) (fun b oe cls d pn hz hf => ?_))
    (pss_one (ps_ret (pe_tup (pa_cons (pe_var (i := 1) rfl (.inl lt) dt ct) (pa_cons (pe_var (i := 2) rfl (.inl lw) dw cw) pa_nil))))))), ?_⟩
  · refine pss_one (PS.imp (ps_set (i := 1) nd rfl (.inl lt) (act W pn xe p8 p9 tk)) ?_)
    rintro D σ H' ⟨h1, h2, h3⟩
    exact ⟨h1, h2, h3⟩
  · exact pss_one (ps_set (i := 2) nd rfl (.inl lw) (pe_xfA hz hf (pe_var (i := 3) rfl (.inl le) de ce)))
  · refine ⟨rfl, hc, ?_⟩
    refine mono _ _ _ _ _ h ?_ ?_
    · rintro cls d H2 ⟨h1, C, dd, fs, v, rfl, h2, h3, rfl, h4, h5, h6⟩
      exact ⟨true, h1, (fun _ a _ => ⟨.ref a, rfl, rfl, C, dd, fs, v, rfl, h2, h3, rfl, h4, h5, ⟨.non, rfl, v, rfl, (by show (2:Nat) ≤ sizeLine; decide), h6⟩⟩), (fun h => by cases h)⟩
    · intro v H2 h1
      exact ⟨v, rfl, .str "", rfl, (by show (2:Nat) ≤ sizeLine; decide), h1⟩
end
end LC

set_option Elab.async false
set_option linter.all false
set_option maxRecDepth 100000
set_option maxHeartbeats 5000000
/-! LC9: the __init__ of exceptions. -/
namespace LC
open PySem PySem.Spec
open PyProof.Rows L2
section
variable {P : Program} {w : World} {K : PySem.W.Frag} {mg : Str → Option Value} {base : Heap} {q : Str} {st : Stmt} {f : Addr} {fd : FuncData} {p1 p2 p3 p4 p5 p6 p7 p8 p9 p10 p11 p12 p13 : Pos}
theorem passN {X : Cx} : Passes (L2.CX X.prog X.w) X (fun _ _ _ => False) := fun _ _ _ _ _ _ _ ⟨_, _, _, _, _, _, _, _, _, _, _, _, h⟩ => h.elim
/-- C.m(..) is read as such at these positions -/
def McOk (o : Expr) (m : Str) (es : List Expr) (p2 p5 : Pos) : Prop := ∃ pl : Env → Sem Bool, ∀ env : Env, eval (.Call (.Attribute o m p2) es [] p5) env = (do
      let ov ← eval o env
      standAt p2.atName
      let (f, first) ← holding [ov] (getMethod ov m (pl env))
      callWith p5 f first (backTo p5 (starEach es env)) (backToKw p5 (keywordEach [] env)))
/-- the base's own -/
theorem ok_lime (F : Fun K "__init__" q st f fd) (Sc : FnScope ["self", "called"] ["self", "called"] (defScope st))
    (hb : defBody st = [.Expr (.Call (.Attribute (.Name "ValueError" p1) "__init__" p2) [.Name "self" p3, .Name "called" p4] [] p5) p6, .Assign [.Attribute (.Name "self" p7) "called" p8] (.Name "called" p9) p10])
    (l1 : (defScope st).names.lookup ("self" : Str) = some .local) (l2 : (defScope st).names.lookup ("called" : Str) = some .local) (l3 : (defScope st).names.lookup ("ValueError" : Str) = some .globalImplicit) (hm : mg "ValueError" = none)
    (hc : McOk (.Name "ValueError" p1) "__init__" [.Name "self" p3, .Name "called" p4] p2 p5) (vV : PySem.W.findCls K (.type "ValueError") (.type "type") "__init__" = some (.val (.builtin "ValueError.__init__"))) : FnOk P w K mg base (L2.CX P w) 1 f fd ["self", "called"] (spX0 K) := by
  refine F.okX Sc (fun vs H Q E ⟨a, C, y, h, _⟩ => by subst h; rfl) fun cdv A outer s H vs Q E hr ⟨a, C, y, hv, T, hno, ha, k⟩ => ?_
  subst hv
  rw [hb]
  obtain ⟨pl, hc⟩ := hc
  refine ⟨_, pss_cons (ps_expr (pe_veinit l3 hm vV (pa_cons (pe_var (i := 0) rfl (.inl l1) (by decide) (by decide)) (pa_cons (pe_var (i := 1) rfl (.inl l2) (by decide) (by decide)) pa_nil)) (hc _)) rfl)
    (pss_one (ps_ost (pe_var (i := 0) rfl (.inl l1) (by decide) (by decide)) (pe_var (i := 1) rfl (.inl l2) (by decide) (by decide)))), ?_⟩
  refine ⟨.ref a, rfl, y, rfl, a, C, [y], rfl, (by show (1:Nat) ≤ 1000; decide), T, ha, y, rfl, .ref a, rfl, a, C, rfl, T, hno, .inl ⟨ha, fun d hd hne => ?_⟩⟩
  exact k d hd hne
end
section
variable {P : Program} {w : World} {K : PySem.W.Frag} {mg : Str → Option Value} {base : Heap} {q wd m n : Str} {st : Stmt} {f fB C B : Addr} {mc : Value} {fd fdB : FuncData} {j : Nat} {p1 p2 p3 p4 p5 p6 p7 p8 p9 p10 p11 p12 p13 p14 : Pos}
/-- what a class of the kind has -/
structure XcOk (K : PySem.W.Frag) (mg : Str → Option Value) (B fB : Addr) (fdB : FuncData) (mc : Value) : Prop where
  gB : mg "LimeError" = some (.ref B)
  rB : ClX.CRead K B mc
  iB : PySem.W.findCls K (.ref B) mc "__init__" = some (.val (.ref fB))
  kB : PySem.W.keepIn K (.ref fB) = true
  bB : Binds K fdB ["self", "called"] []
abbrev sup (wd : Str) (j : Nat) (p1 p2 p3 p4 p5 p6 : Pos) : Stmt := .Expr (.Call (.Attribute (.Name "LimeError" p1) "__init__" p2) [.Name "self" p3, .Constant (.str wd) j p4] [] p5) p6
theorem ok_exc0 (F : Fun K "__init__" q st f fd) (Sc : FnScope ["self"] ["self"] (defScope st)) (hb : defBody st = [sup wd j p1 p2 p3 p4 p5 p6]) (hc : McOk (.Name "LimeError" p1) "__init__" [.Name "self" p3, .Constant (.str wd) j p4] p2 p5)
    (l1 : (defScope st).names.lookup ("self" : Str) = some .local) (l3 : (defScope st).names.lookup ("LimeError" : Str) = some .globalImplicit) (G : XcOk K mg B fB fdB mc) (FB : FnOk P w K mg base (L2.CX P w) 1 fB fdB ["self", "called"] (spX0 K))
    (T : OexC K C) (nc : PySem.W.findIn K (.ref C) "called" = some none) : FnOk P w K mg base (L2.CX P w) 2 f fd ["self"] (spX C 0 fun _ => [("called", .str wd)]) := by
  refine F.okX Sc (fun vs H Q E ⟨a, us, h, hl, _⟩ => by subst h; simp [hl]) fun cdv A outer s H vs Q E hr ⟨a, us, hv, hl, ha, k⟩ => ?_
  subst hv
  rw [hb]
  obtain ⟨pl, hc⟩ := hc
  obtain rfl : us = [] := List.length_eq_zero_iff.mp hl
  refine ⟨_, pss_one (ps_expr (pe_clsm l3 G.gB G.rB G.iB FB G.kB hr G.bB passN (pa_cons (pe_var (i := 0) rfl (.inl l1) (by decide) (by decide)) (pa_cons pe_str pa_nil)) (ht := hc _)) rfl), ?_⟩
  refine ⟨.ref a, rfl, a, C, .str wd, rfl, T, nc, ha, fun d hd hne => ?_⟩
  exact k d _ hd hne upd_same (by rw [upd_ne hne, upd_same]) fun b h1 h2 => by rw [upd_ne h1, upd_ne h2]
/-- with one field that has a default -/
theorem ok_exc1d {dvs : List V} (F : L2.FunD K "__init__" q (defArgs st) (defBody st) (defScope st) dvs [] f fd) (Sc : FnScope ["self", m] ["self", m] (defScope st)) (hb : defBody st = [sup wd j p1 p2 p3 p4 p5 p6, .Assign [.Attribute (.Name "self" p7) m p8] (.Name m p9) p10]) (hc : McOk (.Name "LimeError" p1) "__init__" [.Name "self" p3, .Constant (.str wd) j p4] p2 p5)
    (l1 : (defScope st).names.lookup ("self" : Str) = some .local) (l2 : (defScope st).names.lookup m = some .local) (l3 : (defScope st).names.lookup ("LimeError" : Str) = some .globalImplicit) (G : XcOk K mg B fB fdB mc) (FB : FnOk P w K mg base (L2.CX P w) 1 fB fdB ["self", "called"] (spX0 K))
    (T : OexC K C) (nc : PySem.W.findIn K (.ref C) "called" = some none) (nm : PySem.W.findIn K (.ref C) m = some none) (dm : (m == ("__debug__" : Str)) = false) (cm : (m == ("__classdict__" : Str)) = false) : FnOk P w K mg base (L2.CX P w) 2 f fd ["self", m] (spX C 1 fun us => us.map (fun x => (m, x)) ++ [(("called" : Str), V.str wd)]) := by
  refine L2.FunD.ok F Sc (fun vs H Q E ⟨a, us, h, hl, _⟩ => by subst h; simp [hl]) fun cdv A outer s H vs Q E hr ⟨a, us, hv, hl, ha, k⟩ => ?_
  subst hv
  rw [hb]
  obtain ⟨pl, hc⟩ := hc
  obtain ⟨x, rfl⟩ : ∃ x, us = [x] := List.length_eq_one_iff.mp hl
  refine ⟨_, pss_cons (ps_expr (pe_clsm l3 G.gB G.rB G.iB FB G.kB hr G.bB passN (pa_cons (pe_var (i := 0) rfl (.inl l1) (by decide) (by decide)) (pa_cons pe_str pa_nil)) (ht := hc _)) rfl)
    (pss_one (ps_ost (pe_var (i := 0) rfl (.inl l1) (by decide) (by decide)) (pe_var (i := 1) rfl (.inl l2) dm cm))), ?_⟩
  refine ⟨.ref a, rfl, a, C, .str wd, rfl, T, nc, ha, fun d hd hne => ?_⟩
  refine ⟨x, rfl, .ref a, rfl, a, C, rfl, T, nm, .inr ⟨d, _, upd_same, by rw [upd_ne hne, upd_same], by show (1:Nat) ≤ 900; decide, ?_⟩⟩
  refine k d _ hd hne (by rw [upd_ne (Ne.symm hne), upd_same]) upd_same fun b h1 h2 => by rw [upd_ne h2, upd_ne h1, upd_ne h2]
end
end LC

set_option Elab.async false
set_option linter.all false
set_option maxRecDepth 100000
set_option maxHeartbeats 5000000
/-! LC10: further words. -/
namespace LC
open PySem PySem.Spec
open PyProof.Rows L2
section
variable {prog : Program}
variable {w : World} {A : Around}
variable {E : Value → Shared → Prop} {s : Shared}
end
section
variable {X : Cx} {B : Bs}
/-- a text's signs -/
def signs (x : Str) : List D := x.cps.toList.map fun c => D.str ⟨#[c]⟩
def qiStr (qe : QE) : QI := fun s S R => qe s S fun d S1 => match d with
  | .str x => R (signs x) (fun _ => True) S1
  | _ => False
theorem li_str {tg e : Expr} {qe : QE} (he : LE X B e qe) : LI X B tg e (qiStr qe) := PI.imp (pi_str he) fun σ H R ⟨φ, s, S, R', hr, ev, q, k⟩ =>
  ⟨φ, s, S, _, hr, ev, q, fun φ1 d S1 v H1 e1 hr1 r1 q1 => by
    split at q1
    · rename_i x
      cases r1
      have hl : (signs x).length = x.cps.size := by unfold signs; simp
      refine ⟨x, rfl, k _ _ _ _ _ _ e1 hr1 (fun i φ2 H2 S2 e2 hr2 hk => ?_) q1⟩
      refine ⟨fun hi => by rw [hl] at hi; exact hi, fun hi => by rw [hl] at hi; exact Nat.le_of_eq hi.symm, fun y H' d y' hd => ?_⟩
      obtain ⟨rfl, c, h1, rfl⟩ := y'
      refine ⟨φ2, Ext.refl, hr2, ?_⟩
      unfold signs at hd
      rw [List.getElem?_map] at hd
      have h1' : x.cps.toList[i]? = some c := by simpa using h1
      rw [h1'] at hd
      cases hd
      rfl
    · exact q1.elim⟩
/-- join -/
def qJoin (qo qe : QE) : QE := fun s S Q => qo s S fun d S1 => match d with
  | .str a => qe s S1 fun l S2 => ∃ xs ys, itemsOf S2 l = some xs ∧ asSs xs = some ys ∧ (ys.map (·.length)).sum + ys.length * a.length ≤ 16777216 ∧ Q (.str (Txt.join a ys)) S2
  | _ => False
theorem le_join {o e : Expr} {qo qe : QE} {apos pos : Pos} (ho : LE X B o qo) (he : LE X B e qe) (hs : starEach [e] X.env = [(false, eval e X.env)] := by rfl) (hbase : attributeBase o "join" X.env (eval o X.env) = eval o X.env := by rfl) (hline : (apos.endLine == pos.line) = true := by rfl) :
    LE X B (.Call (.Attribute o "join" apos) [e] [] pos) (qJoin qo qe) := PE.imp (pe_join ho he hs hbase hline) fun σ H Q ⟨φ, s, S, Q', hr, ev, q, k⟩ => ⟨φ, s, S, _, hr, ev, q, fun φ1 d S1 v H1 e1 hr1 r1 q1 => by
  split at q1
  · rename_i a
    cases r1
    refine ⟨⟨a, rfl⟩, φ1, s, S1, _, hr1, ev.mono e1, q1, fun φ2 d2 S2 v2 H2 e2 hr2 r2 ⟨xs, ys, h1, h2, h3, q2⟩ => ?_⟩
    obtain ⟨p, vs, rfl, h4, h5⟩ := hr2.items h1 r2
    have h6 := asSs_ok h2 h5
    subst h6
    exact ⟨a, p, ys, rfl, rfl, h4, h3, k _ (.str _) _ _ _ (e1.trans e2) hr2 rfl q2⟩
  · exact q1.elim⟩
/-- * of ints; of a list and an int -/
def oMul : QO := fun d e S Q => match d, e with
  | .int i, .int j => CMul i j ∧ Q (.int (i * j)) S
  | .ref k, .int j => ∃ xs, S[k]? = some (.lst xs) ∧ 0 ≤ j ∧ j < 2 ^ 63 ∧ xs.length * j.toNat ≤ sizeLine ∧ Q (.ref S.length) (S ++ [.lst (List.replicate j.toNat xs).flatten])
  | _, _ => False
theorem RVs.rep {K : PySem.W.Frag} {φ : List Addr} {H : Hp} {ds : List D} {vs : List V} (r : RVs K φ H ds vs) : ∀ n : Nat, RVs K φ H (List.replicate n ds).flatten (List.replicate n vs).flatten
  | 0 => rfl
  | n + 1 => by rw [List.replicate_succ, List.replicate_succ, List.flatten_cons, List.flatten_cons]; exact r.app (RVs.rep r n)
theorem oo_mulA : OpR X (binaryOp .Mult) (upR X.K B oMul) := OpR.imp (op_mul.or op_rep) fun x y H Q ⟨φ, S, d, e, Q', hr, r1, r2, q, k⟩ => by
  unfold oMul at q
  split at q
  · cases r1; cases r2
    exact .inl ⟨_, _, rfl, rfl, q.1, k.here (d := D.int _) hr rfl q.2⟩
  · cases r2
    obtain ⟨xs, h1, h2, h3, h4, q⟩ := q
    obtain ⟨a, vs, rfl, ea, h5, h6⟩ := hr.lstW h1 r1
    exact .inr ⟨a, _, vs, rfl, rfl, h5, by omega, h3, by rw [h6.len]; exact h4, fun p hp => k.new (x := O.lst _) hr hp ⟨_, upd_same, (h6.rep _).mono (ext_new hp)⟩ q⟩
  · exact q.elim
/-! ### a def that is known -/
structure Fx (P : Program) (w : World) (K : PySem.W.Frag) (mg : Str → Option Value) (base : Heap) (k : Nat) (f : Addr) (fd : FuncData) (x : Str) (ps : List Str) (sp : SpD) : Prop where
  ok : FnOk P w K mg base (L2.CX P w) k f fd ps (upF K sp)
  gm : mg x = some (.ref f)
  kp : PySem.W.keepIn K (Value.ref f) = true
  bi : Binds K fd ps []
theorem le_fx {k : Nat} {f : Addr} {fd : FuncData} {x : Str} {ps : List Str} {sp : SpD} {W : WX} {W' : WD} {e : Expr} {es : List Expr} {p pos : Pos} {q : QA} (F : Fx X.prog X.w X.K X.mg X.base k f fd x ps sp) (hr : Room k X.A) (tk : Takes X W) (wl : WL X.K B W' W) (ha : LA X B (e :: es) q) (hg : Gl X x := by rfl)
    (hdb : (x == ("__debug__" : Str)) = false := by decide) (he : starEach (e :: es) X.env = (false, eval e X.env) :: starEach es X.env := by rfl) (hpl : (backTo pos (starEach es X.env)).any (·.1) = false := by rfl) : LE X B (.Call (.Name x p) (e :: es) [] pos) (qCall sp [] W' q) :=
  le_call F.ok hr hg F.gm F.kp F.bi .nil RVc.nil tk wl ha hdb he hpl
theorem lif {c : Bool} {P Q : Prop} (h1 : c = true → P) (h2 : c = false → Q) : Sel c P Q := ⟨h1, h2⟩
end
end LC

set_option Elab.async false
set_option linter.all false
set_option maxRecDepth 100000
set_option maxHeartbeats 5000000
/-! LC11: defs over fixed tables; the end. -/
namespace LC
open PySem PySem.Spec
open PyProof.Rows L2
/-- a promise over the tables T0 -/
def upFT (K : PySem.W.Frag) (T0 : List (Addr × Str)) (sp : SpD) : Sp := fun vs H Q E => ∃ φ ds S Q' E', Rel K φ H S ∧ RVs K φ H ds vs ∧ LamX.Tabs T0 H ∧ sp ds S Q' E' ∧ (∀ φ' d S' v H', Ext K φ φ' H H' → Rel K φ' H' S' → LamX.Tabs T0 H' → RV K φ' H' d v → Q' d S' → Q v H') ∧
  (∀ φ' C fs S' cls d H', Ext K φ φ' H H' → Rel K φ' H' S' → LamX.Tabs T0 H' → XRel K φ' H' C fs cls d → E' C fs S' → E cls d H')
/-- a def whose code object stands at c -/
structure FunC (K : PySem.W.Frag) (x qual : Str) (st : Stmt) (f : Addr) (fd : FuncData) (c : Addr) : Prop where
  ex : ∃ (oc : Value) (od : Option Addr) (kV doc pm : Value) (an : Option Addr) (ct : Value) (osl : Array (Option Value)),
    fd = PySem.W.fnOf x qual (defArgs st) (defBody st) (defScope st) .none kV doc pm an (.ref c) ct ∧ K.lookup f = some ⟨oc, od, .func fd, osl⟩ ∧ PySem.W.codeIn K (.ref c) qual = true
section
variable {P : Program} {w : World} {K : PySem.W.Frag} {mg : Str → Option Value} {base : Heap} {T0 : List (Addr × Str)}
theorem FunC.ok {x qual : Str} {st : Stmt} {f c : Addr} {fd : FuncData} {N ps : List Str} {k : Nat} {sp : SpD} (F : FunC K x qual st f fd c) (Sc : FnScope N ps (defScope st)) (len : ∀ ds S Q E, sp ds S Q E → ds.length = ps.length)
    (hbody : ∀ (A : Around) (outer : List Env) (s : Shared) (H : Hp) (E : XK) (φ : List Addr) (W' : WD), Room k (A.deeper (envOfC qual (defScope st) s.heap.objs.size f (.ref c))) → WL K ⟨φ, H, T0⟩ W' (fun cls d _ H => E cls d H) →
      ∃ q, LSs (cxOf (L2.CX P w) P w K mg base N qual (defScope st) f (.ref c) A outer s H E) ⟨φ, H, T0⟩ (defBody st) q ∧
        ∀ ds S Q' E', sp ds S Q' E' → W' = (fun C fs _ S' => Xt S.length E' C fs S') → Osl S.length S → q { nx := fun _ S' => Rt S.length Q' .non S', rt := Rt S.length Q' } (startD N ds) S) :
    FnOk P w K mg base (L2.CX P w) (k + 1) f fd ps (upFT K T0 sp) := by
  obtain ⟨oc, od, kV, doc, pm, an, ct, osl, rfl, lk, hcd⟩ := F.ex
  refine fn_of lk hcd Sc (fun vs H Q E ⟨φ, ds, S, Q', E', r, rs, tt, h, _⟩ => by rw [rs.len]; exact len _ _ _ _ h) fun A outer s H vs Q E hr ⟨φ, ds, S', Q', E', r, rs, tt, h, kq, ke⟩ => ?_
  have keep : ∀ {φ' : List Addr} {H' : Hp} {S1 S2 : List O} {sel : List Nat}, HR K ⟨φ, H, T0⟩ φ' H' S1 → Kept S'.length sel S1 S2 → Ext K φ (pick φ' sel) H H' ∧ Rel K (pick φ' sel) H' S2 := fun {φ' H' S1 S2 sel} hr' kp =>
    ⟨hr'.ext.keep (fun k hk => by rw [hr'.rel.len]; exact kp.inS k hk) (fun j hj => kp.first j (by rw [← r.len]; exact hj)), hr'.rel.keep kp⟩
  have bound : ∀ {φ' : List Addr} {H' : Hp} {S1 S2 : List O} {sel : List Nat}, HR K ⟨φ, H, T0⟩ φ' H' S1 → Kept S'.length sel S1 S2 → ∀ k ∈ sel, k < φ'.length := fun hr' kp k hk => by rw [hr'.rel.len]; exact kp.inS k hk
  obtain ⟨q, hq, hh⟩ := hbody A outer s H E φ (fun C fs _ S1 => Xt S'.length E' C fs S1) hr (fun φ' C fs s' S1 cls d σ H' hr' ev xr ⟨sel, fs2, S2, kp, e, he⟩ => by
    obtain ⟨e1, r1⟩ := keep hr' kp
    obtain ⟨rfl, dx, gs, rfl, h1, h2⟩ := xr
    rw [← e] at h2
    exact ke _ _ fs2 S2 _ _ _ e1 r1 hr'.tab ⟨rfl, dx, gs, rfl, h1, h2.unsub (bound hr' kp)⟩ he)
  refine ⟨_, hq, φ, startD N ds, S', { nx := fun _ S1 => Rt S'.length Q' .non S1, rt := Rt S'.length Q' }, ⟨Ext.refl, r, tt⟩, start_ok rs, hh ds S' Q' E' h rfl r.lt, ⟨?_, ?_, ?_, ?_⟩⟩
  · intro φ' H' S1 s' σ' e hr' ev ⟨sel, d2, S2, kp, ed, hd⟩
    obtain ⟨e1, r1⟩ := keep hr' kp
    have rd : RV K φ' H' (D.sub sel d2) .non := by rw [ed]; rfl
    exact kq _ d2 S2 _ _ e1 r1 hr'.tab (rd.unsub (bound hr' kp)) hd
  · intro φ' H' S1 d v e hr' rv ⟨sel, d2, S2, kp, ed, hd⟩
    obtain ⟨e1, r1⟩ := keep hr' kp
    rw [← ed] at rv
    exact kq _ d2 S2 _ _ e1 r1 hr'.tab (rv.unsub (bound hr' kp)) hd
  · intro φ' H' S1 s' σ' e hr' ev h; exact h.elim
  · intro φ' H' S1 s' σ' e hr' ev h; exact h.elim
/-- what the law is handed: the script -/
def spLaw : SpD := fun ds S Q _ => ∃ (ns : List Int) (o : O), ds = [.ref 0] ∧ S = [o] ∧ lstAt S 0 = some (ns.map D.int) ∧ ns.length ≤ 63 ∧ (∀ z ∈ ns, Builtin.Int.intBits z ≤ 1048576) ∧ ∀ S', Q (.bl true) S'
theorem law_at {ns : List Int} {H : Hp} {a : Addr} (hl : ns.length ≤ 63) (hb : ∀ z ∈ ns, Builtin.Int.intBits z ≤ 1048576) (t : LamX.Tabs T0 H) (h : SqL K H a (ns.map V.int)) : upFT K T0 spLaw [.ref a] H (fun v _ => v = .bl true) fun _ _ _ => False := by
  have go : ∀ o : O, RO K [a] H o a → lstAt [o] 0 = some (ns.map D.int) → upFT K T0 spLaw [.ref a] H (fun v _ => v = .bl true) fun _ _ _ => False := fun o ho hla =>
    ⟨[a], [.ref 0], [o], fun d _ => d = .bl true, fun _ _ _ => False, ⟨fun i j b x y h1 h2 h3 h4 _ _ => by
        have l1 := (List.getElem?_eq_some_iff.mp h3).1
        have l2 := (List.getElem?_eq_some_iff.mp h4).1
        simp at l1 l2
        omega, rfl, fun i x hx => by
        cases i with
        | zero => simp at hx; subst hx; exact ⟨a, rfl, ho⟩
        | succ i => simp at hx⟩,
      ⟨.ref a, [], rfl, ⟨a, rfl, rfl⟩, rfl⟩, t, ⟨ns, o, rfl, rfl, hla, hl, hb, fun _ => rfl⟩, fun φ' d S' v H' _ _ _ rv e => by subst e; exact rv, fun _ _ _ _ _ _ _ _ _ _ _ z => z⟩
  by_cases hL : H a = some (.lst (ns.map V.int))
  · exact go (.lst (ns.map D.int)) ⟨_, hL, RVs.ofInts⟩ rfl
  · exact go (.fro (ns.map D.int)) ⟨_, FrL.of h hL, RVs.ofInts⟩ rfl
end
/-- the end, over the tables cs with the name q -/
theorem walk_end {l : PySem.W.OpenLaw} {k : Nat} {q : Program} {loose : List Str} {XP : (Str → Option Value) → Heap → Prop} {YP : World → Heap → Prop} {d : DefRec} {K : Params → PySem.W.Frag} {x : Str} (hn : l.most = some 63) (hdf : d.params.defaults = []) (hr : Room k callerA) (hY : ∀ (w : World) (h : Heap), YP w h → (K w.params).In h)
    (F : ∀ (w : World) (mg : Str → Option Value) (fa : Addr) (h : Heap), YP w h → (K w.params).In h → h.Ns mainGlobals mg → mg d.name = some (.ref fa) → ∃ (fd : FuncData) (cs : List (Addr × Addr)) (qn : Str), (∀ p ∈ cs, h.get? p.2 = some { cls := .none, data := .fields #[] }) ∧ (∀ p ∈ cs, (K w.params).lookup p.2 = none) ∧ (∀ p ∈ cs, PySem.W.CodeHd h p.1 p.2) ∧
      (∀ (s : Shared) (u : Value), BindsTo s fd ⟨[u], []⟩ [(x, u)]) ∧ ∀ base : Heap, (K w.params).In base → base.Ns mainGlobals mg → (∀ p ∈ cs, LamX.TabB base mg p.1 p.2) → FnOk l.prog w (K w.params) mg base (L2.CX l.prog w) k fa fd [x] (upFT (K w.params) (cs.map fun p => (p.2, qn)) spLaw)) :
    PySem.W.WalkO q loose XP YP l.row.toRowW d []
      (fun f vs => PySem.call f vs) := by
  refine LamX.walk_ofTs (n := 63) (k := k) (x := x) (CX := fun w => L2.CX l.prog w) hn (by decide) hdf hr hY (fun w mg fa h Y X G hmg => ?_) fun w H s e s' ⟨_, _, _, _, _, _, _, _, _, _, _, _, h⟩ => h
  obtain ⟨fd, cs, qn, h1, h2, h3, h4, h5⟩ := F w mg fa h Y X G hmg
  refine ⟨fd, cs, _, h1, h2, h3, h4, fun H a ns hl hb ht hs => law_at (T0 := cs.map fun p => (p.2, qn)) hl hb (fun p hp => ?_) hs, h5⟩
  obtain ⟨r, hr', rfl⟩ := List.mem_map.mp hp
  exact LamX.TabS.nil (ht r hr')
end LC

set_option Elab.async false
set_option linter.all false
set_option maxRecDepth 100000
set_option maxHeartbeats 5000000
/-! LC12: what a printed text asks. -/
namespace LC
open PySem PySem.Spec
open PyProof.Rows L2
/-- a name of a module that holds plain data -/
def GlD (K : PySem.W.Frag) (mg : Str → Option Value) (x : Str) (d : D) : Prop := ∃ v u, mg x = some u ∧ RelV v u ∧ ∀ φ H, RV K φ H d v
theorem GlD.le {X : Cx} {B : Bs} {x : Str} {d : D} {pos : Pos} (h : GlD X.K X.mg x d) (hg : Gl X x) (hd : (x == ("__debug__" : Str)) = false := by decide) : LE X B (.Name x pos) (qC d) :=
  let ⟨_, _, h1, h2, h3⟩ := h
  le_glob hg h1 h2 h3 hd
theorem GlD.int {K : PySem.W.Frag} {mg : Str → Option Value} {x : Str} {i : Int} {t : Tok} (h : mg x = some (.int i t)) : GlD K mg x (.int i) := ⟨.int i, _, h, ⟨t, rfl⟩, fun _ _ => rfl⟩
def fl0 (w : Str) : List V → List (Str × V) := fun _ => [("called", .str w)]
def fd0 (w : Str) : List D → List (Str × D) := fun _ => [("called", .str w)]
def fl1 (w m : Str) : List V → List (Str × V) := fun us => us.map (fun x => (m, x)) ++ [(("called" : Str), V.str w)]
def fd1 (w m : Str) : List D → List (Str × D) := fun us => us.map (fun x => (m, x)) ++ [(("called" : Str), D.str w)]
theorem fl0_ok {K : PySem.W.Frag} {w : Str} : FlD K (fl0 w) (fd0 w) := fun _ _ _ _ _ => ⟨_, _, rfl, rfl, rfl⟩
theorem fl1_ok {K : PySem.W.Frag} {w m : Str} : FlD K (fl1 w m) (fd1 w m) := fun φ H ds => by
  induction ds with
  | nil => intro us r; cases r; exact ⟨_, _, rfl, rfl, rfl⟩
  | cons d ds ih =>
    rintro us ⟨v, ws, rfl, r1, r2⟩
    exact ⟨v, _, rfl, r1, ih ws r2⟩
/-- a class of exceptions -/
structure XcD (P : Program) (w : World) (K : PySem.W.Frag) (mg : Str → Option Value) (base : Heap) (x : Str) (C fI : Addr) (fd : FuncData) (ps : List Str) (n : Nat) (fl : List V → List (Str × V)) (flD : List D → List (Str × D)) (dvs : List V) (dds : List D) : Prop where
  hfl : FlD K fl flD
  T : OexC K C
  xf : XfC K C
  iC : PySem.W.findIn K (.ref C) "__init__" = some (some (.ref fI))
  tI : PySem.W.typeIn K (.ref fI) = some (.type "function")
  ok : FnOk P w K mg base (L2.CX P w) 2 fI fd ps (spX C n fl)
  bi : ∃ ds, Vals dvs ds ∧ Binds K fd ps ds
  dd : RVc K dds dvs
  gm : mg x = some (.ref C)
  nc : PySem.W.findIn K (.ref C) "called" = some none
section
variable {X : Cx} {B : Bs} {x : Str} {C fI : Addr} {fd : FuncData} {ps : List Str} {dvs : List V} {dds : List D} {n : Nat} {fl : List V → List (Str × V)} {flD : List D → List (Str × D)} {W : WX} {W' : WD} {e : Expr} {es : List Expr} {q : QA} {p pos rpos : Pos}
theorem ls_rz0 (Z : XcD X.prog X.w X.K X.mg X.base x C fI fd ps n fl flD dvs dds) (hc : X.calm = true) (hr : Room 3 X.A) (tk : Takes X W) (wl : WL X.K B W' W) (hg : Gl X x := by rfl)
    (hdb : (x == ("__debug__" : Str)) = false := by decide) :
    LS X B (.Raise (some (.Call (.Name x p) [] [] pos)) none rpos) (qRaise C flD n dds W' qNil) :=
  let ⟨_, vd, b⟩ := Z.bi
  ls_raise0 Z.hfl hc Z.T Z.iC Z.tI Z.ok hr b vd Z.dd tk wl passN hg Z.gm hdb
end
/-- plain data handed back, nothing changed -/
theorem Rt.same {Q' : D → List O → Prop} {d : D} {S : List O} (l : Osl S.length S) (q : Q' d S) (hp : D.pure d = true := by rfl) : Rt S.length Q' d S := Rt.pure (Nat.le_refl _) hp List.take_length l q
theorem Xt.same {E' : EDt} {C : Addr} {fs : List (Str × D)} {S : List O} (l : Osl S.length S) (q : E' C fs S) (hp : fs.all (fun p => D.pure p.2) = true := by rfl) : Xt S.length E' C fs S := Xt.pure (Nat.le_refl _) hp List.take_length l q
theorem D.sub_range {n : Nat} (d : D) : D.lt n d → D.sub (List.range n) d = d := D.rec (motive_1 := fun d => D.lt n d → D.sub (List.range n) d = d) (motive_2 := fun ds => D.lts n ds → D.subs (List.range n) ds = ds)
  (fun _ => rfl) (fun _ _ => rfl) (fun _ _ => rfl) (fun _ _ => rfl) (fun _ _ => rfl) (fun _ _ => rfl) (fun k h => by
    show subN (List.range n) k = _
    unfold subN
    rw [List.getElem?_range (show k < n from h)])
  (fun xs ih h => congrArg D.tup (ih h)) (fun _ => rfl) (fun _ => rfl) (fun d ds i1 i2 h => by
    show D.sub _ d :: D.subs _ ds = _
    rw [i1 h.1, i2 h.2]) d
/-- handed back with the first m objects -/
theorem Rt.keep {n : Nat} {Q' : D → List O → Prop} {d : D} {S S2 : List O} (m : Nat) (hn : n ≤ m) (hm : m ≤ S.length) (h2 : S.take m = S2) (hd : D.lt m d) (l : Osl m S2) (q : Q' d S2) : Rt n Q' d S := by
  have k := Kept.first' hm h2.symm l
  exact ⟨List.range m, d, S2, ⟨k.nd, fun j hj => List.getElem?_range (Nat.lt_of_lt_of_le hj hn), k.inS, k.len, k.ob⟩, D.sub_range d hd, q⟩
/-- handed back with all -/
theorem Rt.all {n : Nat} {Q' : D → List O → Prop} {d : D} {S : List O} (hn : n ≤ S.length) (hd : D.lt S.length d) (l : Osl S.length S) (q : Q' d S) : Rt n Q' d S := Rt.keep S.length hn (Nat.le_refl _) List.take_length hd l q
/-- the law's drawing: its list -/
def DrawL (j : Nat) (l : List D) : Prop := ∃ i r s : Int, l = [.ref j, .int i, .int r, .int s] ∧ 0 ≤ i ∧ 0 ≤ r ∧ 0 ≤ s ∧ s < 2147483629
inductive spPull (ds : List D) (S : List O) (Q : D → List O → Prop) (E : EDt) : Prop
  | mk (k j : Nat) (many : Int) (e : ds = [.ref k, .int many]) (l : List D) (ns : List Int) (hk : S[k]? = some (.lst l)) (hl : DrawL j l) (hj : lstAt S j = some (ns.map D.int)) (hjk : j < k) (h1 : 1 ≤ many) (h2 : many < 1073741824)
    (q : ∀ (n : Int) (l' : List D), 0 ≤ n → n < many → DrawL j l' → Q (.int n) (S.set k (.lst l')))
/-- st, then rest, by what holds between; what was made may be dropped there -/
inductive sqM (a b : QS) (D : Ed) (s : Sl) (S : List O) : Prop
  | mk (P P' : Sl → List O → Prop) (h1 : a { D with nx := P' } s S) (h2 : ∀ s' S', P' s' S' → Wk S.length P s' S') (h3 : ∀ s' S', P s' S' → b D s' S')
theorem sD {a b : QS} {D : Ed} {s : Sl} {S : List O} (h : qSeq a b D s S) : sqM a b D s S := ⟨_, _, h, fun _ _ h => .inl h, fun _ _ h => h⟩
theorem sM {a b : QS} {D : Ed} {s : Sl} {S : List O} (P : Sl → List O → Prop) (h : a { D with nx := P } s S) (k : ∀ s' S', P s' S' → b D s' S') : sqM a b D s S := ⟨P, P, h, fun _ _ h => .inl h, k⟩
theorem sW {a b : QS} {D : Ed} {s : Sl} {S : List O} (P : Sl → List O → Prop) (h : a { D with nx := Wk S.length P } s S) (k : ∀ s' S', P s' S' → b D s' S') : sqM a b D s S := ⟨P, _, h, fun _ _ h => h, k⟩
theorem lss_consM {X : Cx} {B : Bs} {st : Stmt} {rest : List Stmt} {qs qt : QS} (h1 : LS X B st qs) (h2 : LSs X B rest qt) : LSs X B (st :: rest) (sqM qs qt) := PSs.imp (pss_cons h1 h2) fun D σ H ⟨φ, s, S, D', hr, ev, ⟨P, P', q, hw, hp⟩, ek⟩ =>
  ⟨φ, s, S, { D' with nx := P' }, hr, ev, q, ⟨fun φ' H' S' s' σ' e' hr' ev' q' => by
    obtain ⟨φ2, s2, S2, e2, hr2, ev2, p2⟩ := Wk.at hr e' hr' ev' (hw _ _ q')
    exact ⟨φ2, s2, S2, D', hr2, ev2, hp _ _ p2, ek.ext e2⟩, ek.rt, ek.bk, ek.ct⟩⟩
theorem lstAt_of {S : List O} {k : Nat} {l : List D} (h : S[k]? = some (.lst l)) : lstAt S k = some l := by unfold lstAt; rw [h]
theorem itemsOf_of {S : List O} {k : Nat} {l : List D} (h : S[k]? = some (.lst l)) : itemsOf S (.ref k) = some l := lstAt_of h
/-- S' is S but for the drawing's list at k -/
structure DrA (S : List O) (k j : Nat) (ns : List Int) (l : List D) (S' : List O) : Prop where
  hk : S'[k]? = some (.lst l)
  hj : lstAt S' j = some (ns.map D.int)
  hs : ∀ z, S'.set k z = S.set k z
  me : S' = S.set k (.lst l)
theorem DrA.put {S S' : List O} {k j : Nat} {ns : List Int} {l : List D} (h : DrA S k j ns l S') (hjk : j < k) (l2 : List D) : DrA S k j ns l2 (S'.set k (.lst l2)) := by
  have hl : k < S'.length := (List.getElem?_eq_some_iff.mp h.hk).1
  refine ⟨by rw [List.getElem?_set_self hl], ?_, fun z => by rw [List.set_set]; exact h.hs z, h.hs _⟩
  have := h.hj
  unfold lstAt at this ⊢
  rw [List.getElem?_set_ne (by omega)]
  exact this
theorem DrA.start {S : List O} {k j : Nat} {ns : List Int} {l : List D} (hk : S[k]? = some (.lst l)) (hj : lstAt S j = some (ns.map D.int)) : DrA S k j ns l S := by
  obtain ⟨hl, e⟩ := List.getElem?_eq_some_iff.mp hk
  exact ⟨hk, hj, fun _ => rfl, by rw [← e]; exact (List.set_getElem_self hl).symm⟩
theorem atI_get {α : Type} {ds : List α} {i : Int} {d : α} (h0 : 0 ≤ i) (h : ds[i.toNat]? = some d) : L2.atI ds i = some d := by
  have hl := (List.getElem?_eq_some_iff.mp h).1
  have : ixN ds.length i = some i.toNat := by
    unfold ixN
    rw [if_pos h0, if_pos (by omega)]
  unfold L2.atI
  rw [this]
  exact h
theorem atI_ints {ns : List Int} {i : Int} (h0 : 0 ≤ i) (h : i < ns.length) : ∃ z, z ∈ ns ∧ L2.atI (ns.map D.int) i = some (.int z) := by
  have hl : i.toNat < ns.length := by omega
  exact ⟨ns[i.toNat], List.getElem_mem hl, atI_get h0 (by simp [List.getElem?_eq_getElem hl])⟩
/-! ### isinstance of built-in types -/
def tyN (S : List O) : D → Option String
  | .non => some "NoneType"
  | .bl _ => some "bool"
  | .int _ => some "int"
  | .str _ => some "str"
  | .tup _ => some "tuple"
  | .ref k => match S[k]? with
    | some (O.lst _) => some "list"
    | some (O.fro _) => some "list"
    | some (.dK _) => some "dict"
    | some (.dT _) => some "dict"
    | _ => none
  | _ => none
def subTy (t c : String) : Bool := t == c || (t == "bool" && c == "int")
theorem kit_b {K : PySem.W.Frag} {t c : String} (ht : t ∈ ["NoneType", "bool", "int", "str", "tuple", "list", "dict"]) (hc : c ∈ ["bool", "int", "str", "tuple", "list"]) : PySem.W.kitOne K (.type t) (.type c) = some (subTy t c) := by
  simp only [List.mem_cons, List.not_mem_nil, or_false] at ht hc
  rcases ht with rfl | rfl | rfl | rfl | rfl | rfl | rfl <;> rcases hc with rfl | rfl | rfl | rfl | rfl <;> rfl
theorem tyN_ty {S : List O} {d : D} {t : String} (h : tyN S d = some t) : tyOf S d = some (.type t) ∧ t ∈ ["NoneType", "bool", "int", "str", "tuple", "list", "dict"] := by
  cases d with
  | ref k =>
    simp only [tyN] at h
    simp only [tyOf]
    cases e : S[k]? with
    | none => (rw [e] at h; cases h)
    | some o => rw [e] at h; cases o <;> first | (cases h; done) | (cases h; exact ⟨rfl, by simp⟩)
  | _ => first | (cases h; done) | (cases h; exact ⟨rfl, by simp⟩)
theorem isi_b {K : PySem.W.Frag} {S : List O} {Q : D → List O → Prop} {d : D} {t c : String} (h : tyN S d = some t) (q : Q (.bl (subTy t c)) S) (hc : c ∈ ["bool", "int", "str", "tuple", "list"] := by decide) : rcIsi K [d, .ty c] S Q := by
  obtain ⟨h1, h2⟩ := tyN_ty h
  exact ⟨h1, rfl, (fun C z => nomatch z), kit_b h2 hc, q⟩
theorem sIx_to {n k : Nat} (h : n ≤ k) : HT.sIx n n (some (k : Int)) = n := by rw [HT.sIx_nat]; omega
theorem cutD_to {xs : List D} {k : Nat} (h : xs.length ≤ k) : cutD xs none (some (k : Int)) = xs := cutD_whole xs _ _ ⟨rfl, sIx_to h⟩
/-! ### alike data -/
def AllAl (P : D → D → Prop) : List D → List D → Prop
  | [], [] => True
  | x :: xs, y :: ys => P x y ∧ AllAl P xs ys
  | _, _ => False
/-- two data that the law's like tells as one: n levels -/
def Alike (S : List O) : Nat → D → D → Prop
  | 0, _, _ => False
  | n + 1, a, b => match a, b with
    | .non, .non => True
    | .bl x, .bl y => x = y
    | .int x, .int y => x = y
    | .str x, .str y => x = y
    | .tup xs, .tup ys => AllAl (Alike S n) xs ys ∧ xs.length ≤ 1000000
    | .ref j, .ref k => ∃ xs ys, lstAt S j = some xs ∧ lstAt S k = some ys ∧ AllAl (Alike S n) xs ys ∧ xs.length ≤ 1000000
    | _, _ => False
theorem AllAl.len {P : D → D → Prop} : ∀ {xs ys : List D}, AllAl P xs ys → xs.length = ys.length
  | [], [], _ => rfl
  | _ :: _, _ :: _, h => by simp [AllAl.len h.2]
  | [], _ :: _, h => h.elim
  | _ :: _, [], h => h.elim
theorem AllAl.get {P : D → D → Prop} : ∀ {xs ys : List D} {i : Nat} {x : D}, AllAl P xs ys → xs[i]? = some x → ∃ y, ys[i]? = some y ∧ P x y
  | x :: xs, y :: ys, 0, z, h, e => by simp at e; subst e; exact ⟨y, rfl, h.1⟩
  | x :: xs, y :: ys, i + 1, z, h, e => AllAl.get (i := i) h.2 (by simpa using e)
  | [], [], _, _, _, e => by simp at e
  | [], _ :: _, _, _, h, _ => h.elim
  | _ :: _, [], _, _, h, _ => h.elim
theorem AllAl.imp {P Q : D → D → Prop} (f : ∀ a b, P a b → Q a b) : ∀ {xs ys : List D}, AllAl P xs ys → AllAl Q xs ys
  | [], [], _ => trivial
  | _ :: _, _ :: _, h => ⟨f _ _ h.1, AllAl.imp f h.2⟩
  | [], _ :: _, h => h.elim
  | _ :: _, [], h => h.elim
theorem lstAt_app {S T : List O} {k : Nat} {xs : List D} (h : lstAt S k = some xs) : lstAt (S ++ T) k = some xs := by
  unfold lstAt at h ⊢
  have hk : k < S.length := by
    by_cases hk : k < S.length
    · exact hk
    · rw [List.getElem?_eq_none (by omega)] at h; cases h
  rw [List.getElem?_append_left hk]
  exact h
theorem Alike.app {S T : List O} : ∀ {n : Nat} {a b : D}, Alike S n a b → Alike (S ++ T) n a b
  | 0, _, _, h => h.elim
  | n + 1, a, b, h => by
    cases a <;> cases b <;> first
      | exact h
      | exact ⟨h.1.imp fun _ _ => Alike.app, h.2⟩
      | (obtain ⟨xs, ys, h1, h2, h3, h4⟩ := h; exact ⟨xs, ys, lstAt_app h1, lstAt_app h2, h3.imp fun _ _ => Alike.app, h4⟩)
/-- what it tells -/
def snLike : Nat → SpD
  | 0 => fun _ _ _ _ => False
  | n + 1 => fun ds S Q _ => ∃ (a b : D), ds = [a, b] ∧ Alike S (n + 1) a b ∧ Q (.bl true) S
theorem tyN_lst {S : List O} {k : Nat} {zs : List D} (e : lstAt S k = some zs) : tyN S (.ref k) = some "list" := by
  unfold lstAt at e
  unfold tyN
  split at e <;> first | (rename_i e2; simp only [e2]; done) | cases e
theorem alike_ty {S : List O} {n : Nat} {a b : D} (h : Alike S (n + 1) a b) : (a = .non ∧ b = .non) ∨ (∃ x, a = .bl x ∧ b = .bl x) ∨ (∃ x, a = .int x ∧ b = .int x) ∨ (∃ x, a = .str x ∧ b = .str x) ∨
    (∃ xs ys, a = .tup xs ∧ b = .tup ys ∧ AllAl (Alike S n) xs ys ∧ xs.length ≤ 1000000) ∨ (∃ j k xs ys, a = .ref j ∧ b = .ref k ∧ lstAt S j = some xs ∧ lstAt S k = some ys ∧ AllAl (Alike S n) xs ys ∧ xs.length ≤ 1000000) := by
  cases a <;> cases b <;> first
    | exact h.elim
    | exact .inl ⟨rfl, rfl⟩
    | (cases h; exact .inr (.inl ⟨_, rfl, rfl⟩))
    | (cases h; exact .inr (.inr (.inl ⟨_, rfl, rfl⟩)))
    | (cases h; exact .inr (.inr (.inr (.inl ⟨_, rfl, rfl⟩))))
    | exact .inr (.inr (.inr (.inr (.inl ⟨_, _, rfl, rfl, h.1, h.2⟩))))
    | (obtain ⟨xs, ys, h1, h2, h3, h4⟩ := h; exact .inr (.inr (.inr (.inr (.inr ⟨_, _, xs, ys, rfl, rfl, h1, h2, h3, h4⟩)))))
theorem lifT {c : Bool} {P Q : Prop} (h : c = true) (p : P) : Sel c P Q := ⟨fun _ => p, fun e => (by rw [h] at e; cases e)⟩
theorem lifF {c : Bool} {P Q : Prop} (h : c = false) (q : Q) : Sel c P Q := ⟨fun e => (by rw [h] at e; cases e), fun _ => q⟩
theorem lstAt_end {S : List O} {xs : List D} : lstAt (S ++ [.lst xs]) S.length = some xs := by unfold lstAt; rw [List.getElem?_append_right (Nat.le_refl _)]; simp
theorem get_end {S : List O} {o : O} : (S ++ [o])[S.length]? = some o := by rw [List.getElem?_append_right (Nat.le_refl _)]; simp
theorem set_end {S : List O} {o o' : O} : (S ++ [o]).set S.length o' = S ++ [o'] := by rw [List.set_append_right _ _ (Nat.le_refl _)]; simp
theorem atI_nat {ds : List D} {i : Nat} {d : D} (h : ds[i]? = some d) : L2.atI ds (0 + (i : Int)) = some d := atI_get (by omega) (by rw [show ((0 : Int) + (i : Int)).toNat = i by omega]; exact h)
end LC

set_option Elab.async false
set_option linter.all false
set_option maxRecDepth 100000
set_option maxHeartbeats 5000000
/-! LC13: helpers for readings. -/
namespace LC
open PySem PySem.Spec
open PyProof.Rows L2
/-- the drawing's list stands at k, the script's numbers at j -/
def Dw (S : List O) (k j : Nat) (ns : List Int) : Prop := ∃ l, S[k]? = some (.lst l) ∧ DrawL j l ∧ lstAt S j = some (ns.map D.int) ∧ j < k
theorem lstAt_set {S : List O} {m k : Nat} {o : O} (h : m ≠ k) : lstAt (S.set m o) k = lstAt S k := by unfold lstAt; rw [List.getElem?_set_ne h]
theorem Dw.lt {S : List O} {k j : Nat} {ns : List Int} (h : Dw S k j ns) : k < S.length := let ⟨_, h1, _⟩ := h; (List.getElem?_eq_some_iff.mp h1).1
theorem Dw.put {S : List O} {k j : Nat} {ns : List Int} {l : List D} (h : Dw S k j ns) (hl : DrawL j l) : Dw (S.set k (.lst l)) k j ns := by
  have hk := h.lt
  obtain ⟨_, _, _, h3, h4⟩ := h
  exact ⟨l, by rw [List.getElem?_set_self hk], hl, by rw [lstAt_set (by omega)]; exact h3, h4⟩
theorem pull_at {S : List O} {k j : Nat} {ns : List Int} {m : Int} {Q : D → List O → Prop} {E : EDt} (d : Dw S k j ns) (h1 : 1 ≤ m) (h2 : m < 1073741824)
    (q : ∀ (n : Int) (l : List D), 0 ≤ n → n < m → DrawL j l → Dw (S.set k (.lst l)) k j ns → Q (.int n) (S.set k (.lst l))) : spPull [.ref k, .int m] S Q E := by
  obtain ⟨l, g1, g2, g3, g4⟩ := id d
  exact ⟨k, j, m, rfl, l, ns, g1, g2, g3, g4, h1, h2, fun n l' a b c => q n l' a b c (d.put c)⟩
theorem DrawL.lts {j m : Nat} {l : List D} (h : DrawL j l) (hj : j < m) : D.lts m l := by
  obtain ⟨i, r, s, rfl, _⟩ := h
  exact ⟨hj, trivial, trivial, trivial, trivial⟩
/-- a comprehension whose parts leave the heap -/
theorem lc_pure {t : Tgt} {qt : QT} {qe : QE} {vs : List Nat} {s : Sl} {Q : D → List O → Prop} {xs : List D} {keep : List O → Prop} {S1 : List O} (f : D → Bool) (g : D → D) (len : xs.length < sizeLine) (hk : ∀ ys, keep (S1 ++ [.lst ys]))
    (st : ∀ (i : Nat) (x : D) (ys : List D), xs[i]? = some x → ∃ s2, stT t x (wipeD s vs) = some s2 ∧ (∀ R : Bool → List O → Prop, R (f x) (S1 ++ [.lst ys]) → qt s2 (S1 ++ [.lst ys]) R) ∧ (f x = true → ∀ R : D → List O → Prop, R (g x) (S1 ++ [.lst ys]) → qe s2 (S1 ++ [.lst ys]) R))
    (q : Q (.ref S1.length) (S1 ++ [.lst ((xs.filter f).map g)])) :
    lcBody t qt qe vs s Q xs keep S1 := by
  refine ⟨fun i S' => S' = S1 ++ [.lst (((xs.take i).filter f).map g)], rfl, fun i S' _ e => e ▸ hk _, ?_, fun S' (e : S' = S1 ++ [.lst (((xs.take xs.length).filter f).map g)]) => by rw [List.take_length] at e; exact e ▸ q⟩
  rintro i x S' hi rfl
  obtain ⟨s2, h1, h2, h3⟩ := st i x (((xs.take i).filter f).map g) hi
  have tk : xs.take (i + 1) = xs.take i ++ [x] := by
    have hl := (List.getElem?_eq_some_iff.mp hi)
    rw [List.take_add_one, hi]; rfl
  refine ⟨s2, h1, h2 _ (lif (fun hf => ?_) (fun hf => ?_))⟩
  · refine h3 hf _ ⟨_, get_end, ?_, .inl ?_⟩
    · refine Nat.lt_of_le_of_lt ?_ len
      rw [List.length_map]
      exact Nat.le_trans (List.length_filter_le _ _) (by rw [List.length_take]; omega)
    · show _ = S1 ++ [O.lst (((xs.take (i + 1)).filter f).map g)]
      rw [set_end, tk, List.filter_append, List.map_append]
      simp [hf]
  · refine .inl ?_
    show _ = S1 ++ [O.lst (((xs.take (i + 1)).filter f).map g)]
    rw [tk, List.filter_append, List.map_append]
    simp [hf]
/-- the drawing's list as the fourth of the law's things -/
theorem pull3 {o x : O} {ns : List Int} {l : List D} {T : List O} {m : Int} {Q : D → List O → Prop} {E : EDt} (hl : DrawL 2 l) (h1 : 1 ≤ m) (h2 : m < 1073741824)
    (q : ∀ (n : Int) (l' : List D), 0 ≤ n → n < m → DrawL 2 l' → Q (.int n) (o :: x :: .lst (ns.map D.int) :: .lst l' :: T)) : spPull [.ref 3, .int m] (o :: x :: .lst (ns.map D.int) :: .lst l :: T) Q E :=
  pull_at (ns := ns) ⟨l, rfl, hl, rfl, by decide⟩ h1 h2 fun n l' a b c _ => q n l' a b c
/-! ### == of lists of whole numbers -/
theorem ints_lts {m : Nat} (ns : List Int) : D.lts m (ns.map D.int) := D.lts_mem.mpr fun d hd => by obtain ⟨i, _, rfl⟩ := List.mem_map.mp hd; trivial
theorem alike_ints {S : List O} {n : Nat} : ∀ ns : List Int, AllAl (Alike S (n + 1)) (ns.map D.int) (ns.map D.int)
  | [] => trivial
  | _ :: r => ⟨rfl, alike_ints r⟩
/-- the parts of a number's bits -/
def bitsD (n : Int) : List D := ([(1, 1), (2, 2), (3, 4), (4, 8)].filter fun p : Int × Int => n / p.2 % 2 == 1).map fun p => D.int p.1
theorem bits_ints (n : Int) : ∃ ms : List Int, bitsD n = ms.map D.int ∧ ms.length ≤ 4 := ⟨([(1, 1), (2, 2), (3, 4), (4, 8)].filter fun p : Int × Int => n / p.2 % 2 == 1).map (·.1), by unfold bitsD; rw [List.map_map]; rfl, by rw [List.length_map]; exact List.length_filter_le _ _⟩
end LC

set_option Elab.async false
set_option linter.all false
set_option maxRecDepth 100000
set_option maxHeartbeats 5000000
/-! LC14: what the top has written, for the end. -/
namespace LC
open PySem PySem.Spec
open PyProof.Rows L2
section
variable {K : PySem.W.Frag}
theorem exm_by {C B : Addr} {nm q : Str} {N : Addr} {bs bm : List Value} {hd : Bool} {sn} {sub} {ab} {col} {dd} {k0 k1 k2 k3 k5} {id : String} (lB : K.lookup B = some (excClassObj nm q B N bs bm hd sn sub ab col dd k0 k1 k2 k3 k5 id)) (tB : PySem.W.typeIn K (.ref B) = some (.type "type")) (sB : PySem.W.subIn K (.ref B) (.type "BaseException") = some true)
    (s : PySem.W.subIn K (.ref C) (.ref B) = some true) : PySem.W.exmOne K (.ref C) (.ref B) = some true := by
  have hc : (PySem.W.clsIn K B).isSome = true := by unfold PySem.W.clsIn; rw [lB] <;> rfl
  unfold PySem.W.exmOne
  rw [sB, if_pos (by decide)]
  show (if ((PySem.W.clsIn K B).isSome && PySem.W.typeIn K (.ref B) == some (.type "type")) = true then PySem.W.subIn K (.ref C) (.ref B) else none) = some true
  rw [hc, tB, if_pos (by decide), s]
theorem codeHd_by {h : Heap} {c P : Addr} {dd : Option Addr} {vs : Array Value} {sl : Array (Option Value)} (X : K.In h) (l : K.lookup c = some ⟨.type "code", dd, .fields vs, sl⟩) (e : PySem.W.codeHdIn [(c, ⟨.type "code", dd, .fields vs, sl⟩)] c P = true) : PySem.W.CodeHd h c P := by
  refine PySem.W.codeHd_of_K X ?_
  unfold PySem.W.codeHdIn at e ⊢
  rw [l]
  have : List.lookup c [(c, (⟨.type "code", dd, .fields vs, sl⟩ : Obj))] = some ⟨.type "code", dd, .fields vs, sl⟩ := by simp [List.lookup]
  rw [this] at e
  exact e
theorem GlD.tup {mg : Str → Option Value} {x : Str} {v : Addr} {n : Nat} {sl : Array (Option Value)} {its : Array Value} {ds : List D} {vs : List V} (h : mg x = some (.ref v)) (l : K.lookup v = some ⟨.type "tuple", none, .seq its n, sl⟩) (hz : its.size ≤ sizeLine) (r : Vals vs its.toList) (rd : RVc K ds vs) : GlD K mg x (.tup ds) :=
  ⟨.ref v, _, h, rfl, fun φ H => ⟨v, vs, rfl, .inr ⟨_, its, n, l, rfl, rfl, hz, r⟩, rd φ H⟩⟩
/-- a def with defaults as it stands -/
theorem fund_mk {x qual : Str} {st : Stmt} {f dv : Addr} {oc : Value} {od an : Option Addr} {osl : Array (Option Value)} {kV doc pm cdv ct : Value} {dvs : List V} {o2 : Value} {d2 : Option Addr} {its : Array Value} {n : Nat} {s2 : Array (Option Value)}
    (l : K.lookup f = some ⟨oc, od, .func (PySem.W.fnOf x qual (defArgs st) (defBody st) (defScope st) (.ref dv) kV doc pm an cdv ct), osl⟩) (c : PySem.W.codeIn K cdv qual = true) (k : PySem.W.keepIn K (.ref f) = true)
    (ld : K.lookup dv = some ⟨o2, d2, .seq its n, s2⟩) (hd : dvs ≠ []) (r : Vals dvs its.toList) :
    L2.FunD K x qual (defArgs st) (defBody st) (defScope st) dvs [] f (PySem.W.fnOf x qual (defArgs st) (defBody st) (defScope st) (.ref dv) kV doc pm an cdv ct) :=
  ⟨⟨oc, od, .ref dv, kV, doc, pm, an, cdv, ct, osl, rfl, l, c, .inr ⟨hd, dv, _, its.toList, n, rfl, ld, by rw [Array.toArray_toList], r⟩, .inl rfl⟩, k⟩
end
end LC

set_option Elab.async false
set_option linter.all false
set_option maxRecDepth 100000
set_option maxHeartbeats 5000000
/-! LC15: int(t, 2) of four signs. -/
namespace LC
open PySem PySem.Spec
open PyProof.Rows L2
/-- the sign of a bit -/
def sg (b : Bool) : Nat := if b then 49 else 48
def bv (b : Bool) : Int := if b then 1 else 0
def four (a b c d : Bool) : Str := ⟨#[sg a, sg b, sg c, sg d]⟩
def val4 (a b c d : Bool) : Int := 8 * bv a + 4 * bv b + 2 * bv c + bv d
theorem four_read : ∀ a b c d : Bool, (int_private% "readNumeral") 0 2 [sg a, sg b, sg c, sg d] = (int_private% "Numeral.value") (val4 a b c d) := by
  intro a b c d
  cases a <;> cases b <;> cases c <;> cases d <;> rfl
theorem sg_hex (b : Bool) : Hx.IsHex (sg b) := by cases b <;> exact .inl ⟨by decide, by decide⟩
theorem four_seen (a b c d : Bool) : numTextOf (four a b c d) = [sg a, sg b, sg c, sg d] ∧ numSeenOf (four a b c d) = [sg a, sg b, sg c, sg d] := by
  refine Hx.seen_hex (x := four a b c d) fun z hz => ?_
  have hz' : z ∈ [sg a, sg b, sg c, sg d] := hz
  simp only [List.mem_cons, List.not_mem_nil, or_false] at hz'
  rcases hz' with rfl | rfl | rfl | rfl <;> exact sg_hex _
theorem four_gives {a b c d : Bool} {u t : Tok} : Gives (Builtin.«int.__new__» ⟨[.type "int", .str (four a b c d) u, .int 2 t], []⟩) (.int (val4 a b c d)) :=
  .of_wp fun M A E s Q hQ => by
    obtain ⟨y0, y1, y2, y3, y4⟩ := s
    have f1 := F.conv_sub_int
    have f2 := F.madeHere_int
    have f6 : typeOf (.str (four a b c d) u) = pure (.type "str") := rfl
    obtain ⟨e1, e2⟩ := four_seen a b c d
    have hr : (int_private% "readNumeral") 0 2 (numSeenOf (four a b c d)) = (int_private% "Numeral.value") (val4 a b c d) := by rw [e2]; exact four_read a b c d
    have hk := Hx.Hid.mk (And.intro (show (numSeenOf (four a b c d)).length ≤ 640 by rw [e2]; exact (by decide : 4 ≤ 640)) (And.intro hr (show ((numSeenOf (four a b c d)).length == (numTextOf (four a b c d)).length) = true by rw [e1, e2]; rfl)))
    clear hr e1 e2
    generalize four a b c d = x at *
    generalize val4 a b c d = n at *
    repeat any_goals first
      | assumption
      | ((with_reducible show wpAny _ _ ((int_private% "intFromText") _ _ _) _ _ _); refine Hx.wp_textB hk.out.1 hk.out.2.1 hk.out.2.2 ?_)
      | wp_step
    all_goals (first | exact ⟨_, rfl, hQ⟩ | skip)
section
variable {X : Cx} {B : Bs}
def rcInt2 : QC := fun ds S Q => match ds with
  | [.str x, .int i] => i = 2 ∧ ∃ a b c d, x = four a b c d ∧ Q (.int (val4 a b c d)) S
  | _ => False
theorem call_int2 : CallR X (.type "int") (fun xs H Q => ∃ a b c d, xs = [.str (four a b c d), .int 2] ∧ Q (.int (val4 a b c d)) H) := by
  rintro pins s σ H xs us Q I r ⟨a, b, c, d, rfl, q⟩
  obtain ⟨u1, u2, rfl, r1, r2⟩ := vals2 r
  obtain ⟨t1, rfl⟩ := r1
  obtain ⟨t2, rfl⟩ := r2
  exact callType_new F.called_int F.newNe_int (Hx.typeCall_int_2 _ _) (Hx.newCall_int_2 _ _) (fun obj => F.initArgs_range_2 obj _ _) F.entry_int_new four_gives.meets
    (show (Made.int (val4 a b c d)).post _ s from ⟨rfl, ⟨.int (val4 a b c d), H, I.tok _, ⟨_, rfl⟩, q⟩⟩)
theorem cc_int2 : CallR X (.type "int") (upC X.K B rcInt2) := CallR.imp call_int2 fun x H Q ⟨φ, S, ds, Q', hr, r, q, k⟩ => by
  unfold rcInt2 at q
  split at q
  · obtain ⟨v, w', rfl, r1, v2, w2, rfl, r2, r3⟩ := r
    cases r1; cases r2; cases r3
    obtain ⟨rfl, a, b, c, d, rfl, q⟩ := q
    exact ⟨a, b, c, d, rfl, k.here (d := D.int _) hr rfl q⟩
  · exact q.elim
end
theorem pures_ints : ∀ ns : List Int, D.pures (ns.map D.int) = true
  | [] => rfl
  | _ :: r => pures_ints r
theorem ints_pure (ns : List Int) : D.pure (.tup (ns.map D.int)) = true := pures_ints ns
end LC

set_option Elab.async false
set_option linter.all false
set_option maxRecDepth 100000
set_option maxHeartbeats 5000000
namespace LW
open PySem PySem.Spec
open PyProof.Rows L2 LC
/-! ### places -/
def top (i : Nat) : Stmt := PySem.Challenge.pw_limecoat_k05_figures_read.main.body.getD i (.Pass ⟨0, 0, 0, 0⟩)
abbrev s_parts_of : Stmt := top 7
abbrev s_read_parts : Stmt := top 8
abbrev s__law_open : Stmt := top 10
abbrev s__law_pull : Stmt := top 11
abbrev s__law_num : Stmt := top 12
abbrev s__law_like : Stmt := top 13
abbrev s__law_why : Stmt := top 14
abbrev s__law_row : Stmt := top 15
abbrev s_law : Stmt := top 16
abbrev s_LimeError_init : Stmt := inClass (top 1) 0
abbrev s_BadNumber_init : Stmt := inClass (top 2) 0
abbrev s_BadText_init : Stmt := inClass (top 3) 0
theorem sc_parts_of : FnScope ["number", "found", "part", "odd"] ["number"] (defScope s_parts_of) := ⟨rfl, rfl, rfl, by decide +kernel, rfl, by decide +kernel, by decide +kernel⟩
theorem sc_read_parts : FnScope ["text", "sign"] ["text"] (defScope s_read_parts) := ⟨rfl, rfl, rfl, by decide +kernel, rfl, by decide +kernel, by decide +kernel⟩
theorem sc__law_open : FnScope ["_law_script"] ["_law_script"] (defScope s__law_open) := ⟨rfl, rfl, rfl, by decide +kernel, rfl, by decide +kernel, by decide +kernel⟩
theorem sc__law_pull : FnScope ["_law_draw", "_law_many", "_law_cell", "_law_got"] ["_law_draw", "_law_many"] (defScope s__law_pull) := ⟨rfl, rfl, rfl, by decide +kernel, rfl, by decide +kernel, by decide +kernel⟩
theorem sc__law_num : FnScope ["_law_found"] ["_law_found"] (defScope s__law_num) := ⟨rfl, rfl, rfl, by decide +kernel, rfl, by decide +kernel, by decide +kernel⟩
theorem sc__law_like : FnScope ["_law_found", "_law_due", "_law_k"] ["_law_found", "_law_due"] (defScope s__law_like) := ⟨rfl, rfl, rfl, by decide +kernel, rfl, by decide +kernel, by decide +kernel⟩
theorem sc__law_why : FnScope ["_law_ask", "_law_told", "_law_word", "e"] ["_law_ask"] (defScope s__law_why) := ⟨rfl, rfl, rfl, by decide +kernel, rfl, by decide +kernel, by decide +kernel⟩
theorem sc__law_row : FnScope ["_law_text", "e"] ["_law_text"] (defScope s__law_row) := ⟨rfl, rfl, rfl, by decide +kernel, rfl, by decide +kernel, by decide +kernel⟩
theorem sc_law : FnScope ["_law_script", "_law_draw", "_law_turn", "_law_number", "_law_text", "_law_way", "_law_at", "_law_sign", "_law_good", "_law_due", "_law_by", "_law_one", "_law_part"] ["_law_script"] (defScope s_law) := ⟨rfl, rfl, rfl, by decide +kernel, rfl, by decide +kernel, by decide +kernel⟩
theorem sc_LimeError_init : FnScope ["self", "called"] ["self", "called"] (defScope s_LimeError_init) := ⟨rfl, rfl, rfl, by decide +kernel, rfl, by decide +kernel, by decide +kernel⟩
theorem sc_BadNumber_init : FnScope ["self"] ["self"] (defScope s_BadNumber_init) := ⟨rfl, rfl, rfl, by decide +kernel, rfl, by decide +kernel, by decide +kernel⟩
theorem sc_BadText_init : FnScope ["self", "row"] ["self", "row"] (defScope s_BadText_init) := ⟨rfl, rfl, rfl, by decide +kernel, rfl, by decide +kernel, by decide +kernel⟩
/-- where all stands -/
structure Ad where
  a_parts_of : Addr
  d_parts_of : FuncData
  a_read_parts : Addr
  d_read_parts : FuncData
  a__law_open : Addr
  d__law_open : FuncData
  a__law_pull : Addr
  d__law_pull : FuncData
  a__law_num : Addr
  d__law_num : FuncData
  a__law_like : Addr
  d__law_like : FuncData
  a__law_why : Addr
  d__law_why : FuncData
  a__law_row : Addr
  d__law_row : FuncData
  a_law : Addr
  d_law : FuncData
  a_LimeError_init : Addr
  d_LimeError_init : FuncData
  a_BadNumber_init : Addr
  d_BadNumber_init : FuncData
  a_BadText_init : Addr
  d_BadText_init : FuncData
  c_LimeError : Addr
  c_BadNumber : Addr
  c_BadText : Addr
  v_PARTS : Value
  v_MOST : Value
  code : Addr
  tab : Addr
abbrev T0of (a : Ad) : List (Addr × Str) := [(a.tab, "law.<locals>." ++ "<lambda>")]
structure Txt (K : PySem.W.Frag) (mg : Str → Option Value) (a : Ad) : Prop where
  F_parts_of : Fun K "parts_of" "parts_of" s_parts_of a.a_parts_of a.d_parts_of
  b_parts_of : Binds K a.d_parts_of ["number"] []
  m_parts_of : mg "parts_of" = some (.ref a.a_parts_of)
  F_read_parts : Fun K "read_parts" "read_parts" s_read_parts a.a_read_parts a.d_read_parts
  b_read_parts : Binds K a.d_read_parts ["text"] []
  m_read_parts : mg "read_parts" = some (.ref a.a_read_parts)
  F__law_open : Fun K "_law_open" "_law_open" s__law_open a.a__law_open a.d__law_open
  b__law_open : Binds K a.d__law_open ["_law_script"] []
  m__law_open : mg "_law_open" = some (.ref a.a__law_open)
  F__law_pull : Fun K "_law_pull" "_law_pull" s__law_pull a.a__law_pull a.d__law_pull
  b__law_pull : Binds K a.d__law_pull ["_law_draw", "_law_many"] []
  m__law_pull : mg "_law_pull" = some (.ref a.a__law_pull)
  F__law_num : Fun K "_law_num" "_law_num" s__law_num a.a__law_num a.d__law_num
  b__law_num : Binds K a.d__law_num ["_law_found"] []
  m__law_num : mg "_law_num" = some (.ref a.a__law_num)
  F__law_like : Fun K "_law_like" "_law_like" s__law_like a.a__law_like a.d__law_like
  b__law_like : Binds K a.d__law_like ["_law_found", "_law_due"] []
  m__law_like : mg "_law_like" = some (.ref a.a__law_like)
  F__law_why : Fun K "_law_why" "_law_why" s__law_why a.a__law_why a.d__law_why
  b__law_why : Binds K a.d__law_why ["_law_ask"] []
  m__law_why : mg "_law_why" = some (.ref a.a__law_why)
  F__law_row : Fun K "_law_row" "_law_row" s__law_row a.a__law_row a.d__law_row
  b__law_row : Binds K a.d__law_row ["_law_text"] []
  m__law_row : mg "_law_row" = some (.ref a.a__law_row)
  F_law : FunC K "law" "law" s_law a.a_law a.d_law a.code
  b_law : Binds K a.d_law ["_law_script"] []
  m_law : mg "law" = some (.ref a.a_law)
  F_LimeError_init : Fun K "__init__" "LimeError.__init__" s_LimeError_init a.a_LimeError_init a.d_LimeError_init
  b_LimeError_init : Binds K a.d_LimeError_init ["self", "called"] []
  i_LimeError_init : PySem.W.findIn K (.ref a.c_LimeError) "__init__" = some (some (.ref a.a_LimeError_init))
  t_LimeError_init : PySem.W.typeIn K (.ref a.a_LimeError_init) = some (.type "function")
  F_BadNumber_init : Fun K "__init__" "BadNumber.__init__" s_BadNumber_init a.a_BadNumber_init a.d_BadNumber_init
  b_BadNumber_init : Binds K a.d_BadNumber_init ["self"] []
  i_BadNumber_init : PySem.W.findIn K (.ref a.c_BadNumber) "__init__" = some (some (.ref a.a_BadNumber_init))
  t_BadNumber_init : PySem.W.typeIn K (.ref a.a_BadNumber_init) = some (.type "function")
  F_BadText_init : L2.FunD K "__init__" "BadText.__init__" (defArgs s_BadText_init) (defBody s_BadText_init) (defScope s_BadText_init) [V.int 0] [] a.a_BadText_init a.d_BadText_init
  i_BadText_init : PySem.W.findIn K (.ref a.c_BadText) "__init__" = some (some (.ref a.a_BadText_init))
  t_BadText_init : PySem.W.typeIn K (.ref a.a_BadText_init) = some (.type "function")
  k_LimeError : mg "LimeError" = some (.ref a.c_LimeError)
  k_BadNumber : mg "BadNumber" = some (.ref a.c_BadNumber)
  k_BadText : mg "BadText" = some (.ref a.c_BadText)
  xf_BadNumber : XfC K a.c_BadNumber
  nc_BadNumber : PySem.W.findIn K (.ref a.c_BadNumber) "called" = some none
  ex_BadNumber : PySem.W.exmOne K (.ref a.c_BadNumber) (.ref a.c_LimeError) = some true
  es_BadNumber : PySem.W.exmOne K (.ref a.c_BadNumber) (.ref a.c_BadNumber) = some true
  xf_BadText : XfC K a.c_BadText
  nc_BadText : PySem.W.findIn K (.ref a.c_BadText) "called" = some none
  ex_BadText : PySem.W.exmOne K (.ref a.c_BadText) (.ref a.c_LimeError) = some true
  es_BadText : PySem.W.exmOne K (.ref a.c_BadText) (.ref a.c_BadText) = some true
  nf_BadText_row : PySem.W.findIn K (.ref a.c_BadText) "row" = some none
  n_ValueError : mg "ValueError" = none
  n_all : mg "all" = none
  n_bool : mg "bool" = none
  n_divmod : mg "divmod" = none
  n_int : mg "int" = none
  n_isinstance : mg "isinstance" = none
  n_len : mg "len" = none
  n_list : mg "list" = none
  n_range : mg "range" = none
  n_str : mg "str" = none
  n_tuple : mg "tuple" = none
  g_PARTS : GlD K mg "PARTS" (.tup [.int 1, .int 2, .int 3, .int 4])
  g_MOST : GlD K mg "MOST" (.int 15)
section
variable {P : Program} {w : World} {K : PySem.W.Frag} {mg : Str → Option Value} {base : Heap} {a : Ad}
def sp_parts_of (a : Ad) : SpD := fun ds S Q E => ∃ n : Int, ds = [.int n] ∧ ((0 ≤ n ∧ n < 16) → Q (.tup (bitsD n)) S) ∧ (¬ (0 ≤ n ∧ n < 16) → E a.c_BadNumber [("called", .str "badnumber")] S)
def halves (n : Int) : Nat → Int
  | 0 => n
  | i + 1 => halves n i / 2
def oddPs (n : Int) : Nat → List Int
  | 0 => []
  | i + 1 => if halves n i % 2 = 1 then oddPs n i ++ [(i : Int) + 1] else oddPs n i
theorem oddPs_bits (n : Int) : (oddPs n 4).map D.int = bitsD n := by
  unfold bitsD
  have h2 : n / 2 / 2 = n / 4 := by omega
  have h3 : n / 4 / 2 = n / 8 := by omega
  by_cases a : n % 2 = 1 <;> by_cases b : n / 2 % 2 = 1 <;> by_cases c : n / 4 % 2 = 1 <;> by_cases d : n / 8 % 2 = 1 <;> simp [oddPs, halves, h2, h3, a, b, c, d]
theorem ok_parts_of (T : Txt K mg a) (Z_BadNumber : XcD P w K mg base "BadNumber" a.c_BadNumber a.a_BadNumber_init a.d_BadNumber_init ["self"] 0 (fl0 "badnumber") (fd0 "badnumber") [] []) : Fx P w K mg base 4 a.a_parts_of a.d_parts_of "parts_of" ["number"] (sp_parts_of a) := by
  refine ⟨LC.FunD.ok T.F_parts_of sc_parts_of (fun ds S Q E h => by (first | (obtain ⟨h, _⟩ := h; rw [h]; rfl) | (obtain ⟨_, h, _⟩ := h; rw [h]; rfl) | (obtain ⟨_, _, h, _⟩ := h; rw [h]; rfl) | (obtain ⟨_, _, _, h, _⟩ := h; rw [h]; rfl) | (obtain ⟨_, _, _, _, h, _⟩ := h; rw [h]; rfl) | (obtain ⟨_, _, _, _, _, h, _⟩ := h; rw [h]; rfl) | (obtain ⟨_, _, _, _, _, _, h, _⟩ := h; rw [h]; rfl) | (obtain ⟨_, _, _, _, _, _, _, h, _⟩ := h; rw [h]; rfl) | (obtain ⟨_, _, _, _, _, _, _, _, h, _⟩ := h; rw [h]; rfl))) fun cdv A outer s H E φ T0 W' room wl => ⟨_, (lss_consM (ls_if (LW.t (lw_or (lt_cmp oo_lt (lv 0) le_int (by rfl)) (lw_or1 (lt_cmp oo_gt (lv 0) (T.g_MOST.le rfl) (by rfl))))) (lss_cons (ls_rz0 Z_BadNumber rfl (room.mono (by decide)) (takes_of rfl rfl rfl rfl) wl)
    lss_nil) lss_nil)
    (lss_cons (ls_set 1 (le_lst la_nil) sc_parts_of.nd)
    (lss_cons (ls_for (passes_of rfl) rfl (li_tup (T.g_PARTS.le rfl)) (lg_name (i := 2) sc_parts_of.nd rfl)
    (lss_cons (ls_asg (le_callB cc_divmod rfl T.n_divmod (by rfl) (la_cons (lv 0) (la_cons le_int la_nil))) (lg_T (t := (.tp [(.nm 0), (.nm 3)])) (tg_tp rfl (tg_cons (tg_nm 0 sc_parts_of.nd) (tg_cons (tg_nm 3 sc_parts_of.nd) tg_nil)))))
    (lss_cons (ls_if (lt_cmp (oo_eq room.units) (lv 3) le_int (by rfl)) (lss_cons (ls_expr (le_bm PySem.F.plainAttrs_list PySem.F.slot_list_append PySem.F.type_list_append mm_append (lv 1) (la_cons (lv 2) la_nil)))
    lss_nil) lss_nil)
    lss_nil)))
    (lss_cons (ls_ret (le_callTy cc_tuple rfl T.n_tuple (by rfl) (la_cons (lv 1) la_nil)))
    lss_nil)))), fun ds S Q' E' h hW hS => ?_⟩, T.m_parts_of, T.F_parts_of.kp, T.b_parts_of⟩
  obtain ⟨n, rfl, h1, h2⟩ := h
  subst hW
  conv => whnf
  refine sM (fun s' S' => S' = S ∧ (0 ≤ n ∧ n < 16) ∧ s' = [some (.int n), none, none, none]) ?_ ?_
  · conv => whnf
    refine lif (fun hc => ?_) (fun hc => ?_)
    · conv => whnf
      refine lifT rfl ?_
      conv => whnf
      exact ⟨by decide, rfl, Xt.same hS (h2 fun hh => by have := of_decide_eq_true hc; omega)⟩
    · conv => whnf
      have hc' := of_decide_eq_false hc
      refine lif (fun hd => ?_) (fun hd => ?_)
      · conv => whnf
        exact ⟨by decide, rfl, Xt.same hS (h2 fun hh => by have := of_decide_eq_true hd; omega)⟩
      · conv => whnf
        have hd' := of_decide_eq_false hd
        exact ⟨rfl, by omega, rfl⟩
  · rintro s' S' ⟨rfl, hn, rfl⟩
    conv => whnf
    refine ⟨by decide, ?_⟩
    conv => whnf
    refine ⟨fun i s' S2 => S2 = S' ++ [.lst ((oddPs n i).map D.int)] ∧ (oddPs n i).length ≤ i ∧ ∃ x y, s' = [some (.int (halves n i)), some (.ref S'.length), x, y], ⟨rfl, Nat.le_refl _, none, none, rfl⟩, fun _ _ _ _ _ => trivial, ?_, ?_⟩
    · rintro i x s2 S2 hi ⟨rfl, hl, y, z, rfl⟩
      obtain ⟨hi4, rfl⟩ : i < 4 ∧ x = .int ((i : Int) + 1) := by
        have hi4 : i < 4 := by
          have ⟨z, _⟩ := List.getElem?_eq_some_iff.mp hi
          simpa using z
        have : i = 0 ∨ i = 1 ∨ i = 2 ∨ i = 3 := by omega
        rcases this with rfl | rfl | rfl | rfl <;> cases hi <;> exact ⟨by decide, rfl⟩
      conv => whnf
      refine ⟨by (first | trivial | (show (0 : Int) < _; first | decide | omega) | (show (0 : Int) ≤ _; first | decide | omega) | (exact .inl ⟨by omega, by omega⟩) | (exact .inr ⟨by decide, by decide⟩) | (refine ⟨?_, ?_⟩ <;> first | decide | omega) | (refine ⟨?_, ?_, ?_⟩ <;> first | decide | omega)), ?_⟩
      conv => whnf
      refine ⟨_, rfl, ?_⟩
      conv => whnf
      refine lifT rfl ?_
      conv => whnf
      refine lif (fun hc => ?_) (fun hc => ?_)
      · have e : oddPs n (i + 1) = oddPs n i ++ [(i : Int) + 1] := if_pos (of_decide_eq_true hc)
        conv => whnf
        refine ⟨⟨_, get_end, rfl⟩, ?_⟩
        conv => whnf
        refine ⟨_, get_end, ?_, ?_⟩
        · rw [List.length_map]; exact Nat.lt_of_le_of_lt (show _ ≤ 4 by omega) (by decide)
        conv => whnf
        refine .inl ⟨?_, ?_, _, _, rfl⟩
        · rw [set_end, e, List.map_append]; rfl
        · rw [e, List.length_append]; simpa using hl
      · have e : oddPs n (i + 1) = oddPs n i := if_neg (of_decide_eq_false hc)
        conv => whnf
        refine .inl ⟨?_, ?_, _, _, rfl⟩
        · rw [e]
        · rw [e]; omega
    · rintro s2 S2 ⟨rfl, hl, y, z, rfl⟩
      conv => whnf
      refine ⟨_, lstAt_end, ?_⟩
      conv => whnf
      refine Rt.keep S'.length (Nat.le_refl _) (by simp) (by simp) ?_ hS ?_
      · refine D.lts_mem.mpr fun d hd => ?_
        obtain ⟨y, hy, rfl⟩ := List.mem_map.mp hd
        trivial
      · have := h1 hn
        rw [← oddPs_bits] at this
        exact this
def binS (x : Str) : Bool := x.cps.toList.all fun c => decide (c ∈ ("01" : Str).cps.toList)
theorem bin_four {x : Str} (h : x.cps.toList.length = 4) (hb : binS x = true) : ∃ a b c d, x = four a b c d := by
  obtain ⟨⟨l⟩⟩ := x
  have hb' : l.all (fun c => decide (c ∈ ("01" : Str).cps.toList)) = true := hb
  have key : ∀ c : Nat, decide (c ∈ ("01" : Str).cps.toList) = true → ∃ b, c = sg b := fun c hc => by
    have hc' : c ∈ ([48, 49] : List Nat) := of_decide_eq_true hc
    simp only [List.mem_cons, List.not_mem_nil, or_false] at hc'
    rcases hc' with rfl | rfl
    · exact ⟨false, rfl⟩
    · exact ⟨true, rfl⟩
  match l, h, hb' with
  | [p, q, r, s], _, hb' =>
    simp only [List.all_cons, List.all_nil, Bool.and_eq_true, and_true] at hb'
    obtain ⟨a, rfl⟩ := key p hb'.1
    obtain ⟨b, rfl⟩ := key q hb'.2.1
    obtain ⟨c, rfl⟩ := key r hb'.2.2.1
    obtain ⟨d, rfl⟩ := key s hb'.2.2.2
    exact ⟨a, b, c, d, rfl⟩
theorem four_bin : ∀ a b c d, binS (four a b c d) = true := by
  intro a b c d
  cases a <;> cases b <;> cases c <;> cases d <;> decide
def sp_read_parts (a : Ad) : SpD := fun ds S Q E => ∃ x : Str, ds = [.str x] ∧ x.length < sizeLine ∧ (∀ p q r s, x = four p q r s → Q (.tup (bitsD (val4 p q r s))) S) ∧
  ((¬ ∃ p q r s, x = four p q r s) → E a.c_BadText [("row", .int 0), ("called", .str "badtext")] S)
theorem ok_read_parts (T : Txt K mg a) (G_parts_of : Fx P w K mg base 4 a.a_parts_of a.d_parts_of "parts_of" ["number"] (sp_parts_of a)) (Z_BadText : XcD P w K mg base "BadText" a.c_BadText a.a_BadText_init a.d_BadText_init ["self", "row"] 1 (fl1 "badtext" "row") (fd1 "badtext" "row") [V.int 0] [D.int 0]) : Fx P w K mg base 5 a.a_read_parts a.d_read_parts "read_parts" ["text"] (sp_read_parts a) := by
  refine ⟨LC.FunD.ok T.F_read_parts sc_read_parts (fun ds S Q E h => by (first | (obtain ⟨h, _⟩ := h; rw [h]; rfl) | (obtain ⟨_, h, _⟩ := h; rw [h]; rfl) | (obtain ⟨_, _, h, _⟩ := h; rw [h]; rfl) | (obtain ⟨_, _, _, h, _⟩ := h; rw [h]; rfl) | (obtain ⟨_, _, _, _, h, _⟩ := h; rw [h]; rfl) | (obtain ⟨_, _, _, _, _, h, _⟩ := h; rw [h]; rfl) | (obtain ⟨_, _, _, _, _, _, h, _⟩ := h; rw [h]; rfl) | (obtain ⟨_, _, _, _, _, _, _, h, _⟩ := h; rw [h]; rfl) | (obtain ⟨_, _, _, _, _, _, _, _, h, _⟩ := h; rw [h]; rfl))) fun cdv A outer s H E φ T0 W' room wl => ⟨_, (lss_consM (ls_if (LW.t (lw_or (lt_cmp (oo_ne room.units) (le_callB cc_len rfl T.n_len (by rfl) (la_cons (lv 0) la_nil)) (le_callB cc_len rfl T.n_len (by rfl) (la_cons (T.g_PARTS.le rfl) la_nil)) (by rfl)) (lw_or1 (lt_not (lt_truth (le_callB (cc_all rfl) rfl T.n_all (by rfl) (la_cons (le_lc [("sign", 1)] (.nm 1) rfl sc_read_parts.nd (li_str (lv 0)) (by (conv => { arg 1; whnf }); (conv => { arg 2; whnf }); exact ⟨rfl, by decide +kernel, by decide +kernel, by decide +kernel, by decide +kernel⟩) (fun _ _ _ _ _ => (tg_nm 1 sc_read_parts.nd)) (fun _ _ _ _ _ => lts_nil) (fun _ _ _ _ _ => (le_cmp oo_in (lv 1) le_str (by rfl)))) la_nil))))))) (lss_cons (ls_rz0 Z_BadText rfl (room.mono (by decide)) (takes_of rfl rfl rfl rfl) wl)
    lss_nil) lss_nil)
    (lss_cons (ls_ret (le_fx G_parts_of (room.mono (by decide)) (takes_of rfl rfl rfl rfl) wl (la_cons (le_callTy cc_int2 rfl T.n_int (by rfl) (la_cons (lv 0) (la_cons le_int la_nil))) la_nil)))
    lss_nil)), fun ds S Q' E' h hW hS => ?_⟩, T.m_read_parts, T.F_read_parts.kp, T.b_read_parts⟩
  obtain ⟨x, rfl, hx, h1, h2⟩ := h
  subst hW
  conv => whnf
  refine sW (fun s' S' => S' = S ∧ s' = [some (.str x), none] ∧ ∃ p q r s, x = four p q r s) ?_ ?_
  · conv => whnf
    refine ⟨Nat.le_of_lt hx, ?_⟩
    conv => whnf
    refine ⟨_, rfl, ?_⟩
    conv => whnf
    refine lifT rfl ?_
    conv => whnf
    refine lif (fun hc => ?_) (fun hc => ?_)
    · conv => whnf
      refine lifT rfl ?_
      conv => whnf
      refine ⟨by decide, rfl, Xt.same hS (h2 fun ⟨p, q, r, s, e⟩ => ?_)⟩
      subst e
      exact absurd hc (by show ¬ (!decide ((4 : Int) = 4)) = true; decide)
    · have hl : (x.length : Int) = 4 := by simpa [D.seq] using hc
      conv => whnf
      refine lc_pure (fun _ => true) (fun d => match d with | .str y => .bl (decide (y.cps.getD 0 0 ∈ ("01" : Str).cps.toList)) | _ => .non) ?_ (fun _ => trivial) ?_ ?_
      · unfold LC.signs; rw [List.length_map]; exact hx
      · intro i d ys hi
        unfold LC.signs at hi
        rw [List.getElem?_map] at hi
        cases hn : x.cps.toList[i]? with
        | none => rw [hn] at hi; cases hi
        | some c =>
          rw [hn] at hi
          cases hi
          refine ⟨_, rfl, fun R r => ?_, fun hf R r => ?_⟩
          · conv => whnf
            exact r
          · conv => whnf
            exact ⟨c, rfl, r⟩
      · conv => whnf
        refine ⟨_, x.cps.toList.map fun c => decide (c ∈ ("01" : Str).cps.toList), lstAt_end, ?_, ?_⟩
        · rw [List.filter_eq_self.mpr (fun _ _ => rfl)]
          unfold LC.signs
          rw [List.map_map]
          exact asBs_map (fun c => decide (c ∈ ("01" : Str).cps.toList)) x.cps.toList
        conv => whnf
        have e : (x.cps.toList.map fun c => decide (c ∈ ("01" : Str).cps.toList)).all id = binS x := by rw [List.all_map]; rfl
        rw [e]
        refine lif (fun hd => ?_) (fun hd => ?_)
        · conv => whnf
          refine ⟨by decide, rfl, ?_⟩
          refine Xt.pure (by simp) rfl (by simp) hS (h2 fun ⟨p, q, r, s, e⟩ => ?_)
          subst e
          rw [four_bin] at hd
          cases hd
        · conv => whnf
          have hd' : binS x = true := by simpa using hd
          refine .inr ⟨S.length, [some (.str x), none], Nat.le_refl _, ⟨rfl, trivial, trivial⟩, by simpa using hS, by simp, rfl, bin_four (by have : x.cps.toList.length = x.length := rfl; omega) hd'⟩
  rintro s' S' ⟨rfl, rfl, p, q, r, s, rfl⟩
  conv => whnf
  refine ⟨rfl, p, q, r, s, rfl, ?_⟩
  conv => whnf
  have hv : 0 ≤ val4 p q r s ∧ val4 p q r s < 16 := by cases p <;> cases q <;> cases r <;> cases s <;> decide
  refine ⟨_, rfl, fun _ => ?_, fun hn => absurd hv hn⟩
  conv => whnf
  obtain ⟨ms, hms, _⟩ := bits_ints (val4 p q r s)
  exact Rt.pure (Nat.le_refl _) (by rw [hms]; exact ints_pure ms) List.take_length hS (h1 _ _ _ _ rfl)
def sp__law_open (_ : Ad) : SpD := fun ds S Q _ => ∃ (k : Nat) (ns : List Int), ds = [.ref k] ∧ lstAt S k = some (ns.map D.int) ∧ ns.length ≤ 63 ∧
  Q (.ref (S.length + 2)) (S ++ [.lst (ns.map D.int), .lst (ns.map D.int), .lst [.ref (S.length + 1), .int 0, .int 0, .int 31]])
theorem ok__law_open (T : Txt K mg a)  : Fx P w K mg base 1 a.a__law_open a.d__law_open "_law_open" ["_law_script"] (sp__law_open a) := by
  refine ⟨LC.FunD.ok T.F__law_open sc__law_open (fun ds S Q E h => by (first | (obtain ⟨h, _⟩ := h; rw [h]; rfl) | (obtain ⟨_, h, _⟩ := h; rw [h]; rfl) | (obtain ⟨_, _, h, _⟩ := h; rw [h]; rfl) | (obtain ⟨_, _, _, h, _⟩ := h; rw [h]; rfl) | (obtain ⟨_, _, _, _, h, _⟩ := h; rw [h]; rfl) | (obtain ⟨_, _, _, _, _, h, _⟩ := h; rw [h]; rfl) | (obtain ⟨_, _, _, _, _, _, h, _⟩ := h; rw [h]; rfl) | (obtain ⟨_, _, _, _, _, _, _, h, _⟩ := h; rw [h]; rfl) | (obtain ⟨_, _, _, _, _, _, _, _, h, _⟩ := h; rw [h]; rfl))) fun cdv A outer s H E φ T0 W' room wl => ⟨_, (lss_cons (ls_ret (le_lst (la_cons (le_callTy cc_list rfl T.n_list (by rfl) (la_cons (le_slice (lv 0) lp_none (lp_some le_int)) la_nil)) (la_cons le_int (la_cons le_int (la_cons le_int la_nil))))))
    lss_nil), fun ds S Q' E' h hW hS => ?_⟩, T.m__law_open, T.F__law_open.kp, T.b__law_open⟩
  obtain ⟨k, ns, rfl, hk, hn, q⟩ := h
  subst hW
  conv => whnf
  refine ⟨_, hk, ?_⟩
  conv => whnf
  rw [show (63 : Int) = ((63 : Nat) : Int) from rfl, cutD_to (by simpa using hn)]
  refine ⟨_, by show lstAt _ _ = _; unfold lstAt; rw [List.getElem?_append_right (Nat.le_refl _)]; simp; rfl, ?_⟩
  conv => whnf
  refine ⟨by show (4 : Nat) ≤ sizeLine; decide, ?_⟩
  simp only [List.append_assoc, List.cons_append, List.nil_append, List.length_append, List.length_cons, List.length_nil]
  refine Rt.all (by simp) (by show _ < _; simp) ?_ q
  have hi : ∀ m, D.lts m (ns.map D.int) := fun m => D.lts_mem.mpr fun d hd => by obtain ⟨i, _, rfl⟩ := List.mem_map.mp hd; trivial
  refine Osl.app (hS.mono (by simp)) ⟨hi _, hi _, ⟨show _ < _ by simp, trivial, trivial, trivial, trivial⟩, trivial⟩
abbrev sp__law_pull (_ : Ad) : SpD := spPull
theorem ok__law_pull (T : Txt K mg a)  : Fx P w K mg base 1 a.a__law_pull a.d__law_pull "_law_pull" ["_law_draw", "_law_many"] (sp__law_pull a) := by
  refine ⟨LC.FunD.ok T.F__law_pull sc__law_pull (fun ds S Q E h => by (first | (obtain ⟨h, _⟩ := h; rw [h]; rfl) | (obtain ⟨_, h, _⟩ := h; rw [h]; rfl) | (obtain ⟨_, _, h, _⟩ := h; rw [h]; rfl) | (obtain ⟨_, _, _, h, _⟩ := h; rw [h]; rfl) | (obtain ⟨_, _, _, _, h, _⟩ := h; rw [h]; rfl) | (obtain ⟨_, _, _, _, _, h, _⟩ := h; rw [h]; rfl) | (obtain ⟨_, _, _, _, _, _, h, _⟩ := h; rw [h]; rfl) | (obtain ⟨_, _, _, _, _, _, _, h, _⟩ := h; rw [h]; rfl) | (obtain ⟨_, _, _, _, _, _, _, _, h, _⟩ := h; rw [h]; rfl))) fun cdv A outer s H E φ T0 W' room wl => ⟨_, (lss_consM (ls_if (LW.t (lw_and (lt_cmp oo_lt (le_ix ox_seq (lv 0) le_int) (lv 1) (by rfl)) (lw_and1 (lt_cmp oo_lt (le_ix ox_seq (lv 0) le_int) (le_callB cc_len rfl T.n_len (by rfl) (la_cons (le_ix ox_seq (lv 0) le_int) la_nil)) (by rfl))))) (lss_cons (ls_set 2 (le_ix ox_seq (le_ix ox_seq (lv 0) le_int) (le_ix ox_seq (lv 0) le_int)) sc__law_pull.nd)
    (lss_cons (ls_asg (le_op oo_add (le_ix ox_seq (lv 0) le_int) le_int) (lg_sub (lv 0) le_int st_list))
    (lss_cons (ls_asg le_int (lg_sub (lv 0) le_int st_list))
    (lss_cons (ls_if (lt_cmp oo_ge (lv 2) (le_op oo_pow le_int le_int) (by rfl)) (lss_cons (ls_asg (lv 2) (lg_sub (lv 0) le_int st_list))
    lss_nil) (lss_cons (ls_asg (le_op oo_mod (le_op oo_add (le_op oo_add (le_op oo_mulA (le_ix ox_seq (lv 0) le_int) le_int) (le_op oo_mulA (le_op oo_mod (lv 2) le_int) le_int)) le_int) le_int) (lg_sub (lv 0) le_int st_list))
    lss_nil))
    lss_nil)))) lss_nil)
    (lss_consM (ls_if (lt_cmp oo_ge (le_ix ox_seq (lv 0) le_int) (lv 1) (by rfl)) (lss_cons (ls_set 3 (le_op oo_mod (le_ix ox_seq (lv 0) le_int) (lv 1)) sc__law_pull.nd)
    (lss_cons (ls_asg (le_op oo_fdiv (le_ix ox_seq (lv 0) le_int) (lv 1)) (lg_sub (lv 0) le_int st_list))
    (lss_cons (ls_ret (lv 3))
    lss_nil))) lss_nil)
    (lss_cons (ls_asg (le_op oo_mod (le_op oo_add (le_op oo_add (le_op oo_pow (le_ix ox_seq (lv 0) le_int) le_int) (le_op oo_mulA (le_ix ox_seq (lv 0) le_int) le_int)) le_int) le_int) (lg_sub (lv 0) le_int st_list))
    (lss_cons (ls_ret (le_op oo_mod (le_op oo_add (le_op oo_fdiv (le_ix ox_seq (lv 0) le_int) le_int) (le_op oo_mulA (le_op oo_mod (le_ix ox_seq (lv 0) le_int) le_int) le_int)) (lv 1)))
    lss_nil)))), fun ds S Q' E' h hW hS => ?_⟩, T.m__law_pull, T.F__law_pull.kp, T.b__law_pull⟩
  obtain ⟨k, j, many, rfl, l, ns, hk, ⟨i, r, s, rfl, hi, hr, hs, hs2⟩, hj, hjk, h1, h2, q⟩ := h
  subst hW
  have hS2 : ∀ l', DrawL j l' → Osl S.length (S.set k (.lst l')) := fun l' ⟨i, r, s, e, _⟩ => hS.set (by
    subst e
    exact ⟨show j < S.length from Nat.lt_trans hjk (List.getElem?_eq_some_iff.mp hk).1, trivial, trivial, trivial, trivial⟩)
  have fin : ∀ (n : Int) l', 0 ≤ n → n < many → DrawL j l' → Rt S.length Q' (.int n) (S.set k (.lst l')) := fun n l' a b c => by
    have e : (S.set k (O.lst l')).length = S.length := by simp
    have := Rt.same (S := S.set k (O.lst l')) (Q' := Q') (d := .int n) (by rw [e]; exact hS2 l' c) (q n l' a b c)
    rw [e] at this
    exact this
  have A0 := DrA.start hk hj
  conv => whnf
  refine sM (fun s' S' => ∃ x l', DrawL j l' ∧ DrA S k j ns l' S' ∧ s' = [some (.ref k), some (.int many), x, none]) ?_ ?_
  · conv => whnf
    refine ⟨_, _, itemsOf_of hk, rfl, ?_⟩
    conv => whnf
    refine lif (fun hc => ?_) (fun hc => ?_)
    · conv => whnf
      refine ⟨_, _, itemsOf_of hk, rfl, ?_⟩
      conv => whnf
      refine ⟨_, _, itemsOf_of hk, rfl, ?_⟩
      conv => whnf
      refine ⟨_, hj, ?_⟩
      conv => whnf
      refine lif (fun hc => ?_) (fun hc => ?_)
      · have hc' : i < (ns.length : Int) := by simpa using hc
        obtain ⟨z, hz, ha⟩ := atI_ints hi hc'
        conv => whnf
        refine ⟨_, _, itemsOf_of hk, rfl, ?_⟩
        conv => whnf
        refine ⟨_, _, itemsOf_of hk, rfl, ?_⟩
        conv => whnf
        refine ⟨_, _, hj, ha, ?_⟩
        conv => whnf
        refine ⟨_, _, itemsOf_of hk, rfl, ?_⟩
        conv => whnf
        refine ⟨_, _, hk, rfl, ?_⟩
        conv => whnf
        have A1 := A0.put hjk ([D.ref j, D.int i, D.int r, D.int s].set 1 (.int (i + 1)))
        refine ⟨_, _, A1.hk, rfl, ?_⟩
        conv => whnf
        have A2 := A1.put hjk (([D.ref j, D.int i, D.int r, D.int s].set 1 (.int (i + 1))).set 2 (.int 0))
        refine ⟨by (first | trivial | (show (0 : Int) < _; first | decide | omega) | (show (0 : Int) ≤ _; first | decide | omega) | (exact .inl ⟨by omega, by omega⟩) | (exact .inr ⟨by decide, by decide⟩) | (refine ⟨?_, ?_⟩ <;> first | decide | omega) | (refine ⟨?_, ?_, ?_⟩ <;> first | decide | omega)), ?_⟩
        conv => whnf
        refine lif (fun hc => ?_) (fun hc => ?_)
        · have hz : (10 : Int) ^ 18 ≤ z := by simpa using hc
          conv => whnf
          refine ⟨_, _, A2.hk, rfl, ?_⟩
          conv => whnf
          exact ⟨_, _, ⟨_, _, _, rfl, by omega, by omega, hs, hs2⟩, A2.put hjk _, rfl⟩
        · conv => whnf
          refine ⟨_, _, itemsOf_of A2.hk, rfl, ?_⟩
          conv => whnf
          refine ⟨by (first | trivial | (show (0 : Int) < _; first | decide | omega) | (show (0 : Int) ≤ _; first | decide | omega) | (exact .inl ⟨by omega, by omega⟩) | (exact .inr ⟨by decide, by decide⟩) | (refine ⟨?_, ?_⟩ <;> first | decide | omega) | (refine ⟨?_, ?_, ?_⟩ <;> first | decide | omega)), ?_⟩
          conv => whnf
          refine ⟨by (first | trivial | (show (0 : Int) < _; first | decide | omega) | (show (0 : Int) ≤ _; first | decide | omega) | (exact .inl ⟨by omega, by omega⟩) | (exact .inr ⟨by decide, by decide⟩) | (refine ⟨?_, ?_⟩ <;> first | decide | omega) | (refine ⟨?_, ?_, ?_⟩ <;> first | decide | omega)), ?_⟩
          conv => whnf
          refine ⟨by (first | trivial | (show (0 : Int) < _; first | decide | omega) | (show (0 : Int) ≤ _; first | decide | omega) | (exact .inl ⟨by omega, by omega⟩) | (exact .inr ⟨by decide, by decide⟩) | (refine ⟨?_, ?_⟩ <;> first | decide | omega) | (refine ⟨?_, ?_, ?_⟩ <;> first | decide | omega)), ?_⟩
          conv => whnf
          refine ⟨by (first | trivial | (show (0 : Int) < _; first | decide | omega) | (show (0 : Int) ≤ _; first | decide | omega) | (exact .inl ⟨by omega, by omega⟩) | (exact .inr ⟨by decide, by decide⟩) | (refine ⟨?_, ?_⟩ <;> first | decide | omega) | (refine ⟨?_, ?_, ?_⟩ <;> first | decide | omega)), ?_⟩
          conv => whnf
          refine ⟨_, _, A2.hk, rfl, ?_⟩
          conv => whnf
          exact ⟨_, _, ⟨_, _, _, rfl, by omega, by omega, Int.emod_nonneg _ (by decide), Int.emod_lt_of_pos _ (by decide)⟩, A2.put hjk _, rfl⟩
      · conv => whnf
        exact ⟨_, _, ⟨_, _, _, rfl, hi, hr, hs, hs2⟩, A0, rfl⟩
    · conv => whnf
      refine lifF rfl ?_
      conv => whnf
      exact ⟨_, _, ⟨_, _, _, rfl, hi, hr, hs, hs2⟩, A0, rfl⟩
  · rintro s' S' ⟨x, l', ⟨i, r, s, rfl, hi, hr, hs, hs2⟩, A, rfl⟩
    conv => whnf
    refine sM (fun s' S' => s' = [some (.ref k), some (.int many), x, none] ∧ DrA S k j ns [.ref j, .int i, .int r, .int s] S') ?_ ?_
    · conv => whnf
      refine ⟨_, _, itemsOf_of A.hk, rfl, ?_⟩
      conv => whnf
      refine lif (fun hc => ?_) (fun hc => ?_)
      · conv => whnf
        refine ⟨_, _, itemsOf_of A.hk, rfl, ?_⟩
        conv => whnf
        refine ⟨by omega, ?_⟩
        conv => whnf
        refine ⟨_, _, itemsOf_of A.hk, rfl, ?_⟩
        conv => whnf
        refine ⟨⟨by omega, h2⟩, ?_⟩
        conv => whnf
        refine ⟨_, _, A.hk, rfl, ?_⟩
        conv => whnf
        rw [A.hs]
        exact fin _ _ (Int.emod_nonneg _ (by omega)) (Int.emod_lt_of_pos _ (by omega)) ⟨_, _, _, rfl, hi, Int.ediv_nonneg hr (by omega), hs, hs2⟩
      · conv => whnf
        exact ⟨rfl, A⟩
    · rintro s' S' ⟨rfl, A⟩
      conv => whnf
      refine ⟨_, _, itemsOf_of A.hk, rfl, ?_⟩
      conv => whnf
      refine ⟨by (first | trivial | (show (0 : Int) < _; first | decide | omega) | (show (0 : Int) ≤ _; first | decide | omega) | (exact .inl ⟨by omega, by omega⟩) | (exact .inr ⟨by decide, by decide⟩) | (refine ⟨?_, ?_⟩ <;> first | decide | omega) | (refine ⟨?_, ?_, ?_⟩ <;> first | decide | omega)), ?_⟩
      conv => whnf
      refine ⟨_, _, itemsOf_of A.hk, rfl, ?_⟩
      conv => whnf
      refine ⟨by (first | trivial | (show (0 : Int) < _; first | decide | omega) | (show (0 : Int) ≤ _; first | decide | omega) | (exact .inl ⟨by omega, by omega⟩) | (exact .inr ⟨by decide, by decide⟩) | (refine ⟨?_, ?_⟩ <;> first | decide | omega) | (refine ⟨?_, ?_, ?_⟩ <;> first | decide | omega)), ?_⟩
      conv => whnf
      refine ⟨by (first | trivial | (show (0 : Int) < _; first | decide | omega) | (show (0 : Int) ≤ _; first | decide | omega) | (exact .inl ⟨by omega, by omega⟩) | (exact .inr ⟨by decide, by decide⟩) | (refine ⟨?_, ?_⟩ <;> first | decide | omega) | (refine ⟨?_, ?_, ?_⟩ <;> first | decide | omega)), ?_⟩
      conv => whnf
      refine ⟨_, _, A.hk, rfl, ?_⟩
      conv => whnf
      have A1 := A.put hjk ([D.ref j, D.int i, D.int r, D.int s].set 3 (.int ((s ^ (3 : Int).toNat + s * 40503 + 1013904223) % 2147483629)))
      refine ⟨_, _, itemsOf_of A1.hk, rfl, ?_⟩
      conv => whnf
      refine ⟨by (first | trivial | (show (0 : Int) < _; first | decide | omega) | (show (0 : Int) ≤ _; first | decide | omega) | (exact .inl ⟨by omega, by omega⟩) | (exact .inr ⟨by decide, by decide⟩) | (refine ⟨?_, ?_⟩ <;> first | decide | omega) | (refine ⟨?_, ?_, ?_⟩ <;> first | decide | omega)), ?_⟩
      conv => whnf
      refine ⟨_, _, itemsOf_of A1.hk, rfl, ?_⟩
      conv => whnf
      refine ⟨by (first | trivial | (show (0 : Int) < _; first | decide | omega) | (show (0 : Int) ≤ _; first | decide | omega) | (exact .inl ⟨by omega, by omega⟩) | (exact .inr ⟨by decide, by decide⟩) | (refine ⟨?_, ?_⟩ <;> first | decide | omega) | (refine ⟨?_, ?_, ?_⟩ <;> first | decide | omega)), ?_⟩
      conv => whnf
      refine ⟨by (first | trivial | (show (0 : Int) < _; first | decide | omega) | (show (0 : Int) ≤ _; first | decide | omega) | (exact .inl ⟨by omega, by omega⟩) | (exact .inr ⟨by decide, by decide⟩) | (refine ⟨?_, ?_⟩ <;> first | decide | omega) | (refine ⟨?_, ?_, ?_⟩ <;> first | decide | omega)), ?_⟩
      conv => whnf
      refine ⟨by omega, ?_⟩
      conv => whnf
      rw [A.hs]
      exact fin _ _ (Int.emod_nonneg _ (by omega)) (Int.emod_lt_of_pos _ (by omega)) ⟨_, _, _, rfl, hi, hr, Int.emod_nonneg _ (by decide), Int.emod_lt_of_pos _ (by decide)⟩
def sp__law_num (_ : Ad) : SpD := fun ds S Q _ => ∃ (d : D) (t : String), ds = [d] ∧ tyN S d = some t ∧ Q (.bl (t == "int")) S
theorem ok__law_num (T : Txt K mg a)  : Fx P w K mg base 1 a.a__law_num a.d__law_num "_law_num" ["_law_found"] (sp__law_num a) := by
  refine ⟨LC.FunD.ok T.F__law_num sc__law_num (fun ds S Q E h => by (first | (obtain ⟨h, _⟩ := h; rw [h]; rfl) | (obtain ⟨_, h, _⟩ := h; rw [h]; rfl) | (obtain ⟨_, _, h, _⟩ := h; rw [h]; rfl) | (obtain ⟨_, _, _, h, _⟩ := h; rw [h]; rfl) | (obtain ⟨_, _, _, _, h, _⟩ := h; rw [h]; rfl) | (obtain ⟨_, _, _, _, _, h, _⟩ := h; rw [h]; rfl) | (obtain ⟨_, _, _, _, _, _, h, _⟩ := h; rw [h]; rfl) | (obtain ⟨_, _, _, _, _, _, _, h, _⟩ := h; rw [h]; rfl) | (obtain ⟨_, _, _, _, _, _, _, _, h, _⟩ := h; rw [h]; rfl))) fun cdv A outer s H E φ T0 W' room wl => ⟨_, (lss_cons (ls_ret (le_and (le_callB cc_isi rfl T.n_isinstance (by rfl) (la_cons (lv 0) (la_cons (le_ty rfl T.n_int (by rfl)) la_nil))) (le_one (le_not (le_callB cc_isi rfl T.n_isinstance (by rfl) (la_cons (lv 0) (la_cons (le_ty rfl T.n_bool (by rfl)) la_nil)))))))
    lss_nil), fun ds S Q' E' h hW hS => ?_⟩, T.m__law_num, T.F__law_num.kp, T.b__law_num⟩
  obtain ⟨d, t, rfl, ht, q⟩ := h
  subst hW
  have ht2 := (tyN_ty ht).2
  conv => whnf
  refine isi_b ht ?_
  conv => whnf
  refine lif (fun hc => ?_) (fun hc => ?_)
  · conv => whnf
    refine isi_b ht ?_
    conv => whnf
    refine Rt.same hS ?_
    have e : (!subTy t "bool") = (t == "int") := by
      simp only [List.mem_cons, List.not_mem_nil, or_false] at ht2
      rcases ht2 with rfl | rfl | rfl | rfl | rfl | rfl | rfl <;> first | rfl | (exact absurd hc (by decide))
    rw [e]; exact q
  · conv => whnf
    refine Rt.same hS ?_
    have e : false = (t == "int") := by
      simp only [List.mem_cons, List.not_mem_nil, or_false] at ht2
      rcases ht2 with rfl | rfl | rfl | rfl | rfl | rfl | rfl <;> first | rfl | (exact absurd hc (by decide))
    rw [e]; exact q
abbrev sn__law_like (n : Nat) (_ : Ad) : SpD := snLike n
abbrev sp__law_like (_ : Ad) : SpD := snLike 11
theorem st__law_like (T : Txt K mg a) (G__law_num : Fx P w K mg base 1 a.a__law_num a.d__law_num "_law_num" ["_law_found"] (sp__law_num a)) {n : Nat} (G__law_like : Fx P w K mg base (n + 1) a.a__law_like a.d__law_like "_law_like" ["_law_found", "_law_due"] (sn__law_like n a)) : Fx P w K mg base (n + 1 + 1) a.a__law_like a.d__law_like "_law_like" ["_law_found", "_law_due"] (sn__law_like (n + 1) a) := by
  refine ⟨LC.FunD.ok T.F__law_like sc__law_like (fun ds S Q E h => by (first | (obtain ⟨h, _⟩ := h; rw [h]; rfl) | (obtain ⟨_, h, _⟩ := h; rw [h]; rfl) | (obtain ⟨_, _, h, _⟩ := h; rw [h]; rfl) | (obtain ⟨_, _, _, h, _⟩ := h; rw [h]; rfl) | (obtain ⟨_, _, _, _, h, _⟩ := h; rw [h]; rfl) | (obtain ⟨_, _, _, _, _, h, _⟩ := h; rw [h]; rfl) | (obtain ⟨_, _, _, _, _, _, h, _⟩ := h; rw [h]; rfl) | (obtain ⟨_, _, _, _, _, _, _, h, _⟩ := h; rw [h]; rfl) | (obtain ⟨_, _, _, _, _, _, _, _, h, _⟩ := h; rw [h]; rfl))) fun cdv A outer s H E φ T0 W' room wl => ⟨_, (lss_consM (ls_if (lt_cmp oo_is (lv 1) le_non (by rfl)) (lss_cons (ls_ret (le_cmp oo_is (lv 0) le_non (by rfl)))
    lss_nil) lss_nil)
    (lss_consM (ls_if (lt_truth (le_callB cc_isi rfl T.n_isinstance (by rfl) (la_cons (lv 1) (la_cons (le_ty rfl T.n_bool (by rfl)) la_nil)))) (lss_cons (ls_ret (le_and (le_callB cc_isi rfl T.n_isinstance (by rfl) (la_cons (lv 0) (la_cons (le_ty rfl T.n_bool (by rfl)) la_nil))) (le_one (le_cmp (oo_eq room.units) (lv 0) (lv 1) (by rfl)))))
    lss_nil) lss_nil)
    (lss_consM (ls_if (lt_truth (le_callB cc_isi rfl T.n_isinstance (by rfl) (la_cons (lv 1) (la_cons (le_ty rfl T.n_int (by rfl)) la_nil)))) (lss_cons (ls_ret (le_and (le_fx G__law_num (room.mono (by omega)) (takes_of rfl rfl rfl rfl) wl (la_cons (lv 0) la_nil)) (le_one (le_cmp (oo_eq room.units) (lv 0) (lv 1) (by rfl)))))
    lss_nil) lss_nil)
    (lss_consM (ls_if (lt_truth (le_callB cc_isi rfl T.n_isinstance (by rfl) (la_cons (lv 1) (la_cons (le_ty rfl T.n_str (by rfl)) la_nil)))) (lss_cons (ls_ret (le_and (le_callB cc_isi rfl T.n_isinstance (by rfl) (la_cons (lv 0) (la_cons (le_ty rfl T.n_str (by rfl)) la_nil))) (le_one (le_cmp (oo_eq room.units) (lv 0) (lv 1) (by rfl)))))
    lss_nil) lss_nil)
    (lss_consM (ls_if (LW.t (lw_or (lt_cmp (oo_ne room.units) (le_callB cc_isi rfl T.n_isinstance (by rfl) (la_cons (lv 1) (la_cons (le_ty rfl T.n_tuple (by rfl)) la_nil))) (le_callB cc_isi rfl T.n_isinstance (by rfl) (la_cons (lv 0) (la_cons (le_ty rfl T.n_tuple (by rfl)) la_nil))) (by rfl)) (lw_or1 (lt_cmp (oo_ne room.units) (le_callB cc_isi rfl T.n_isinstance (by rfl) (la_cons (lv 1) (la_cons (le_ty rfl T.n_list (by rfl)) la_nil))) (le_callB cc_isi rfl T.n_isinstance (by rfl) (la_cons (lv 0) (la_cons (le_ty rfl T.n_list (by rfl)) la_nil))) (by rfl))))) (lss_cons (ls_ret le_bl)
    lss_nil) lss_nil)
    (lss_cons (ls_ret (le_and (le_cmp (oo_eq room.units) (le_callB cc_len rfl T.n_len (by rfl) (la_cons (lv 0) la_nil)) (le_callB cc_len rfl T.n_len (by rfl) (la_cons (lv 1) la_nil)) (by rfl)) (le_one (le_callB (cc_all rfl) rfl T.n_all (by rfl) (la_cons (le_lc [("_law_k", 2)] (.nm 2) rfl sc__law_like.nd (li_rng1 rfl T.n_range (la_cons (le_callB cc_len rfl T.n_len (by rfl) (la_cons (lv 1) la_nil)) la_nil)) (by (conv => { arg 1; whnf }); (conv => { arg 2; whnf }); exact ⟨rfl, by decide +kernel, by decide +kernel, by decide +kernel, by decide +kernel⟩) (fun _ _ _ _ _ => (tg_nm 2 sc__law_like.nd)) (fun _ _ _ _ _ => lts_nil) (fun _ _ _ _ _ => (le_fx G__law_like (room.mono (by omega)) LamX.takes0 WL0 (la_cons (le_ix ox_seq (lv 0) (lv 2)) (la_cons (le_ix ox_seq (lv 1) (lv 2)) la_nil))))) la_nil)))))
    lss_nil)))))), fun ds S Q' E' h hW hS => ?_⟩, T.m__law_like, T.F__law_like.kp, T.b__law_like⟩
  obtain ⟨x, y, rfl, al, q⟩ := h
  subst hW
  have fin : ∀ b, b = true → Rt S.length Q' (.bl b) S := fun b e => Rt.same hS (e ▸ q)
  rcases alike_ty al with ⟨rfl, rfl⟩ | ⟨x, rfl, rfl⟩ | ⟨x, rfl, rfl⟩ | ⟨x, rfl, rfl⟩ | ⟨xs, ys, rfl, rfl, hal, hln⟩ | ⟨j, k, xs, ys, rfl, rfl, hxs, hys, hal, hln⟩
  · refine sD ?_
    conv => whnf
    refine lifT rfl ?_
    conv => whnf
    exact fin _ rfl
  · refine sD ?_
    conv => whnf
    refine lifF rfl ?_; refine sD ?_
    conv => whnf
    refine isi_b rfl ?_
    conv => whnf
    refine lifT rfl ?_
    conv => whnf
    refine isi_b rfl ?_
    conv => whnf
    refine lifT rfl ?_
    conv => whnf
    refine lifT rfl ?_
    conv => whnf
    exact fin _ (by simp [D.seq])
  · refine sD ?_
    conv => whnf
    refine lifF rfl ?_; refine sD ?_
    conv => whnf
    refine isi_b rfl ?_
    conv => whnf
    refine lifF rfl ?_; refine sD ?_
    conv => whnf
    refine isi_b rfl ?_
    conv => whnf
    refine lifT rfl ?_
    conv => whnf
    refine ⟨_, "int", rfl, rfl, ?_⟩
    conv => whnf
    refine lifT rfl ?_
    conv => whnf
    refine lifT rfl ?_
    conv => whnf
    exact fin _ (by simp [D.seq])
  · refine sD ?_
    conv => whnf
    refine lifF rfl ?_; refine sD ?_
    conv => whnf
    refine isi_b rfl ?_
    conv => whnf
    refine lifF rfl ?_; refine sD ?_
    conv => whnf
    refine isi_b rfl ?_
    conv => whnf
    refine lifF rfl ?_; refine sD ?_
    conv => whnf
    refine isi_b rfl ?_
    conv => whnf
    refine lifT rfl ?_
    conv => whnf
    refine isi_b rfl ?_
    conv => whnf
    refine lifT rfl ?_
    conv => whnf
    refine lifT rfl ?_
    conv => whnf
    exact fin _ (by simp [D.seq])
  · have tx : tyN S (.tup xs) = some "tuple" := rfl
    have ty : tyN S (.tup ys) = some "tuple" := rfl
    have ix : itemsOf S (.tup xs) = some xs := rfl
    have iy : itemsOf S (.tup ys) = some ys := rfl
    have ax : ∀ T : List O, itemsOf (S ++ T) (.tup xs) = some xs := fun _ => rfl
    have ay : ∀ T : List O, itemsOf (S ++ T) (.tup ys) = some ys := fun _ => rfl
    refine sD ?_
    conv => whnf
    refine lifF rfl ?_; refine sD ?_
    conv => whnf
    refine isi_b ty ?_
    conv => whnf
    refine lifF rfl ?_; refine sD ?_
    conv => whnf
    refine isi_b ty ?_
    conv => whnf
    refine lifF rfl ?_; refine sD ?_
    conv => whnf
    refine isi_b ty ?_
    conv => whnf
    refine lifF rfl ?_; refine sD ?_
    conv => whnf
    refine isi_b ty ?_
    conv => whnf
    refine isi_b tx ?_
    conv => whnf
    refine lifT rfl ?_
    conv => whnf
    refine lifF rfl ?_
    conv => whnf
    refine isi_b ty ?_
    conv => whnf
    refine isi_b tx ?_
    conv => whnf
    refine lifT rfl ?_
    conv => whnf
    refine lifF rfl ?_
    conv => whnf
    refine ⟨_, ix, ?_⟩
    conv => whnf
    refine ⟨_, iy, ?_⟩
    conv => whnf
    refine lifT rfl ?_
    conv => whnf
    refine lifT (by simp [D.seq, hal.len]) ?_
    conv => whnf
    refine ⟨_, iy, ?_⟩
    conv => whnf
    refine ⟨by omega, by have := hal.len; omega, ?_⟩
    conv => whnf
    refine ⟨fun i S' => S' = S ++ [.lst (List.replicate i (.bl true))], rfl, fun _ _ _ _ => trivial, ?_, ?_⟩
    · rintro i d S' hi rfl
      obtain ⟨hi2, rfl⟩ := rngD_get hi
      have hl := hal.len
      obtain ⟨x, hx⟩ : ∃ x, xs[i]? = some x := ⟨_, List.getElem?_eq_getElem (by omega)⟩
      obtain ⟨y, hy, hxy⟩ := hal.get hx
      refine ⟨_, rfl, ?_⟩
      conv => whnf
      refine lifT rfl ?_
      conv => whnf
      refine ⟨_, _, ax _, atI_nat hx, ?_⟩
      conv => whnf
      refine ⟨_, _, ay _, atI_nat hy, ?_⟩
      conv => whnf
      cases n with
      | zero => exact hxy.elim
      | succ n =>
        refine ⟨_, _, rfl, hxy.app, _, get_end, by rw [List.length_replicate]; exact Nat.lt_of_lt_of_le (show i < 1000000 by omega) (by decide), .inl ?_⟩
        rw [set_end, List.replicate_succ']
    · rintro S' rfl
      rw [rngD_len]
      refine ⟨_, List.replicate ((ys.length : Int).toNat) true, lstAt_end, ?_, ?_⟩
      · rw [← List.map_replicate (f := D.bl)]; simpa using asBs_map id (List.replicate (ys.length : Int).toNat true)
      · conv => whnf
        refine Rt.keep S.length (Nat.le_refl _) (by simp) (by simp) trivial hS ?_
        rw [List.all_replicate]
        simpa using q
  · have tx : tyN S (.ref j) = some "list" := tyN_lst hxs
    have ty : tyN S (.ref k) = some "list" := tyN_lst hys
    have ix : itemsOf S (.ref j) = some xs := hxs
    have iy : itemsOf S (.ref k) = some ys := hys
    have ax : ∀ T : List O, itemsOf (S ++ T) (.ref j) = some xs := fun _ => lstAt_app hxs
    have ay : ∀ T : List O, itemsOf (S ++ T) (.ref k) = some ys := fun _ => lstAt_app hys
    refine sD ?_
    conv => whnf
    refine lifF rfl ?_; refine sD ?_
    conv => whnf
    refine isi_b ty ?_
    conv => whnf
    refine lifF rfl ?_; refine sD ?_
    conv => whnf
    refine isi_b ty ?_
    conv => whnf
    refine lifF rfl ?_; refine sD ?_
    conv => whnf
    refine isi_b ty ?_
    conv => whnf
    refine lifF rfl ?_; refine sD ?_
    conv => whnf
    refine isi_b ty ?_
    conv => whnf
    refine isi_b tx ?_
    conv => whnf
    refine lifT rfl ?_
    conv => whnf
    refine lifF rfl ?_
    conv => whnf
    refine isi_b ty ?_
    conv => whnf
    refine isi_b tx ?_
    conv => whnf
    refine lifT rfl ?_
    conv => whnf
    refine lifF rfl ?_
    conv => whnf
    refine ⟨_, ix, ?_⟩
    conv => whnf
    refine ⟨_, iy, ?_⟩
    conv => whnf
    refine lifT rfl ?_
    conv => whnf
    refine lifT (by simp [D.seq, hal.len]) ?_
    conv => whnf
    refine ⟨_, iy, ?_⟩
    conv => whnf
    refine ⟨by omega, by have := hal.len; omega, ?_⟩
    conv => whnf
    refine ⟨fun i S' => S' = S ++ [.lst (List.replicate i (.bl true))], rfl, fun _ _ _ _ => trivial, ?_, ?_⟩
    · rintro i d S' hi rfl
      obtain ⟨hi2, rfl⟩ := rngD_get hi
      have hl := hal.len
      obtain ⟨x, hx⟩ : ∃ x, xs[i]? = some x := ⟨_, List.getElem?_eq_getElem (by omega)⟩
      obtain ⟨y, hy, hxy⟩ := hal.get hx
      refine ⟨_, rfl, ?_⟩
      conv => whnf
      refine lifT rfl ?_
      conv => whnf
      refine ⟨_, _, ax _, atI_nat hx, ?_⟩
      conv => whnf
      refine ⟨_, _, ay _, atI_nat hy, ?_⟩
      conv => whnf
      cases n with
      | zero => exact hxy.elim
      | succ n =>
        refine ⟨_, _, rfl, hxy.app, _, get_end, by rw [List.length_replicate]; exact Nat.lt_of_lt_of_le (show i < 1000000 by omega) (by decide), .inl ?_⟩
        rw [set_end, List.replicate_succ']
    · rintro S' rfl
      rw [rngD_len]
      refine ⟨_, List.replicate ((ys.length : Int).toNat) true, lstAt_end, ?_, ?_⟩
      · rw [← List.map_replicate (f := D.bl)]; simpa using asBs_map id (List.replicate (ys.length : Int).toNat true)
      · conv => whnf
        refine Rt.keep S.length (Nat.le_refl _) (by simp) (by simp) trivial hS ?_
        rw [List.all_replicate]
        simpa using q
theorem al__law_like (T : Txt K mg a) (G__law_num : Fx P w K mg base 1 a.a__law_num a.d__law_num "_law_num" ["_law_found"] (sp__law_num a)) : ∀ n, Fx P w K mg base (n + 1) a.a__law_like a.d__law_like "_law_like" ["_law_found", "_law_due"] (sn__law_like n a)
  | 0 => ⟨⟨fun _ _ _ _ ⟨_, _, _, _, _, _, _, _, _, h, _⟩ => False.elim h, fun _ _ _ _ _ _ _ _ _ _ _ _ _ ⟨_, _, _, _, _, _, _, _, _, h, _⟩ => False.elim h⟩, T.m__law_like, T.F__law_like.kp, T.b__law_like⟩
  | n + 1 => st__law_like T G__law_num (al__law_like T G__law_num n)
theorem ok__law_like (T : Txt K mg a) (G__law_num : Fx P w K mg base 1 a.a__law_num a.d__law_num "_law_num" ["_law_found"] (sp__law_num a)) : Fx P w K mg base 12 a.a__law_like a.d__law_like "_law_like" ["_law_found", "_law_due"] (sp__law_like a) := al__law_like T G__law_num 11
def sp__law_row (a : Ad) : SpD := fun ds S Q _ => ∃ x : Str, ds = [.str x] ∧ x.length < sizeLine ∧ Q (if binS x = true ∧ x.cps.toList.length = 4 then .non else .int 0) S
theorem ok__law_row (T : Txt K mg a) (G_read_parts : Fx P w K mg base 5 a.a_read_parts a.d_read_parts "read_parts" ["text"] (sp_read_parts a)) : Fx P w K mg base 6 a.a__law_row a.d__law_row "_law_row" ["_law_text"] (sp__law_row a) := by
  refine ⟨LC.FunD.ok T.F__law_row sc__law_row (fun ds S Q E h => by (first | (obtain ⟨h, _⟩ := h; rw [h]; rfl) | (obtain ⟨_, h, _⟩ := h; rw [h]; rfl) | (obtain ⟨_, _, h, _⟩ := h; rw [h]; rfl) | (obtain ⟨_, _, _, h, _⟩ := h; rw [h]; rfl) | (obtain ⟨_, _, _, _, h, _⟩ := h; rw [h]; rfl) | (obtain ⟨_, _, _, _, _, h, _⟩ := h; rw [h]; rfl) | (obtain ⟨_, _, _, _, _, _, h, _⟩ := h; rw [h]; rfl) | (obtain ⟨_, _, _, _, _, _, _, h, _⟩ := h; rw [h]; rfl) | (obtain ⟨_, _, _, _, _, _, _, _, h, _⟩ := h; rw [h]; rfl))) fun cdv A outer s H E φ T0 W' room wl => ⟨_, (lss_consM (ls_try_as (c := .ref a.c_BadText) (i := 1) rfl rfl sc__law_row.nd rfl rfl ⟨rfl, by decide, .inl T.k_BadText⟩ (takes_of rfl rfl rfl rfl) wl (fun W1 V1 pn1 xe1 B1 bl1 tk1 wl1 ps1 => (lss_cons (ls_expr (le_fx G_read_parts (room.mono (by decide)) tk1 wl1 (la_cons (lv 0) la_nil)))
    lss_nil)) (fun b1 oe1 cl1 d1 pm1 C1 fs1 B1 hz1 hf1 bl1 xr1 => (lss_cons (ls_ret (le_xf hz1 hf1 xr1 (lv 1)))
    lss_nil)))
    (lss_cons (ls_ret le_non)
    lss_nil)), fun ds S Q' E' h hW hS => ?_⟩, T.m__law_row, T.F__law_row.kp, T.b__law_row⟩
  obtain ⟨x, rfl, hx, q⟩ := h
  subst hW
  conv => whnf
  refine sW (fun s' S' => S' = S ∧ (∃ e, s' = [some (.str x), e]) ∧ ∃ p q r s, x = four p q r s) ?_ ?_
  · conv => whnf
    refine ⟨x, rfl, hx, fun p q1 r s e => ?_, fun hn => ?_⟩
    · conv => whnf
      exact .inl ⟨rfl, ⟨none, rfl⟩, p, q1, r, s, e⟩
    · refine ⟨true, T.es_BadText, fun _ b => ?_, fun h => nomatch h⟩
      conv => whnf
      refine ⟨rfl, T.xf_BadText, T.nf_BadText_row, _, rfl, ?_⟩
      rw [if_neg fun h => hn (bin_four h.2 h.1)] at q
      exact Rt.same hS q
  rintro s' S' ⟨rfl, ⟨e, rfl⟩, p, q1, r, s, rfl⟩
  conv => whnf
  rw [if_pos ⟨four_bin _ _ _ _, rfl⟩] at q
  exact Rt.same hS q
theorem join4 (a b c d : Int) (ha : a = 0 ∨ a = 1) (hb : b = 0 ∨ b = 1) (hc : c = 0 ∨ c = 1) (hd : d = 0 ∨ d = 1) : (Txt.join "" [(toString a : String), (toString b : String), (toString c : String), (toString d : String)]).length ≤ 4 ∧ ([(toString a : String), (toString b : String), (toString c : String), (toString d : String)].map fun x : String => (x : Str).length).sum ≤ 4 := by
  rcases ha with rfl | rfl <;> rcases hb with rfl | rfl <;> rcases hc with rfl | rfl <;> rcases hd with rfl | rfl <;> exact ⟨by decide, by decide⟩
theorem four_val {a b c d p q r s : Bool} (h : four a b c d = four p q r s) : val4 a b c d = val4 p q r s := by
  have e : [sg a, sg b, sg c, sg d] = [sg p, sg q, sg r, sg s] := congrArg (fun x : Str => x.cps.toList) h
  have inj : ∀ {x y : Bool}, sg x = sg y → x = y := fun {x y} => by cases x <;> cases y <;> simp [sg]
  simp only [List.cons.injEq, and_true] at e
  rw [inj e.1, inj e.2.1, inj e.2.2.1, inj e.2.2.2]
theorem ok_law (T : Txt K mg a) (G_read_parts : Fx P w K mg base 5 a.a_read_parts a.d_read_parts "read_parts" ["text"] (sp_read_parts a)) (G__law_open : Fx P w K mg base 1 a.a__law_open a.d__law_open "_law_open" ["_law_script"] (sp__law_open a)) (G__law_pull : Fx P w K mg base 1 a.a__law_pull a.d__law_pull "_law_pull" ["_law_draw", "_law_many"] (sp__law_pull a)) (G__law_like : Fx P w K mg base 12 a.a__law_like a.d__law_like "_law_like" ["_law_found", "_law_due"] (sp__law_like a)) (G__law_row : Fx P w K mg base 6 a.a__law_row a.d__law_row "_law_row" ["_law_text"] (sp__law_row a)) (W : ∀ X : Cx, X.prog = P → X.w = w → X.K = K → X.mg = mg → WhyOk X "_law_why" "_law_ask" a.a__law_why a.c_LimeError X.env.qual) (TB : LamX.TabB base mg a.code a.tab) : FnOk P w K mg base (L2.CX P w) 13 a.a_law a.d_law ["_law_script"] (upFT K (T0of a) spLaw) := by
  refine FunC.ok T.F_law sc_law (fun ds S Q E ⟨_, _, h, _⟩ => by rw [h]; rfl) fun A outer s H E φ W' room wl => ⟨_, (lss_consM (ls_set 1 (le_fx G__law_open (room.mono (by decide)) (takes_of rfl rfl rfl rfl) wl (la_cons (lv 0) la_nil)) sc_law.nd)
    (lss_cons (ls_for (passes_of rfl) rfl (li_rng1 rfl T.n_range (la_cons le_int la_nil)) (lg_name (i := 2) sc_law.nd rfl)
    (lss_consM (ls_set 3 (le_fx G__law_pull (room.mono (by decide)) (takes_of rfl rfl rfl rfl) wl (la_cons (lv 1) (la_cons le_int la_nil))) sc_law.nd)
    (lss_consM (ls_set 4 (le_join le_str (le_lc [("_law_by", 10)] (.nm 10) rfl sc_law.nd (li_tup (le_tup (la_cons le_int (la_cons le_int (la_cons le_int (la_cons le_int la_nil)))))) (by (conv => { arg 1; whnf }); (conv => { arg 2; whnf }); exact ⟨rfl, by decide +kernel, by decide +kernel, by decide +kernel, by decide +kernel⟩) (fun _ _ _ _ _ => (tg_nm 10 sc_law.nd)) (fun _ _ _ _ _ => lts_nil) (fun _ _ _ _ _ => (le_callTy cc_str rfl T.n_str (by rfl) (la_cons (le_op oo_mod (le_op oo_fdiv (lv 3) (lv 10)) le_int) la_nil))))) sc_law.nd)
    (lss_consM (ls_set 5 (le_fx G__law_pull (room.mono (by decide)) (takes_of rfl rfl rfl rfl) wl (la_cons (lv 1) (la_cons le_int la_nil))) sc_law.nd)
    (lss_consM (ls_set 6 (le_fx G__law_pull (room.mono (by decide)) (takes_of rfl rfl rfl rfl) wl (la_cons (lv 1) (la_cons le_int la_nil))) sc_law.nd)
    (lss_consM (ls_set 7 (le_ix ox_seq le_str (le_fx G__law_pull (room.mono (by decide)) (takes_of rfl rfl rfl rfl) wl (la_cons (lv 1) (la_cons le_int la_nil)))) sc_law.nd)
    (lss_consM (ls_if (lt_cmp (oo_eq room.units) (lv 5) le_int (by rfl)) (lss_cons (ls_set 4 (le_op oo_add (le_op oo_add (le_slice (lv 4) lp_none (lp_some (lv 6))) (lv 7)) (le_slice (lv 4) (lp_some (le_op oo_add (lv 6) le_int)) lp_none)) sc_law.nd)
    lss_nil) lss_nil)
    (lss_consM (ls_if (lt_cmp (oo_eq room.units) (lv 5) le_int (by rfl)) (lss_cons (ls_set 4 (le_op oo_add (le_slice (lv 4) lp_none (lp_some (lv 6))) (le_slice (lv 4) (lp_some (le_op oo_add (lv 6) le_int)) lp_none)) sc_law.nd)
    lss_nil) lss_nil)
    (lss_consM (ls_if (lt_cmp (oo_eq room.units) (lv 5) le_int (by rfl)) (lss_cons (ls_set 4 (le_op oo_add (le_op oo_add (le_slice (lv 4) lp_none (lp_some (lv 6))) (lv 7)) (le_slice (lv 4) (lp_some (lv 6)) lp_none)) sc_law.nd)
    lss_nil) lss_nil)
    (lss_consM (ls_if (lt_cmp (oo_eq room.units) (lv 5) le_int (by rfl)) (lss_cons (ls_set 4 (le_ix ox_seq (le_lst (la_cons le_str (la_cons le_str (la_cons le_str (la_cons le_str (la_cons le_str (la_cons le_str (la_cons le_str (la_cons le_str la_nil))))))))) (le_fx G__law_pull (room.mono (by decide)) (takes_of rfl rfl rfl rfl) wl (la_cons (lv 1) (la_cons le_int la_nil)))) sc_law.nd)
    lss_nil) lss_nil)
    (lss_consM (ls_set 8 (le_and (le_cmp (oo_eq room.units) (le_callB cc_len rfl T.n_len (by rfl) (la_cons (lv 4) la_nil)) le_int (by rfl)) (le_one (le_callB (cc_all rfl) rfl T.n_all (by rfl) (la_cons (le_lc [("_law_one", 11)] (.nm 11) rfl sc_law.nd (li_str (lv 4)) (by (conv => { arg 1; whnf }); (conv => { arg 2; whnf }); exact ⟨rfl, by decide +kernel, by decide +kernel, by decide +kernel, by decide +kernel⟩) (fun _ _ _ _ _ => (tg_nm 11 sc_law.nd)) (fun _ _ _ _ _ => lts_nil) (fun _ _ _ _ _ => (le_cmp oo_in (lv 11) le_str (by rfl)))) la_nil)))) sc_law.nd)
    (lss_consM (ls_set 9 (le_tup (la_cons le_non (la_cons le_str la_nil))) sc_law.nd)
    (lss_consM (ls_if (lt_truth (lv 8)) (lss_cons (ls_set 9 (le_tup (la_cons (le_callTy cc_tuple rfl T.n_tuple (by rfl) (la_cons (le_lc [("_law_part", 12)] (.nm 12) rfl sc_law.nd (li_tup (le_tup (la_cons le_int (la_cons le_int (la_cons le_int (la_cons le_int la_nil)))))) (by (conv => { arg 1; whnf }); (conv => { arg 2; whnf }); exact ⟨rfl, by decide +kernel, by decide +kernel, by decide +kernel, by decide +kernel⟩) (fun _ _ _ _ _ => (tg_nm 12 sc_law.nd)) (fun _ _ _ _ _ => (lts_one (lt_cmp (oo_eq room.units) (le_ix ox_seq (lv 4) (le_op oo_sub le_int (lv 12))) le_str (by rfl)))) (fun _ _ _ _ _ => (lv 12))) la_nil)) (la_cons le_str la_nil))) sc_law.nd)
    lss_nil) lss_nil)
    (lss_consM (ls_if (lt_not (lt_truth (le_fx G__law_like (room.mono (by decide)) (takes_of rfl rfl rfl rfl) wl (la_cons (le_why (lv := 10) (W _ rfl rfl rfl rfl) rfl TB rfl (List.mem_singleton.mpr rfl) (fun p hp _ => by rw [List.mem_singleton.mp hp]; rfl) (room.mono (by decide)) (by (conv => { arg 1; whnf }); exact ⟨rfl, rfl, rfl, by decide +kernel, by decide +kernel⟩) rfl (by intros; rfl) (fun A1 o1 s1 H1 E1 f1 c1 B1 W1 room1 wl1 => (le_fx G_read_parts (room1.mono (by decide)) takes_lam wl1 (la_cons (lv 4) la_nil)))) (la_cons (lv 9) la_nil))))) (lss_cons (ls_ret le_bl)
    lss_nil) lss_nil)
    (lss_cons (ls_if (lt_not (lt_truth (le_fx G__law_like (room.mono (by decide)) (takes_of rfl rfl rfl rfl) wl (la_cons (le_fx G__law_row (room.mono (by decide)) (takes_of rfl rfl rfl rfl) wl (la_cons (lv 4) la_nil)) (la_cons (le_if (lt_truth (lv 8)) le_non le_int) la_nil))))) (lss_cons (ls_ret le_bl)
    lss_nil) lss_nil)
    lss_nil)))))))))))))))
    (lss_cons (ls_ret le_bl)
    lss_nil))), fun ds S Q' E' h hW hS => ?_⟩
  obtain ⟨ns, o, rfl, rfl, hns, hlen, hbits, q⟩ := h
  subst hW
  have ho : O.lt 1 o := hS.1
  have m2 : ∀ z : Int, z % 2 = 0 ∨ z % 2 = 1 := fun z => by omega
  conv => whnf
  refine sM (fun s' S' => s' = [some (.ref 0), some (.ref 3), none, none, none, none, none, none, none, none, none, none, none] ∧ S' = [o, .lst (ns.map D.int), .lst (ns.map D.int), .lst [.ref 2, .int 0, .int 0, .int 31]]) ?_ ?_
  · conv => whnf
    exact ⟨0, ns, rfl, hns, hlen, rfl, rfl⟩
  rintro s' S' ⟨rfl, rfl⟩
  conv => whnf
  refine ⟨by decide, by decide, ?_⟩
  refine ⟨fun i s' S' => ∃ l, DrawL 2 l ∧ s' = [some (.ref 0), some (.ref 3), none, none, none, none, none, none, none, none, none, none, none] ∧ S' = [o, .lst (ns.map D.int), .lst (ns.map D.int), .lst l], ⟨_, ⟨0, 0, 31, rfl, by decide, by decide, by decide, by decide⟩, rfl, rfl⟩, fun _ _ _ _ _ => trivial, ?_, ?_⟩
  · rintro i x s' S' hi ⟨l, hl, rfl, rfl⟩
    obtain ⟨_, rfl⟩ := rngD_get hi
    conv => whnf
    generalize (D.int (0 + (i : Int))) = t
    -- number
    refine sM (fun s' S' => ∃ (l : List D) (n : Int), DrawL 2 l ∧ 0 ≤ n ∧ n < 16 ∧ s' = [some (.ref 0), some (.ref 3), some t, some (.int n), none, none, none, none, none, none, none, none, none] ∧ S' = [o, .lst (ns.map D.int), .lst (ns.map D.int), .lst l]) ?_ ?_
    · conv => whnf
      refine pull3 hl (by decide) (by decide) fun n l h0 h1 hl => ?_
      exact ⟨l, n, hl, h0, h1, rfl, rfl⟩
    rintro s' S' ⟨l, n, hl, hn0, hn1, rfl, rfl⟩
    -- text
    refine sM (fun s' S' => ∃ (U : List O) (x : Str), x.length ≤ 4 ∧ s' = [some (.ref 0), some (.ref 3), some t, some (.int n), some (.str x), none, none, none, none, none, none, none, none] ∧ S' = o :: .lst (ns.map D.int) :: .lst (ns.map D.int) :: .lst l :: U) ?_ ?_
    · conv => whnf
      refine ⟨by show (4 : Nat) ≤ sizeLine; decide, ?_⟩
      conv => whnf
      refine lc_pure (fun _ => true) (fun d => match d with | .int p => .str (toString (n / p % 2)) | _ => .non) (by decide) (fun _ => trivial) ?_ ?_
      · intro i x ys hi
        have hi4 : i < 4 := by
          have ⟨z, _⟩ := List.getElem?_eq_some_iff.mp hi
          simpa using z
        have : i = 0 ∨ i = 1 ∨ i = 2 ∨ i = 3 := by omega
        rcases this with rfl | rfl | rfl | rfl <;> cases hi
        all_goals
          refine ⟨_, rfl, fun R r => ?_, fun hf R r => ?_⟩
          · conv => whnf
            exact r
          · conv => whnf
            refine ⟨by (first | trivial | (show (0 : Int) < _; first | decide | omega) | (show (0 : Int) ≤ _; first | decide | omega) | (exact .inl ⟨by omega, by omega⟩) | (exact .inr ⟨by decide, by decide⟩) | (refine ⟨?_, ?_⟩ <;> first | decide | omega) | (refine ⟨?_, ?_, ?_⟩ <;> first | decide | omega)), ?_⟩
            conv => whnf
            refine ⟨by (first | trivial | (show (0 : Int) < _; first | decide | omega) | (show (0 : Int) ≤ _; first | decide | omega) | (exact .inl ⟨by omega, by omega⟩) | (exact .inr ⟨by decide, by decide⟩) | (refine ⟨?_, ?_⟩ <;> first | decide | omega) | (refine ⟨?_, ?_, ?_⟩ <;> first | decide | omega)), ?_⟩
            conv => whnf
            refine ⟨?_, r⟩
            have key : ∀ z : Int, z = 0 ∨ z = 1 → z.natAbs.log2 < 1920 := fun z h => by rcases h with rfl | rfl <;> decide
            exact key _ (m2 _)
      · conv => whnf
        have j4 := join4 (n / 8 % 2) (n / 4 % 2) (n / 2 % 2) (n / 1 % 2) (m2 _) (m2 _) (m2 _) (m2 _)
        refine ⟨_, [(toString (n / 8 % 2) : String), (toString (n / 4 % 2) : String), (toString (n / 2 % 2) : String), (toString (n / 1 % 2) : String)], rfl, rfl, ?_, ?_⟩
        · exact Nat.le_trans (Nat.add_le_add_right j4.2 _) (by show 4 + 4 * 0 ≤ 16777216; decide)
        conv => whnf
        exact ⟨_, _, j4.1, rfl, rfl⟩
    rintro s' S' ⟨U, x, hx, rfl, rfl⟩
    -- the ways
    refine sM (fun s' S' => ∃ (l : List D) (w : Int), DrawL 2 l ∧ s' = [some (.ref 0), some (.ref 3), some t, some (.int n), some (.str x), some (.int w), none, none, none, none, none, none, none] ∧ S' = o :: .lst (ns.map D.int) :: .lst (ns.map D.int) :: .lst l :: U) ?_ ?_
    · conv => whnf
      refine pull3 hl (by decide) (by decide) fun n l h0 h1 hl => ?_
      exact ⟨l, n, hl, rfl, rfl⟩
    rintro s' S' ⟨l, w, hl, rfl, rfl⟩
    refine sM (fun s' S' => ∃ (l : List D) (k : Int), DrawL 2 l ∧ s' = [some (.ref 0), some (.ref 3), some t, some (.int n), some (.str x), some (.int w), some (.int k), none, none, none, none, none, none] ∧ S' = o :: .lst (ns.map D.int) :: .lst (ns.map D.int) :: .lst l :: U) ?_ ?_
    · conv => whnf
      refine pull3 hl (by decide) (by decide) fun n l h0 h1 hl => ?_
      exact ⟨l, n, hl, rfl, rfl⟩
    rintro s' S' ⟨l, k, hl, rfl, rfl⟩
    refine sM (fun s' S' => ∃ (l : List D) (g : Nat), DrawL 2 l ∧ s' = [some (.ref 0), some (.ref 3), some t, some (.int n), some (.str x), some (.int w), some (.int k), some (.str ⟨#[g]⟩), none, none, none, none, none] ∧ S' = o :: .lst (ns.map D.int) :: .lst (ns.map D.int) :: .lst l :: U) ?_ ?_
    · conv => whnf
      refine pull3 hl (by decide) (by decide) fun n l h0 h1 hl => ?_
      conv => whnf
      refine ⟨by decide, ?_⟩
      have hg : n.toNat < ("012ab -_+\n" : Str).cps.toList.length := by show n.toNat < 10; omega
      exact ⟨_, atI_get h0 (List.getElem?_eq_getElem hg), l, _, hl, rfl, rfl⟩
    rintro s' S' ⟨l, g, hl, rfl, rfl⟩
    have cut : ∀ (z : Str) (a b : Option Int), (L2.cutS z a b).length ≤ z.length := L2.cutS_length
    have small : ∀ m : Nat, m ≤ 1000 → m ≤ sizeLine := fun m hm => Nat.le_trans hm (by decide)
    have app := PySem.Str.length_append
    have one : (⟨#[g]⟩ : Str).length = 1 := rfl
    refine sM (fun s' S' => ∃ x : Str, x.length ≤ 9 ∧ s' = [some (.ref 0), some (.ref 3), some t, some (.int n), some (.str x), some (.int w), some (.int k), some (.str ⟨#[g]⟩), none, none, none, none, none] ∧ S' = o :: .lst (ns.map D.int) :: .lst (ns.map D.int) :: .lst l :: U) ?_ ?_
    · conv => whnf
      refine lifT rfl ?_
      conv => whnf
      refine lif (fun hc => ?_) (fun hc => ?_)
      · conv => whnf
        refine ⟨small _ (by omega), ?_⟩
        conv => whnf
        refine ⟨small _ (by have := cut x none (some k); omega), ?_⟩
        conv => whnf
        refine ⟨small _ (by omega), ?_⟩
        conv => whnf
        refine ⟨small _ (by have := cut x none (some k); have := cut x (some (k + 1)) none; rw [app]; omega), ?_⟩
        conv => whnf
        exact ⟨_, by have := cut x none (some k); have := cut x (some (k + 1)) none; rw [app, app]; omega, rfl, rfl⟩
      · conv => whnf
        exact ⟨x, by omega, rfl, rfl⟩
    rintro s' S' ⟨x, hx, rfl, rfl⟩
    refine sM (fun s' S' => ∃ x : Str, x.length ≤ 18 ∧ s' = [some (.ref 0), some (.ref 3), some t, some (.int n), some (.str x), some (.int w), some (.int k), some (.str ⟨#[g]⟩), none, none, none, none, none] ∧ S' = o :: .lst (ns.map D.int) :: .lst (ns.map D.int) :: .lst l :: U) ?_ ?_
    · conv => whnf
      refine lifT rfl ?_
      conv => whnf
      refine lif (fun hc => ?_) (fun hc => ?_)
      · conv => whnf
        refine ⟨small _ (by omega), ?_⟩
        conv => whnf
        refine ⟨small _ (by omega), ?_⟩
        conv => whnf
        refine ⟨small _ (by have := cut x none (some k); have := cut x (some (k + 1)) none; omega), ?_⟩
        conv => whnf
        exact ⟨_, by have := cut x none (some k); have := cut x (some (k + 1)) none; rw [app]; omega, rfl, rfl⟩
      · conv => whnf
        exact ⟨x, by omega, rfl, rfl⟩
    rintro s' S' ⟨x, hx, rfl, rfl⟩
    refine sM (fun s' S' => ∃ x : Str, x.length ≤ 37 ∧ s' = [some (.ref 0), some (.ref 3), some t, some (.int n), some (.str x), some (.int w), some (.int k), some (.str ⟨#[g]⟩), none, none, none, none, none] ∧ S' = o :: .lst (ns.map D.int) :: .lst (ns.map D.int) :: .lst l :: U) ?_ ?_
    · conv => whnf
      refine lifT rfl ?_
      conv => whnf
      refine lif (fun hc => ?_) (fun hc => ?_)
      · conv => whnf
        refine ⟨small _ (by omega), ?_⟩
        conv => whnf
        refine ⟨small _ (by have := cut x none (some k); omega), ?_⟩
        conv => whnf
        refine ⟨small _ (by omega), ?_⟩
        conv => whnf
        refine ⟨small _ (by have := cut x none (some k); have := cut x (some k) none; rw [app]; omega), ?_⟩
        conv => whnf
        exact ⟨_, by have := cut x none (some k); have := cut x (some k) none; rw [app, app]; omega, rfl, rfl⟩
      · conv => whnf
        exact ⟨x, by omega, rfl, rfl⟩
    rintro s' S' ⟨x, hx, rfl, rfl⟩
    refine sM (fun s' S' => ∃ (U : List O) (l : List D) (x : Str), DrawL 2 l ∧ x.length ≤ 37 ∧ s' = [some (.ref 0), some (.ref 3), some t, some (.int n), some (.str x), some (.int w), some (.int k), some (.str ⟨#[g]⟩), none, none, none, none, none] ∧ S' = o :: .lst (ns.map D.int) :: .lst (ns.map D.int) :: .lst l :: U) ?_ ?_
    · conv => whnf
      refine lifT rfl ?_
      conv => whnf
      refine lif (fun hc => ?_) (fun hc => ?_)
      · conv => whnf
        refine ⟨by show (8 : Nat) ≤ sizeLine; decide, ?_⟩
        conv => whnf
        refine pull3 hl (by decide) (by decide) fun n l h0 h1 hl => ?_
        conv => whnf
        have hs : ∃ z : Str, L2.atI (["", "0b1", "0b11", "-101", " 101", "1_01", "+011", "00000"].map fun z : String => D.str (z : Str)) n = some (.str z) ∧ z.length ≤ 5 := by
          have : n = 0 ∨ n = 1 ∨ n = 2 ∨ n = 3 ∨ n = 4 ∨ n = 5 ∨ n = 6 ∨ n = 7 := by omega
          rcases this with rfl | rfl | rfl | rfl | rfl | rfl | rfl | rfl <;> exact ⟨_, rfl, by decide⟩
        obtain ⟨z, hz, hz5⟩ := hs
        refine ⟨_, _, lstAt_end (S := o :: .lst (ns.map D.int) :: .lst (ns.map D.int) :: .lst l :: U), hz, ?_⟩
        conv => whnf
        exact ⟨_, _, _, hl, by omega, rfl, rfl⟩
      · conv => whnf
        exact ⟨_, _, x, hl, hx, rfl, rfl⟩
    rintro s' S' ⟨U, l, x, hl, hx, rfl, rfl⟩
    -- good
    refine sM (fun s' S' => ∃ (U : List O), s' = [some (.ref 0), some (.ref 3), some t, some (.int n), some (.str x), some (.int w), some (.int k), some (.str ⟨#[g]⟩), some (.bl (decide (x.cps.toList.length = 4) && binS x)), none, none, none, none] ∧ S' = o :: .lst (ns.map D.int) :: .lst (ns.map D.int) :: .lst l :: U) ?_ ?_
    · conv => whnf
      refine ⟨small _ (by omega), ?_⟩
      conv => whnf
      refine lifT rfl ?_
      conv => whnf
      have el : D.seq (.int (x.length : Int)) (.int 4) = decide (x.cps.toList.length = 4) := by
        show decide ((x.length : Int) = 4) = decide (x.length = 4)
        rw [decide_eq_decide]; omega
      refine lif (fun hc => ?_) (fun hc => ?_)
      · have hc' : decide (x.cps.toList.length = 4) = true := by rw [← el]; exact hc
        conv => whnf
        refine lc_pure (fun _ => true) (fun d => match d with | .str y => .bl (decide (y.cps.getD 0 0 ∈ ("01" : Str).cps.toList)) | _ => .non) ?_ (fun _ => trivial) ?_ ?_
        · unfold LC.signs; rw [List.length_map]; exact Nat.lt_of_le_of_lt hx (by decide)
        · intro i d ys hi
          unfold LC.signs at hi
          rw [List.getElem?_map] at hi
          cases hn : x.cps.toList[i]? with
          | none => rw [hn] at hi; cases hi
          | some c =>
            rw [hn] at hi
            cases hi
            refine ⟨_, rfl, fun R r => ?_, fun hf R r => ?_⟩
            · conv => whnf
              exact r
            · conv => whnf
              exact ⟨c, rfl, r⟩
        · conv => whnf
          refine ⟨_, x.cps.toList.map fun c => decide (c ∈ ("01" : Str).cps.toList), lstAt_end (S := o :: .lst (ns.map D.int) :: .lst (ns.map D.int) :: .lst l :: U), ?_, ?_⟩
          · rw [List.filter_eq_self.mpr (fun _ _ => rfl)]
            unfold LC.signs
            rw [List.map_map]
            exact asBs_map (fun c => decide (c ∈ ("01" : Str).cps.toList)) x.cps.toList
          conv => whnf
          have e : (x.cps.toList.map fun c => decide (c ∈ ("01" : Str).cps.toList)).all id = (decide (x.cps.toList.length = 4) && binS x) := by rw [List.all_map, hc']; rfl
          rw [e]
          exact ⟨_, rfl, rfl⟩
      · have hc' : decide (x.cps.toList.length = 4) = false := by rw [← el]; exact hc
        conv => whnf
        rw [hc']
        exact ⟨_, rfl, rfl⟩
    rintro s' S' ⟨U, rfl, rfl⟩
    have hgd : (decide (x.cps.toList.length = 4) && binS x) = true → ∃ p q r s, x = four p q r s := fun h => by
      rw [Bool.and_eq_true] at h
      exact bin_four (of_decide_eq_true h.1) h.2
    have hgf : (decide (x.cps.toList.length = 4) && binS x) = false → ¬ ∃ p q r s, x = four p q r s := fun h ⟨p, q, r, s, e⟩ => by
      subst e
      rw [four_bin] at h
      exact absurd h (by show ¬ (decide ((4 : Nat) = 4) && true) = false; decide)
    have hif : (if binS x = true ∧ x.cps.toList.length = 4 then D.non else D.int 0) = if (decide (x.cps.toList.length = 4) && binS x) = true then D.non else D.int 0 := by
      by_cases h1 : binS x = true <;> by_cases h2 : x.cps.toList.length = 4 <;> simp [h1, h2]
    generalize (decide (x.cps.toList.length = 4) && binS x) = gd at hgd hgf hif
    refine sM (fun s' S' => s' = [some (.ref 0), some (.ref 3), some t, some (.int n), some (.str x), some (.int w), some (.int k), some (.str ⟨#[g]⟩), some (.bl gd), some (.tup [.non, .str "badtext"]), none, none, none] ∧ S' = o :: .lst (ns.map D.int) :: .lst (ns.map D.int) :: .lst l :: U) ?_ ?_
    · conv => whnf
      refine ⟨by show (2 : Nat) ≤ sizeLine; decide, ?_⟩
      conv => whnf
      exact ⟨rfl, rfl⟩
    rintro s' S' ⟨rfl, rfl⟩
    refine sM (fun s' S' => ∃ (U : List O) (dd : D), ((gd = true ∧ ∃ p q r s, x = four p q r s ∧ dd = .tup [.tup (bitsD (val4 p q r s)), .str ""]) ∨ (gd = false ∧ dd = .tup [.non, .str "badtext"])) ∧ s' = [some (.ref 0), some (.ref 3), some t, some (.int n), some (.str x), some (.int w), some (.int k), some (.str ⟨#[g]⟩), some (.bl gd), some dd, none, none, none] ∧ S' = o :: .lst (ns.map D.int) :: .lst (ns.map D.int) :: .lst l :: U) ?_ ?_
    · conv => whnf
      refine lif (fun hc => ?_) (fun hc => ?_)
      · obtain ⟨p, q1, r, s, rfl⟩ := hgd hc
        conv => whnf
        refine ⟨by show (4 : Nat) ≤ sizeLine; decide, ?_⟩
        conv => whnf
        refine lc_pure (fun d => match d with | .int 1 => s | .int 2 => r | .int 3 => q1 | .int 4 => p | _ => false) (fun d => d) (by decide) (fun _ => trivial) ?_ ?_
        · intro i x ys hi
          have hi4 : i < 4 := by
            have ⟨z, _⟩ := List.getElem?_eq_some_iff.mp hi
            simpa using z
          have bit : ∀ b : Bool, decide ((⟨#[sg b]⟩ : Str) = "1") = b := by decide
          have : i = 0 ∨ i = 1 ∨ i = 2 ∨ i = 3 := by omega
          rcases this with rfl | rfl | rfl | rfl <;> cases hi
          all_goals
            refine ⟨_, rfl, fun R z => ?_, fun hf R z => ?_⟩
            · conv => whnf
              refine ⟨trivial, ?_⟩
              conv => whnf
              refine ⟨by show (4 : Nat) ≤ sizeLine; decide, _, rfl, ?_⟩
              conv => whnf
              refine lifT rfl ?_
              conv => whnf
              have tr : ∀ (b c : Bool) (T : List O), b = c → R c T → R b T := fun b c T e h => e ▸ h
              first | exact tr _ s _ (bit s) z | exact tr _ r _ (bit r) z | exact tr _ q1 _ (bit q1) z | exact tr _ p _ (bit p) z
            · conv => whnf
              exact z
        · conv => whnf
          refine ⟨_, lstAt_end (S := o :: .lst (ns.map D.int) :: .lst (ns.map D.int) :: .lst l :: U), ?_⟩
          conv => whnf
          refine ⟨by show (2 : Nat) ≤ sizeLine; decide, ?_⟩
          conv => whnf
          refine ⟨_, _, .inl ⟨hc, p, q1, r, s, rfl, ?_⟩, rfl, rfl⟩
          cases p <;> cases q1 <;> cases r <;> cases s <;> rfl
      · conv => whnf
        exact ⟨_, _, .inr ⟨hc, rfl⟩, rfl, rfl⟩
    rintro s' S' ⟨U, dd, hdd, rfl, rfl⟩
    have hxl : x.length < sizeLine := Nat.lt_of_le_of_lt hx (by decide)
    refine sM (fun s' S' => s' = [some (.ref 0), some (.ref 3), some t, some (.int n), some (.str x), some (.int w), some (.int k), some (.str ⟨#[g]⟩), some (.bl gd), some dd, none, none, none] ∧ S' = o :: .lst (ns.map D.int) :: .lst (ns.map D.int) :: .lst l :: U) ?_ ?_
    · conv => whnf
      refine ⟨x, rfl, hxl, fun p q1 r s e => ?_, fun hn => ?_⟩
      · have hg1 : gd = true := by
          cases gd with
          | true => rfl
          | false => exact absurd ⟨p, q1, r, s, e⟩ (hgf rfl)
        obtain ⟨_, p2, q2, r2, s2, e2, rfl⟩ := hdd.resolve_right (fun h => by rw [hg1] at h; cases h.1)
        have ev : val4 p q1 r s = val4 p2 q2 r2 s2 := four_val (e.symm.trans e2)
        rw [ev]
        obtain ⟨ms, hms, hml⟩ := bits_ints (val4 p2 q2 r2 s2)
        rw [hms]
        conv => whnf
        refine ⟨_, _, rfl, ⟨⟨⟨alike_ints ms, by rw [List.length_map]; exact Nat.le_trans hml (by decide)⟩, rfl, trivial⟩, by show (2 : Nat) ≤ 1000000; decide⟩, ?_⟩
        conv => whnf
        refine lifF rfl ?_
        conv => whnf
        exact ⟨rfl, rfl⟩
      · have hg1 : gd = false := by
          cases gd with
          | false => rfl
          | true => exact absurd (hgd rfl) hn
        obtain ⟨_, rfl⟩ := hdd.resolve_left (fun h => by rw [hg1] at h; cases h.1)
        refine ⟨T.ex_BadText, T.xf_BadText, T.nc_BadText, _, rfl, ?_⟩
        conv => whnf
        refine ⟨_, _, rfl, ⟨⟨trivial, rfl, trivial⟩, by show (2 : Nat) ≤ 1000000; decide⟩, ?_⟩
        conv => whnf
        refine lifF rfl ?_
        conv => whnf
        exact ⟨rfl, rfl⟩
    rintro s' S' ⟨rfl, rfl⟩
    conv => whnf
    refine ⟨x, rfl, hxl, ?_⟩
    rw [hif]
    have fin : ∀ w2 : Sl, w2 = [some (.ref 0), some (.ref 3), some t, some (.int n), some (.str x), some (.int w), some (.int k), some (.str ⟨#[g]⟩), some (.bl gd), some dd, none, none, none] → SlLe 4 [some (.ref 0), some (.ref 3), none, none, none, none, none, none, none, none, none, none, none] w2 := fun w2 e => by subst e; simp [SlLe, D.lt]
    cases gd with
    | true =>
      conv => whnf
      refine lifT rfl ?_
      conv => whnf
      refine ⟨_, _, rfl, trivial, ?_⟩
      conv => whnf
      refine lifF rfl ?_
      conv => whnf
      exact .inr ⟨4, _, by simp, fin _ rfl, ⟨ho.mono (by simp), ints_lts _, ints_lts _, hl.lts (by simp), trivial⟩, l, hl, rfl, rfl⟩
    | false =>
      conv => whnf
      refine lifF rfl ?_
      conv => whnf
      refine ⟨_, _, rfl, rfl, ?_⟩
      conv => whnf
      refine lifF rfl ?_
      conv => whnf
      exact .inr ⟨4, _, by simp, fin _ rfl, ⟨ho.mono (by simp), ints_lts _, ints_lts _, hl.lts (by simp), trivial⟩, l, hl, rfl, rfl⟩
  · rintro s' S' ⟨l, hl, rfl, rfl⟩
    conv => whnf
    refine Rt.pure (by simp) rfl rfl hS (q _)
theorem why_ok (T : Txt K mg a) (X : Cx) (hK : X.K = K) (hm : X.mg = mg) : WhyOk X "_law_why" "_law_ask" a.a__law_why a.c_LimeError X.env.qual := by
  subst hK hm
  obtain ⟨oc, od, kV, doc, pm, an, cdv, ct, osl, e, lk, hcd⟩ := T.F__law_why.ex
  have b := T.b__law_why
  rw [e] at b lk
  exact ⟨_, _, _, _, _, _, _, _, _, _, _, _, _, _, T.m__law_why, T.F__law_why.kp, lk, hcd, b, sc__law_why, rfl, .inl rfl,
    why_asks rfl sc__law_why.nd rfl rfl rfl rfl (by decide) (by decide) (by decide) (by decide) (by decide) (by decide) rfl T.k_LimeError⟩
end
theorem all_mk {l : PySem.W.OpenLaw} {w : World} {K : PySem.W.Frag} {h : Heap} {mg : Str → Option Value} {fa : Addr} (X : K.In h) (G : h.Ns mainGlobals mg) (hfa : mg "law" = some (.ref fa))
    {c_BadText : Addr} {c_BadNumber : Addr} {c_LimeError : Addr} {f_parts_of : Addr} {od_parts_of an_parts_of : Option Addr} {sl_parts_of : Array (Option Value)} {oc_parts_of kV_parts_of dc_parts_of pm_parts_of cd_parts_of ct_parts_of : Value} {f_read_parts : Addr} {od_read_parts an_read_parts : Option Addr} {sl_read_parts : Array (Option Value)} {oc_read_parts kV_read_parts dc_read_parts pm_read_parts cd_read_parts ct_read_parts : Value} {f__law_open : Addr} {od__law_open an__law_open : Option Addr} {sl__law_open : Array (Option Value)} {oc__law_open kV__law_open dc__law_open pm__law_open cd__law_open ct__law_open : Value} {f__law_pull : Addr} {od__law_pull an__law_pull : Option Addr} {sl__law_pull : Array (Option Value)} {oc__law_pull kV__law_pull dc__law_pull pm__law_pull cd__law_pull ct__law_pull : Value} {f__law_num : Addr} {od__law_num an__law_num : Option Addr} {sl__law_num : Array (Option Value)} {oc__law_num kV__law_num dc__law_num pm__law_num cd__law_num ct__law_num : Value} {f__law_like : Addr} {od__law_like an__law_like : Option Addr} {sl__law_like : Array (Option Value)} {oc__law_like kV__law_like dc__law_like pm__law_like cd__law_like ct__law_like : Value} {f__law_why : Addr} {od__law_why an__law_why : Option Addr} {sl__law_why : Array (Option Value)} {oc__law_why kV__law_why dc__law_why pm__law_why cd__law_why ct__law_why : Value} {f__law_row : Addr} {od__law_row an__law_row : Option Addr} {sl__law_row : Array (Option Value)} {oc__law_row kV__law_row dc__law_row pm__law_row cd__law_row ct__law_row : Value} {f_law : Addr} {od_law an_law : Option Addr} {sl_law : Array (Option Value)} {oc_law kV_law dc_law pm_law  ct_law : Value} {f_LimeError_init : Addr} {od_LimeError_init an_LimeError_init : Option Addr} {sl_LimeError_init : Array (Option Value)} {oc_LimeError_init kV_LimeError_init dc_LimeError_init pm_LimeError_init cd_LimeError_init ct_LimeError_init : Value} {f_BadNumber_init : Addr} {od_BadNumber_init an_BadNumber_init : Option Addr} {sl_BadNumber_init : Array (Option Value)} {oc_BadNumber_init kV_BadNumber_init dc_BadNumber_init pm_BadNumber_init cd_BadNumber_init ct_BadNumber_init : Value} {f_BadText_init : Addr} {od_BadText_init an_BadText_init : Option Addr} {sl_BadText_init : Array (Option Value)} {oc_BadText_init kV_BadText_init dc_BadText_init pm_BadText_init cd_BadText_init ct_BadText_init : Value} {dv_BadText_init : Addr} {do_BadText_init : Value} {dd_BadText_init : Option Addr} {di_BadText_init : Array Value} {dn_BadText_init : Nat} {ds_BadText_init : Array (Option Value)} {nm_LimeError q_LimeError : Str} {N_LimeError : Addr} {bs_LimeError bm_LimeError : List Value} {sn_LimeError sub_LimeError ab_LimeError col_LimeError dd_LimeError x0_LimeError x1_LimeError x2_LimeError x3_LimeError x5_LimeError} {nm_BadNumber q_BadNumber : Str} {N_BadNumber : Addr} {bs_BadNumber bm_BadNumber : List Value} {sn_BadNumber sub_BadNumber ab_BadNumber col_BadNumber dd_BadNumber x0_BadNumber x1_BadNumber x2_BadNumber x3_BadNumber x5_BadNumber} {nm_BadText q_BadText : Str} {N_BadText : Addr} {bs_BadText bm_BadText : List Value} {sn_BadText sub_BadText ab_BadText col_BadText dd_BadText x0_BadText x1_BadText x2_BadText x3_BadText x5_BadText} {v_PARTS : Addr} {gn_PARTS : Nat} {gs_PARTS : Array (Option Value)} {gi_PARTS : Array Value} {tg_MOST : Tok} {code tab : Addr} {cdd : Option Addr} {cvs : Array Value} {csl : Array (Option Value)}
    (ac_LimeError : PySem.W.nsIn K mainGlobals "LimeError" = some (some (.ref c_LimeError))) (ac_BadNumber : PySem.W.nsIn K mainGlobals "BadNumber" = some (some (.ref c_BadNumber))) (ac_BadText : PySem.W.nsIn K mainGlobals "BadText" = some (some (.ref c_BadText)))
        (a_parts_of : PySem.W.nsIn K mainGlobals "parts_of" = some (some (.ref f_parts_of)))
    (l_parts_of : K.lookup f_parts_of = some ⟨oc_parts_of, od_parts_of, .func (PySem.W.fnOf "parts_of" "parts_of" (defArgs s_parts_of) (defBody s_parts_of) (defScope s_parts_of) .none kV_parts_of dc_parts_of pm_parts_of an_parts_of (cd_parts_of) ct_parts_of), sl_parts_of⟩)
    (e_parts_of : PySem.W.codeIn K (cd_parts_of) "parts_of" = true)
    (k_parts_of : PySem.W.keepIn K (.ref f_parts_of) = true)
    (a_read_parts : PySem.W.nsIn K mainGlobals "read_parts" = some (some (.ref f_read_parts)))
    (l_read_parts : K.lookup f_read_parts = some ⟨oc_read_parts, od_read_parts, .func (PySem.W.fnOf "read_parts" "read_parts" (defArgs s_read_parts) (defBody s_read_parts) (defScope s_read_parts) .none kV_read_parts dc_read_parts pm_read_parts an_read_parts (cd_read_parts) ct_read_parts), sl_read_parts⟩)
    (e_read_parts : PySem.W.codeIn K (cd_read_parts) "read_parts" = true)
    (k_read_parts : PySem.W.keepIn K (.ref f_read_parts) = true)
    (a__law_open : PySem.W.nsIn K mainGlobals "_law_open" = some (some (.ref f__law_open)))
    (l__law_open : K.lookup f__law_open = some ⟨oc__law_open, od__law_open, .func (PySem.W.fnOf "_law_open" "_law_open" (defArgs s__law_open) (defBody s__law_open) (defScope s__law_open) .none kV__law_open dc__law_open pm__law_open an__law_open (cd__law_open) ct__law_open), sl__law_open⟩)
    (e__law_open : PySem.W.codeIn K (cd__law_open) "_law_open" = true)
    (k__law_open : PySem.W.keepIn K (.ref f__law_open) = true)
    (a__law_pull : PySem.W.nsIn K mainGlobals "_law_pull" = some (some (.ref f__law_pull)))
    (l__law_pull : K.lookup f__law_pull = some ⟨oc__law_pull, od__law_pull, .func (PySem.W.fnOf "_law_pull" "_law_pull" (defArgs s__law_pull) (defBody s__law_pull) (defScope s__law_pull) .none kV__law_pull dc__law_pull pm__law_pull an__law_pull (cd__law_pull) ct__law_pull), sl__law_pull⟩)
    (e__law_pull : PySem.W.codeIn K (cd__law_pull) "_law_pull" = true)
    (k__law_pull : PySem.W.keepIn K (.ref f__law_pull) = true)
    (a__law_num : PySem.W.nsIn K mainGlobals "_law_num" = some (some (.ref f__law_num)))
    (l__law_num : K.lookup f__law_num = some ⟨oc__law_num, od__law_num, .func (PySem.W.fnOf "_law_num" "_law_num" (defArgs s__law_num) (defBody s__law_num) (defScope s__law_num) .none kV__law_num dc__law_num pm__law_num an__law_num (cd__law_num) ct__law_num), sl__law_num⟩)
    (e__law_num : PySem.W.codeIn K (cd__law_num) "_law_num" = true)
    (k__law_num : PySem.W.keepIn K (.ref f__law_num) = true)
    (a__law_like : PySem.W.nsIn K mainGlobals "_law_like" = some (some (.ref f__law_like)))
    (l__law_like : K.lookup f__law_like = some ⟨oc__law_like, od__law_like, .func (PySem.W.fnOf "_law_like" "_law_like" (defArgs s__law_like) (defBody s__law_like) (defScope s__law_like) .none kV__law_like dc__law_like pm__law_like an__law_like (cd__law_like) ct__law_like), sl__law_like⟩)
    (e__law_like : PySem.W.codeIn K (cd__law_like) "_law_like" = true)
    (k__law_like : PySem.W.keepIn K (.ref f__law_like) = true)
    (a__law_why : PySem.W.nsIn K mainGlobals "_law_why" = some (some (.ref f__law_why)))
    (l__law_why : K.lookup f__law_why = some ⟨oc__law_why, od__law_why, .func (PySem.W.fnOf "_law_why" "_law_why" (defArgs s__law_why) (defBody s__law_why) (defScope s__law_why) .none kV__law_why dc__law_why pm__law_why an__law_why (cd__law_why) ct__law_why), sl__law_why⟩)
    (e__law_why : PySem.W.codeIn K (cd__law_why) "_law_why" = true)
    (k__law_why : PySem.W.keepIn K (.ref f__law_why) = true)
    (a__law_row : PySem.W.nsIn K mainGlobals "_law_row" = some (some (.ref f__law_row)))
    (l__law_row : K.lookup f__law_row = some ⟨oc__law_row, od__law_row, .func (PySem.W.fnOf "_law_row" "_law_row" (defArgs s__law_row) (defBody s__law_row) (defScope s__law_row) .none kV__law_row dc__law_row pm__law_row an__law_row (cd__law_row) ct__law_row), sl__law_row⟩)
    (e__law_row : PySem.W.codeIn K (cd__law_row) "_law_row" = true)
    (k__law_row : PySem.W.keepIn K (.ref f__law_row) = true)
    (a_law : PySem.W.nsIn K mainGlobals "law" = some (some (.ref f_law)))
    (l_law : K.lookup f_law = some ⟨oc_law, od_law, .func (PySem.W.fnOf "law" "law" (defArgs s_law) (defBody s_law) (defScope s_law) .none kV_law dc_law pm_law an_law (.ref code) ct_law), sl_law⟩)
    (e_law : PySem.W.codeIn K (.ref code) "law" = true)
    (k_law : PySem.W.keepIn K (.ref f_law) = true)
    (i_LimeError_init : PySem.W.findIn K (.ref c_LimeError) "__init__" = some (some (.ref f_LimeError_init)))
    (t_LimeError_init : PySem.W.typeIn K (.ref f_LimeError_init) = some (.type "function"))
    (l_LimeError_init : K.lookup f_LimeError_init = some ⟨oc_LimeError_init, od_LimeError_init, .func (PySem.W.fnOf "__init__" "LimeError.__init__" (defArgs s_LimeError_init) (defBody s_LimeError_init) (defScope s_LimeError_init) .none kV_LimeError_init dc_LimeError_init pm_LimeError_init an_LimeError_init (cd_LimeError_init) ct_LimeError_init), sl_LimeError_init⟩)
    (e_LimeError_init : PySem.W.codeIn K (cd_LimeError_init) "LimeError.__init__" = true)
    (k_LimeError_init : PySem.W.keepIn K (.ref f_LimeError_init) = true)
    (i_BadNumber_init : PySem.W.findIn K (.ref c_BadNumber) "__init__" = some (some (.ref f_BadNumber_init)))
    (t_BadNumber_init : PySem.W.typeIn K (.ref f_BadNumber_init) = some (.type "function"))
    (l_BadNumber_init : K.lookup f_BadNumber_init = some ⟨oc_BadNumber_init, od_BadNumber_init, .func (PySem.W.fnOf "__init__" "BadNumber.__init__" (defArgs s_BadNumber_init) (defBody s_BadNumber_init) (defScope s_BadNumber_init) .none kV_BadNumber_init dc_BadNumber_init pm_BadNumber_init an_BadNumber_init (cd_BadNumber_init) ct_BadNumber_init), sl_BadNumber_init⟩)
    (e_BadNumber_init : PySem.W.codeIn K (cd_BadNumber_init) "BadNumber.__init__" = true)
    (k_BadNumber_init : PySem.W.keepIn K (.ref f_BadNumber_init) = true)
    (i_BadText_init : PySem.W.findIn K (.ref c_BadText) "__init__" = some (some (.ref f_BadText_init)))
    (t_BadText_init : PySem.W.typeIn K (.ref f_BadText_init) = some (.type "function"))
    (l_BadText_init : K.lookup f_BadText_init = some ⟨oc_BadText_init, od_BadText_init, .func (PySem.W.fnOf "__init__" "BadText.__init__" (defArgs s_BadText_init) (defBody s_BadText_init) (defScope s_BadText_init) (.ref dv_BadText_init) kV_BadText_init dc_BadText_init pm_BadText_init an_BadText_init (cd_BadText_init) ct_BadText_init), sl_BadText_init⟩)
    (e_BadText_init : PySem.W.codeIn K (cd_BadText_init) "BadText.__init__" = true)
    (k_BadText_init : PySem.W.keepIn K (.ref f_BadText_init) = true)
    (ld_BadText_init : K.lookup dv_BadText_init = some ⟨do_BadText_init, dd_BadText_init, .seq di_BadText_init dn_BadText_init, ds_BadText_init⟩)
    (rd_BadText_init : Vals [V.int 0] di_BadText_init.toList)
    (lc_LimeError : K.lookup c_LimeError = some (excClassObj nm_LimeError q_LimeError c_LimeError N_LimeError bs_LimeError bm_LimeError true sn_LimeError sub_LimeError ab_LimeError col_LimeError dd_LimeError x0_LimeError x1_LimeError x2_LimeError x3_LimeError x5_LimeError "ValueError.__new__"))
    (rv_LimeError : PySem.HandSPX.refsVE bm_LimeError = true)
    (sa_LimeError : PySem.W.findIn K (.ref c_LimeError) "__setattr__" = some (some (.builtin "object.__setattr__")))
    (eb_LimeError : PySem.W.subIn K (.ref c_LimeError) (.type "BaseException") = some true)
    (ty_LimeError : PySem.W.typeIn K (.ref c_LimeError) = some (.type "type"))
    (kc_LimeError : PySem.W.keepIn K (.ref c_LimeError) = true)
    (ga_LimeError : PySem.W.findIn K (.ref c_LimeError) "__getattribute__" = some (some (.builtin "BaseException.__getattribute__")))
    (gg_LimeError : PySem.W.findIn K (.ref c_LimeError) "__getattr__" = some none)
    (hd_LimeError : PySem.W.hasDictIn K c_LimeError = true)
    (nc_LimeError : PySem.W.findIn K (.ref c_LimeError) "called" = some none)
    (lc_BadNumber : K.lookup c_BadNumber = some (excClassObj nm_BadNumber q_BadNumber c_BadNumber N_BadNumber bs_BadNumber bm_BadNumber true sn_BadNumber sub_BadNumber ab_BadNumber col_BadNumber dd_BadNumber x0_BadNumber x1_BadNumber x2_BadNumber x3_BadNumber x5_BadNumber "ValueError.__new__"))
    (rv_BadNumber : PySem.HandSPX.refsVE bm_BadNumber = true)
    (sa_BadNumber : PySem.W.findIn K (.ref c_BadNumber) "__setattr__" = some (some (.builtin "object.__setattr__")))
    (eb_BadNumber : PySem.W.subIn K (.ref c_BadNumber) (.type "BaseException") = some true)
    (ty_BadNumber : PySem.W.typeIn K (.ref c_BadNumber) = some (.type "type"))
    (kc_BadNumber : PySem.W.keepIn K (.ref c_BadNumber) = true)
    (ga_BadNumber : PySem.W.findIn K (.ref c_BadNumber) "__getattribute__" = some (some (.builtin "BaseException.__getattribute__")))
    (gg_BadNumber : PySem.W.findIn K (.ref c_BadNumber) "__getattr__" = some none)
    (hd_BadNumber : PySem.W.hasDictIn K c_BadNumber = true)
    (nc_BadNumber : PySem.W.findIn K (.ref c_BadNumber) "called" = some none)
    (su_BadNumber : PySem.W.subIn K (.ref c_BadNumber) (.ref c_LimeError) = some true)
    (ss_BadNumber : PySem.W.subIn K (.ref c_BadNumber) (.ref c_BadNumber) = some true)
    (lc_BadText : K.lookup c_BadText = some (excClassObj nm_BadText q_BadText c_BadText N_BadText bs_BadText bm_BadText true sn_BadText sub_BadText ab_BadText col_BadText dd_BadText x0_BadText x1_BadText x2_BadText x3_BadText x5_BadText "ValueError.__new__"))
    (rv_BadText : PySem.HandSPX.refsVE bm_BadText = true)
    (sa_BadText : PySem.W.findIn K (.ref c_BadText) "__setattr__" = some (some (.builtin "object.__setattr__")))
    (eb_BadText : PySem.W.subIn K (.ref c_BadText) (.type "BaseException") = some true)
    (ty_BadText : PySem.W.typeIn K (.ref c_BadText) = some (.type "type"))
    (kc_BadText : PySem.W.keepIn K (.ref c_BadText) = true)
    (ga_BadText : PySem.W.findIn K (.ref c_BadText) "__getattribute__" = some (some (.builtin "BaseException.__getattribute__")))
    (gg_BadText : PySem.W.findIn K (.ref c_BadText) "__getattr__" = some none)
    (hd_BadText : PySem.W.hasDictIn K c_BadText = true)
    (nc_BadText : PySem.W.findIn K (.ref c_BadText) "called" = some none)
    (su_BadText : PySem.W.subIn K (.ref c_BadText) (.ref c_LimeError) = some true)
    (ss_BadText : PySem.W.subIn K (.ref c_BadText) (.ref c_BadText) = some true)
    (nf_BadText_row : PySem.W.findIn K (.ref c_BadText) "row" = some none)
    (rdL : PySem.W.readsIn K c_LimeError (.type "type") = true)
    (gaL : PySem.W.specialIn K (.ref c_LimeError) "__getattribute__" = some (some (.builtin "type.__getattribute__")))
    (inL : PySem.W.findCls K (.ref c_LimeError) (.type "type") "__init__" = some (.val (.ref f_LimeError_init)))
    (vVE : PySem.W.findCls K (.type "ValueError") (.type "type") "__init__" = some (.val (.builtin "ValueError.__init__")))
    (z_ValueError : PySem.W.nsIn K mainGlobals "ValueError" = some none)
    (z_all : PySem.W.nsIn K mainGlobals "all" = some none)
    (z_bool : PySem.W.nsIn K mainGlobals "bool" = some none)
    (z_divmod : PySem.W.nsIn K mainGlobals "divmod" = some none)
    (z_int : PySem.W.nsIn K mainGlobals "int" = some none)
    (z_isinstance : PySem.W.nsIn K mainGlobals "isinstance" = some none)
    (z_len : PySem.W.nsIn K mainGlobals "len" = some none)
    (z_list : PySem.W.nsIn K mainGlobals "list" = some none)
    (z_range : PySem.W.nsIn K mainGlobals "range" = some none)
    (z_str : PySem.W.nsIn K mainGlobals "str" = some none)
    (z_tuple : PySem.W.nsIn K mainGlobals "tuple" = some none)
    (ag_PARTS : PySem.W.nsIn K mainGlobals "PARTS" = some (some (.ref v_PARTS)))
    (lg_PARTS : K.lookup v_PARTS = some ⟨.type "tuple", none, .seq gi_PARTS gn_PARTS, gs_PARTS⟩)
    (zg_PARTS : gi_PARTS.size ≤ sizeLine)
    (rg_PARTS : Vals [V.int 1, V.int 2, V.int 3, V.int 4] gi_PARTS.toList)
    (ag_MOST : PySem.W.nsIn K mainGlobals "MOST" = some (some (.int 15 tg_MOST)))
    (lcd : K.lookup code = some ⟨.type "code", cdd, .fields cvs, csl⟩)
    (ptab : cvs[11]? = some (.ref tab))
    (hcd : PySem.W.codeHdIn [(code, ⟨.type "code", cdd, .fields cvs, csl⟩)] code tab = true)
    (ntab : K.lookup tab = none)
    (htab : h.get? tab = some { cls := .none, data := .fields #[] }) :
    ∃ (fd : FuncData) (cs : List (Addr × Addr)) (qn : Str), (∀ p ∈ cs, h.get? p.2 = some { cls := .none, data := .fields #[] }) ∧ (∀ p ∈ cs, K.lookup p.2 = none) ∧ (∀ p ∈ cs, PySem.W.CodeHd h p.1 p.2) ∧
      (∀ (s : Shared) (u : Value), BindsTo s fd ⟨[u], []⟩ [("_law_script", u)]) ∧ ∀ base : Heap, K.In base → base.Ns mainGlobals mg → (∀ p ∈ cs, LamX.TabB base mg p.1 p.2) → FnOk l.prog w K mg base (L2.CX l.prog w) 13 fa fd ["_law_script"] (upFT K (cs.map fun p => (p.2, qn)) spLaw) := by
  have e := hfa.symm.trans (PySem.W.mg_of X G a_law)
  cases e
  have T : Txt K mg { a_parts_of := f_parts_of, d_parts_of := PySem.W.fnOf "parts_of" "parts_of" (defArgs s_parts_of) (defBody s_parts_of) (defScope s_parts_of) .none kV_parts_of dc_parts_of pm_parts_of an_parts_of cd_parts_of ct_parts_of, a_read_parts := f_read_parts, d_read_parts := PySem.W.fnOf "read_parts" "read_parts" (defArgs s_read_parts) (defBody s_read_parts) (defScope s_read_parts) .none kV_read_parts dc_read_parts pm_read_parts an_read_parts cd_read_parts ct_read_parts, a__law_open := f__law_open, d__law_open := PySem.W.fnOf "_law_open" "_law_open" (defArgs s__law_open) (defBody s__law_open) (defScope s__law_open) .none kV__law_open dc__law_open pm__law_open an__law_open cd__law_open ct__law_open, a__law_pull := f__law_pull, d__law_pull := PySem.W.fnOf "_law_pull" "_law_pull" (defArgs s__law_pull) (defBody s__law_pull) (defScope s__law_pull) .none kV__law_pull dc__law_pull pm__law_pull an__law_pull cd__law_pull ct__law_pull, a__law_num := f__law_num, d__law_num := PySem.W.fnOf "_law_num" "_law_num" (defArgs s__law_num) (defBody s__law_num) (defScope s__law_num) .none kV__law_num dc__law_num pm__law_num an__law_num cd__law_num ct__law_num, a__law_like := f__law_like, d__law_like := PySem.W.fnOf "_law_like" "_law_like" (defArgs s__law_like) (defBody s__law_like) (defScope s__law_like) .none kV__law_like dc__law_like pm__law_like an__law_like cd__law_like ct__law_like, a__law_why := f__law_why, d__law_why := PySem.W.fnOf "_law_why" "_law_why" (defArgs s__law_why) (defBody s__law_why) (defScope s__law_why) .none kV__law_why dc__law_why pm__law_why an__law_why cd__law_why ct__law_why, a__law_row := f__law_row, d__law_row := PySem.W.fnOf "_law_row" "_law_row" (defArgs s__law_row) (defBody s__law_row) (defScope s__law_row) .none kV__law_row dc__law_row pm__law_row an__law_row cd__law_row ct__law_row, a_law := fa, d_law := PySem.W.fnOf "law" "law" (defArgs s_law) (defBody s_law) (defScope s_law) .none kV_law dc_law pm_law an_law (.ref code) ct_law, a_LimeError_init := f_LimeError_init, d_LimeError_init := PySem.W.fnOf "__init__" "LimeError.__init__" (defArgs s_LimeError_init) (defBody s_LimeError_init) (defScope s_LimeError_init) .none kV_LimeError_init dc_LimeError_init pm_LimeError_init an_LimeError_init cd_LimeError_init ct_LimeError_init, a_BadNumber_init := f_BadNumber_init, d_BadNumber_init := PySem.W.fnOf "__init__" "BadNumber.__init__" (defArgs s_BadNumber_init) (defBody s_BadNumber_init) (defScope s_BadNumber_init) .none kV_BadNumber_init dc_BadNumber_init pm_BadNumber_init an_BadNumber_init cd_BadNumber_init ct_BadNumber_init, a_BadText_init := f_BadText_init, d_BadText_init := PySem.W.fnOf "__init__" "BadText.__init__" (defArgs s_BadText_init) (defBody s_BadText_init) (defScope s_BadText_init) (.ref dv_BadText_init) kV_BadText_init dc_BadText_init pm_BadText_init an_BadText_init cd_BadText_init ct_BadText_init, c_LimeError := c_LimeError, c_BadNumber := c_BadNumber, c_BadText := c_BadText, v_PARTS := .none, v_MOST := .none, code := code, tab := tab } := { F_parts_of := fun_mk (st := s_parts_of) l_parts_of e_parts_of k_parts_of, b_parts_of := Binds.all fun us hl => match us, hl with | [_], _ => rfl, m_parts_of := PySem.W.mg_of X G a_parts_of, F_read_parts := fun_mk (st := s_read_parts) l_read_parts e_read_parts k_read_parts, b_read_parts := Binds.all fun us hl => match us, hl with | [_], _ => rfl, m_read_parts := PySem.W.mg_of X G a_read_parts, F__law_open := fun_mk (st := s__law_open) l__law_open e__law_open k__law_open, b__law_open := Binds.all fun us hl => match us, hl with | [_], _ => rfl, m__law_open := PySem.W.mg_of X G a__law_open, F__law_pull := fun_mk (st := s__law_pull) l__law_pull e__law_pull k__law_pull, b__law_pull := Binds.all fun us hl => match us, hl with | [_, _], _ => rfl, m__law_pull := PySem.W.mg_of X G a__law_pull, F__law_num := fun_mk (st := s__law_num) l__law_num e__law_num k__law_num, b__law_num := Binds.all fun us hl => match us, hl with | [_], _ => rfl, m__law_num := PySem.W.mg_of X G a__law_num, F__law_like := fun_mk (st := s__law_like) l__law_like e__law_like k__law_like, b__law_like := Binds.all fun us hl => match us, hl with | [_, _], _ => rfl, m__law_like := PySem.W.mg_of X G a__law_like, F__law_why := fun_mk (st := s__law_why) l__law_why e__law_why k__law_why, b__law_why := Binds.all fun us hl => match us, hl with | [_], _ => rfl, m__law_why := PySem.W.mg_of X G a__law_why, F__law_row := fun_mk (st := s__law_row) l__law_row e__law_row k__law_row, b__law_row := Binds.all fun us hl => match us, hl with | [_], _ => rfl, m__law_row := PySem.W.mg_of X G a__law_row, F_law := ⟨_, _, _, _, _, _, _, _, rfl, l_law, e_law⟩, b_law := Binds.all fun us hl => match us, hl with | [_], _ => rfl, m_law := PySem.W.mg_of X G a_law, F_LimeError_init := fun_mk (st := s_LimeError_init) l_LimeError_init e_LimeError_init k_LimeError_init, b_LimeError_init := Binds.all fun us hl => match us, hl with | [_, _], _ => rfl, i_LimeError_init := i_LimeError_init, t_LimeError_init := t_LimeError_init, F_BadNumber_init := fun_mk (st := s_BadNumber_init) l_BadNumber_init e_BadNumber_init k_BadNumber_init, b_BadNumber_init := Binds.all fun us hl => match us, hl with | [_], _ => rfl, i_BadNumber_init := i_BadNumber_init, t_BadNumber_init := t_BadNumber_init, F_BadText_init := fund_mk (st := s_BadText_init) l_BadText_init e_BadText_init k_BadText_init ld_BadText_init (by simp) rd_BadText_init, i_BadText_init := i_BadText_init, t_BadText_init := t_BadText_init, k_LimeError := PySem.W.mg_of X G ac_LimeError, k_BadNumber := PySem.W.mg_of X G ac_BadNumber, k_BadText := PySem.W.mg_of X G ac_BadText, xf_BadNumber := ⟨ga_BadNumber, gg_BadNumber, eb_BadNumber, hd_BadNumber⟩, nc_BadNumber := nc_BadNumber, ex_BadNumber := exm_by lc_LimeError ty_LimeError eb_LimeError su_BadNumber, es_BadNumber := exm_by lc_BadNumber ty_BadNumber eb_BadNumber ss_BadNumber, xf_BadText := ⟨ga_BadText, gg_BadText, eb_BadText, hd_BadText⟩, nc_BadText := nc_BadText, ex_BadText := exm_by lc_LimeError ty_LimeError eb_LimeError su_BadText, es_BadText := exm_by lc_BadText ty_BadText eb_BadText ss_BadText, nf_BadText_row := nf_BadText_row, n_ValueError := PySem.W.mg_none_of X G z_ValueError, n_all := PySem.W.mg_none_of X G z_all, n_bool := PySem.W.mg_none_of X G z_bool, n_divmod := PySem.W.mg_none_of X G z_divmod, n_int := PySem.W.mg_none_of X G z_int, n_isinstance := PySem.W.mg_none_of X G z_isinstance, n_len := PySem.W.mg_none_of X G z_len, n_list := PySem.W.mg_none_of X G z_list, n_range := PySem.W.mg_none_of X G z_range, n_str := PySem.W.mg_none_of X G z_str, n_tuple := PySem.W.mg_none_of X G z_tuple, g_PARTS := GlD.tup (PySem.W.mg_of X G ag_PARTS) lg_PARTS zg_PARTS rg_PARTS (fun _ _ => ⟨_, _, rfl, rfl, ⟨_, _, rfl, rfl, ⟨_, _, rfl, rfl, ⟨_, _, rfl, rfl, rfl⟩⟩⟩⟩), g_MOST := GlD.int (PySem.W.mg_of X G ag_MOST) }
  refine ⟨PySem.W.fnOf "law" "law" (defArgs s_law) (defBody s_law) (defScope s_law) .none kV_law dc_law pm_law an_law (.ref code) ct_law, [(code, tab)], "law.<locals>." ++ "<lambda>", fun p hp => by rw [List.mem_singleton.mp hp]; exact htab, fun p hp => by rw [List.mem_singleton.mp hp]; exact ntab, fun p hp => by rw [List.mem_singleton.mp hp]; exact codeHd_by X lcd hcd, fun s v => .of_eq rfl, fun base hb hn hT => ?_⟩
  · have FL := ok_lime (P := l.prog) (w := w) (base := base) T.F_LimeError_init sc_LimeError_init rfl rfl rfl rfl T.n_ValueError ⟨_, fun _ => rfl⟩ vVE
    have GL : XcOk K mg c_LimeError f_LimeError_init _ (.type "type") := ⟨T.k_LimeError, ⟨rdL, gaL⟩, inL, k_LimeError_init, T.b_LimeError_init⟩
    have Z_BadNumber : XcD l.prog w K mg base "BadNumber" c_BadNumber f_BadNumber_init _ ["self"] 0 (fl0 "badnumber") (fd0 "badnumber") [] [] :=
      ⟨fl0_ok, ⟨⟨_, _, _, _, _, _, _, _, _, _, _, _, _, _, _, lc_BadNumber, rv_BadNumber⟩, sa_BadNumber, eb_BadNumber, ty_BadNumber, kc_BadNumber⟩, T.xf_BadNumber, i_BadNumber_init, t_BadNumber_init, ok_exc0 T.F_BadNumber_init sc_BadNumber_init rfl ⟨_, fun _ => rfl⟩ rfl rfl GL FL ⟨⟨_, _, _, _, _, _, _, _, _, _, _, _, _, _, _, lc_BadNumber, rv_BadNumber⟩, sa_BadNumber, eb_BadNumber, ty_BadNumber, kc_BadNumber⟩ nc_BadNumber , ⟨[], .nil, T.b_BadNumber_init⟩, (fun _ _ => rfl), T.k_BadNumber, nc_BadNumber⟩
    have Z_BadText : XcD l.prog w K mg base "BadText" c_BadText f_BadText_init _ ["self", "row"] 1 (fl1 "badtext" "row") (fd1 "badtext" "row") [V.int 0] [D.int 0] :=
      ⟨fl1_ok, ⟨⟨_, _, _, _, _, _, _, _, _, _, _, _, _, _, _, lc_BadText, rv_BadText⟩, sa_BadText, eb_BadText, ty_BadText, kc_BadText⟩, T.xf_BadText, i_BadText_init, t_BadText_init, ok_exc1d T.F_BadText_init sc_BadText_init rfl ⟨_, fun _ => rfl⟩ rfl rfl rfl GL FL ⟨⟨_, _, _, _, _, _, _, _, _, _, _, _, _, _, _, lc_BadText, rv_BadText⟩, sa_BadText, eb_BadText, ty_BadText, kc_BadText⟩ nc_BadText nf_BadText_row (by decide) (by decide), (T.F_BadText_init.binds1 1 0 (by simp) rfl fun _ _ _ _ _ _ _ us its hu hi => match us, its, hu, hi with | [_], [_], _, _ => ⟨_, rfl, rfl⟩), (fun _ _ => ⟨_, _, rfl, rfl, rfl⟩), T.k_BadText, nc_BadText⟩
    have G_parts_of := ok_parts_of (P := l.prog) (w := w) (base := base) T Z_BadNumber
    have G_read_parts := ok_read_parts (P := l.prog) (w := w) (base := base) T G_parts_of Z_BadText
    have G__law_open := ok__law_open (P := l.prog) (w := w) (base := base) T 
    have G__law_pull := ok__law_pull (P := l.prog) (w := w) (base := base) T 
    have G__law_num := ok__law_num (P := l.prog) (w := w) (base := base) T 
    have G__law_like := ok__law_like (P := l.prog) (w := w) (base := base) T G__law_num
    have G__law_row := ok__law_row (P := l.prog) (w := w) (base := base) T G_read_parts
    exact ok_law (P := l.prog) (w := w) (base := base) T G_read_parts G__law_open G__law_pull G__law_like G__law_row (fun X _ _ hK hm => why_ok T X hK hm) (hT _ List.mem_cons_self)
theorem room13 : Room 13 callerA := ⟨rfl, by decide, by decide⟩
end LW
open PySem PySem.W
open PyProof.Rows
set_option maxRecDepth 100001 in
set_option maxHeartbeats 0 in
theorem PySem.Challenge.cw_limecoat_k05_figures_read_holds : PySem.Challenge.rw_limecoat_k05_figures_read.Holds := by
  w_on
  o_law
  k_head
  (case hw => w_witness2)
  k_fill
  refine LC.walk_end (l := PySem.Challenge.rw_limecoat_k05_figures_read) (k := 13) (x := "_law_script") rfl rfl LW.room13 (fun w h Y => PySem.W.km_in_of Y) ?F
  case F =>
    intro w mg fa h Y KX G hmg
    refine' LW.all_mk KX G hmg ?ac_LimeError ?ac_BadNumber ?ac_BadText ?a_parts_of ?l_parts_of ?e_parts_of ?k_parts_of ?a_read_parts ?l_read_parts ?e_read_parts ?k_read_parts ?a__law_open ?l__law_open ?e__law_open ?k__law_open ?a__law_pull ?l__law_pull ?e__law_pull ?k__law_pull ?a__law_num ?l__law_num ?e__law_num ?k__law_num ?a__law_like ?l__law_like ?e__law_like ?k__law_like ?a__law_why ?l__law_why ?e__law_why ?k__law_why ?a__law_row ?l__law_row ?e__law_row ?k__law_row ?a_law ?l_law ?e_law ?k_law ?i_LimeError_init ?t_LimeError_init ?l_LimeError_init ?e_LimeError_init ?k_LimeError_init ?i_BadNumber_init ?t_BadNumber_init ?l_BadNumber_init ?e_BadNumber_init ?k_BadNumber_init ?i_BadText_init ?t_BadText_init ?l_BadText_init ?e_BadText_init ?k_BadText_init ?ld_BadText_init ?rd_BadText_init ?lc_LimeError ?rv_LimeError ?sa_LimeError ?eb_LimeError ?ty_LimeError ?kc_LimeError ?ga_LimeError ?gg_LimeError ?hd_LimeError ?nc_LimeError ?lc_BadNumber ?rv_BadNumber ?sa_BadNumber ?eb_BadNumber ?ty_BadNumber ?kc_BadNumber ?ga_BadNumber ?gg_BadNumber ?hd_BadNumber ?nc_BadNumber ?su_BadNumber ?ss_BadNumber ?lc_BadText ?rv_BadText ?sa_BadText ?eb_BadText ?ty_BadText ?kc_BadText ?ga_BadText ?gg_BadText ?hd_BadText ?nc_BadText ?su_BadText ?ss_BadText ?nf_BadText_row ?rdL ?gaL ?inL ?vVE ?z_ValueError ?z_all ?z_bool ?z_divmod ?z_int ?z_isinstance ?z_len ?z_list ?z_range ?z_str ?z_tuple ?ag_PARTS ?lg_PARTS ?zg_PARTS ?rg_PARTS ?ag_MOST ?lcd ?ptab ?hcd ?ntab ?htab
    (case ac_LimeError => k_is)
    (case ac_BadNumber => k_is)
    (case ac_BadText => k_is)
    (case a_parts_of => k_is)
    (case l_parts_of => k_is)
    (case e_parts_of => k_is)
    (case k_parts_of => k_is)
    (case a_read_parts => k_is)
    (case l_read_parts => k_is)
    (case e_read_parts => k_is)
    (case k_read_parts => k_is)
    (case a__law_open => k_is)
    (case l__law_open => k_is)
    (case e__law_open => k_is)
    (case k__law_open => k_is)
    (case a__law_pull => k_is)
    (case l__law_pull => k_is)
    (case e__law_pull => k_is)
    (case k__law_pull => k_is)
    (case a__law_num => k_is)
    (case l__law_num => k_is)
    (case e__law_num => k_is)
    (case k__law_num => k_is)
    (case a__law_like => k_is)
    (case l__law_like => k_is)
    (case e__law_like => k_is)
    (case k__law_like => k_is)
    (case a__law_why => k_is)
    (case l__law_why => k_is)
    (case e__law_why => k_is)
    (case k__law_why => k_is)
    (case a__law_row => k_is)
    (case l__law_row => k_is)
    (case e__law_row => k_is)
    (case k__law_row => k_is)
    (case a_law => k_is)
    (case l_law => k_is)
    (case e_law => k_is)
    (case k_law => k_is)
    (case i_LimeError_init => k_is)
    (case t_LimeError_init => k_is)
    (case l_LimeError_init => k_is)
    (case e_LimeError_init => k_is)
    (case k_LimeError_init => k_is)
    (case i_BadNumber_init => k_is)
    (case t_BadNumber_init => k_is)
    (case l_BadNumber_init => k_is)
    (case e_BadNumber_init => k_is)
    (case k_BadNumber_init => k_is)
    (case i_BadText_init => k_is)
    (case t_BadText_init => k_is)
    (case l_BadText_init => k_is)
    (case e_BadText_init => k_is)
    (case k_BadText_init => k_is)
    (case ld_BadText_init => k_is)
    (case rd_BadText_init => exact .cons ⟨_, rfl⟩ (.nil))
    (case lc_LimeError => k_is)
    (case rv_LimeError => (first | rfl | decide))
    (case sa_LimeError => k_is)
    (case eb_LimeError => k_is)
    (case ty_LimeError => k_is)
    (case kc_LimeError => k_is)
    (case ga_LimeError => k_is)
    (case gg_LimeError => k_is)
    (case hd_LimeError => k_is)
    (case nc_LimeError => k_is)
    (case lc_BadNumber => k_is)
    (case rv_BadNumber => (first | rfl | decide))
    (case sa_BadNumber => k_is)
    (case eb_BadNumber => k_is)
    (case ty_BadNumber => k_is)
    (case kc_BadNumber => k_is)
    (case ga_BadNumber => k_is)
    (case gg_BadNumber => k_is)
    (case hd_BadNumber => k_is)
    (case nc_BadNumber => k_is)
    (case su_BadNumber => k_is)
    (case ss_BadNumber => k_is)
    (case lc_BadText => k_is)
    (case rv_BadText => (first | rfl | decide))
    (case sa_BadText => k_is)
    (case eb_BadText => k_is)
    (case ty_BadText => k_is)
    (case kc_BadText => k_is)
    (case ga_BadText => k_is)
    (case gg_BadText => k_is)
    (case hd_BadText => k_is)
    (case nc_BadText => k_is)
    (case su_BadText => k_is)
    (case ss_BadText => k_is)
    (case nf_BadText_row => k_is)
    (case rdL => k_is)
    (case gaL => k_is)
    (case inL => k_is)
    (case vVE => k_is)
    (case z_ValueError => k_is)
    (case z_all => k_is)
    (case z_bool => k_is)
    (case z_divmod => k_is)
    (case z_int => k_is)
    (case z_isinstance => k_is)
    (case z_len => k_is)
    (case z_list => k_is)
    (case z_range => k_is)
    (case z_str => k_is)
    (case z_tuple => k_is)
    (case ag_PARTS => k_is)
    (case lg_PARTS => k_is)
    (case zg_PARTS => (show _ ≤ _; decide))
    (case rg_PARTS => exact .cons ⟨_, rfl⟩ (.cons ⟨_, rfl⟩ (.cons ⟨_, rfl⟩ (.cons ⟨_, rfl⟩ (.nil)))))
    (case ag_MOST => k_is)
    (case lcd => k_is)
    (case ptab => rfl)
    (case hcd => (first | rfl | decide))
    (case ntab => rfl)
    (case htab => exact PySem.W.km_tabs_of Y _ (by simp))
#print axioms PySem.Challenge.cw_limecoat_k05_figures_read_holds
