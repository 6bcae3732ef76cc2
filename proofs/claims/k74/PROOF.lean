import PyProof.Rows.All
import Wide.All
import OpenK.AllK
import Wide.FinOn
import HandS.ForMost
import HandS.Walk
import HandS.Wide
import HandS.Codes
import HandS.HeadHook1
import HandS.DictComp
import HandS.Defaults
import HandS.MakeKwOnly
import HandS.TupAny
import KE.DataEq
import KE.DataCmp
import HandS.IsInst
import HandS.Dict
import HandS.Small
import HandS.Set
import KE.SortData
import HandS.SetBool
import HandS.Comp
import KE.GoesEnum
import KE.KStateDown
import HandS.Head0
import HandS.Head1
import HandS.Head2
import HandS.HeadEnd
import HandS.HeadHook2
import HandS.HeadHook3
import HandS.HeadHook4
import PySem.Challenge.RW_ringfall_k74_walks_between_two_places
set_option Elab.async false
set_option linter.all false
set_option maxRecDepth 100000
set_option maxHeartbeats 1000000
/-! The pure layer, part A: plain data, what stands for it, the slots of a def as plain data, how a state changes. -/
namespace PL
open PySem PySem.Spec PyProof.Rows L2

/-! ### plain data -/
abbrev St := L2.St
inductive Dt where
  | non
  | bl (b : Bool)
  | int (i : Int)
  | str (x : Str)
  | lst (l : List Dt)
  | frl (l : List Dt)
  | tup (l : List Dt)
  | dct (l : List (Key × Dt))
  | dcT (l : List (List Key × Dt))
  | ob (c : Str) (l : List (Str × Dt))

mutual
/-- the value v stands for the datum, by what the heap G holds -/
inductive Rp (K : PySem.W.Frag) (G : Hp) : V → Dt → Prop
  | non : Rp K G .non .non
  | bl (b : Bool) : Rp K G (.bl b) (.bl b)
  | int (i : Int) : Rp K G (.int i) (.int i)
  | str (x : Str) : Rp K G (.str x) (.str x)
  | lst {a : Addr} {vs : List V} {ds : List Dt} : G a = some (.lst vs) → RpL K G vs ds → Rp K G (.ref a) (.lst ds)
  | frl {a : Addr} {vs : List V} {ds : List Dt} : SqL K G a vs → RpL K G vs ds → Rp K G (.ref a) (.frl ds)
  | tup {a : Addr} {vs : List V} {ds : List Dt} : SqT K G a vs → RpL K G vs ds → Rp K G (.ref a) (.tup ds)
  | dct {a : Addr} {kvs : List (Key × V)} {ds : List (Key × Dt)} : Rd G a (.dK kvs) → RpA K G Key kvs ds → Rp K G (.ref a) (.dct ds)
  | dcT {a : Addr} {kvs : List (List Key × V)} {ds : List (List Key × Dt)} : Rd G a (.dT kvs) → RpA K G (List Key) kvs ds → Rp K G (.ref a) (.dcT ds)
  | ob {a dx : Addr} {c : Str} {fs : List (Str × V)} {ds : List (Str × Dt)} : G a = some (.ins (He.ga K c) dx fs) → RpA K G Str fs ds → Rp K G (.ref a) (.ob c ds)
inductive RpL (K : PySem.W.Frag) (G : Hp) : List V → List Dt → Prop
  | nil : RpL K G [] []
  | cons {v : V} {d : Dt} {vs : List V} {ds : List Dt} : Rp K G v d → RpL K G vs ds → RpL K G (v :: vs) (d :: ds)
inductive RpA (K : PySem.W.Frag) (G : Hp) : (κ : Type) → List (κ × V) → List (κ × Dt) → Prop
  | nil {κ : Type} : RpA K G κ [] []
  | cons {κ : Type} {k : κ} {v : V} {d : Dt} {kvs : List (κ × V)} {ds : List (κ × Dt)} : Rp K G v d → RpA K G κ kvs ds → RpA K G κ ((k, v) :: kvs) ((k, d) :: ds)
end

section
variable {K : PySem.W.Frag} {G G' H H' : Hp}
theorem rd_same {a : Addr} {u : HO} (e : Same G G') (h : Rd G a u) : Rd G' a u := by
  rcases h with h | ⟨o, h⟩
  · exact .inl (e _ _ h)
  · exact .inr ⟨o, e _ _ h⟩
theorem sqt_same {a : Addr} {xs : List V} (e : Same G G') (h : SqT K G a xs) : SqT K G' a xs := by
  rcases h with h | h
  · exact .inl (rd_same e h)
  · exact .inr h
mutual
theorem Rp.mono (e : Same G G') : ∀ {v : V} {d : Dt}, Rp K G v d → Rp K G' v d
  | _, _, .non => .non
  | _, _, .bl b => .bl b
  | _, _, .int i => .int i
  | _, _, .str x => .str x
  | _, _, .lst h r => .lst (e _ _ h) (RpL.mono e r)
  | _, _, .frl h r => .frl (e.seq h) (RpL.mono e r)
  | _, _, .tup h r => .tup (sqt_same e h) (RpL.mono e r)
  | _, _, .dct h r => .dct (rd_same e h) (RpA.mono e r)
  | _, _, .dcT h r => .dcT (rd_same e h) (RpA.mono e r)
  | _, _, .ob h r => .ob (e _ _ h) (RpA.mono e r)
theorem RpL.mono (e : Same G G') : ∀ {vs : List V} {ds : List Dt}, RpL K G vs ds → RpL K G' vs ds
  | _, _, .nil => .nil
  | _, _, .cons h r => .cons (Rp.mono e h) (RpL.mono e r)
theorem RpA.mono (e : Same G G') : ∀ {κ : Type} {vs : List (κ × V)} {ds : List (κ × Dt)}, RpA K G κ vs ds → RpA K G' κ vs ds
  | _, _, _, .nil => .nil
  | _, _, _, .cons h r => .cons (Rp.mono e h) (RpA.mono e r)
end
theorem RpL.length : ∀ {vs : List V} {ds : List Dt}, RpL K G vs ds → vs.length = ds.length
  | _, _, .nil => rfl
  | _, _, .cons _ r => by rw [List.length_cons, List.length_cons, RpL.length r]
theorem RpL.get : ∀ {vs : List V} {ds : List Dt} {i : Nat} {d : Dt}, RpL K G vs ds → ds[i]? = some d → ∃ v, vs[i]? = some v ∧ Rp K G v d
  | _, _, _, _, .nil, e => by simp at e
  | _, _, 0, _, .cons h _, e => by simp at e; subst e; exact ⟨_, rfl, h⟩
  | _, _, i + 1, _, .cons _ r, e => by
    obtain ⟨v, h1, h2⟩ := RpL.get (i := i) r (by simpa using e)
    exact ⟨v, by simpa using h1, h2⟩
theorem RpL.get' : ∀ {vs : List V} {ds : List Dt} {i : Nat} {v : V}, RpL K G vs ds → vs[i]? = some v → ∃ d, ds[i]? = some d ∧ Rp K G v d
  | _, _, _, _, .nil, e => by simp at e
  | _, _, 0, _, .cons h _, e => by simp at e; subst e; exact ⟨_, rfl, h⟩
  | _, _, i + 1, _, .cons _ r, e => by
    obtain ⟨v, h1, h2⟩ := RpL.get' (i := i) r (by simpa using e)
    exact ⟨v, by simpa using h1, h2⟩
theorem RpL.append : ∀ {vs ws : List V} {ds es : List Dt}, RpL K G vs ds → RpL K G ws es → RpL K G (vs ++ ws) (ds ++ es)
  | _, _, _, _, .nil, s => s
  | _, _, _, _, .cons h r, s => .cons h (RpL.append r s)
theorem RpL.take : ∀ {vs : List V} {ds : List Dt} (n : Nat), RpL K G vs ds → RpL K G (vs.take n) (ds.take n)
  | _, _, 0, _ => .nil
  | _, _, _ + 1, .nil => .nil
  | _, _, n + 1, .cons h r => .cons h (RpL.take n r)
theorem RpL.drop : ∀ {vs : List V} {ds : List Dt} (n : Nat), RpL K G vs ds → RpL K G (vs.drop n) (ds.drop n)
  | _, _, 0, r => r
  | _, _, _ + 1, .nil => .nil
  | _, _, n + 1, .cons _ r => RpL.drop n r
theorem RpL.set {v : V} {d : Dt} (h : Rp K G v d) : ∀ {vs : List V} {ds : List Dt} (n : Nat), RpL K G vs ds → RpL K G (vs.set n v) (ds.set n d)
  | _, _, _, .nil => .nil
  | _, _, 0, .cons _ r => .cons h r
  | _, _, n + 1, .cons q r => .cons q (RpL.set h n r)
theorem RpL.dropLast {vs : List V} {ds : List Dt} (r : RpL K G vs ds) : RpL K G vs.dropLast ds.dropLast := by
  rw [List.dropLast_eq_take, List.dropLast_eq_take, r.length]
  exact r.take _
theorem RpL.reverse : ∀ {vs : List V} {ds : List Dt}, RpL K G vs ds → RpL K G vs.reverse ds.reverse
  | _, _, .nil => .nil
  | _, _, .cons h r => by
    rw [List.reverse_cons, List.reverse_cons]
    exact (RpL.reverse r).append (.cons h .nil)
theorem RpL.one {v : V} {d : Dt} (h : Rp K G v d) : RpL K G [v] [d] := .cons h .nil
theorem RpL.replicate {v : V} {d : Dt} (h : Rp K G v d) : ∀ n, RpL K G (List.replicate n v) (List.replicate n d)
  | 0 => .nil
  | n + 1 => .cons h (RpL.replicate h n)
theorem RpL.ints : ∀ {vs : List V} {ns : List Int}, RpL K G vs (ns.map Dt.int) → vs = ns.map V.int
  | _, [], r => by cases r; rfl
  | _, n :: ns, r => by
    cases r with
    | cons h r =>
      cases h
      rw [RpL.ints r]; rfl
theorem RpL.strs : ∀ {vs : List V} {ns : List Str}, RpL K G vs (ns.map Dt.str) → vs = ns.map V.str
  | _, [], r => by cases r; rfl
  | _, n :: ns, r => by
    cases r with
    | cons h r =>
      cases h
      rw [RpL.strs r]; rfl
theorem RpL.bls : ∀ {vs : List V} {ns : List Bool}, RpL K G vs (ns.map Dt.bl) → vs = ns.map V.bl
  | _, [], r => by cases r; rfl
  | _, n :: ns, r => by
    cases r with
    | cons h r =>
      cases h
      rw [RpL.bls r]; rfl
theorem RpL.of_ints : ∀ (ns : List Int), RpL K G (ns.map V.int) (ns.map Dt.int)
  | [] => .nil
  | n :: ns => .cons (.int n) (RpL.of_ints ns)
theorem RpL.of_strs : ∀ (ns : List Str), RpL K G (ns.map V.str) (ns.map Dt.str)
  | [] => .nil
  | n :: ns => .cons (.str n) (RpL.of_strs ns)
end

/-! ### what is owned -/
inductive Ow where
  | lst (l : List Dt)
  | dct (l : List (Key × Dt))
  | dcT (l : List (List Key × Dt))
  | ob (c : Str) (l : List (Str × Dt))
/-- the same, frozen -/
def Ow.dt : Ow → Dt
  | .lst l => .lst l
  | .dct l => .dct l
  | .dcT l => .dcT l
  | .ob c l => .ob c l
inductive OwHO (K : PySem.W.Frag) (G : Hp) : HO → Ow → Prop
  | lst {vs : List V} {ds : List Dt} : RpL K G vs ds → OwHO K G (.lst vs) (.lst ds)
  | dct {kvs : List (Key × V)} {ds : List (Key × Dt)} : RpA K G Key kvs ds → OwHO K G (.dK kvs) (.dct ds)
  | dcT {kvs : List (List Key × V)} {ds : List (List Key × Dt)} : RpA K G (List Key) kvs ds → OwHO K G (.dT kvs) (.dcT ds)
  | ob {dx : Addr} {c : Str} {fs : List (Str × V)} {ds : List (Str × Dt)} : RpA K G Str fs ds → OwHO K G (.ins (He.ga K c) dx fs) (.ob c ds)
def OwAt (K : PySem.W.Frag) (G H : Hp) (a : Addr) (o : Ow) : Prop := ∃ ho, H a = some ho ∧ OwHO K G ho o
section
variable {K : PySem.W.Frag} {G G' H H' : Hp}
theorem OwHO.mono (e : Same G G') {ho : HO} {o : Ow} (h : OwHO K G ho o) : OwHO K G' ho o := by
  cases h with
  | lst r => exact .lst (r.mono e)
  | dct r => exact .dct (r.mono e)
  | dcT r => exact .dcT (r.mono e)
  | ob r => exact .ob (r.mono e)
theorem OwHO.rp {ho : HO} {o : Ow} (h : OwHO K G ho o) {a : Addr} (e : G a = some ho) : Rp K G (.ref a) o.dt := by
  cases h with
  | lst r => exact .lst e r
  | dct r => exact .dct (.inl e) r
  | dcT r => exact .dcT (.inl e) r
  | ob r => exact .ob e r
theorem OwHO.mut {ho : HO} {o : Ow} (h : OwHO K G ho o) : Mut (some ho) := by
  cases h <;> trivial
theorem OwAt.here {a : Addr} {o : Ow} (h : OwAt K G H a o) : H a ≠ none := by
  obtain ⟨ho, e, _⟩ := h
  rw [e]
  exact fun z => nomatch z
end

/-! ### the slots -/
/-- nothing (that is known); a datum; an object of one's own; an object of the caller's that is handed in to be changed -/
inductive Sl where
  | no
  | dat (d : Dt)
  | own (o : Ow)
  | par (o : Ow)
abbrev Sls := List Sl
/-- it is owned, with this in it -/
def Sl.ow : Sl → Option Ow
  | .own o => some o
  | .par o => some o
  | _ => none
def SlOk (K : PySem.W.Frag) (G H : Hp) (sv : Option (Option V)) : Sl → Prop
  | .no => True
  | .dat d => ∃ v, sv = some (some v) ∧ Rp K G v d
  | .own o => ∃ a, sv = some (some (.ref a)) ∧ G a = none ∧ OwAt K G H a o
  | .par o => ∃ a, sv = some (some (.ref a)) ∧ G a = none ∧ OwAt K G H a o
theorem SlOk.ow {K : PySem.W.Frag} {G H : Hp} {sv : Option (Option V)} {e : Sl} {o : Ow} (h : SlOk K G H sv e) (he : e.ow = some o) : ∃ a, sv = some (some (.ref a)) ∧ G a = none ∧ OwAt K G H a o := by
  cases e with
  | no => cases he
  | dat d => cases he
  | own o' => cases he; exact h
  | par o' => cases he; exact h
/-- a is owned by some slot -/
def Owd (σ : St) (es : Sls) (a : Addr) : Prop := ∃ (i : Nat) (e : Sl) (o : Ow), es[i]? = some e ∧ e.ow = some o ∧ σ[i]? = some (some (.ref a))
structure Sep (K : PySem.W.Frag) (σ : St) (G H : Hp) (es : Sls) : Prop where
  le : Same G H
  len : σ.length = es.length
  ok : ∀ (i : Nat) (e : Sl), es[i]? = some e → SlOk K G H σ[i]? e
  ne : ∀ (i j : Nat) (e e' : Sl) (o o' : Ow) (a : Addr), es[i]? = some e → es[j]? = some e' → e.ow = some o → e'.ow = some o' → σ[i]? = some (some (.ref a)) → σ[j]? = some (some (.ref a)) → i = j
section
variable {K : PySem.W.Frag} {σ : St} {G H : Hp} {es : Sls}
theorem Sep.dat (S : Sep K σ G H es) {i : Nat} {d : Dt} (h : es[i]? = some (.dat d)) : ∃ v, σ[i]? = some (some v) ∧ Rp K G v d := S.ok i _ h
theorem Sep.ow (S : Sep K σ G H es) {i : Nat} {e : Sl} {o : Ow} (h : es[i]? = some e) (he : e.ow = some o) : ∃ a, σ[i]? = some (some (.ref a)) ∧ G a = none ∧ OwAt K G H a o := (S.ok i _ h).ow he
theorem Sep.owd_g (S : Sep K σ G H es) {a : Addr} (h : Owd σ es a) : G a = none := by
  obtain ⟨i, e, o, h1, h2, h3⟩ := h
  obtain ⟨b, e1, e2, _⟩ := S.ow h1 h2
  rw [h3] at e1
  cases e1
  exact e2
theorem Sep.owd_h (S : Sep K σ G H es) {a : Addr} (h : Owd σ es a) : H a ≠ none := by
  obtain ⟨i, e, o, h1, h2, h3⟩ := h
  obtain ⟨b, e1, _, e2⟩ := S.ow h1 h2
  rw [h3] at e1
  cases e1
  exact e2.here
end

/-! ### how a state changes -/
structure Tr (K : PySem.W.Frag) (σ : St) (G H : Hp) (es : Sls) (σ' : St) (G' H' : Hp) (es' : Sls) : Prop where
  g : Same G G'
  sep : Sep K σ' G' H' es'
  keep : ∀ a o, H a = some o → ¬ Owd σ es a → H' a = some o
  out : ∀ a, H a ≠ none → G a = none → ¬ Owd σ es a → G' a = none
  own : ∀ a, Owd σ' es' a → Owd σ es a ∨ H a = none
  par : ∀ (i : Nat) (o : Ow), es[i]? = some (.par o) → σ'[i]? = σ[i]? ∧ ∃ o' : Ow, es'[i]? = some (.par o')
  alive : ∀ a, H a ≠ none → H' a ≠ none
  len : es'.length = es.length
section
variable {K : PySem.W.Frag} {σ σ' σ2 : St} {G H G' H' G2 H2 : Hp} {es es' es2 : Sls}
theorem Tr.refl (S : Sep K σ G H es) : Tr K σ G H es σ G H es :=
  ⟨Same.refl G, S, fun _ _ h _ => h, fun _ _ h _ => h, fun _ h => .inl h, fun _ o h => ⟨rfl, o, h⟩, fun _ h => h, rfl⟩
theorem Tr.trans (a : Tr K σ G H es σ' G' H' es') (b : Tr K σ' G' H' es' σ2 G2 H2 es2) : Tr K σ G H es σ2 G2 H2 es2 where
  g := a.g.trans b.g
  sep := b.sep
  keep := fun p o h n => b.keep p o (a.keep p o h n) fun z => (a.own p z).elim n fun q => by rw [h] at q; cases q
  out := fun p h hg n => b.out p (a.alive p h) (a.out p h hg n) fun z => (a.own p z).elim n h
  own := fun p z => (b.own p z).elim (fun q => a.own p q) fun q => .inr (by
    cases e : H p with
    | none => rfl
    | some o => exact absurd q (a.alive p (by rw [e]; exact fun z => nomatch z)))
  par := fun i o h => by
    obtain ⟨e1, o1, e2⟩ := a.par i o h
    obtain ⟨e3, o2, e4⟩ := b.par i o1 e2
    exact ⟨e3.trans e1, o2, e4⟩
  alive := fun p h => b.alive p (a.alive p h)
  len := b.len.trans a.len
/-- fresh behind is fresh ahead -/
theorem Tr.fresh (t : Tr K σ G H es σ' G' H' es') {p : Addr} (h : H' p = none) : H p = none := by
  cases e : H p with
  | none => rfl
  | some o => exact absurd h (t.alive p (by rw [e]; exact fun z => nomatch z))
/-- a new object -/
theorem Tr.alloc (S : Sep K σ G H es) {p : Addr} (hp : H p = none) (ho : HO) : Tr K σ G H es σ G (upd H p ho) es := by
  have sm : Same H (upd H p ho) := fun b o e => by
    rw [upd_ne (ne_of_none e hp)]
    exact e
  refine ⟨Same.refl G, ⟨S.le.trans sm, S.len, fun i e he => ?_, S.ne⟩, fun a o h _ => sm a o h, fun _ _ h _ => h, fun _ h => .inl h, fun _ o h => ⟨rfl, o, h⟩, fun a h z => ?_, rfl⟩
  · have q := S.ok i e he
    cases e with
    | no => trivial
    | dat d => exact q
    | own o =>
      obtain ⟨a, e1, e2, ho', e3, e4⟩ := q
      exact ⟨a, e1, e2, ho', sm _ _ e3, e4⟩
    | par o =>
      obtain ⟨a, e1, e2, ho', e3, e4⟩ := q
      exact ⟨a, e1, e2, ho', sm _ _ e3, e4⟩
  · cases e : H a with
    | none => exact h e
    | some o =>
      rw [sm a o e] at z
      cases z
end

/-! ### what an expression gives -/
/-- a datum; the object of the i-th slot; a new object, nobody's yet -/
inductive Rs where
  | dat (d : Dt)
  | al (i : Nat)
  | new (o : Ow)
def RN (K : PySem.W.Frag) (σ : St) (H : Hp) (es' : Sls) (G' H' : Hp) (v : V) : Rs → Prop
  | .dat d => Rp K G' v d
  | .al i => σ[i]? = some (some v)
  | .new o => ∃ p, v = .ref p ∧ H p = none ∧ G' p = none ∧ OwAt K G' H' p o ∧ ¬ Owd σ es' p
abbrev DE := Sls → Option (Rs × Sls)
/-- the reading: from the slots es the value r comes, the slots are es' then -/
def tP (K : PySem.W.Frag) (es : Sls) (r : Rs) (es' : Sls) : TE := fun σ H Q => ∃ G, Sep K σ G H es ∧ ∀ v G' H', Tr K σ G H es σ G' H' es' → RN K σ H es' G' H' v r → Q v H'
theorem pe_imp {X : Cx} {e : Expr} {t t' : TE} (h : PE X e t) (i : ∀ σ H Q, t' σ H Q → t σ H Q) : PE X e t' := ⟨fun pins s σ H Q I q => h.run pins s σ H Q I (i σ H Q q)⟩
theorem pt_imp {X : Cx} {e : Expr} {t t' : TT} (h : PT X e t) (i : ∀ σ H Q, t' σ H Q → t σ H Q) : PT X e t' := ⟨fun pins s σ H Q I q => h.run pins s σ H Q I (i σ H Q q)⟩
theorem pa_imp {X : Cx} {e : List Expr} {t t' : TA} (h : PA X e t) (i : ∀ σ H Q, t' σ H Q → t σ H Q) : PA X e t' := ⟨fun pos pins s σ H Q I q => h.run pos pins s σ H Q I (i σ H Q q)⟩
theorem ps_imp {X : Cx} {e : Stmt} {t t' : TS} (h : PS X e t) (i : ∀ D σ H, t' D σ H → t D σ H) : PS X e t' := ⟨fun pins s σ H D I q => h.run pins s σ H D I (i D σ H q)⟩
theorem pss_imp {X : Cx} {e : List Stmt} {t t' : TS} (h : PSs X e t) (i : ∀ D σ H, t' D σ H → t D σ H) : PSs X e t' := ⟨fun pins s σ H D I q => h.run pins s σ H D I (i D σ H q)⟩
/-- the expression e means f -/
def Sx (X : Cx) (e : Expr) (f : DE) : Prop := ∀ es r es', f es = some (r, es') → PE X e (tP X.K es r es')

section
variable {K : PySem.W.Frag} {σ : St} {G H G' H' G2 H2 : Hp} {es es' es2 : Sls} {v : V} {r : Rs}
/-- freezing what is new -/
def Rs.fz : Rs → Rs
  | .new o => .dat o.dt
  | r => r
theorem Tr.freeze (t : Tr K σ G H es σ G' H' es') {p : Addr} {ho : HO} {o : Ow} (hp : H p = none) (gp : G' p = none) (e : H' p = some ho) (ow : OwHO K G' ho o) (n : ¬ Owd σ es' p) :
    Tr K σ G H es σ (upd G' p ho) H' es' ∧ Rp K (upd G' p ho) (.ref p) o.dt := by
  have sm : Same G' (upd G' p ho) := fun b o e => by
    rw [upd_ne (ne_of_none e gp)]
    exact e
  have npo : ∀ a, Owd σ es' a → a ≠ p := fun a h z => n (by rw [← z]; exact h)
  refine ⟨⟨t.g.trans sm, ⟨fun b u q => ?_, t.sep.len, fun i e he => ?_, t.sep.ne⟩, t.keep, fun a h g n' => ?_, t.own, t.par, t.alive, t.len⟩, (ow.mono sm).rp upd_same⟩
  · by_cases hb : b = p
    · subst hb
      rw [upd_same] at q
      cases q
      exact e
    · rw [upd_ne hb] at q
      exact t.sep.le b u q
  · have q := t.sep.ok i e he
    cases e with
    | no => trivial
    | dat d =>
      obtain ⟨w, e1, e2⟩ := q
      exact ⟨w, e1, e2.mono sm⟩
    | own u =>
      obtain ⟨a, e1, e2, ho', e3, e4⟩ := q
      exact ⟨a, e1, by rw [upd_ne (npo a ⟨i, _, u, he, rfl, e1⟩)]; exact e2, ho', e3, e4.mono sm⟩
    | par u =>
      obtain ⟨a, e1, e2, ho', e3, e4⟩ := q
      exact ⟨a, e1, by rw [upd_ne (npo a ⟨i, _, u, he, rfl, e1⟩)]; exact e2, ho', e3, e4.mono sm⟩
  · have na : a ≠ p := fun z => h (by rw [z]; exact hp)
    rw [upd_ne na]
    exact t.out a h g n'
theorem RN.fz (t : Tr K σ G H es σ G' H' es') (h : RN K σ H es' G' H' v r) : ∃ G2, Tr K σ G H es σ G2 H' es' ∧ RN K σ H es' G2 H' v r.fz := by
  cases r with
  | dat d => exact ⟨G', t, h⟩
  | al i => exact ⟨G', t, h⟩
  | new o =>
    obtain ⟨p, rfl, h1, h2, ⟨ho, h3, h4⟩, h5⟩ := h
    obtain ⟨t2, q⟩ := t.freeze h1 h2 h3 h4 h5
    exact ⟨_, t2, q⟩
theorem tP_fz {Q : VK} (h : tP K es r.fz es' σ H Q) : tP K es r es' σ H Q := by
  obtain ⟨G, S, k⟩ := h
  refine ⟨G, S, fun v G' H' t n => ?_⟩
  obtain ⟨G2, t2, n2⟩ := n.fz t
  exact k v G2 H' t2 n2
/-- what was given holds further on -/
theorem RN.later (h : RN K σ H es G H' v r.fz) (t : Tr K σ G H' es σ G2 H2 es2) : RN K σ H es2 G2 H2 v r.fz := by
  cases r with
  | dat d => exact Rp.mono t.g h
  | al i => exact h
  | new o => exact Rp.mono t.g h
/-- the datum that may be read of what was given -/
def look (es : Sls) : Rs → Option Dt
  | .dat d => some d
  | .new o => some o.dt
  | .al i => match es[i]? with
    | some (.own o) => some o.dt
    | some (.par o) => some o.dt
    | some (.dat d) => some d
    | _ => none
/-- v may be read as the datum: by G, or its object is owned -/
def Rq (K : PySem.W.Frag) (G H : Hp) (v : V) (d : Dt) : Prop := Rp K G v d ∨ ∃ a o, v = .ref a ∧ OwAt K G H a o ∧ d = o.dt
theorem Rq.mono_g {d : Dt} (e : Same G G') (h : Rq K G H v d) : Rq K G' H v d := by
  rcases h with h | ⟨a, o, h1, ⟨ho, h2, h3⟩, h4⟩
  · exact .inl (h.mono e)
  · exact .inr ⟨a, o, h1, ⟨ho, h2, h3.mono e⟩, h4⟩
/-- read by the whole heap -/
theorem Rq.rp {d : Dt} (h : Rq K G H v d) (le : Same G H) : Rp K H v d := by
  rcases h with h | ⟨a, o, rfl, ⟨ho, h2, h3⟩, rfl⟩
  · exact h.mono le
  · exact (h3.mono le).rp h2
end

/-! ### names, constants -/
section
variable {X : Cx}
def vF (i : Nat) : DE := fun es => match es[i]? with
  | some (.dat d) => some (.dat d, es)
  | some (.own _) => some (.al i, es)
  | some (.par _) => some (.al i, es)
  | _ => none
theorem sx_v (i : Nat) {x : Str} {pos : Pos} (hN : X.N[i]? = some x := by rfl) (hv : Vis X.env.scope x := by first | exact Or.inl rfl | exact Or.inr (Or.inl rfl) | exact Or.inr (Or.inr rfl)) (hd : (x == ("__debug__" : Str)) = false := by decide)
    (hcd : (x == ("__classdict__" : Str)) = false := by decide) : Sx X (.Name x pos) (vF i) := fun es r es' h => pe_imp (pe_var hN hv hd hcd) fun σ H Q q => by
  obtain ⟨G, S, k⟩ := q
  unfold vF at h
  split at h
  · rename_i d e
    cases h
    obtain ⟨v, e1, e2⟩ := S.dat e
    exact ⟨v, e1, k v G H (Tr.refl S) e2⟩
  · rename_i o e
    cases h
    obtain ⟨a, e1, _⟩ := S.ow e rfl
    exact ⟨_, e1, k _ G H (Tr.refl S) e1⟩
  · rename_i o e
    cases h
    obtain ⟨a, e1, _⟩ := S.ow e rfl
    exact ⟨_, e1, k _ G H (Tr.refl S) e1⟩
  · cases h
def cF (d : Dt) : DE := fun es => some (.dat d, es)
/-- a value that stands for a datum in any heap -/
theorem sx_tc {e : Expr} {v : V} {d : Dt} (h : PE X e (tC v)) (r : ∀ G, Rp X.K G v d) : Sx X e (cF d) := fun es r' es' he => pe_imp h fun σ H Q q => by
  obtain ⟨G, S, k⟩ := q
  cases he
  exact k v G H (Tr.refl S) (r G)
theorem sx_int {i j pos} : Sx X (.Constant (.int i) j pos) (cF (.int i)) := sx_tc pe_int fun _ => .int i
theorem sx_bl {b j pos} : Sx X (.Constant (.bool b) j pos) (cF (.bl b)) := sx_tc pe_bl fun _ => .bl b
theorem sx_non {j pos} : Sx X (.Constant .none j pos) (cF .non) := sx_tc pe_non fun _ => .non
theorem sx_str {x j pos} : Sx X (.Constant (.str x) j pos) (cF (.str x)) := sx_tc pe_str fun _ => .str x
theorem sx_gi {x : Str} {i : Int} {pos : Pos} (hm : ∃ t, X.mg x = some (.int i t)) (hg : Gl X x := by rfl) (hd : (x == ("__debug__" : Str)) = false := by decide) : Sx X (.Name x pos) (cF (.int i)) := by
  obtain ⟨t, hm⟩ := hm
  exact sx_tc (pe_glob (v := .int i) hg hm ⟨t, rfl⟩ hd) fun _ => .int i
theorem sx_gs {x : Str} {z : Str} {pos : Pos} (hm : ∃ t, X.mg x = some (.str z t)) (hg : Gl X x := by rfl) (hd : (x == ("__debug__" : Str)) = false := by decide) : Sx X (.Name x pos) (cF (.str z)) := by
  obtain ⟨t, hm⟩ := hm
  exact sx_tc (pe_glob (v := .str z) hg hm ⟨t, rfl⟩ hd) fun _ => .str z
end
end PL

set_option Elab.async false
set_option linter.all false
set_option maxRecDepth 100000
set_option maxHeartbeats 1000000
/-! The pure layer, part B: operators, tests, arguments, built-ins, displays, subscripts. -/
namespace PL
open PySem PySem.Spec PyProof.Rows L2

section
variable {K : PySem.W.Frag} {σ : St} {G H G' H' G2 H2 : Hp} {es es' es1 es2 : Sls} {v x y : V} {r r1 r2 : Rs}
theorem RN.rq (S : Sep K σ G H' es) (h : RN K σ H es G H' v r) {d : Dt} (e : look es r = some d) : Rq K G H' v d := by
  cases r with
  | dat d' => cases e; exact .inl h
  | new o =>
    cases e
    obtain ⟨p, rfl, _, _, q, _⟩ := h
    exact .inr ⟨p, o, rfl, q, rfl⟩
  | al i =>
    have h1 : σ[i]? = some (some v) := h
    unfold look at e
    split at e
    · rename_i i' q
      cases q
    · rename_i i' q
      cases q
    · rename_i i' q
      cases q
      split at e
      · rename_i o ei
        cases e
        obtain ⟨a, e1, _, e2⟩ := S.ow ei rfl
        rw [h1] at e1
        cases e1
        exact .inr ⟨a, o, rfl, e2, rfl⟩
      · rename_i o ei
        cases e
        obtain ⟨a, e1, _, e2⟩ := S.ow ei rfl
        rw [h1] at e1
        cases e1
        exact .inr ⟨a, o, rfl, e2, rfl⟩
      · rename_i d' ei
        cases e
        obtain ⟨w, e1, e2⟩ := S.dat ei
        rw [h1] at e1
        cases e1
        exact .inl e2
      · cases e

/-! ### results by values -/
inductive Ro where
  | val (d : Dt)
  | nw (o : Ow)
  | nt (l : List Dt)
def Ro.rs : Ro → Rs
  | .val d => .dat d
  | .nw o => .new o
  | .nt l => .dat (.tup l)
/-- what comes: a datum, the heap as it was; a new object; a new tuple -/
def RoOk (K : PySem.W.Frag) (G H : Hp) (v : V) (H' : Hp) : Ro → Prop
  | .val d => H' = H ∧ Rp K G v d
  | .nw o => ∃ p ho, v = .ref p ∧ H p = none ∧ H' = upd H p ho ∧ OwHO K G ho o
  | .nt l => ∃ p vs, v = .ref p ∧ H p = none ∧ H' = upd H p (.tup vs) ∧ RpL K G vs l
theorem same_new {p : Addr} {ho : HO} (h : H p = none) : Same H (upd H p ho) := fun b o e => by
  rw [upd_ne (ne_of_none e h)]
  exact e
/-- G with an object of H besides, which nothing owns -/
theorem Tr.learn (t : Tr K σ G H es σ G' H' es') {p : Addr} {ho : HO} (hp : H p = none) (gp : G' p = none) (e : H' p = some ho) (n : ¬ Owd σ es' p) : Tr K σ G H es σ (upd G' p ho) H' es' := by
  have sm : Same G' (upd G' p ho) := same_new gp
  have npo : ∀ a, Owd σ es' a → a ≠ p := fun a h z => n (by rw [← z]; exact h)
  refine ⟨t.g.trans sm, ⟨fun b u q => ?_, t.sep.len, fun i e he => ?_, t.sep.ne⟩, t.keep, fun a h g n' => ?_, t.own, t.par, t.alive, t.len⟩
  · by_cases hb : b = p
    · subst hb
      rw [upd_same] at q
      cases q
      exact e
    · rw [upd_ne hb] at q
      exact t.sep.le b u q
  · have q := t.sep.ok i e he
    cases e with
    | no => trivial
    | dat d =>
      obtain ⟨w, e1, e2⟩ := q
      exact ⟨w, e1, e2.mono sm⟩
    | own u =>
      obtain ⟨a, e1, e2, ho', e3, e4⟩ := q
      exact ⟨a, e1, by rw [upd_ne (npo a ⟨i, _, u, he, rfl, e1⟩)]; exact e2, ho', e3, e4.mono sm⟩
    | par u =>
      obtain ⟨a, e1, e2, ho', e3, e4⟩ := q
      exact ⟨a, e1, by rw [upd_ne (npo a ⟨i, _, u, he, rfl, e1⟩)]; exact e2, ho', e3, e4.mono sm⟩
  · have na : a ≠ p := fun z => h (by rw [z]; exact hp)
    rw [upd_ne na]
    exact t.out a h g n'
theorem Sep.fresh_g (S : Sep K σ G H es) {p : Addr} (h : H p = none) : G p = none := S.le.free h
theorem Sep.fresh_o (S : Sep K σ G H es) {p : Addr} (h : H p = none) : ¬ Owd σ es p := fun z => S.owd_h z h
/-- a result by values, as a result over the slots -/
theorem RoOk.go (t : Tr K σ G H es σ G' H' es') {ro : Ro} (h : RoOk K G' H' v H2 ro) : ∃ G2, Tr K σ G H es σ G2 H2 es' ∧ RN K σ H es' G2 H2 v ro.rs := by
  cases ro with
  | val d =>
    obtain ⟨rfl, q⟩ := h
    exact ⟨G', t, q⟩
  | nw o =>
    obtain ⟨p, ho, rfl, h1, rfl, h2⟩ := h
    have t2 := t.trans (Tr.alloc t.sep h1 ho)
    exact ⟨G', t2, p, rfl, t.fresh h1, t.sep.fresh_g h1, ⟨ho, upd_same, h2⟩, t.sep.fresh_o h1⟩
  | nt l =>
    obtain ⟨p, vs, rfl, h1, rfl, h2⟩ := h
    have t2 := t.trans (Tr.alloc t.sep h1 (.tup vs))
    have gp := t.sep.fresh_g h1
    have t3 := t2.learn (t.fresh h1) gp upd_same (t.sep.fresh_o h1)
    exact ⟨_, t3, .tup (.inl (.inl upd_same)) (h2.mono (same_new gp))⟩

/-! ### operators -/
def opF (pf : Dt → Dt → Option Ro) (f g : DE) : DE := fun es =>
  (f es).bind fun p => (g p.2).bind fun q => (look q.2 p.1.fz).bind fun d => (look q.2 q.1).bind fun e => (pf d e).map fun ro => (ro.rs, q.2)
/-- the operation on values r does pf on data -/
def BinS (K : PySem.W.Frag) (r : R2) (pf : Dt → Dt → Option Ro) : Prop :=
  ∀ (G H : Hp) (x y : V) (d e : Dt) (ro : Ro) (Q : VK), Same G H → Rq K G H x d → Rq K G H y e → pf d e = some ro → (∀ v H', RoOk K G H v H' ro → Q v H') → r x y H Q
theorem tOp_go {r : R2} {pf : Dt → Dt → Option Ro} (hb : BinS K r pf) {d e : Dt} {ro : Ro} (l1 : look es2 r1.fz = some d) (l2 : look es2 r2 = some e) (hp : pf d e = some ro) {Q : VK} (q : tP K es ro.rs es2 σ H Q) :
    tOp r (tP K es r1 es1) (tP K es1 r2 es2) σ H Q := by
  obtain ⟨G, S, k⟩ := q
  refine ⟨G, S, fun x G1 H1 t1 n1 => ?_⟩
  obtain ⟨G1', t1', n1'⟩ := n1.fz t1
  refine ⟨G1', t1'.sep, fun y G2 H2 t2 n2 => ?_⟩
  have t := t1'.trans t2
  refine hb G2 H2 x y d e ro Q t.sep.le ((n1'.later t2).rq t.sep l1) (n2.rq t.sep l2) hp fun v H' ok => ?_
  obtain ⟨G3, t3, n3⟩ := ok.go t
  exact k v G3 H' t3 n3
theorem opF_inv {pf : Dt → Dt → Option Ro} {f g : DE} (h : opF pf f g es = some (r, es')) : ∃ r1 es1 r2 d e ro, f es = some (r1, es1) ∧ g es1 = some (r2, es') ∧ look es' r1.fz = some d ∧ look es' r2 = some e ∧ pf d e = some ro ∧ r = ro.rs := by
  unfold opF at h
  obtain ⟨⟨r1, es1⟩, h1, h⟩ := Option.bind_eq_some_iff.mp h
  obtain ⟨⟨r2, es2⟩, h2, h⟩ := Option.bind_eq_some_iff.mp h
  obtain ⟨d, h3, h⟩ := Option.bind_eq_some_iff.mp h
  obtain ⟨e, h4, h⟩ := Option.bind_eq_some_iff.mp h
  obtain ⟨ro, h5, h⟩ := Option.map_eq_some_iff.mp h
  cases h
  exact ⟨r1, es1, r2, d, e, ro, h1, h2, h3, h4, h5, rfl⟩
end
section
variable {X : Cx} {a b c : Expr} {f g h : DE} {pos : Pos}
theorem sx_op {op : Operator} {r : R2} {pf : Dt → Dt → Option Ro} (ho : OpR X (binaryOp op) r) (hb : BinS X.K r pf) (sa : Sx X a f) (sb : Sx X b g) : Sx X (.BinOp a op b pos) (opF pf f g) := fun es r es' h => by
  obtain ⟨r1, es1, r2, d, e, ro, h1, h2, h3, h4, h5, rfl⟩ := opF_inv h
  exact pe_imp (pe_op ho (sa _ _ _ h1) (sb _ _ _ h2)) fun σ H Q q => tOp_go hb h3 h4 h5 q
theorem sx_cmp {op : CmpOp} {r : R2} {pf : Dt → Dt → Option Ro} (ho : OpR X (compareOp op) r) (hb : BinS X.K r pf) (hm : behindInMarks op b = false) (sa : Sx X a f) (sb : Sx X b g) : Sx X (.Compare a [op] [b] pos) (opF pf f g) := fun es r es' h => by
  obtain ⟨r1, es1, r2, d, e, ro, h1, h2, h3, h4, h5, rfl⟩ := opF_inv h
  exact pe_imp (pe_cmpR ho (sa _ _ _ h1) (sb _ _ _ h2) hm) fun σ H Q q => tOp_go hb h3 h4 h5 q
theorem sx_ix {r : R2} {pf : Dt → Dt → Option Ro} (ho : IxR X r) (hb : BinS X.K r pf) (sa : Sx X a f) (sb : Sx X b g) (hs : PlainIx b := by exact fun _ _ => rfl) : Sx X (.Subscript a b pos) (opF pf f g) := fun es r es' h => by
  obtain ⟨r1, es1, r2, d, e, ro, h1, h2, h3, h4, h5, rfl⟩ := opF_inv h
  exact pe_imp (pe_ix ho (sa _ _ _ h1) (sb _ _ _ h2) hs) fun σ H Q q => tOp_go hb h3 h4 h5 q
/-! ### one-place operators -/
def unF (pf : Dt → Option Ro) (f : DE) : DE := fun es => (f es).bind fun p => (look p.2 p.1).bind fun d => (pf d).map fun ro => (ro.rs, p.2)
def UnS (K : PySem.W.Frag) (r : V → Hp → VK → Prop) (pf : Dt → Option Ro) : Prop :=
  ∀ (G H : Hp) (x : V) (d : Dt) (ro : Ro) (Q : VK), Same G H → Rq K G H x d → pf d = some ro → (∀ v H', RoOk K G H v H' ro → Q v H') → r x H Q
theorem unF_inv {pf : Dt → Option Ro} {es es' : Sls} {r : Rs} (h : unF pf f es = some (r, es')) : ∃ r1 d ro, f es = some (r1, es') ∧ look es' r1 = some d ∧ pf d = some ro ∧ r = ro.rs := by
  unfold unF at h
  obtain ⟨⟨r1, es1⟩, h1, h⟩ := Option.bind_eq_some_iff.mp h
  obtain ⟨d, h3, h⟩ := Option.bind_eq_some_iff.mp h
  obtain ⟨ro, h5, h⟩ := Option.map_eq_some_iff.mp h
  cases h
  exact ⟨r1, d, ro, h1, h3, h5, rfl⟩
theorem tUn_go {K : PySem.W.Frag} {σ : St} {H : Hp} {es es' : Sls} {r1 : Rs} {r : V → Hp → VK → Prop} {pf : Dt → Option Ro} (hb : UnS K r pf) {d : Dt} {ro : Ro} (l1 : look es' r1 = some d) (hp : pf d = some ro) {Q : VK} (q : tP K es ro.rs es' σ H Q) :
    tP K es r1 es' σ H fun x H1 => r x H1 Q := by
  obtain ⟨G, S, k⟩ := q
  refine ⟨G, S, fun x G1 H1 t n => ?_⟩
  refine hb G1 H1 x d ro Q t.sep.le (n.rq t.sep l1) hp fun v H' ok => ?_
  obtain ⟨G3, t3, n3⟩ := ok.go t
  exact k v G3 H' t3 n3
theorem sx_un {op : UnaryOp} {r : V → Hp → VK → Prop} {pf : Dt → Option Ro} (ho : UnR X (unaryOp op) r) (hb : UnS X.K r pf) (sa : Sx X a f) : Sx X (.UnaryOp op a pos) (unF pf f) := fun es r es' h => by
  obtain ⟨r1, d, ro, h1, h3, h5, rfl⟩ := unF_inv h
  exact pe_imp (pe_un ho (sa _ _ _ h1)) fun σ H Q q => tUn_go hb h3 h5 q

/-! ### arguments -/
/-- values for results -/
inductive RNL (K : PySem.W.Frag) (σ : St) (H : Hp) (es : Sls) (G H' : Hp) : List V → List Rs → Prop
  | nil : RNL K σ H es G H' [] []
  | cons {v : V} {r : Rs} {vs : List V} {rs : List Rs} : RN K σ H es G H' v r → RNL K σ H es G H' vs rs → RNL K σ H es G H' (v :: vs) (r :: rs)
abbrev DA := Sls → Option (List Rs × Sls)
def tAP (K : PySem.W.Frag) (es : Sls) (rs : List Rs) (es' : Sls) : TA := fun σ H Q => ∃ G, Sep K σ G H es ∧ ∀ vs G' H', Tr K σ G H es σ G' H' es' → RNL K σ H es' G' H' vs rs → Q vs H'
def Sa (X : Cx) (l : List Expr) (f : DA) : Prop := ∀ es rs es', f es = some (rs, es') → PA X l (tAP X.K es rs es')
def aNil : DA := fun es => some ([], es)
/-- one and no more: a new object may go on being new -/
def aOne (f : DE) : DA := fun es => (f es).map fun p => ([p.1], p.2)
def aCons (f : DE) (g : DA) : DA := fun es => (f es).bind fun p => (g p.2).map fun q => (p.1.fz :: q.1, q.2)
theorem sa_nil : Sa X [] aNil := fun es rs es' h => pa_imp pa_nil fun σ H Q q => by
  cases h
  obtain ⟨G, S, k⟩ := q
  exact k [] G H (Tr.refl S) .nil
theorem sa_one (sa : Sx X a f) (hs : starEach [a] X.env = (false, eval a X.env) :: starEach [] X.env := by rfl) : Sa X [a] (aOne f) := fun es rs es' h => by
  obtain ⟨⟨r1, es1⟩, h1, h⟩ := Option.map_eq_some_iff.mp h
  cases h
  refine pa_imp (pa_cons (sa _ _ _ h1) pa_nil hs) fun σ H Q q => ?_
  obtain ⟨G, S, k⟩ := q
  exact ⟨G, S, fun v G' H' t n => k [v] G' H' t (.cons n .nil)⟩
section
variable {K : PySem.W.Frag} {σ : St} {G H G' H' G2 H2 : Hp} {es es' es1 es2 : Sls} {v x y : V} {vs : List V} {r r1 r2 : Rs} {rs : List Rs}
theorem RN.back (t : Tr K σ G H es σ G' H' es') (h : RN K σ H' es2 G2 H2 v r) : RN K σ H es2 G2 H2 v r := by
  cases r with
  | dat d => exact h
  | al i => exact h
  | new o =>
    obtain ⟨p, h1, h2, h3⟩ := h
    exact ⟨p, h1, t.fresh h2, h3⟩
theorem RNL.back (t : Tr K σ G H es σ G' H' es') (h : RNL K σ H' es2 G2 H2 vs rs) : RNL K σ H es2 G2 H2 vs rs := by
  induction h with
  | nil => exact .nil
  | cons a b ih => exact .cons (a.back t) ih
end
theorem sa_cons {l : List Expr} {g : DA} (sa : Sx X a f) (sb : Sa X l g) (hs : starEach (a :: l) X.env = (false, eval a X.env) :: starEach l X.env := by rfl) : Sa X (a :: l) (aCons f g) := fun es rs es' h => by
  obtain ⟨⟨r1, es1⟩, h1, h⟩ := Option.bind_eq_some_iff.mp h
  obtain ⟨⟨rs2, es2⟩, h2, h⟩ := Option.map_eq_some_iff.mp h
  cases h
  refine pa_imp (pa_cons (sa _ _ _ h1) (sb _ _ _ h2) hs) fun σ H Q q => ?_
  obtain ⟨G, S, k⟩ := q
  refine ⟨G, S, fun v G1 H1 t n => ?_⟩
  obtain ⟨G1', t1, n1⟩ := n.fz t
  refine ⟨G1', t1.sep, fun vs G2 H2 t2 n2 => k (v :: vs) G2 H2 (t1.trans t2) (.cons (n1.later t2) (n2.back t1))⟩
/-- the data of results -/
def looks (es : Sls) : List Rs → Option (List Dt)
  | [] => some []
  | r :: rs => (look es r).bind fun d => (looks es rs).map fun ds => d :: ds
inductive RqL (K : PySem.W.Frag) (G H : Hp) : List V → List Dt → Prop
  | nil : RqL K G H [] []
  | cons {v : V} {d : Dt} {vs : List V} {ds : List Dt} : Rq K G H v d → RqL K G H vs ds → RqL K G H (v :: vs) (d :: ds)
theorem RNL.rq {K : PySem.W.Frag} {σ : St} {G H H' : Hp} {es : Sls} {vs : List V} {rs : List Rs} (S : Sep K σ G H' es) (h : RNL K σ H es G H' vs rs) : ∀ {ds : List Dt}, looks es rs = some ds → RqL K G H' vs ds := by
  induction h with
  | nil =>
    intro ds e
    cases e
    exact .nil
  | cons a b ih =>
    intro ds e
    obtain ⟨d, h1, e⟩ := Option.bind_eq_some_iff.mp e
    obtain ⟨ds', h2, e⟩ := Option.map_eq_some_iff.mp e
    cases e
    exact .cons (a.rq S h1) (ih h2)
/-! ### calls of built-ins -/
def cbF (pf : List Dt → Option Ro) (f : DA) : DE := fun es => (f es).bind fun p => (looks p.2 p.1).bind fun ds => (pf ds).map fun ro => (ro.rs, p.2)
def CbS (K : PySem.W.Frag) (r : List V → Hp → VK → Prop) (pf : List Dt → Option Ro) : Prop :=
  ∀ (G H : Hp) (vs : List V) (ds : List Dt) (ro : Ro) (Q : VK), Same G H → RqL K G H vs ds → pf ds = some ro → (∀ v H', RoOk K G H v H' ro → Q v H') → r vs H Q
theorem cbF_inv {pf : List Dt → Option Ro} {f : DA} {es es' : Sls} {r : Rs} (h : cbF pf f es = some (r, es')) : ∃ rs ds ro, f es = some (rs, es') ∧ looks es' rs = some ds ∧ pf ds = some ro ∧ r = ro.rs := by
  unfold cbF at h
  obtain ⟨⟨r1, es1⟩, h1, h⟩ := Option.bind_eq_some_iff.mp h
  obtain ⟨d, h3, h⟩ := Option.bind_eq_some_iff.mp h
  obtain ⟨ro, h5, h⟩ := Option.map_eq_some_iff.mp h
  cases h
  exact ⟨r1, d, ro, h1, h3, h5, rfl⟩
theorem tCB_go {K : PySem.W.Frag} {σ : St} {H : Hp} {es es' : Sls} {rs : List Rs} {r : List V → Hp → VK → Prop} {pf : List Dt → Option Ro} (hb : CbS K r pf) {ds : List Dt} {ro : Ro} (l1 : looks es' rs = some ds) (hp : pf ds = some ro) {Q : VK} (q : tP K es ro.rs es' σ H Q) :
    tAP K es rs es' σ H fun vs H1 => r vs H1 Q := by
  obtain ⟨G, S, k⟩ := q
  refine ⟨G, S, fun vs G1 H1 t n => ?_⟩
  refine hb G1 H1 vs ds ro Q t.sep.le (n.rq t.sep l1) hp fun v H' ok => ?_
  obtain ⟨G3, t3, n3⟩ := ok.go t
  exact k v G3 H' t3 n3
theorem sx_cb {x : Str} {p : Pos} {id : String} {e : Expr} {l : List Expr} {F : DA} {r : List V → Hp → VK → Prop} {pf : List Dt → Option Ro} (ho : CallR X (.builtin id) r) (hb : CbS X.K r pf) (hm : X.mg x = none) (hv : bootBuiltins x = some (.builtin id)) (sa : Sa X (e :: l) F)
    (hg : Gl X x := by rfl) (hn : x ≠ "__name__" := by decide) (hd : (x == ("__debug__" : Str)) = false := by decide) (hst : starEach (e :: l) X.env = (false, eval e X.env) :: starEach l X.env := by rfl) (hpl : (backTo pos (starEach l X.env)).any (·.1) = false := by rfl) : Sx X (.Call (.Name x p) (e :: l) [] pos) (cbF pf F) := fun es r es' h => by
  obtain ⟨rs, ds, ro, h1, h3, h5, rfl⟩ := cbF_inv h
  exact pe_imp (pe_callB ho hg hm hv (sa _ _ _ h1) hn hd hst hpl) fun σ H Q q => tCB_go hb h3 h5 q
theorem sx_ty {x : Str} {p : Pos} {T : String} {e : Expr} {l : List Expr} {F : DA} {r : List V → Hp → VK → Prop} {pf : List Dt → Option Ro} (ho : CallR X (.type T) r) (hb : CbS X.K r pf) (hm : X.mg x = none) (hv : bootBuiltins x = some (.type T)) (sa : Sa X (e :: l) F)
    (hg : Gl X x := by rfl) (hn : x ≠ "__name__" := by decide) (hd : (x == ("__debug__" : Str)) = false := by decide) (hst : starEach (e :: l) X.env = (false, eval e X.env) :: starEach l X.env := by rfl) (hpl : (backTo pos (starEach l X.env)).any (·.1) = false := by rfl) : Sx X (.Call (.Name x p) (e :: l) [] pos) (cbF pf F) := fun es r es' h => by
  obtain ⟨rs, ds, ro, h1, h3, h5, rfl⟩ := cbF_inv h
  exact pe_imp (pe_callTy ho hg hm hv (sa _ _ _ h1) hn hd hst hpl) fun σ H Q q => tCB_go hb h3 h5 q
end
end PL

set_option Elab.async false
set_option linter.all false
set_option maxRecDepth 100000
set_option maxHeartbeats 1000000
/-! The pure layer, part C: tests, displays, slices, fields, statements, loops. -/
namespace PL
open PySem PySem.Spec PyProof.Rows L2

/-! ### tests -/
abbrev DT := Sls → Option (Bool × Sls)
def tTP (K : PySem.W.Frag) (es : Sls) (b : Bool) (es' : Sls) : TT := fun σ H Q => ∃ G, Sep K σ G H es ∧ ∀ G' H', Tr K σ G H es σ G' H' es' → Q b H'
def Tx (X : Cx) (e : Expr) (f : DT) : Prop := ∀ es b es', f es = some (b, es') → PT X e (tTP X.K es b es')
def Wx (X : Cx) (e : Expr) (f : DT) : Prop := ∀ es b es', f es = some (b, es') → PW X e (tTP X.K es b es')
theorem pw_imp {X : Cx} {e : Expr} {t t' : TT} (h : PW X e t) (i : ∀ σ H Q, t' σ H Q → t σ H Q) : PW X e t' := ⟨fun w pins s σ H Q I q => h.run w pins s σ H Q I (i σ H Q q)⟩
def truth : Dt → Option Bool
  | .non => some false
  | .bl b => some b
  | .int i => some (i != 0)
  | .str y => if y.length ≤ sizeLine then some ((y.length : Int) != 0) else none
  | .lst l => some (!l.isEmpty)
  | .tup l => some (!l.isEmpty)
  | _ => none
section
variable {K : PySem.W.Frag} {σ : St} {G H G' H' G2 H2 : Hp} {es es' es1 es2 : Sls} {v x y : V} {r r1 r2 : Rs} {d : Dt}
theorem Rq.lst {l : List Dt} (h : Rq K G H v (.lst l)) (le : Same G H) : ∃ a vs, v = .ref a ∧ H a = some (.lst vs) ∧ RpL K G vs l := by
  rcases h with h | ⟨a, o, rfl, ⟨ho, h2, h3⟩, h4⟩
  · cases h with
    | lst h1 h2 => exact ⟨_, _, rfl, le _ _ h1, h2⟩
  · cases h3 with
    | lst r =>
      cases h4
      exact ⟨a, _, rfl, h2, r⟩
    | dct r => cases h4
    | dcT r => cases h4
    | ob r => cases h4
theorem Rq.frl {l : List Dt} (h : Rq K G H v (.frl l)) (le : Same G H) : ∃ a vs, v = .ref a ∧ SqL K H a vs ∧ RpL K G vs l := by
  rcases h with h | ⟨a, o, rfl, ⟨ho, h2, h3⟩, h4⟩
  · cases h with
    | frl h1 h2 => exact ⟨_, _, rfl, le.seq h1, h2⟩
  · cases h3 <;> cases h4
theorem Rq.tup {l : List Dt} (h : Rq K G H v (.tup l)) (le : Same G H) : ∃ a vs, v = .ref a ∧ SqT K H a vs ∧ RpL K G vs l := by
  rcases h with h | ⟨a, o, rfl, ⟨ho, h2, h3⟩, h4⟩
  · cases h with
    | tup h1 h2 => exact ⟨_, _, rfl, sqt_same le h1, h2⟩
  · cases h3 <;> cases h4
theorem Rq.dct {l : List (Key × Dt)} (h : Rq K G H v (.dct l)) (le : Same G H) : ∃ a kvs, v = .ref a ∧ Rd H a (.dK kvs) ∧ RpA K G Key kvs l := by
  rcases h with h | ⟨a, o, rfl, ⟨ho, h2, h3⟩, h4⟩
  · cases h with
    | dct h1 h2 => exact ⟨_, _, rfl, rd_same le h1, h2⟩
  · cases h3 with
    | dct r =>
      cases h4
      exact ⟨a, _, rfl, .inl h2, r⟩
    | lst r => cases h4
    | dcT r => cases h4
    | ob r => cases h4
theorem Rq.dcT {l : List (List Key × Dt)} (h : Rq K G H v (.dcT l)) (le : Same G H) : ∃ a kvs, v = .ref a ∧ Rd H a (.dT kvs) ∧ RpA K G (List Key) kvs l := by
  rcases h with h | ⟨a, o, rfl, ⟨ho, h2, h3⟩, h4⟩
  · cases h with
    | dcT h1 h2 => exact ⟨_, _, rfl, rd_same le h1, h2⟩
  · cases h3 with
    | dcT r =>
      cases h4
      exact ⟨a, _, rfl, .inl h2, r⟩
    | lst r => cases h4
    | dct r => cases h4
    | ob r => cases h4
theorem Rq.ob {c : Str} {l : List (Str × Dt)} (h : Rq K G H v (.ob c l)) (le : Same G H) : ∃ a dx fs, v = .ref a ∧ H a = some (.ins (He.ga K c) dx fs) ∧ RpA K G Str fs l := by
  rcases h with h | ⟨a, o, rfl, ⟨ho, h2, h3⟩, h4⟩
  · cases h with
    | ob h1 h2 => exact ⟨_, _, _, rfl, le _ _ h1, h2⟩
  · cases h3 with
    | ob r =>
      cases h4
      exact ⟨a, _, _, rfl, h2, r⟩
    | lst r => cases h4
    | dct r => cases h4
    | dcT r => cases h4
theorem Rq.int {i : Int} (h : Rq K G H v (.int i)) : v = .int i := by
  rcases h with h | ⟨a, o, rfl, _, h4⟩
  · cases h; rfl
  · cases o <;> cases h4
theorem Rq.str {i : Str} (h : Rq K G H v (.str i)) : v = .str i := by
  rcases h with h | ⟨a, o, rfl, _, h4⟩
  · cases h; rfl
  · cases o <;> cases h4
theorem Rq.bl {i : Bool} (h : Rq K G H v (.bl i)) : v = .bl i := by
  rcases h with h | ⟨a, o, rfl, _, h4⟩
  · cases h; rfl
  · cases o <;> cases h4
theorem Rq.non (h : Rq K G H v .non) : v = .non := by
  rcases h with h | ⟨a, o, rfl, _, h4⟩
  · cases h; rfl
  · cases o <;> cases h4
theorem truth_ok (h : Rq K G H v d) (le : Same G H) {b : Bool} (e : truth d = some b) : TruV K v H b := by
  cases d with
  | non => cases e; rw [h.non]; rfl
  | bl c => cases e; rw [h.bl]; rfl
  | int i => cases e; rw [h.int]; rfl
  | str z =>
    rw [h.str]
    have e' : (if z.length ≤ sizeLine then some ((z.length : Int) != 0) else none) = some b := e
    split at e'
    · rename_i q
      cases e'
      exact ⟨q, rfl⟩
    · cases e'
  | lst l =>
    cases e
    obtain ⟨a, vs, rfl, h1, h2⟩ := h.lst le
    refine .inl ⟨vs, .inl (.inl h1), ?_⟩
    cases h2 <;> rfl
  | tup l =>
    cases e
    obtain ⟨a, vs, rfl, h1, h2⟩ := h.tup le
    refine .inr (.inl ⟨vs, h1, ?_⟩)
    cases h2 <;> rfl
  | frl l => cases e
  | dct l => cases e
  | dcT l => cases e
  | ob c l => cases e
end
section
variable {X : Cx} {a b c : Expr} {rest : List Expr} {f g h : DE} {t u w : DT} {pos : Pos}
/-- a comparison's truth -/
def boolF (f : DE) : DT := fun es => (f es).bind fun p => match p.1 with
  | .dat (.bl b) => some (b, p.2)
  | _ => none
theorem boolF_inv {f : DE} {es es' : Sls} {k : Bool} (h : boolF f es = some (k, es')) : f es = some (.dat (.bl k), es') := by
  obtain ⟨⟨r1, es1⟩, h1, h⟩ := Option.bind_eq_some_iff.mp h
  cases r1 with
  | dat d =>
    cases d with
    | bl b =>
      cases h
      exact h1
    | _ => cases h
  | _ => cases h
theorem tx_cmp {op : CmpOp} {r : R2} {pf : Dt → Dt → Option Ro} (ho : OpR X (compareOp op) r) (hb : BinS X.K r pf) (hm : behindInMarks op b = false) (sa : Sx X a f) (sb : Sx X b g) : Tx X (.Compare a [op] [b] pos) (boolF (opF pf f g)) := fun es k es' h => by
  obtain ⟨r1, es1, r2, d, e, ro, h1, h2, h3, h4, h5, h6⟩ := opF_inv (boolF_inv h)
  refine pt_imp (pt_cmpR ho (sa _ _ _ h1) (sb _ _ _ h2) hm) fun σ H Q q => ?_
  obtain ⟨G, S, kk⟩ := q
  refine tOp_go hb h3 h4 h5 ⟨G, S, fun v G' H' t n => ?_⟩
  rw [← h6] at n
  have n' : Rp X.K G' v (.bl k) := n
  cases n'
  exact ⟨k, rfl, kk G' H' t⟩
/-- any expression's truth -/
def truF (f : DE) : DT := fun es => (f es).bind fun p => (look p.2 p.1).bind fun d => (truth d).map fun b => (b, p.2)
theorem tx_val (sa : Sx X a f) (he : ∀ whole, isTrue a X.env whole = (do let v ← whole; standAt a.pos; holding [v] (truthy v)) := by intro _; rfl) : Tx X a (truF f) := fun es k es' h => by
  obtain ⟨⟨r1, es1⟩, h1, h⟩ := Option.bind_eq_some_iff.mp h
  obtain ⟨d, h2, h⟩ := Option.bind_eq_some_iff.mp h
  obtain ⟨b, h3, h⟩ := Option.map_eq_some_iff.mp h
  cases h
  refine pt_imp (pt_truth (sa _ _ _ h1) he) fun σ H Q q => ?_
  obtain ⟨G, S, kk⟩ := q
  exact ⟨G, S, fun v G' H' t n => ⟨k, truth_ok (n.rq t.sep h2) t.sep.le h3, kk G' H' t⟩⟩
def notF (t : DT) : DT := fun es => (t es).map fun p => (!p.1, p.2)
theorem tx_not (ht : Tx X a t) : Tx X (.UnaryOp .Not a pos) (notF t) := fun es k es' h => by
  obtain ⟨⟨b, es1⟩, h1, h⟩ := Option.map_eq_some_iff.mp h
  cases h
  exact pt_imp (pt_not (ht _ _ _ h1)) fun σ H Q q => q
def andF (t u : DT) : DT := fun es => (t es).bind fun p => match p.1 with
  | true => u p.2
  | false => some (false, p.2)
def orF (t u : DT) : DT := fun es => (t es).bind fun p => match p.1 with
  | true => some (true, p.2)
  | false => u p.2
theorem tx_w (h : Wx X a t) : Tx X a t := fun es k es' q => (h es k es' q).pt
theorem wx_and1 (h : Tx X a t) : Wx X (.BoolOp .And [a] pos) t := fun es k es' q => pw_and1 (h es k es' q)
theorem wx_or1 (h : Tx X a t) : Wx X (.BoolOp .Or [a] pos) t := fun es k es' q => pw_or1 (h es k es' q)
theorem pw_never {e : Expr} : PW X e fun _ _ _ => False := ⟨fun _ _ _ _ _ _ _ z => z.elim⟩
theorem wx_any (h : ∀ es k es', t es = some (k, es') → PW X a (tTP X.K es k es')) : Wx X a t := h
/-- the reading of all cases at once -/
def tTU (K : PySem.W.Frag) (t : DT) : TT := fun σ H Q => ∃ es b es', t es = some (b, es') ∧ tTP K es b es' σ H Q
theorem wxU (h : Wx X a t) : PW X a (tTU X.K t) := ⟨fun w pins s σ H Q I ⟨es, k, es', e, q⟩ => (h es k es' e).run w pins s σ H Q I q⟩
theorem txU (h : Tx X a t) : PT X a (tTU X.K t) := ⟨fun pins s σ H Q I ⟨es, k, es', e, q⟩ => (h es k es' e).run pins s σ H Q I q⟩
def tU (K : PySem.W.Frag) (f : DE) : TE := fun σ H Q => ∃ es r es', f es = some (r, es') ∧ tP K es r es' σ H Q
theorem sxU (h : Sx X a f) : PE X a (tU X.K f) := ⟨fun pins s σ H Q I ⟨es, k, es', e, q⟩ => (h es k es' e).run pins s σ H Q I q⟩
theorem wx_and (ht : Tx X a t) (hu : Wx X (.BoolOp .And (b :: rest) pos) u) : Wx X (.BoolOp .And (a :: b :: rest) pos) (andF t u) := fun es k es' h => by
  obtain ⟨⟨c, es1⟩, h1, h⟩ := Option.bind_eq_some_iff.mp h
  refine pw_imp (pw_and (ht _ _ _ h1) (wxU hu)) fun σ H Q q => ?_
  obtain ⟨G, S, kk⟩ := q
  refine ⟨G, S, fun G' H' t1 => ?_⟩
  cases c with
  | true =>
    show tTU X.K u σ H' Q
    exact ⟨es1, k, es', h, G', t1.sep, fun G2 H2 t2 => kk G2 H2 (t1.trans t2)⟩
  | false =>
    cases h
    exact kk G' H' t1
theorem wx_or (ht : Tx X a t) (hu : Wx X (.BoolOp .Or (b :: rest) pos) u) : Wx X (.BoolOp .Or (a :: b :: rest) pos) (orF t u) := fun es k es' h => by
  obtain ⟨⟨c, es1⟩, h1, h⟩ := Option.bind_eq_some_iff.mp h
  refine pw_imp (pw_or (ht _ _ _ h1) (wxU hu)) fun σ H Q q => ?_
  obtain ⟨G, S, kk⟩ := q
  refine ⟨G, S, fun G' H' t1 => ?_⟩
  cases c with
  | true =>
    cases h
    exact kk G' H' t1
  | false =>
    show tTU X.K u σ H' Q
    exact ⟨es1, k, es', h, G', t1.sep, fun G2 H2 t2 => kk G2 H2 (t1.trans t2)⟩
/-! ### and, or, not as values (bools) -/
def andVF (f g : DE) : DE := fun es => (f es).bind fun p => match p.1 with
  | .dat (.bl true) => g p.2
  | .dat (.bl false) => some (.dat (.bl false), p.2)
  | _ => none
def orVF (f g : DE) : DE := fun es => (f es).bind fun p => match p.1 with
  | .dat (.bl false) => g p.2
  | .dat (.bl true) => some (.dat (.bl true), p.2)
  | _ => none
theorem sx_one {op} (sa : Sx X a f) : Sx X (.BoolOp op [a] pos) f := fun es r es' h => pe_one (sa es r es' h)
theorem RN.later2 {K : PySem.W.Frag} {σ : St} {H H' G2 H2 : Hp} {es es' : Sls} {G G' : Hp} {v : V} {r : Rs} (t : Tr K σ G H es σ G' H' es') (n : RN K σ H' es' G2 H2 v r) : RN K σ H es' G2 H2 v r := n.back t
theorem sx_and (sa : Sx X a f) (sb : Sx X (.BoolOp .And (b :: rest) pos) g) : Sx X (.BoolOp .And (a :: b :: rest) pos) (andVF f g) := fun es r es' h => by
  obtain ⟨⟨r1, es1⟩, h1, h⟩ := Option.bind_eq_some_iff.mp h
  refine pe_imp (pe_and (sa _ _ _ h1) (sxU sb)) fun σ H Q q => ?_
  obtain ⟨G, S, kk⟩ := q
  refine ⟨G, S, fun v G' H' t1 n => ?_⟩
  cases r1 with
  | dat d =>
    cases d with
    | bl c =>
      have n' : Rp X.K G' v (.bl c) := n
      cases n'
      refine ⟨c, rfl, ?_⟩
      cases c with
      | true =>
        rw [if_pos rfl]
        exact ⟨es1, r, es', h, G', t1.sep, fun v2 G2 H2 t2 n2 => kk v2 G2 H2 (t1.trans t2) (n2.back t1)⟩
      | false =>
        cases h
        rw [if_neg Bool.false_ne_true]
        exact kk _ G' H' t1 n
    | _ => cases h
  | _ => cases h
theorem sx_or (sa : Sx X a f) (sb : Sx X (.BoolOp .Or (b :: rest) pos) g) : Sx X (.BoolOp .Or (a :: b :: rest) pos) (orVF f g) := fun es r es' h => by
  obtain ⟨⟨r1, es1⟩, h1, h⟩ := Option.bind_eq_some_iff.mp h
  refine pe_imp (pe_or (sa _ _ _ h1) (sxU sb)) fun σ H Q q => ?_
  obtain ⟨G, S, kk⟩ := q
  refine ⟨G, S, fun v G' H' t1 n => ?_⟩
  cases r1 with
  | dat d =>
    cases d with
    | bl c =>
      have n' : Rp X.K G' v (.bl c) := n
      cases n'
      refine ⟨c, rfl, ?_⟩
      cases c with
      | false =>
        rw [if_neg Bool.false_ne_true]
        exact ⟨es1, r, es', h, G', t1.sep, fun v2 G2 H2 t2 n2 => kk v2 G2 H2 (t1.trans t2) (n2.back t1)⟩
      | true =>
        cases h
        rw [if_pos rfl]
        exact kk _ G' H' t1 n
    | _ => cases h
  | _ => cases h
def notVF (f : DE) : DE := fun es => (f es).bind fun p => match p.1 with
  | .dat (.bl b) => some (.dat (.bl (!b)), p.2)
  | _ => none
theorem sx_not (sa : Sx X a f) : Sx X (.UnaryOp .Not a pos) (notVF f) := fun es r es' h => by
  obtain ⟨⟨r1, es1⟩, h1, h⟩ := Option.bind_eq_some_iff.mp h
  refine pe_imp (pe_not (sa _ _ _ h1)) fun σ H Q q => ?_
  obtain ⟨G, S, kk⟩ := q
  refine ⟨G, S, fun v G' H' t1 n => ?_⟩
  cases r1 with
  | dat d =>
    cases d with
    | bl k =>
      cases h
      have n' : Rp X.K G' v (.bl k) := n
      cases n'
      exact ⟨k, rfl, kk _ G' H' t1 (Rp.bl _)⟩
    | _ => cases h
  | _ => cases h
def ifF (t : DT) (f g : DE) : DE := fun es => (t es).bind fun p => match p.1 with
  | true => f p.2
  | false => g p.2
theorem sx_if (ht : Tx X c t) (sa : Sx X a f) (sb : Sx X b g) : Sx X (.IfExp c a b pos) (ifF t f g) := fun es r es' h => by
  obtain ⟨⟨k, es1⟩, h1, h⟩ := Option.bind_eq_some_iff.mp h
  refine pe_imp (pe_ifExp (ht _ _ _ h1) (sxU sa) (sxU sb)) fun σ H Q q => ?_
  obtain ⟨G, S, kk⟩ := q
  refine ⟨G, S, fun G' H' t1 => ?_⟩
  cases k with
  | true =>
    show tU X.K f σ H' Q
    exact ⟨es1, r, es', h, G', t1.sep, fun v2 G2 H2 t2 n2 => kk v2 G2 H2 (t1.trans t2) (n2.back t1)⟩
  | false =>
    show tU X.K g σ H' Q
    exact ⟨es1, r, es', h, G', t1.sep, fun v2 G2 H2 t2 n2 => kk v2 G2 H2 (t1.trans t2) (n2.back t1)⟩
end

/-! ### freezing a slot -/
section
variable {K : PySem.W.Frag} {σ : St} {G H G' H' G2 H2 : Hp} {es es' es1 es2 : Sls} {v x y : V} {r r1 r2 : Rs} {d : Dt}
theorem get_set {es : Sls} {i j : Nat} {e : Sl} : (es.set i e)[j]? = if i = j then (if j < es.length then some e else none) else es[j]? := by
  rw [List.getElem?_set]
  by_cases h : i = j
  · subst h
    simp
  · simp [h]
theorem owd_set_no {i : Nat} {a : Addr} {e : Sl} (he : e.ow = none) (h : Owd σ (es.set i e) a) : Owd σ es a := by
  obtain ⟨j, e', o, h1, h2, h3⟩ := h
  rw [get_set] at h1
  split at h1
  · split at h1
    · cases h1
      rw [he] at h2
      cases h2
    · cases h1
  · exact ⟨j, e', o, h1, h2, h3⟩
theorem Tr.forget (S : Sep K σ G H es) {i : Nat} (np : ∀ o, es[i]? ≠ some (.par o)) : Tr K σ G H es σ G H (es.set i .no) := by
  refine ⟨Same.refl G, ⟨S.le, by rw [List.length_set]; exact S.len, fun j e he => ?_, fun j k e e' o o' a h1 h2 h3 h4 h5 h6 => ?_⟩, fun _ _ h _ => h, fun _ _ h _ => h, fun _ h => .inl (owd_set_no rfl h), fun j o h => ⟨rfl, o, ?_⟩, fun _ h => h, by rw [List.length_set]⟩
  · rw [get_set] at he
    split at he
    · split at he
      · cases he
        trivial
      · cases he
    · exact S.ok j e he
  · rw [get_set] at h1 h2
    split at h1
    · split at h1
      · cases h1
        cases h3
      · cases h1
    · split at h2
      · split at h2
        · cases h2
          cases h4
        · cases h2
      · exact S.ne j k e e' o o' a h1 h2 h3 h4 h5 h6
  · rw [get_set, if_neg (fun z => np o (by rw [z]; exact h))]
    exact h
/-- an own object becomes a datum -/
theorem Tr.thaw (S : Sep K σ G H es) {i : Nat} {o : Ow} (h : es[i]? = some (.own o)) : ∃ G', Tr K σ G H es σ G' H (es.set i (.dat o.dt)) ∧ ∃ v, σ[i]? = some (some v) ∧ Rp K G' v o.dt := by
  obtain ⟨a, e1, e2, ho, e3, e4⟩ := S.ow h rfl
  have sm : Same G (upd G a ho) := same_new e2
  have hi : i < es.length := (List.getElem?_eq_some_iff.mp h).1
  have oth : ∀ j e u b, j ≠ i → es[j]? = some e → e.ow = some u → σ[j]? = some (some (.ref b)) → b ≠ a := fun j e u b hj h1 h2 h3 z => by
    subst z
    exact hj (S.ne j i e (.own o) u o b h1 h h2 rfl h3 e1)
  refine ⟨upd G a ho, ⟨sm, ⟨fun b u q => ?_, by rw [List.length_set]; exact S.len, fun j e he => ?_, fun j k e e' o o' a h1 h2 h3 h4 h5 h6 => ?_⟩, fun _ _ h _ => h, fun b hb hg hn => ?_, fun _ h => .inl (owd_set_no rfl h), fun j o' h' => ⟨rfl, o', ?_⟩, fun _ h => h, by rw [List.length_set]⟩, .ref a, e1, (e4.mono sm).rp upd_same⟩
  · by_cases hb : b = a
    · subst hb
      rw [upd_same] at q
      cases q
      exact e3
    · rw [upd_ne hb] at q
      exact S.le b u q
  · rw [get_set] at he
    split at he
    · rename_i hij
      subst hij
      rw [if_pos hi] at he
      cases he
      exact ⟨.ref a, e1, (e4.mono sm).rp upd_same⟩
    · rename_i hij
      have q := S.ok j e he
      cases e with
      | no => trivial
      | dat d =>
        obtain ⟨w, q1, q2⟩ := q
        exact ⟨w, q1, q2.mono sm⟩
      | own u =>
        obtain ⟨b, q1, q2, ho', q3, q4⟩ := q
        exact ⟨b, q1, by rw [upd_ne (oth j _ u b (Ne.symm hij) he rfl q1)]; exact q2, ho', q3, q4.mono sm⟩
      | par u =>
        obtain ⟨b, q1, q2, ho', q3, q4⟩ := q
        exact ⟨b, q1, by rw [upd_ne (oth j _ u b (Ne.symm hij) he rfl q1)]; exact q2, ho', q3, q4.mono sm⟩
  · rw [get_set] at h1 h2
    split at h1
    · split at h1
      · cases h1
        cases h3
      · cases h1
    · split at h2
      · split at h2
        · cases h2
          cases h4
        · cases h2
      · exact S.ne j k e e' o o' a h1 h2 h3 h4 h5 h6
  · have nb : b ≠ a := fun z => hn (by subst z; exact ⟨i, _, o, h, rfl, e1⟩)
    rw [upd_ne nb]
    exact hg
  · rw [get_set, if_neg (fun z => by subst z; rw [h] at h'; cases h')]
    exact h'
end
section
variable {X : Cx} {a b c : Expr} {rest : List Expr} {f g h : DE} {t u w : DT} {pos : Pos}
/-- a name whose object is a datum from here on -/
def vzF (i : Nat) : DE := fun es => match es[i]? with
  | some (.dat d) => some (.dat d, es)
  | some (.own o) => some (.dat o.dt, es.set i (.dat o.dt))
  | _ => none
theorem sx_vz (i : Nat) {x : Str} {pos : Pos} (hN : X.N[i]? = some x := by rfl) (hv : Vis X.env.scope x := by first | exact Or.inl rfl | exact Or.inr (Or.inl rfl) | exact Or.inr (Or.inr rfl)) (hd : (x == ("__debug__" : Str)) = false := by decide)
    (hcd : (x == ("__classdict__" : Str)) = false := by decide) : Sx X (.Name x pos) (vzF i) := fun es r es' h => pe_imp (pe_var hN hv hd hcd) fun σ H Q q => by
  obtain ⟨G, S, k⟩ := q
  unfold vzF at h
  split at h
  · rename_i d e
    cases h
    obtain ⟨v, e1, e2⟩ := S.dat e
    exact ⟨v, e1, k v G H (Tr.refl S) e2⟩
  · rename_i o e
    cases h
    obtain ⟨G', t, v, e1, e2⟩ := Tr.thaw S e
    exact ⟨v, e1, k v G' H t e2⟩
  · cases h

/-! ### displays -/
/-- what is handed in are data -/
def datas : List Rs → Option (List Dt)
  | [] => some []
  | .dat d :: rs => (datas rs).map fun ds => d :: ds
  | .new o :: rs => (datas rs).map fun ds => o.dt :: ds
  | .al _ :: _ => none
section
variable {K : PySem.W.Frag} {σ : St} {G H G' H' G2 H2 : Hp} {es es' es1 es2 : Sls} {v x y : V} {vs : List V} {rs : List Rs} {d : Dt}
/-- only the last one may be new -/
def Hd : List Rs → Prop
  | [] => True
  | [_] => True
  | r :: rs => r.fz = r ∧ Hd rs
/-- all frozen -/
theorem RNL.datas (t : Tr K σ G H es σ G' H' es') (h : RNL K σ H es' G' H' vs rs) (hd : Hd rs) {ds : List Dt} (e : datas rs = some ds) :
    ∃ G2, Same G' G2 ∧ Tr K σ G H es σ G2 H' es' ∧ RpL K G2 vs ds := by
  induction h generalizing ds with
  | nil =>
    cases e
    exact ⟨G', Same.refl _, t, .nil⟩
  | @cons v r vs rs a b ih =>
    cases rs with
    | nil =>
      cases b
      cases r with
      | dat d => cases e; exact ⟨G', Same.refl _, t, .cons a .nil⟩
      | new o =>
        cases e
        obtain ⟨p, rfl, h1, h2, ⟨ho, h3, h4⟩, h5⟩ := a
        obtain ⟨t2, q⟩ := t.freeze h1 h2 h3 h4 h5
        exact ⟨_, same_new h2, t2, .cons q .nil⟩
      | al i => cases e
    | cons r2 rs2 =>
      obtain ⟨f1, f2⟩ := hd
      cases r with
      | dat d =>
        obtain ⟨ds', h1, h2⟩ := Option.map_eq_some_iff.mp e
        subst h2
        obtain ⟨G2, sm, t2, n2⟩ := ih f2 h1
        exact ⟨G2, sm, t2, .cons (Rp.mono sm a) n2⟩
      | new o => cases f1
      | al i => cases e
end
/-- the arguments' results: only the last may be new -/
def HdF (F : DA) : Prop := ∀ es rs es', F es = some (rs, es') → Hd rs
theorem hd_nil : HdF aNil := fun es rs es' h => by cases h; trivial
theorem hd_one {f : DE} : HdF (aOne f) := fun es rs es' h => by
  obtain ⟨⟨r1, es1⟩, h1, h⟩ := Option.map_eq_some_iff.mp h
  cases h
  trivial
theorem fz_fz (r : Rs) : r.fz.fz = r.fz := by cases r <;> rfl
theorem hd_cons {f : DE} {g : DA} (hg : HdF g) : HdF (aCons f g) := fun es rs es' h => by
  obtain ⟨⟨r1, es1⟩, h1, h⟩ := Option.bind_eq_some_iff.mp h
  obtain ⟨⟨rs2, es2⟩, h2, h⟩ := Option.map_eq_some_iff.mp h
  cases h
  have q := hg _ _ _ h2
  cases rs2 with
  | nil => trivial
  | cons r rs => exact ⟨fz_fz r1, q⟩
def tupF (F : DA) : DE := fun es => (F es).bind fun p => (datas p.1).bind fun ds => if ds.length ≤ 100000 then some (.dat (.tup ds), p.2) else none
def lstF (F : DA) : DE := fun es => (F es).bind fun p => (datas p.1).bind fun ds => if ds.length ≤ 100000 then some (.new (.lst ds), p.2) else none
theorem sz100 {n : Nat} (h : n ≤ 100000) : n ≤ sizeLine := Nat.le_trans h (by decide)
theorem sx_tup {l : List Expr} {k} {F : DA} (sa : Sa X l F) (hd : HdF F) : Sx X (.Tuple l k pos) (tupF F) := fun es r es' h => by
  obtain ⟨⟨rs, es1⟩, h1, h⟩ := Option.bind_eq_some_iff.mp h
  obtain ⟨ds, h2, h⟩ := Option.bind_eq_some_iff.mp h
  split at h
  · rename_i hl
    cases h
    refine pe_imp (pe_tup (sa _ _ _ h1)) fun σ H Q q => ?_
    obtain ⟨G, S, kk⟩ := q
    refine ⟨G, S, fun vs G' H' t n => ?_⟩
    obtain ⟨G2, sm, t2, n2⟩ := n.datas t (hd _ _ _ h1) h2
    refine ⟨by rw [n2.length]; exact sz100 hl, fun p hp => ?_⟩
    obtain ⟨G3, t3, n3⟩ := RoOk.go (v := .ref p) (H2 := upd H' p (.tup vs)) (ro := .nt ds) t2 ⟨p, vs, rfl, hp, rfl, n2⟩
    exact kk _ G3 _ t3 n3
  · cases h
theorem sx_lst {l : List Expr} {F : DA} (sa : Sa X l F) (hd : HdF F) : Sx X (.List l pos) (lstF F) := fun es r es' h => by
  obtain ⟨⟨rs, es1⟩, h1, h⟩ := Option.bind_eq_some_iff.mp h
  obtain ⟨ds, h2, h⟩ := Option.bind_eq_some_iff.mp h
  split at h
  · rename_i hl
    cases h
    refine pe_imp (pe_lst (sa _ _ _ h1)) fun σ H Q q => ?_
    obtain ⟨G, S, kk⟩ := q
    refine ⟨G, S, fun vs G' H' t n => ?_⟩
    obtain ⟨G2, sm, t2, n2⟩ := n.datas t (hd _ _ _ h1) h2
    refine ⟨by rw [n2.length]; exact sz100 hl, fun p hp => ?_⟩
    obtain ⟨G3, t3, n3⟩ := RoOk.go (v := .ref p) (H2 := upd H' p (.lst vs)) (ro := .nw (.lst ds)) t2 ⟨p, .lst vs, rfl, hp, rfl, .lst n2⟩
    exact kk _ G3 _ t3 n3
  · cases h
theorem sx_dnew : Sx X (.Dict [] [] pos) (fun es => some (.new (.dct []), es)) := fun es r es' h => by
  cases h
  refine pe_imp pe_dnewK fun σ H Q q => ?_
  obtain ⟨G, S, kk⟩ := q
  intro p hp
  obtain ⟨G3, t3, n3⟩ := RoOk.go (v := .ref p) (H2 := upd H p (.dK [])) (ro := .nw (.dct [])) (Tr.refl S) ⟨p, .dK [], rfl, hp, rfl, .dct .nil⟩
  exact kk _ G3 _ t3 n3
theorem sx_dnewT : Sx X (.Dict [] [] pos) (fun es => some (.new (.dcT []), es)) := fun es r es' h => by
  cases h
  refine pe_imp pe_dnewT fun σ H Q q => ?_
  obtain ⟨G, S, kk⟩ := q
  intro p hp
  obtain ⟨G3, t3, n3⟩ := RoOk.go (v := .ref p) (H2 := upd H p (.dT [])) (ro := .nw (.dcT [])) (Tr.refl S) ⟨p, .dT [], rfl, hp, rfl, .dcT .nil⟩
  exact kk _ G3 _ t3 n3

/-! ### slices -/
abbrev DO := Sls → Option (Option Int × Sls)
def tOP (K : PySem.W.Frag) (es : Sls) (o : Option Int) (es' : Sls) : TO := fun σ H Q => ∃ G, Sep K σ G H es ∧ ∀ G' H', Tr K σ G H es σ G' H' es' → Q o H'
def Ox (X : Cx) (e : Option Expr) (f : DO) : Prop := ∀ es o es', f es = some (o, es') → PO X e (tOP X.K es o es')
theorem po_imp {e : Option Expr} {t t' : TO} (h : PO X e t) (i : ∀ σ H Q, t' σ H Q → t σ H Q) : PO X e t' := ⟨fun pins s σ H Q I q => h.run pins s σ H Q I (i σ H Q q)⟩
def oNone : DO := fun es => some (none, es)
def oSome (f : DE) : DO := fun es => (f es).bind fun p => match p.1 with
  | .dat (.int i) => some (some i, p.2)
  | _ => none
theorem ox_none : Ox X none oNone := fun es o es' h => by
  cases h
  exact po_imp po_none fun σ H Q ⟨G, S, kk⟩ => kk G H (Tr.refl S)
theorem ox_some (sa : Sx X a f) : Ox X (some a) (oSome f) := fun es o es' h => by
  obtain ⟨⟨r1, es1⟩, h1, h⟩ := Option.bind_eq_some_iff.mp h
  refine po_imp (po_some (sa _ _ _ h1)) fun σ H Q q => ?_
  obtain ⟨G, S, kk⟩ := q
  refine ⟨G, S, fun v G' H' t n => ?_⟩
  cases r1 with
  | dat d =>
    cases d with
    | int i =>
      cases h
      have n' : Rp X.K G' v (.int i) := n
      cases n'
      exact ⟨i, rfl, kk G' H' t⟩
    | _ => cases h
  | _ => cases h
def slF (pf : Dt → Option Int → Option Int → Option Ro) (f : DE) (l u : DO) : DE := fun es =>
  (f es).bind fun p => (l p.2).bind fun q => (u q.2).bind fun z => (look z.2 p.1.fz).bind fun d => (pf d q.1 z.1).map fun ro => (ro.rs, z.2)
def SlS (K : PySem.W.Frag) (r : V → Option Int → Option Int → Hp → VK → Prop) (pf : Dt → Option Int → Option Int → Option Ro) : Prop :=
  ∀ (G H : Hp) (x : V) (d : Dt) (lo hi : Option Int) (ro : Ro) (Q : VK), Same G H → Rq K G H x d → pf d lo hi = some ro → (∀ v H', RoOk K G H v H' ro → Q v H') → r x lo hi H Q
theorem sx_sl {lo hi : Option Expr} {l u : DO} {p2 : Pos} {r : V → Option Int → Option Int → Hp → VK → Prop} {pf : Dt → Option Int → Option Int → Option Ro} (ho : SlR X r) (hb : SlS X.K r pf) (sa : Sx X a f) (sl : Ox X lo l) (su : Ox X hi u) :
    Sx X (.Subscript a (.Slice lo hi none p2) pos) (slF pf f l u) := fun es r0 es' h => by
  obtain ⟨⟨r1, es1⟩, h1, h⟩ := Option.bind_eq_some_iff.mp h
  obtain ⟨⟨i, es2⟩, h2, h⟩ := Option.bind_eq_some_iff.mp h
  obtain ⟨⟨j, es3⟩, h3, h⟩ := Option.bind_eq_some_iff.mp h
  obtain ⟨d, h4, h⟩ := Option.bind_eq_some_iff.mp h
  obtain ⟨ro, h5, h⟩ := Option.map_eq_some_iff.mp h
  cases h
  refine pe_imp (pe_slice ho (sa _ _ _ h1) (sl _ _ _ h2) (su _ _ _ h3)) fun σ H Q q => ?_
  obtain ⟨G, S, kk⟩ := q
  refine ⟨G, S, fun v G1 H1 t n => ?_⟩
  obtain ⟨G1', t1, n1⟩ := n.fz t
  refine ⟨G1', t1.sep, fun G2 H2 t2 => ⟨G2, t2.sep, fun G3 H3 t3 => ?_⟩⟩
  have t4 := t2.trans t3
  have t5 := t1.trans t4
  refine hb G3 H3 v d i j ro Q t5.sep.le ((n1.later t4).rq t5.sep h4) h5 fun w H' ok => ?_
  obtain ⟨G4, t6, n6⟩ := ok.go t5
  exact kk w G4 H' t6 n6

/-! ### fields -/
theorem RpA.lookup {K : PySem.W.Frag} {G : Hp} : ∀ {fs : List (Str × V)} {ds : List (Str × Dt)} {x : Str} {d : Dt}, RpA K G Str fs ds → ds.lookup x = some d → ∃ v, fs.lookup x = some v ∧ Rp K G v d
  | _, _, _, _, .nil, e => by cases e
  | _, _, x, d, .cons (k := k) h r, e => by
    rw [List.lookup_cons] at e ⊢
    cases q : x == k with
    | true =>
      rw [q] at e
      cases e
      exact ⟨_, rfl, h⟩
    | false =>
      rw [q] at e
      exact RpA.lookup r e
def attP (c x : Str) : Dt → Option Ro
  | .ob c' l => if c' = c then (l.lookup x).map .val else none
  | _ => none
theorem sx_att {x : Str} (c : Str) (hc : Cls X.K (He.ga X.K c)) (hn : NoAttr X.K (He.ga X.K c) x) (sa : Sx X a f) (hb : attributeBase a x X.env (eval a X.env) = eval a X.env := by rfl) : Sx X (.Attribute a x pos) (unF (attP c x) f) := fun es r es' h => by
  obtain ⟨r1, d, ro, h1, h3, h5, rfl⟩ := unF_inv h
  refine pe_imp (pe_fld (sa _ _ _ h1) hb) fun σ H Q q => tUn_go (r := fun x1 H1 Q => ∃ a C dx fs v, x1 = .ref a ∧ H1 a = some (.ins C dx fs) ∧ Cls X.K C ∧ NoAttr X.K C x ∧ fs.lookup x = some v ∧ Q v H1) (fun G H y e ro Q le rq hp k => ?_) h3 h5 q
  cases e with
  | ob c' l =>
    have hp' : (if c' = c then (l.lookup x).map Ro.val else none) = some ro := hp
    split at hp'
    · rename_i ec
      subst ec
      obtain ⟨d', e1, e2⟩ := Option.map_eq_some_iff.mp hp'
      subst e2
      obtain ⟨b, dx, fs, rfl, q1, q2⟩ := rq.ob le
      obtain ⟨w, q3, q4⟩ := q2.lookup e1
      exact ⟨b, _, dx, fs, w, rfl, q1, hc, hn, q3, k w H ⟨rfl, q4⟩⟩
    · cases hp'
  | _ => cases hp
end
end PL

set_option Elab.async false
set_option linter.all false
set_option maxRecDepth 100000
set_option maxHeartbeats 1000000
/-! The pure layer, part D: statements, targets, loops. -/
namespace PL
open PySem PySem.Spec PyProof.Rows L2

inductive Fl where
  | nx
  | bk
  | ct
  | ret (r : Rs)
abbrev DS := Sls → Option (Fl × Sls)
/-- what is returned: a datum, or an object of one's own, given up -/
def RT (K : PySem.W.Frag) (σ : St) (H : Hp) (es : Sls) (σ' : St) (es' : Sls) (G' H' : Hp) (v : V) : Rs → Prop
  | .dat d => Rp K G' v d
  | .al _ => False
  | .new o => ∃ p, v = .ref p ∧ G' p = none ∧ OwAt K G' H' p o ∧ ¬ Owd σ' es' p ∧ (Owd σ es p ∨ H p = none)
def Aim (K : PySem.W.Frag) (σ : St) (H : Hp) (es : Sls) (D : Ends) (σ' : St) (es' : Sls) (G' H' : Hp) : Fl → Prop
  | .nx => D.nx σ' H'
  | .bk => D.bk σ' H'
  | .ct => D.ct σ' H'
  | .ret r => ∀ v, RT K σ H es σ' es' G' H' v r → D.rt v H'
def tSP (K : PySem.W.Frag) (es : Sls) (fl : Fl) (es' : Sls) : TS := fun D σ H => ∃ G, Sep K σ G H es ∧ ∀ σ' G' H', Tr K σ G H es σ' G' H' es' → Aim K σ H es D σ' es' G' H' fl
def Px (X : Cx) (s : Stmt) (f : DS) : Prop := ∀ es fl es', f es = some (fl, es') → PS X s (tSP X.K es fl es')
def Bx (X : Cx) (s : List Stmt) (f : DS) : Prop := ∀ es fl es', f es = some (fl, es') → PSs X s (tSP X.K es fl es')
/-- all cases at once -/
def tSU (K : PySem.W.Frag) (f : DS) : TS := fun D σ H => ∃ es fl es', f es = some (fl, es') ∧ tSP K es fl es' D σ H
section
variable {X : Cx} {s : Stmt} {l : List Stmt} {f g : DS}
theorem pxU (h : Px X s f) : PS X s (tSU X.K f) := ⟨fun pins s σ H D I ⟨es, k, es', e, q⟩ => (h es k es' e).run pins s σ H D I q⟩
theorem bxU (h : Bx X l f) : PSs X l (tSU X.K f) := ⟨fun pins s σ H D I ⟨es, k, es', e, q⟩ => (h es k es' e).run pins s σ H D I q⟩
end
section
variable {K : PySem.W.Frag} {σ σ' σ2 : St} {G H G' H' G2 H2 : Hp} {es es' es1 es2 : Sls} {v x y : V} {r : Rs} {D D' : Ends} {fl : Fl}
theorem RT.back (t : Tr K σ G H es σ' G' H' es') (h : RT K σ' H' es' σ2 es2 G2 H2 v r) : RT K σ H es σ2 es2 G2 H2 v r := by
  cases r with
  | dat d => exact h
  | al i => exact h
  | new o =>
    obtain ⟨p, h1, h2, h3, h4, h5⟩ := h
    exact ⟨p, h1, h2, h3, h4, h5.elim (fun z => t.own p z) fun z => .inr (t.fresh z)⟩
theorem Aim.back (t : Tr K σ G H es σ' G' H' es') (h : Aim K σ H es D σ2 es2 G2 H2 fl) (hn : D'.nx = D.nx) (hb : D'.bk = D.bk) (hc : D'.ct = D.ct) (hr : D'.rt = D.rt) : Aim K σ' H' es' D' σ2 es2 G2 H2 fl := by
  cases fl with
  | nx => show D'.nx _ _; rw [hn]; exact h
  | bk => show D'.bk _ _; rw [hb]; exact h
  | ct => show D'.ct _ _; rw [hc]; exact h
  | ret r => intro v q; show D'.rt _ _; rw [hr]; exact h v (q.back t)
/-- the rest of the way -/
theorem tSP.rest {q : Aim K σ H es D σ2 es2 G2 H2 fl} : True := trivial
theorem tSP_of (t : Tr K σ G H es σ' G' H' es1) (k : ∀ σ2 G2 H2, Tr K σ G H es σ2 G2 H2 es2 → Aim K σ H es D σ2 es2 G2 H2 fl) : tSP K es1 fl es2 D σ' H' :=
  ⟨G', t.sep, fun σ2 G2 H2 t2 => (k σ2 G2 H2 (t.trans t2)).back t rfl rfl rfl rfl⟩
/-- a slot is stored -/
theorem Tr.store (t : Tr K σ G H es σ' G' H' es1) {i : Nat} (hi : i < es1.length) (np : ∀ o, es1[i]? ≠ some (.par o)) {v : V} {e : Sl} (ok : SlOk K G' H' (some (some v)) e) (np2 : ∀ o, e ≠ .par o)
    (fresh : ∀ o p, e.ow = some o → v = .ref p → ¬ Owd σ' es1 p ∧ (Owd σ es p ∨ H p = none)) : Tr K σ G H es (σ'.set i (some v)) G' H' (es1.set i e) := by
  have hσ : i < σ'.length := by rw [t.sep.len]; exact hi
  have gets : ∀ j, (σ'.set i (some v))[j]? = if i = j then some (some v) else σ'[j]? := fun j => by
    rw [List.getElem?_set]
    by_cases h : i = j
    · subst h
      simp [hσ]
    · simp [h]
  refine ⟨t.g, ⟨t.sep.le, by rw [List.length_set, List.length_set]; exact t.sep.len, fun j e' he => ?_, fun j k e1 e2 o o' a h1 h2 h3 h4 h5 h6 => ?_⟩, t.keep, t.out, fun a q => ?_, fun j o h => ?_, t.alive, by rw [List.length_set]; exact t.len⟩
  · rw [get_set] at he
    rw [gets]
    split at he
    · rename_i hij
      subst hij
      rw [if_pos hi] at he
      cases he
      rw [if_pos rfl]
      exact ok
    · rename_i hij
      rw [if_neg hij]
      exact t.sep.ok j e' he
  · rw [get_set] at h1 h2
    rw [gets] at h5 h6
    by_cases hj : i = j
    · by_cases hk : i = k
      · exact hj.symm.trans hk
      · rw [if_pos hj] at h1 h5
        rw [if_neg hk] at h2 h6
        split at h1
        · cases h1
          cases h5
          exact absurd ⟨k, e2, o', h2, h4, h6⟩ (fresh o a h3 rfl).1
        · cases h1
    · by_cases hk : i = k
      · rw [if_neg hj] at h1 h5
        rw [if_pos hk] at h2 h6
        split at h2
        · cases h2
          cases h6
          exact absurd ⟨j, e1, o, h1, h3, h5⟩ (fresh o' a h4 rfl).1
        · cases h2
      · rw [if_neg hj] at h1 h5
        rw [if_neg hk] at h2 h6
        exact t.sep.ne j k e1 e2 o o' a h1 h2 h3 h4 h5 h6
  · obtain ⟨j, e', o, h1, h2, h3⟩ := q
    rw [get_set] at h1
    rw [gets] at h3
    by_cases hj : i = j
    · rw [if_pos hj] at h1 h3
      split at h1
      · cases h1
        cases h3
        exact (fresh o a h2 rfl).2
      · cases h1
    · rw [if_neg hj] at h1 h3
      exact t.own a ⟨j, e', o, h1, h2, h3⟩
  · obtain ⟨e1, o', e2⟩ := t.par j o h
    have hj : i ≠ j := fun z => np o' (by rw [z]; exact e2)
    refine ⟨by rw [gets, if_neg hj]; exact e1, o', by rw [get_set, if_neg hj]; exact e2⟩
/-- the datum of a slot is stored -/
theorem Tr.storeD (t : Tr K σ G H es σ' G' H' es1) {i : Nat} (hi : i < es1.length) (np : ∀ o, es1[i]? ≠ some (.par o)) {v : V} {d : Dt} (ok : Rp K G' v d) : Tr K σ G H es (σ'.set i (some v)) G' H' (es1.set i (.dat d)) :=
  t.store hi np ⟨v, rfl, ok⟩ (fun _ z => nomatch z) fun _ _ z => nomatch z
end

/-! ### blocks -/
section
variable {X : Cx} {s : Stmt} {l l2 : List Stmt} {f g : DS} {e c : Expr} {F : DE} {t : DT} {pos : Pos}
def nilB : DS := fun es => some (.nx, es)
def seqB (f g : DS) : DS := fun es => (f es).bind fun p => match p.1 with
  | .nx => g p.2
  | fl => some (fl, p.2)
theorem bx_nil : Bx X [] nilB := fun es fl es' h => by
  cases h
  exact pss_imp pss_nil fun D σ H ⟨G, S, k⟩ => k σ G H (Tr.refl S)
theorem bx_one (h : Px X s f) : Bx X [s] f := fun es fl es' q => pss_one (h es fl es' q)
theorem bx_cons (h1 : Px X s f) (h2 : Bx X l g) : Bx X (s :: l) (seqB f g) := fun es fl es' h => by
  obtain ⟨⟨fl1, es1⟩, q1, h⟩ := Option.bind_eq_some_iff.mp h
  refine pss_imp (pss_cons (h1 _ _ _ q1) (bxU h2)) fun D σ H q => ?_
  obtain ⟨G, S, k⟩ := q
  refine ⟨G, S, fun σ' G' H' t => ?_⟩
  cases fl1 with
  | nx => exact ⟨es1, fl, es', h, tSP_of t k⟩
  | bk => cases h; exact k σ' G' H' t
  | ct => cases h; exact k σ' G' H' t
  | ret r => cases h; exact k σ' G' H' t
theorem px_pass : Px X (.Pass pos) nilB := fun es fl es' h => by
  cases h
  exact ps_imp ps_pass fun D σ H ⟨G, S, k⟩ => k σ G H (Tr.refl S)
theorem px_break : Px X (.Break pos) (fun es => some (.bk, es)) := fun es fl es' h => by
  cases h
  exact ps_imp ps_break fun D σ H ⟨G, S, k⟩ => k σ G H (Tr.refl S)
theorem px_continue : Px X (.Continue pos) (fun es => some (.ct, es)) := fun es fl es' h => by
  cases h
  exact ps_imp ps_continue fun D σ H ⟨G, S, k⟩ => k σ G H (Tr.refl S)
/-- what the run never comes to -/
def neverB : DS := fun _ => none
theorem px_never : Px X s neverB := fun _ _ _ h => nomatch h
theorem bx_never : Bx X l neverB := fun _ _ _ h => nomatch h
def exprB (F : DE) : DS := fun es => (F es).map fun p => (.nx, p.2)
theorem px_expr (h : Sx X e F) (hs : swapsWith e none pos.line X.env = pure false := by rfl) : Px X (.Expr e pos) (exprB F) := fun es fl es' q => by
  obtain ⟨⟨r, es1⟩, q1, q⟩ := Option.map_eq_some_iff.mp q
  cases q
  exact ps_imp (ps_expr (h _ _ _ q1) hs) fun D σ H ⟨G, S, k⟩ => ⟨G, S, fun v G' H' t _ => k σ G' H' t⟩
def ifB (t : DT) (f g : DS) : DS := fun es => (t es).bind fun p => match p.1 with
  | true => f p.2
  | false => g p.2
theorem px_if (hc : Tx X c t) (h1 : Bx X l f) (h2 : Bx X l2 g) : Px X (.If c l l2 pos) (ifB t f g) := fun es fl es' h => by
  obtain ⟨⟨b, es1⟩, q1, h⟩ := Option.bind_eq_some_iff.mp h
  refine ps_imp (ps_if (hc _ _ _ q1) (bxU h1) (bxU h2)) fun D σ H q => ?_
  obtain ⟨G, S, k⟩ := q
  refine ⟨G, S, fun G' H' t => ?_⟩
  cases b with
  | true =>
    show tSU X.K f D σ H'
    exact ⟨es1, fl, es', h, tSP_of t k⟩
  | false =>
    show tSU X.K g D σ H'
    exact ⟨es1, fl, es', h, tSP_of t k⟩
/-! ### return -/
def retB (F : DE) : DS := fun es => (F es).bind fun p => match p.1 with
  | .dat d => some (.ret (.dat d), p.2)
  | .new o => some (.ret (.new o), p.2)
  | .al i => match p.2[i]? with
    | some (.own o) => some (.ret (.new o), p.2.set i .no)
    | some (.dat d) => some (.ret (.dat d), p.2)
    | _ => none
theorem px_ret (h : Sx X e F) : Px X (.Return (some e) pos) (retB F) := fun es fl es' q => by
  obtain ⟨⟨r, es1⟩, q1, q⟩ := Option.bind_eq_some_iff.mp q
  refine ps_imp (ps_ret (h _ _ _ q1)) fun D σ H ⟨G, S, k⟩ => ⟨G, S, fun v G' H' t n => ?_⟩
  cases r with
  | dat d =>
    cases q
    exact k σ G' H' t v n
  | new o =>
    cases q
    obtain ⟨p, e1, h1, h2, h3, h4⟩ := n
    exact k σ G' H' t v ⟨p, e1, h2, h3, h4, .inr h1⟩
  | al i =>
    have n' : σ[i]? = some (some v) := n
    have q' : (match es1[i]? with
      | some (.own o) => some (Fl.ret (.new o), es1.set i .no)
      | some (.dat d) => some (.ret (.dat d), es1)
      | _ => none) = some (fl, es') := q
    split at q'
    · rename_i o ei
      cases q'
      obtain ⟨a, e1, e2, e3⟩ := t.sep.ow ei rfl
      rw [n'] at e1
      cases e1
      have t2 := t.trans (Tr.forget t.sep (i := i) fun o' z => by rw [ei] at z; cases z)
      refine k σ G' H' t2 _ ⟨a, rfl, e2, e3, fun z => ?_, t.own a ⟨i, _, o, ei, rfl, n'⟩⟩
      obtain ⟨j, e', o', w1, w2, w3⟩ := z
      rw [get_set] at w1
      split at w1
      · split at w1
        · cases w1
          cases w2
        · cases w1
      · rename_i hij
        exact hij (t.sep.ne i j _ e' o o' a ei w1 rfl w2 n' w3)
    · rename_i d ei
      cases q'
      obtain ⟨w, e1, e2⟩ := t.sep.dat ei
      rw [n'] at e1
      cases e1
      exact k σ G' H' t v e2
    · cases q'
theorem px_retN : Px X (.Return none pos) (fun es => some (.ret (.dat .non), es)) := fun es fl es' h => by
  cases h
  exact ps_imp ps_retN fun D σ H ⟨G, S, k⟩ => k σ G H (Tr.refl S) .non .non

/-! ### name = value -/
def noPar (es : Sls) (i : Nat) : Bool := match es[i]? with
  | some (.par _) => false
  | some _ => true
  | none => false
theorem noPar_ok {es : Sls} {i : Nat} (h : noPar es i = true) : i < es.length ∧ ∀ o, es[i]? ≠ some (.par o) := by
  unfold noPar at h
  split at h
  · cases h
  · rename_i e h1 h2
    exact ⟨(List.getElem?_eq_some_iff.mp h2).1, fun o z => h1 o (by rw [h2] at z; exact Option.some.inj z)⟩
  · cases h
/-- x = e: an object of its own stays one -/
def setB (i : Nat) (F : DE) : DS := fun es => (F es).bind fun p => match noPar p.2 i with
  | true => (match p.1 with
    | .dat d => some (.nx, p.2.set i (.dat d))
    | .new o => some (.nx, p.2.set i (.own o))
    | .al _ => none)
  | false => none
/-- x = e: frozen -/
def setZ (i : Nat) (F : DE) : DS := fun es => (F es).bind fun p => match noPar p.2 i with
  | true => (match p.1 with
    | .dat d => some (.nx, p.2.set i (.dat d))
    | .new o => some (.nx, p.2.set i (.dat o.dt))
    | .al _ => none)
  | false => none
/-- what a store of a result does -/
theorem RN.storeZ {K : PySem.W.Frag} {σ : St} {G H G' H' : Hp} {es es1 : Sls} {v : V} {r : Rs} {i : Nat} (t : Tr K σ G H es σ G' H' es1) (n : RN K σ H es1 G' H' v r) (np : noPar es1 i = true) {d : Dt} (hd : r.fz = .dat d) :
    ∃ G2, Tr K σ G H es (σ.set i (some v)) G2 H' (es1.set i (.dat d)) := by
  obtain ⟨hi, hp⟩ := noPar_ok np
  obtain ⟨G2, t2, n2⟩ := n.fz t
  rw [hd] at n2
  exact ⟨G2, t2.storeD hi hp n2⟩
theorem px_set {i : Nat} {x : Str} {pos' : Pos} (hN : X.N.Nodup) (he : Sx X e F) (hi : X.N[i]? = some x := by rfl) (hx : Loc X.env.scope x := by first | exact Or.inl rfl | exact Or.inr rfl) (hs : swapsWith e (some (.Name x pos')) pos.line X.env = pure false := by rfl)
    (hf : X.fn x = true ∨ X.env.scope.names.lookup x = some .local := by first | exact .inl rfl | exact .inr rfl) : Px X (.Assign [.Name x pos'] e pos) (setB i F) := fun es fl es' q => by
  obtain ⟨⟨r, es1⟩, q1, q⟩ := Option.bind_eq_some_iff.mp q
  refine ps_imp (ps_set hN hi hx (he _ _ _ q1) hs hf) fun D σ H ⟨G, S, k⟩ => ⟨G, S, fun v G' H' t n => ?_⟩
  dsimp only at q
  cases hp : noPar es1 i with
  | false => rw [hp] at q; cases q
  | true =>
    rw [hp] at q
    obtain ⟨h1, h2⟩ := noPar_ok hp
    cases r with
    | dat d =>
      cases q
      exact k _ G' H' (t.storeD h1 h2 n)
    | al j => cases q
    | new o =>
      cases q
      obtain ⟨p, rfl, w1, w2, w3, w4⟩ := n
      refine k _ G' H' (t.store h1 h2 (e := .own o) ⟨p, rfl, w2, w3⟩ (fun _ z => nomatch z) fun o' p' e1 e2 => ?_)
      cases e2
      exact ⟨w4, .inr w1⟩
theorem px_setZ {i : Nat} {x : Str} {pos' : Pos} (hN : X.N.Nodup) (he : Sx X e F) (hi : X.N[i]? = some x := by rfl) (hx : Loc X.env.scope x := by first | exact Or.inl rfl | exact Or.inr rfl) (hs : swapsWith e (some (.Name x pos')) pos.line X.env = pure false := by rfl)
    (hf : X.fn x = true ∨ X.env.scope.names.lookup x = some .local := by first | exact .inl rfl | exact .inr rfl) : Px X (.Assign [.Name x pos'] e pos) (setZ i F) := fun es fl es' q => by
  obtain ⟨⟨r, es1⟩, q1, q⟩ := Option.bind_eq_some_iff.mp q
  refine ps_imp (ps_set hN hi hx (he _ _ _ q1) hs hf) fun D σ H ⟨G, S, k⟩ => ⟨G, S, fun v G' H' t n => ?_⟩
  dsimp only at q
  cases hp : noPar es1 i with
  | false => rw [hp] at q; cases q
  | true =>
    rw [hp] at q
    cases r with
    | dat d =>
      cases q
      obtain ⟨G2, t2⟩ := n.storeZ t hp rfl
      exact k _ G2 H' t2
    | al j => cases q
    | new o =>
      cases q
      obtain ⟨G2, t2⟩ := n.storeZ t hp rfl
      exact k _ G2 H' t2

/-! ### targets, by data -/
abbrev DG := Dt → Sls → Option Sls
/-- ws: the slots that it stores -/
def tGP (K : PySem.W.Frag) (ws : List Nat) (d : Dt) (es es' : Sls) : TG := fun v σ H Q => ∃ G, Sep K σ G H es ∧ Rp K G v d ∧ ∀ σ' G' H', Tr K σ G H es σ' G' H' es' → (∀ k, k ∉ ws → σ'[k]? = σ[k]?) → Q σ' H'
def Gx (X : Cx) (tg : Expr) (ws : List Nat) (g : DG) : Prop := ∀ d es es', g d es = some es' → PG X tg (tGP X.K ws d es es')
def tGU (K : PySem.W.Frag) (ws : List Nat) (g : DG) : TG := fun v σ H Q => ∃ d es es', g d es = some es' ∧ tGP K ws d es es' v σ H Q
theorem gxU {tg : Expr} {ws : List Nat} {g : DG} (h : Gx X tg ws g) : PG X tg (tGU X.K ws g) := ⟨fun pins s σ H v u Q I r ⟨d, es, es', e, q⟩ => (h d es es' e).run pins s σ H v u Q I r q⟩
theorem pg_imp {tg : Expr} {t t' : TG} (h : PG X tg t) (i : ∀ v σ H Q, t' v σ H Q → t v σ H Q) : PG X tg t' := ⟨fun pins s σ H v u Q I r q => h.run pins s σ H v u Q I r (i v σ H Q q)⟩
def gN (i : Nat) : DG := fun d es => match noPar es i with
  | true => some (es.set i (.dat d))
  | false => none
theorem gx_n {i : Nat} {x : Str} (hN : X.N.Nodup) (hi : X.N[i]? = some x := by rfl) (hx : Loc X.env.scope x := by first | exact Or.inl rfl | exact Or.inr rfl) (hf : X.fn x = true ∨ X.env.scope.names.lookup x = some .local := by first | exact .inl rfl | exact .inr rfl) : Gx X (.Name x pos) [i] (gN i) := fun d es es' h => by
  refine pg_imp (pg_name hN hi hx hf) fun v σ H Q ⟨G, S, r, k⟩ => ?_
  unfold gN at h
  split at h
  · rename_i hp
    cases h
    obtain ⟨h1, h2⟩ := noPar_ok hp
    refine k _ G H ((Tr.refl S).storeD h1 h2 r) fun k' hk => List.getElem?_set_ne (fun z => hk (by rw [z]; exact List.mem_singleton.mpr rfl))
  · cases h
/-- several -/
abbrev DGs := List Dt → Sls → Option Sls
def tGsP (K : PySem.W.Frag) (ws : List Nat) (ds : List Dt) (es es' : Sls) : TGs := fun vs σ H Q => ∃ G, Sep K σ G H es ∧ RpL K G vs ds ∧ ∀ σ' G' H', Tr K σ G H es σ' G' H' es' → (∀ k, k ∉ ws → σ'[k]? = σ[k]?) → Q σ' H'
def Gsx (X : Cx) (tgs : List Expr) (ws : List Nat) (g : DGs) : Prop := ∀ ds es es', g ds es = some es' → PGs X tgs (tGsP X.K ws ds es es')
theorem pgs_imp {tgs : List Expr} {t t' : TGs} (h : PGs X tgs t) (i : ∀ v σ H Q, t' v σ H Q → t v σ H Q) : PGs X tgs t' := ⟨fun pins s σ H v u Q I r q => h.run pins s σ H v u Q I r (i v σ H Q q)⟩
def gsNil : DGs := fun ds es => match ds with
  | [] => some es
  | _ => none
def gsCons (g : DG) (gs : DGs) : DGs := fun ds es => match ds with
  | d :: ds => (g d es).bind fun es1 => gs ds es1
  | [] => none
theorem gsx_nil : Gsx X [] [] gsNil := fun ds es es' h => pgs_imp pgs_nil fun v σ H Q ⟨G, S, r, k⟩ => by
  cases ds with
  | nil =>
    cases h
    cases r
    exact ⟨rfl, k σ G H (Tr.refl S) fun _ _ => rfl⟩
  | cons _ _ => cases h
def tGsU (K : PySem.W.Frag) (ws : List Nat) (g : DGs) : TGs := fun v σ H Q => ∃ d es es', g d es = some es' ∧ tGsP K ws d es es' v σ H Q
theorem gsxU {tgs : List Expr} {ws : List Nat} {g : DGs} (h : Gsx X tgs ws g) : PGs X tgs (tGsU X.K ws g) := ⟨fun pins s σ H v u Q I r ⟨d, es, es', e, q⟩ => (h d es es' e).run pins s σ H v u Q I r q⟩
theorem gsx_cons {tg : Expr} {tgs : List Expr} {ws wt : List Nat} {g : DG} {gs : DGs} (h1 : Gx X tg ws g) (h2 : Gsx X tgs wt gs) (hs : (assignEach (tg :: tgs) X.env).map (·.2) = assign tg X.env :: (assignEach tgs X.env).map (·.2) := by rfl) : Gsx X (tg :: tgs) (ws ++ wt) (gsCons g gs) := fun ds es es' h => by
  cases ds with
  | nil => cases h
  | cons d ds =>
    obtain ⟨es1, e1, h⟩ := Option.bind_eq_some_iff.mp h
    refine pgs_imp (pgs_cons (h1 _ _ _ e1) (gsxU h2) hs) fun v σ H Q ⟨G, S, r, k⟩ => ?_
    cases r with
    | cons r1 r2 => exact ⟨_, _, rfl, G, S, r1, fun σ' G' H' t hw => ⟨ds, es1, es', h, G', t.sep, r2.mono t.g, fun σ2 G2 H2 t2 hw2 => k σ2 G2 H2 (t.trans t2) fun m hm => (hw2 m fun z => hm (List.mem_append_right _ z)).trans (hw m fun z => hm (List.mem_append_left _ z))⟩⟩
def gT (n : Nat) (gs : DGs) : DG := fun d es => match d with
  | .tup l => if l.length = n then gs l es else none
  | _ => none
theorem gx_t {l : List Expr} {k} {gs : DGs} {n : Nat} {ws : List Nat} (hc : X.calm = true) (h : Gsx X l ws gs) (hn : (assignEach l X.env).length = n := by rfl) (hst : (assignEach l X.env).findIdx? (·.1) = none := by rfl) : Gx X (.Tuple l k pos) ws (gT n gs) := fun d es es' q => by
  cases d with
  | tup ds =>
    have q' : (if ds.length = n then gs ds es else none) = some es' := q
    split at q'
    · rename_i hl
      refine pg_imp (pg_tup hc (h _ _ _ q') hn hst) fun v σ H Q ⟨G, S, r, k⟩ => ?_
      obtain ⟨a, vs, rfl, h1, h2⟩ := Rq.tup (K := X.K) (Or.inl r) S.le
      exact ⟨a, vs, rfl, h1, by rw [h2.length]; exact hl, G, S, h2, k⟩
    · cases q'
  | _ => cases q
/-- target = value, the value's datum -/
def asgB (g : DG) (F : DE) : DS := fun es => (F es).bind fun p => match p.1.fz with
  | .dat d => (g d p.2).map fun es2 => (.nx, es2)
  | _ => none
theorem px_asg {tg : Expr} {ws : List Nat} {g : DG} (he : Sx X e F) (hg : Gx X tg ws g) (hs : swapsWithSole [tg] e pos.line X.env = pure false := by rfl) (hw : swappedStores [tg] e X.env = pure none := by rfl)
    (h1 : (assignEach [tg] X.env).map (·.2) = [assign tg X.env] := by rfl) : Px X (.Assign [tg] e pos) (asgB g F) := fun es fl es' q => by
  obtain ⟨⟨r, es1⟩, q1, q⟩ := Option.bind_eq_some_iff.mp q
  dsimp only at q
  split at q
  · rename_i d hd
    obtain ⟨es2, q2, q⟩ := Option.map_eq_some_iff.mp q
    cases q
    refine ps_imp (ps_asg (he _ _ _ q1) (gxU hg) hs hw h1) fun D σ H ⟨G, S, k⟩ => ⟨G, S, fun v G' H' t n => ?_⟩
    obtain ⟨G2, t2, n2⟩ := n.fz t
    rw [hd] at n2
    exact ⟨d, es1, es', q2, G2, t2.sep, n2, fun σ2 G3 H2 t3 _ => k σ2 G3 H2 (t2.trans t3)⟩
  · cases q
/-- a, b = e1, e2 with plain local names -/
def parB (i j : Nat) (F : DA) : DS := fun es => (F es).bind fun p => match noPar p.2 i, noPar p.2 j with
  | true, true => (match p.1 with
    | [r1, r2] => (match r1.fz, r2 with
      | .dat d, .dat d2 => some (.nx, (p.2.set i (.dat d)).set j (.dat d2))
      | .dat d, .new o => some (.nx, (p.2.set i (.dat d)).set j (.own o))
      | _, _ => none)
    | _ => none)
  | _, _ => none
theorem px_par {i j : Nat} {x y : Str} {a b : Expr} {F : DA} {px py pt : Pos} {kt k2 pt2} (hc : X.calm = true) (hN : X.N.Nodup) (ha : Sa X [a, b] F) (hd : HdF F) (hw : swappedStores [.Tuple [.Name x px, .Name y py] kt pt] (.Tuple [a, b] k2 pt2) X.env = pure (some [x, y]))
    (hi : X.N[i]? = some x := by rfl) (hj : X.N[j]? = some y := by rfl) (hij : i ≠ j := by decide)
    (hx : X.env.scope.names.lookup x = some .local := by rfl) (hy : X.env.scope.names.lookup y = some .local := by rfl)
    (hs : swapsWithSole [.Tuple [.Name x px, .Name y py] kt pt] (.Tuple [a, b] k2 pt2) pos.line X.env = pure false := by rfl) :
    Px X (.Assign [.Tuple [.Name x px, .Name y py] kt pt] (.Tuple [a, b] k2 pt2) pos) (parB i j F) := fun es fl es' q => by
  obtain ⟨⟨rs, es1⟩, q1, q⟩ := Option.bind_eq_some_iff.mp q
  dsimp only at q
  refine ps_imp (ps_par hc hN hi hj hij hx hy (ha _ _ _ q1) hw hs) fun D σ H ⟨G, S, k⟩ => ⟨G, S, fun vs G' H' t n => ?_⟩
  split at q
  · rename_i p1 p2
    obtain ⟨i1, i2⟩ := noPar_ok p1
    obtain ⟨j1, j2⟩ := noPar_ok p2
    have hh := hd _ _ _ q1
    split at q
    · rename_i r1 r2
      cases n with
      | cons n1 n =>
        cases n with
        | cons n2 n3 =>
          cases n3
          rename_i v w
          refine ⟨v, w, rfl, ?_⟩
          have f1 : r1.fz = r1 := hh.1
          have i3 : ∀ d o, (es1.set i (.dat d))[j]? ≠ some (.par o) := fun d o z => by
            rw [get_set, if_neg hij] at z
            exact j2 o z
          have i4 : ∀ d : Dt, j < (es1.set i (.dat d)).length := fun d => by rw [List.length_set]; exact j1
          split at q
          · rename_i d d2 hd1
            cases q
            rw [f1] at hd1
            subst hd1
            exact k _ G' H' ((t.storeD i1 i2 n1).storeD (i4 d) (i3 d) n2)
          · rename_i d o hd1
            cases q
            rw [f1] at hd1
            subst hd1
            obtain ⟨p, rfl, w1, w2, w3, w4⟩ := n2
            refine k _ G' H' ((t.storeD i1 i2 n1).store (i4 d) (i3 d) (e := .own o) ⟨p, rfl, w2, w3⟩ (fun _ z => nomatch z) fun o' p' e1 e2 => ?_)
            cases e2
            refine ⟨fun z => ?_, .inr w1⟩
            obtain ⟨m, e', o2, z1, z2, z3⟩ := z
            rw [get_set] at z1
            split at z1
            · split at z1
              · cases z1
                cases z2
              · cases z1
            · rename_i hm
              rw [List.getElem?_set_ne hm] at z3
              exact w4 ⟨m, e', o2, z1, z2, z3⟩
          · cases q
    · cases q
  · cases q
/-! ### walks -/
def Ro.dt : Ro → Dt
  | .val d => d
  | .nw o => o.dt
  | .nt l => .tup l
/-- a walk whose turns give the data -/
def IW (K : PySem.W.Frag) (G : Hp) (J : It) (items : List Dt) : Prop :=
  ∃ GG Y, Walk J items.length GG Y ∧ (∀ H, Same G H → GG H) ∧ ∀ (i : Nat) H x H', i < items.length → Same G H → Y i H x H' → ∃ ro d, items[i]? = some d ∧ ro.dt = d ∧ (∀ o, ro ≠ .nw o) ∧ RoOk K G H x H' ro
abbrev DI := Sls → Option (List Dt × Sls)
def tIP (K : PySem.W.Frag) (es : Sls) (items : List Dt) (es' : Sls) : TI := fun σ H R => ∃ G, Sep K σ G H es ∧ ∀ J G' H', Tr K σ G H es σ G' H' es' → IW K G' J items → R J H'
def Ix (X : Cx) (tg iter : Expr) (f : DI) : Prop := ∀ es items es', f es = some (items, es') → PI X tg iter (tIP X.K es items es')
theorem pi_imp {tg iter : Expr} {t t' : TI} (h : PI X tg iter t) (i : ∀ σ H Q, t' σ H Q → t σ H Q) : PI X tg iter t' := ⟨fun pins s σ H R I q => h.run pins s σ H R I (i σ H R q)⟩
def signs (z : Str) : List Dt := z.cps.toList.map fun c => .str ⟨#[c]⟩
/-- over a list, a tuple, a text -/
def itF (F : DE) : DI := fun es => (F es).bind fun p => match p.1.fz with
  | .dat (.lst l) => some (l, p.2)
  | .dat (.frl l) => some (l, p.2)
  | .dat (.tup l) => some (l, p.2)
  | .dat (.str z) => some (signs z, p.2)
  | _ => none
theorem ix_e {tg : Expr} (he : Sx X e F) : Ix X tg e (itF F) := fun es items es' q => by
  obtain ⟨⟨r, es1⟩, q1, q⟩ := Option.bind_eq_some_iff.mp q
  dsimp only at q
  split at q
  · rename_i l hl
    cases q
    refine pi_imp (pi_list (he _ _ _ q1)) fun σ H R ⟨G, S, k⟩ => ⟨G, S, fun v G' H' t n => ?_⟩
    obtain ⟨G2, t2, n2⟩ := n.fz t
    rw [hl] at n2
    obtain ⟨a, vs, rfl, h1, h2⟩ := Rq.lst (K := X.K) (G := G2) (H := G2) (Or.inl n2) (Same.refl _)
    refine ⟨a, rfl, ⟨vs, .inl (.inl (t2.sep.le _ _ h1))⟩, k _ G2 H' t2 ⟨_, _, (by rw [← h2.length]; exact walk_list (xs := vs)), fun H2 sm => (Or.inl (Or.inl (sm _ _ h1)) : SqL X.K H2 a vs), fun i H2 x H3 hi sm y => ?_⟩⟩
    obtain ⟨rfl, y⟩ := y
    obtain ⟨d, e1, e2⟩ := h2.get' y
    exact ⟨.val d, d, e1, rfl, (fun _ z => nomatch z), rfl, e2⟩
  · rename_i l hl
    cases q
    refine pi_imp (pi_list (he _ _ _ q1)) fun σ H R ⟨G, S, k⟩ => ⟨G, S, fun v G' H' t n => ?_⟩
    obtain ⟨G2, t2, n2⟩ := n.fz t
    rw [hl] at n2
    obtain ⟨a, vs, rfl, h1, h2⟩ := Rq.frl (K := X.K) (G := G2) (H := G2) (Or.inl n2) (Same.refl _)
    refine ⟨a, rfl, ⟨vs, t2.sep.le.seq h1⟩, k _ G2 H' t2 ⟨_, _, (by rw [← h2.length]; exact walk_list (xs := vs)), fun H2 sm => sm.seq h1, fun i H2 x H3 hi sm y => ?_⟩⟩
    obtain ⟨rfl, y⟩ := y
    obtain ⟨d, e1, e2⟩ := h2.get' y
    exact ⟨.val d, d, e1, rfl, (fun _ z => nomatch z), rfl, e2⟩
  · rename_i l hl
    cases q
    refine pi_imp (pi_tup (he _ _ _ q1)) fun σ H R ⟨G, S, k⟩ => ⟨G, S, fun v G' H' t n => ?_⟩
    obtain ⟨G2, t2, n2⟩ := n.fz t
    rw [hl] at n2
    obtain ⟨a, vs, rfl, h1, h2⟩ := Rq.tup (K := X.K) (G := G2) (H := G2) (Or.inl n2) (Same.refl _)
    refine ⟨a, rfl, ⟨vs, sqt_same t2.sep.le h1⟩, k _ G2 H' t2 ⟨_, _, (by rw [← h2.length]; exact walk_tup (xs := vs)), fun H2 sm => sqt_same sm h1, fun i H2 x H3 hi sm y => ?_⟩⟩
    obtain ⟨rfl, y⟩ := y
    obtain ⟨d, e1, e2⟩ := h2.get' y
    exact ⟨.val d, d, e1, rfl, (fun _ z => nomatch z), rfl, e2⟩
  · rename_i z hl
    cases q
    refine pi_imp (pi_str (he _ _ _ q1)) fun σ H R ⟨G, S, k⟩ => ⟨G, S, fun v G' H' t n => ?_⟩
    obtain ⟨G2, t2, n2⟩ := n.fz t
    rw [hl] at n2
    cases n2
    have hlen : (signs z).length = z.cps.size := by unfold signs; simp
    refine ⟨z, rfl, k _ G2 H' t2 ⟨_, _, (by rw [hlen]; exact walk_str), fun _ _ => trivial, fun i H2 x H3 hi sm y => ?_⟩⟩
    obtain ⟨rfl, c, y, rfl⟩ := y
    refine ⟨.val (.str ⟨#[c]⟩), _, ?_, rfl, (fun _ z => nomatch z), rfl, .str _⟩
    unfold signs
    rw [List.getElem?_map, Array.getElem?_toList, y]
    rfl
  · cases q
def rangeD (lo n : Int) : List Dt := (List.range (n - lo).toNat).map fun i => .int (lo + (i : Nat))
def rng1F (F : DA) : DI := fun es => (F es).bind fun p => match p.1 with
  | [.dat (.int n)] => if -(2 ^ 62) ≤ n ∧ n < 2 ^ 62 then some (rangeD 0 n, p.2) else none
  | _ => none
def rng2F (F : DA) : DI := fun es => (F es).bind fun p => match p.1 with
  | [.dat (.int m), .dat (.int n)] => if -(2 ^ 62) ≤ m ∧ m < 2 ^ 62 ∧ -(2 ^ 62) ≤ n ∧ n < 2 ^ 62 then some (rangeD m n, p.2) else none
  | _ => none
theorem rangeD_len (m n : Int) : (rangeD m n).length = (n - m).toNat := by unfold rangeD; simp
theorem rangeD_get {m n : Int} {i : Nat} (h : i < (n - m).toNat) : (rangeD m n)[i]? = some (.int (m + (i : Nat))) := by
  unfold rangeD
  rw [List.getElem?_map, List.getElem?_range h]
  rfl
theorem iw_range {K : PySem.W.Frag} {G : Hp} {m n : Int} : IW K G (Itr m (n - m).toNat) (rangeD m n) :=
  ⟨_, _, (by rw [rangeD_len]; exact walk_range), fun _ _ => trivial, fun i H x H' hi sm y => by
    obtain ⟨rfl, rfl⟩ := y
    rw [rangeD_len] at hi
    exact ⟨.val _, _, rangeD_get hi, rfl, (fun _ z => nomatch z), rfl, .int _⟩⟩
theorem ix_r1 {tg a : Expr} {p : Pos} {F : DA} (hm : X.mg "range" = none) (sa : Sa X [a] F) (hg : Gl X "range" := by rfl) (hs : starEach [a] X.env = (false, eval a X.env) :: starEach [] X.env := by rfl) : Ix X tg (.Call (.Name "range" p) [a] [] pos) (rng1F F) := fun es items es' q => by
  obtain ⟨⟨rs, es1⟩, q1, q⟩ := Option.bind_eq_some_iff.mp q
  dsimp only at q
  refine pi_imp (pi_range1 hg hm (sa _ _ _ q1) hs) fun σ H R ⟨G, S, k⟩ => ⟨G, S, fun vs G' H' t n => ?_⟩
  split at q
  · rename_i j
    split at q
    · rename_i hj
      cases q
      cases n with
      | cons n1 n2 =>
        cases n2
        have n1' : Rp X.K G' _ (.int j) := n1
        cases n1'
        have e : j.toNat = (j - 0).toNat := by omega
        exact ⟨j, rfl, hj.1, hj.2, by rw [e]; exact k _ G' H' t iw_range⟩
    · cases q
  · cases q
theorem ix_r2 {tg a b : Expr} {p : Pos} {F : DA} (hm : X.mg "range" = none) (sa : Sa X [a, b] F) (hg : Gl X "range" := by rfl) (hs : starEach [a, b] X.env = [(false, eval a X.env), (false, eval b X.env)] := by rfl) (hs2 : starEach [b] X.env = [(false, eval b X.env)] := by rfl) : Ix X tg (.Call (.Name "range" p) [a, b] [] pos) (rng2F F) := fun es items es' q => by
  obtain ⟨⟨rs, es1⟩, q1, q⟩ := Option.bind_eq_some_iff.mp q
  dsimp only at q
  refine pi_imp (pi_range2 hg hm (sa _ _ _ q1) hs hs2) fun σ H R ⟨G, S, k⟩ => ⟨G, S, fun vs G' H' t n => ?_⟩
  split at q
  · rename_i i j
    split at q
    · rename_i hj
      cases q
      cases n with
      | cons n1 n2 =>
        cases n2 with
        | cons n2 n3 =>
          cases n3
          have n1' : Rp X.K G' _ (.int i) := n1
          cases n1'
          have n2' : Rp X.K G' _ (.int j) := n2
          cases n2'
          exact ⟨i, j, rfl, hj, k _ G' H' t iw_range⟩
    · cases q
  · cases q
/-! ### for -/
def loopB (g : DG) (b : DS) : List Dt → DS
  | [], es => some (.nx, es)
  | d :: ds, es => (g d es).bind fun es1 => (b es1).bind fun p => match p.1 with
    | .nx => loopB g b ds p.2
    | .ct => loopB g b ds p.2
    | .bk => some (.nx, p.2)
    | .ret r => some (.ret r, p.2)
def forB (it : DI) (g : DG) (b : DS) : DS := fun es => (it es).bind fun p => loopB g b p.1 p.2
section
variable {K : PySem.W.Frag} {σ σ' σ2 : St} {G H G' H' G2 H2 : Hp} {es es' es1 es2 : Sls}
theorem RoOk.mono {v : V} {ro : Ro} (e : Same G G') (h : RoOk K G H v H' ro) : RoOk K G' H v H' ro := by
  cases ro with
  | val d => exact ⟨h.1, h.2.mono e⟩
  | nw o =>
    obtain ⟨p, ho, h1, h2, h3, h4⟩ := h
    exact ⟨p, ho, h1, h2, h3, h4.mono e⟩
  | nt l =>
    obtain ⟨p, ho, h1, h2, h3, h4⟩ := h
    exact ⟨p, ho, h1, h2, h3, h4.mono e⟩
/-- an item has come -/
theorem RoOk.item (S : Sep K σ G H es) {v : V} {ro : Ro} (h : RoOk K G H v H' ro) (hn : ∀ o, ro ≠ .nw o) : ∃ G2, Tr K σ G H es σ G2 H' es ∧ Rp K G2 v ro.dt := by
  obtain ⟨G2, t, n⟩ := h.go (Tr.refl S)
  cases ro with
  | val d => exact ⟨G2, t, n⟩
  | nw o => exact absurd rfl (hn o)
  | nt l => exact ⟨G2, t, n⟩
end
theorem loopB_go {ws : List Nat} {K : PySem.W.Frag} {σ : St} {G1 H1 : Hp} {es1 es' : Sls} {g : DG} {b : DS} {items : List Dt} {fl : Fl} {J : It} (S : Sep K σ G1 H1 es1) (hl : loopB g b items es1 = some (fl, es')) (w : IW K G1 J items) {D : Ends}
    (k : ∀ σ2 G2 H2, Tr K σ G1 H1 es1 σ2 G2 H2 es' → Aim K σ H1 es1 D σ2 es' G2 H2 fl) :
    ∃ W : Nat → Nat → St → Hp → Prop, (∃ m, W 0 m σ H1) ∧ ∀ i m σ H, W i m σ H → (J.stop i H ∧ D.nx σ H) ∨ (J.go i H ∧ ∃ N : St → Hp → Prop, (∀ σ' H', N σ' H' → ∃ m', m' < m ∧ W (i + 1) m' σ' H') ∧
      ∀ x H', J.yld i H x H' → tGU K ws g x σ H' fun σ2 H2 => tSU K b { D with nx := N, ct := N, bk := D.nx } σ2 H2) := by
  obtain ⟨GG, Y, wk, hG, hY⟩ := w
  refine for_it wk (fun i σ' H' => ∃ G' esi, Tr K σ G1 H1 es1 σ' G' H' esi ∧ Same G1 G' ∧ loopB g b (items.drop i) esi = some (fl, es')) ⟨G1, es1, Tr.refl S, Same.refl _, by rw [List.drop_zero]; exact hl⟩
    (fun i σ' H' _ ⟨G', esi, t, sm, _⟩ => hG H' (sm.trans t.sep.le)) (fun i x σ' H' H3 hi ⟨G', esi, t, sm, hr⟩ y => ?_) (fun σ' H' ⟨G', esi, t, sm, hr⟩ => ?_)
  · obtain ⟨ro, d, e1, e2, e3, e4⟩ := hY i H' x H3 hi (sm.trans t.sep.le) y
    obtain ⟨G2, t2, n2⟩ := (e4.mono sm).item t.sep e3
    rw [e2] at n2
    have hd : items.drop i = d :: items.drop (i + 1) := by
      obtain ⟨h5, h6⟩ := List.getElem?_eq_some_iff.mp e1
      rw [← h6]
      exact List.drop_eq_getElem_cons h5
    rw [hd] at hr
    obtain ⟨es2, q1, hr⟩ := Option.bind_eq_some_iff.mp hr
    obtain ⟨⟨fl2, es3⟩, q2, hr⟩ := Option.bind_eq_some_iff.mp hr
    refine ⟨d, esi, es2, q1, G2, t2.sep, n2, fun σ3 G3 H4 t3 _ => ⟨es2, fl2, es3, q2, G3, t3.sep, fun σ4 G4 H5 t4 => ?_⟩⟩
    have t5 := (t.trans t2).trans t3
    have t6 := t5.trans t4
    cases fl2 with
    | nx => exact ⟨G4, es3, t6, t6.g, hr⟩
    | ct => exact ⟨G4, es3, t6, t6.g, hr⟩
    | bk =>
      cases hr
      exact k _ _ _ t6
    | ret r =>
      cases hr
      intro v q
      exact k _ _ _ t6 v (q.back t5)
  · rw [List.drop_length] at hr
    cases hr
    exact k σ' G' H' t
theorem px_for {tg iter : Expr} {it : DI} {ws : List Nat} {g : DG} {b : DS} (hp : PassesOwn (model X.prog X.w) X.A X.env X.xe) (hc : X.calm = true) (hi : Ix X tg iter it) (hg : Gx X tg ws g) (hb : Bx X l b)
    (hs : ∀ x, foldedSetIterable iter X.env x = pure x := by intro _; rfl) : Px X (.For tg iter l [] pos) (forB it g b) := fun es fl es' q => by
  obtain ⟨⟨items, es1⟩, q1, q⟩ := Option.bind_eq_some_iff.mp q
  refine ps_imp (ps_for hp hc (hi _ _ _ q1) (gxU hg) (bxU hb) hs) fun D σ H ⟨G, S, k⟩ => ⟨G, S, fun J G1 H1 t w => ?_⟩
  exact loopB_go t.sep q w fun σ2 G2 H2 t2 => (k σ2 G2 H2 (t.trans t2)).back t rfl rfl rfl rfl
/-! ### while -/
def whB (c : DT) (b : DS) : Nat → DS
  | 0, _ => none
  | n + 1, es => (c es).bind fun p => match p.1 with
    | false => some (.nx, p.2)
    | true => (b p.2).bind fun q => match q.1 with
      | .nx => whB c b n q.2
      | .ct => whB c b n q.2
      | .bk => some (.nx, q.2)
      | .ret r => some (.ret r, q.2)
theorem px_while (n : Nat) {b : DS} (hp : PassesOwn (model X.prog X.w) X.A X.env X.xe) (hc : Tx X c t) (hb : Bx X l b) : Px X (.While c l [] pos) (whB t b n) := fun es fl es' q => by
  refine ps_imp (ps_while hp (txU hc) (bxU hb)) fun D σ H ⟨G, S, k⟩ => ?_
  refine ⟨fun m σ' H' => ∃ G' esi, Tr X.K σ G H es σ' G' H' esi ∧ whB t b m esi = some (fl, es'), ⟨n, G, es, Tr.refl S, q⟩, fun m σ' H' ⟨G', esi, tr, hr⟩ => ?_⟩
  cases m with
  | zero => cases hr
  | succ m =>
    obtain ⟨⟨c1, es1⟩, q1, hr⟩ := Option.bind_eq_some_iff.mp hr
    refine ⟨esi, c1, es1, q1, G', tr.sep, fun G2 H2 t2 => ?_⟩
    cases c1 with
    | false =>
      cases hr
      exact k _ _ _ (tr.trans t2)
    | true =>
      obtain ⟨⟨fl2, es3⟩, q2, hr⟩ := Option.bind_eq_some_iff.mp hr
      refine ⟨fun σ3 H3 => ∃ G3 es4, Tr X.K σ G H es σ3 G3 H3 es4 ∧ whB t b m es4 = some (fl, es'), fun σ3 H3 h3 => ⟨m, Nat.lt_succ_self m, h3⟩, es1, fl2, es3, q2, G2, t2.sep, fun σ4 G4 H5 t4 => ?_⟩
      have t5 := tr.trans t2
      have t6 := t5.trans t4
      cases fl2 with
      | nx => exact ⟨G4, es3, t6, hr⟩
      | ct => exact ⟨G4, es3, t6, hr⟩
      | bk =>
        cases hr
        exact k _ _ _ t6
      | ret r =>
        cases hr
        intro v q
        exact k _ _ _ t6 v (q.back t5)
end
end PL

set_option Elab.async false
set_option linter.all false
set_option maxRecDepth 100000
set_option maxHeartbeats 1000000
/-! The pure layer, part E: defs, calls, comprehensions. -/
namespace PL
open PySem PySem.Spec PyProof.Rows L2

/-! ### a def -/
/-- the promise: from the slots handed in (data; objects to be changed) F tells what comes and what they are then -/
def spF (K : PySem.W.Frag) (F : DE) : Sp := fun vs H Q _ => tU K F (vs.map some) H Q
/-- what is handed in, as it is behind the body -/
def outs : Sls → Sls → Sls
  | .par _ :: as, e :: es => e :: outs as es
  | a :: as, _ :: es => a :: outs as es
  | _, _ => []
def finF (as : Sls) : Fl × Sls → Option (Rs × Sls)
  | (.ret (.dat d), es) => some (.dat d, outs as es)
  | (.ret (.new o), es) => some (.new o, outs as es)
  | (.nx, es) => some (.dat .non, outs as es)
  | _ => none
def Sl.given : Sl → Bool
  | .own _ => false
  | _ => true
/-- the body f, n slots in all, from the slots handed in -/
def runF (n : Nat) (f : DS) : DE := fun as => match as.all Sl.given with
  | true => (f (as ++ List.replicate (n - as.length) .no)).bind (finF as)
  | false => none
section
variable {K : PySem.W.Frag} {σ σ' : St} {G H G' H' : Hp} {as es es' : Sls} {vs : List V} {n : Nat}
theorem start_get {N : List Str} {i : Nat} (h : i < vs.length) : (L2.start N vs)[i]? = (vs.map some)[i]? := by
  unfold L2.start
  rw [List.getElem?_append_left (by rw [List.length_map]; exact h)]
theorem ent_get {i : Nat} {e : Sl} (h : (as ++ List.replicate n .no)[i]? = some e) : as[i]? = some e ∨ e = .no := by
  by_cases hi : i < as.length
  · rw [List.getElem?_append_left hi] at h
    exact .inl h
  · rw [List.getElem?_append_right (by omega), List.getElem?_replicate] at h
    split at h
    · cases h
      exact .inr rfl
    · cases h
theorem ent_of {i : Nat} {e : Sl} (h : as[i]? = some e) : (as ++ List.replicate n .no)[i]? = some e := by
  rw [List.getElem?_append_left (List.getElem?_eq_some_iff.mp h).1]
  exact h
theorem owd_ent {N : List Str} (hl : vs.length = as.length) {a : Addr} : Owd (L2.start N vs) (as ++ List.replicate n .no) a ↔ Owd (vs.map some) as a := by
  constructor
  · rintro ⟨i, e, o, h1, h2, h3⟩
    rcases ent_get h1 with h | h
    · have hi := (List.getElem?_eq_some_iff.mp h).1
      rw [start_get (by omega)] at h3
      exact ⟨i, e, o, h, h2, h3⟩
    · subst h
      cases h2
  · rintro ⟨i, e, o, h1, h2, h3⟩
    have hi := (List.getElem?_eq_some_iff.mp h1).1
    exact ⟨i, e, o, ent_of h1, h2, by rw [start_get (by omega)]; exact h3⟩
theorem Sep.enter {N : List Str} (S : Sep K (vs.map some) G H as) (hN : vs.length ≤ N.length) : Sep K (L2.start N vs) G H (as ++ List.replicate (N.length - as.length) .no) := by
  have hl : vs.length = as.length := by have := S.len; rw [List.length_map] at this; exact this
  refine ⟨S.le, ?_, fun i e he => ?_, fun i j e e' o o' a h1 h2 h3 h4 h5 h6 => ?_⟩
  · unfold L2.start
    simp
    omega
  · rcases ent_get he with h | h
    · have hi := (List.getElem?_eq_some_iff.mp h).1
      rw [start_get (by omega)]
      exact S.ok i e h
    · subst h
      trivial
  · rcases ent_get h1 with h | h
    · rcases ent_get h2 with h' | h'
      · have hi := (List.getElem?_eq_some_iff.mp h).1
        have hj := (List.getElem?_eq_some_iff.mp h').1
        rw [start_get (by omega)] at h5 h6
        exact S.ne i j e e' o o' a h h' h3 h4 h5 h6
      · subst h'
        cases h4
    · subst h
      cases h3
theorem outs_get : ∀ {as es : Sls} {i : Nat} {e : Sl}, (outs as es)[i]? = some e → ∃ a, as[i]? = some a ∧ ((∃ o, a = .par o) ∧ es[i]? = some e ∨ (∀ o, a ≠ .par o) ∧ e = a)
  | [], _, _, _, h => by simp [outs] at h
  | .par o :: as, [], _, _, h => by simp [outs] at h
  | .no :: as, [], _, _, h => by simp [outs] at h
  | .dat _ :: as, [], _, _, h => by simp [outs] at h
  | .own _ :: as, [], _, _, h => by simp [outs] at h
  | .par o :: as, e :: es, 0, _, h => by cases h; exact ⟨_, rfl, .inl ⟨⟨o, rfl⟩, rfl⟩⟩
  | .no :: as, e :: es, 0, _, h => by cases h; exact ⟨_, rfl, .inr ⟨(fun _ z => nomatch z), rfl⟩⟩
  | .dat _ :: as, e :: es, 0, _, h => by cases h; exact ⟨_, rfl, .inr ⟨(fun _ z => nomatch z), rfl⟩⟩
  | .own _ :: as, e :: es, 0, _, h => by cases h; exact ⟨_, rfl, .inr ⟨(fun _ z => nomatch z), rfl⟩⟩
  | .par o :: as, e :: es, i + 1, _, h => outs_get (as := as) (es := es) (i := i) h
  | .no :: as, e :: es, i + 1, _, h => outs_get (as := as) (es := es) (i := i) h
  | .dat _ :: as, e :: es, i + 1, _, h => outs_get (as := as) (es := es) (i := i) h
  | .own _ :: as, e :: es, i + 1, _, h => outs_get (as := as) (es := es) (i := i) h
theorem outs_len : ∀ {as es : Sls}, as.length ≤ es.length → (outs as es).length = as.length
  | [], _, _ => by simp [outs]
  | .par o :: as, [], h => by simp at h
  | .no :: as, [], h => by simp at h
  | .dat _ :: as, [], h => by simp at h
  | .own _ :: as, [], h => by simp at h
  | .par o :: as, e :: es, h => by simp [outs]; exact outs_len (by simpa using h)
  | .no :: as, e :: es, h => by simp [outs]; exact outs_len (by simpa using h)
  | .dat _ :: as, e :: es, h => by simp [outs]; exact outs_len (by simpa using h)
  | .own _ :: as, e :: es, h => by simp [outs]; exact outs_len (by simpa using h)
/-- behind the body, over what was handed in -/
theorem Tr.leave {N : List Str} {m : Nat} (S : Sep K (vs.map some) G H as) (hg : as.all Sl.given = true) (t : Tr K (L2.start N vs) G H (as ++ List.replicate m .no) σ' G' H' es') (hlen : as.length ≤ es'.length) :
    Tr K (vs.map some) G H as (vs.map some) G' H' (outs as es') ∧ (∀ p, Owd (vs.map some) as p → Owd σ' es' p) ∧ ∀ p, Owd (vs.map some) (outs as es') p → Owd σ' es' p := by
  have hl : vs.length = as.length := by have := S.len; rw [List.length_map] at this; exact this
  have noown : ∀ (i : Nat) (o : Ow), as[i]? ≠ some (.own o) := fun i o z => by
    have := List.all_eq_true.mp hg _ (List.mem_of_getElem? z)
    cases this
  have par : ∀ (i : Nat) (o : Ow), as[i]? = some (.par o) → σ'[i]? = (vs.map some)[i]? ∧ ∃ o' : Ow, es'[i]? = some (.par o') := fun i o h => by
    obtain ⟨e1, o', e2⟩ := t.par i o (ent_of h)
    have hi := (List.getElem?_eq_some_iff.mp h).1
    exact ⟨e1.trans (start_get (by omega)), o', e2⟩
  have own1 : ∀ p, Owd (vs.map some) as p → Owd σ' es' p := by
    rintro p ⟨i, e, o, h1, h2, h3⟩
    cases e with
    | no => cases h2
    | dat d => cases h2
    | own u => exact absurd h1 (noown i u)
    | par u =>
      obtain ⟨e1, o', e2⟩ := par i u h1
      exact ⟨i, _, o', e2, rfl, e1.trans h3⟩
  have own2 : ∀ p, Owd (vs.map some) (outs as es') p → ∃ (i : Nat) (u u' : Ow), as[i]? = some (.par u) ∧ es'[i]? = some (.par u') ∧ (vs.map some)[i]? = some (some (.ref p)) := by
    rintro p ⟨i, e, o, h1, h2, h3⟩
    obtain ⟨a, e1, e2⟩ := outs_get h1
    rcases e2 with ⟨⟨u, rfl⟩, e2⟩ | ⟨e2, rfl⟩
    · obtain ⟨_, o', e3⟩ := par i u e1
      exact ⟨i, u, o', e1, e3, h3⟩
    · cases e with
      | no => cases h2
      | dat d => cases h2
      | own u => exact absurd e1 (noown i u)
      | par u => exact absurd rfl (e2 u)
  refine ⟨⟨t.g, ⟨t.sep.le, ?_, fun i e he => ?_, fun i j e e' o o' a h1 h2 h3 h4 h5 h6 => ?_⟩, fun a o h n => t.keep a o h fun z => n ((owd_ent hl).mp z), fun a h g n => t.out a h g fun z => n ((owd_ent hl).mp z), fun a q => ?_, fun i o h => ⟨rfl, ?_⟩, t.alive, outs_len hlen⟩, own1, fun p q => ?_⟩
  · rw [List.length_map, outs_len hlen]
    exact hl
  · obtain ⟨a, e1, e2⟩ := outs_get he
    rcases e2 with ⟨⟨u, rfl⟩, e2⟩ | ⟨e2, rfl⟩
    · obtain ⟨e3, o', e4⟩ := par i u e1
      rw [← e3]
      exact t.sep.ok i e e2
    · have q := S.ok i e e1
      cases e with
      | no => trivial
      | dat d =>
        obtain ⟨w, q1, q2⟩ := q
        exact ⟨w, q1, q2.mono t.g⟩
      | own u => exact absurd e1 (noown i u)
      | par u => exact absurd rfl (e2 u)
  · have get : ∀ (i : Nat) (e : Sl) (o : Ow), (outs as es')[i]? = some e → e.ow = some o → ∃ u, as[i]? = some (.par u) := fun i e o h1 h2 => by
      obtain ⟨b, e1, e2⟩ := outs_get h1
      rcases e2 with ⟨⟨u, rfl⟩, e2⟩ | ⟨e2, rfl⟩
      · exact ⟨u, e1⟩
      · cases e with
        | no => cases h2
        | dat d => cases h2
        | own u => exact absurd e1 (noown i u)
        | par u => exact absurd rfl (e2 u)
    obtain ⟨u, g1⟩ := get i e o h1 h3
    obtain ⟨u', g2⟩ := get j e' o' h2 h4
    exact S.ne i j _ _ u u' a g1 g2 rfl rfl h5 h6
  · obtain ⟨i, u, u', h1, h2, h3⟩ := own2 a q
    exact .inl ⟨i, _, u, h1, rfl, h3⟩
  · obtain ⟨e3, o', e4⟩ := par i o h
    refine ⟨o', ?_⟩
    have hi := (List.getElem?_eq_some_iff.mp h).1
    have hx : i < (outs as es').length := by rw [outs_len hlen]; exact hi
    obtain ⟨a, e1, e2⟩ := outs_get (List.getElem?_eq_getElem hx)
    rw [h] at e1
    cases e1
    rcases e2 with ⟨_, e2⟩ | ⟨e2, _⟩
    · rw [List.getElem?_eq_getElem hx, ← e4]
      exact e2.symm
    · exact absurd rfl (e2 o)
  · obtain ⟨i, u, u', h1, h2, h3⟩ := own2 p q
    obtain ⟨e3, _⟩ := par i u h1
    exact ⟨i, _, u', h2, rfl, e3.trans h3⟩
/-- the body of a def, by its reading -/
theorem enter_go {N : List Str} {f : DS} {r : Rs} {as' : Sls} {Q : VK} (hN : as.length ≤ N.length) (hr : runF N.length f as = some (r, as')) (q : tP K as r as' (vs.map some) H Q) :
    tSU K f { nx := fun _ H' => Q .non H', rt := Q } (L2.start N vs) H := by
  unfold runF at hr
  split at hr
  · rename_i hg
    obtain ⟨⟨fl, es'⟩, h1, h2⟩ := Option.bind_eq_some_iff.mp hr
    obtain ⟨G, S, k⟩ := q
    have hl : vs.length = as.length := by have := S.len; rw [List.length_map] at this; exact this
    have hvN : vs.length ≤ N.length := by omega
    refine ⟨_, fl, es', h1, G, S.enter hvN, fun σ' G' H' t => ?_⟩
    have hes : σ'.length = es'.length := t.sep.len
    have hlen : as.length ≤ es'.length := by
      rw [t.len, List.length_append]
      omega
    · obtain ⟨t2, o1, o2⟩ := t.leave S hg hlen
      cases fl with
      | nx =>
        cases h2
        exact k .non G' H' t2 .non
      | bk => cases h2
      | ct => cases h2
      | ret r0 =>
        cases r0 with
        | dat d =>
          cases h2
          intro v n
          exact k v G' H' t2 n
        | al i => cases h2
        | new o =>
          cases h2
          intro v n
          obtain ⟨p, rfl, h3, h4, h5, h6⟩ := n
          refine k _ G' H' t2 ⟨p, rfl, ?_, h3, h4, fun z => h5 (o2 p z)⟩
          rcases h6 with h6 | h6
          · exact absurd (o1 p ((owd_ent hl).mp h6)) h5
          · exact h6
  · cases hr
end
/-- THE RULE for a def: its body's term and what it comes to -/
theorem fn_ok {P : Program} {w : World} {K : PySem.W.Frag} {mg : Str → Option Value} {base : Heap} {x qual : Str} {params : Arguments} {body : List Stmt} {scope : Scope} {dvs : List V} {kws : List (Str × V)} {f : Addr} {fd : FuncData} {N ps : List Str} {k : Nat} {F : DE} {b : DS}
    (D : FunD K x qual params body scope dvs kws f fd) (S : FnScope N ps scope)
    (hb : ∀ (cdv : Value) (A : Around) (outer : List Env) (s : Shared) (H : Hp) (E : XK), Room k (A.deeper (envOfC qual scope s.heap.objs.size f cdv)) → Bx (cxOf CX0 P w K mg base N qual scope f cdv A outer s H E).nox body b)
    (pure_ : ∀ as z, F as = some z → as.length = ps.length ∧ runF N.length b as = some z) : FnOk P w K mg base CX0 (k + 1) f fd ps (spF K F) := by
  have hps : ps.length ≤ N.length := by
    have := S.pre
    rw [← this, List.length_take]
    exact Nat.min_le_right _ _
  refine D.ok S (fun vs H Q E h => ?_) (fun cdv A outer s H vs Q E hr h => ?_)
  · obtain ⟨as, r, as', e, G, Sp, _⟩ := h
    have := Sp.len
    rw [List.length_map] at this
    rw [this]
    exact (pure_ _ _ e).1
  · obtain ⟨as, r, as', e, q⟩ := h
    obtain ⟨hl, hrun⟩ := pure_ _ _ e
    exact ⟨_, PSs.nox (bxU (hb cdv A outer s H E hr)), enter_go (by rw [hl]; exact hps) hrun q⟩

/-! ### calls -/
def Rs.ix : Rs → Option Nat
  | .al i => some i
  | _ => none
def alOk : List Rs → Bool
  | [] => true
  | r :: rs => (match r.ix with
    | some i => rs.all fun q => decide (q.ix ≠ some i)
    | none => true) && alOk rs
def argS (es : Sls) : Rs → Option Sl
  | .dat d => some (.dat d)
  | .new o => some (.dat o.dt)
  | .al i => match es[i]? with
    | some (.own o) => some (.par o)
    | some (.par o) => some (.par o)
    | some (.dat d) => some (.dat d)
    | _ => none
def argsS (es : Sls) : List Rs → Option Sls
  | [] => some []
  | r :: rs => (argS es r).bind fun a => (argsS es rs).map fun as => a :: as
def Sl.put (o : Ow) : Sl → Sl
  | .own _ => .own o
  | .par _ => .par o
  | e => e
def backAt (k : Nat) : List Rs → Sls → Option Ow
  | .al i :: rs, .par o :: as => if i = k then some o else backAt k rs as
  | _ :: rs, _ :: as => backAt k rs as
  | _, _ => none
/-- the slots behind a call: what was handed in to be changed -/
def wr (es : Sls) (rs : List Rs) (as : Sls) : Sls := es.mapIdx fun k e => match backAt k rs as with
  | some o => e.put o
  | none => e
section
variable {K : PySem.W.Frag} {σ σ' : St} {G H G' H' : Hp} {as as' es es' : Sls} {vs : List V} {rs : List Rs} {n : Nat} {r : Rs}
theorem alOk_ix : ∀ {rs : List Rs} {j j' i : Nat}, alOk rs = true → rs[j]? = some (.al i) → rs[j']? = some (.al i) → j = j'
  | [], _, _, _, _, h, _ => by simp at h
  | r :: rs, 0, 0, _, _, _, _ => rfl
  | r :: rs, 0, j' + 1, i, h, h1, h2 => by
    unfold alOk at h
    rw [Bool.and_eq_true] at h
    cases h1
    have h3 := List.all_eq_true.mp h.1 (.al i) (List.mem_of_getElem? (by simpa using h2))
    exact absurd rfl (of_decide_eq_true h3)
  | r :: rs, j + 1, 0, i, h, h1, h2 => by
    unfold alOk at h
    rw [Bool.and_eq_true] at h
    cases h2
    have h3 := List.all_eq_true.mp h.1 (.al i) (List.mem_of_getElem? (by simpa using h1))
    exact absurd rfl (of_decide_eq_true h3)
  | r :: rs, j + 1, j' + 1, i, h, h1, h2 => by
    unfold alOk at h
    rw [Bool.and_eq_true] at h
    rw [alOk_ix (j := j) (j' := j') h.2 (by simpa using h1) (by simpa using h2)]
theorem argsS_len : ∀ {rs : List Rs} {as : Sls}, argsS es rs = some as → as.length = rs.length
  | [], _, h => by cases h; rfl
  | r :: rs, _, h => by
    obtain ⟨a, h1, h⟩ := Option.bind_eq_some_iff.mp h
    obtain ⟨as', h2, h⟩ := Option.map_eq_some_iff.mp h
    cases h
    rw [List.length_cons, List.length_cons, argsS_len h2]
theorem argsS_get : ∀ {rs : List Rs} {as : Sls} {j : Nat} {a : Sl}, argsS es rs = some as → as[j]? = some a → ∃ r, rs[j]? = some r ∧ argS es r = some a
  | [], _, _, _, h, h2 => by cases h; simp at h2
  | r :: rs, _, j, a, h, h2 => by
    obtain ⟨a1, h1, h⟩ := Option.bind_eq_some_iff.mp h
    obtain ⟨as', h3, h⟩ := Option.map_eq_some_iff.mp h
    cases h
    cases j with
    | zero => cases h2; exact ⟨r, rfl, h1⟩
    | succ j =>
      obtain ⟨r', e1, e2⟩ := argsS_get (j := j) h3 (by simpa using h2)
      exact ⟨r', by simpa using e1, e2⟩
theorem argsS_of : ∀ {rs : List Rs} {as : Sls} {j : Nat} {r : Rs}, argsS es rs = some as → rs[j]? = some r → ∃ a, as[j]? = some a ∧ argS es r = some a
  | [], _, _, _, h, h2 => by simp at h2
  | r :: rs, _, j, _, h, h2 => by
    obtain ⟨a1, h1, h⟩ := Option.bind_eq_some_iff.mp h
    obtain ⟨as', h3, h⟩ := Option.map_eq_some_iff.mp h
    cases h
    cases j with
    | zero => cases h2; exact ⟨a1, rfl, h1⟩
    | succ j =>
      obtain ⟨r', e1, e2⟩ := argsS_of (j := j) h3 (by simpa using h2)
      exact ⟨r', by simpa using e1, e2⟩
theorem RNL.length {H0 : Hp} (h : RNL K σ H0 es G H vs rs) : vs.length = rs.length := by
  induction h with
  | nil => rfl
  | cons _ _ ih => rw [List.length_cons, List.length_cons, ih]
theorem RNL.get {H0 : Hp} (h : RNL K σ H0 es G H vs rs) : ∀ {j : Nat} {r : Rs}, rs[j]? = some r → ∃ v, vs[j]? = some v ∧ RN K σ H0 es G H v r := by
  induction h with
  | nil => intro j r e; simp at e
  | cons a b ih =>
    intro j r e
    cases j with
    | zero => cases e; exact ⟨_, rfl, a⟩
    | succ j =>
      obtain ⟨v, e1, e2⟩ := ih (j := j) (by simpa using e)
      exact ⟨v, by simpa using e1, e2⟩
theorem backAt_some : ∀ {rs : List Rs} {as : Sls} {k : Nat} {o : Ow}, backAt k rs as = some o → ∃ j : Nat, rs[j]? = some (.al k) ∧ as[j]? = some (.par o)
  | [], _, _, _, h => by simp [backAt] at h
  | .al i :: rs, [], _, _, h => by simp [backAt] at h
  | .dat _ :: rs, [], _, _, h => by simp [backAt] at h
  | .new _ :: rs, [], _, _, h => by simp [backAt] at h
  | .al i :: rs, .par u :: as, k, o, h => by
    unfold backAt at h
    split at h
    · rename_i e
      cases h
      exact ⟨0, by rw [e]; rfl, rfl⟩
    · obtain ⟨j, e1, e2⟩ := backAt_some h
      exact ⟨j + 1, by simpa using e1, by simpa using e2⟩
  | .al i :: rs, .no :: as, k, o, h => by
    obtain ⟨j, e1, e2⟩ := backAt_some (rs := rs) (as := as) (by simpa [backAt] using h)
    exact ⟨j + 1, by simpa using e1, by simpa using e2⟩
  | .al i :: rs, .dat _ :: as, k, o, h => by
    obtain ⟨j, e1, e2⟩ := backAt_some (rs := rs) (as := as) (by simpa [backAt] using h)
    exact ⟨j + 1, by simpa using e1, by simpa using e2⟩
  | .al i :: rs, .own _ :: as, k, o, h => by
    obtain ⟨j, e1, e2⟩ := backAt_some (rs := rs) (as := as) (by simpa [backAt] using h)
    exact ⟨j + 1, by simpa using e1, by simpa using e2⟩
  | .dat _ :: rs, a :: as, k, o, h => by
    obtain ⟨j, e1, e2⟩ := backAt_some (rs := rs) (as := as) (by simpa [backAt] using h)
    exact ⟨j + 1, by simpa using e1, by simpa using e2⟩
  | .new _ :: rs, a :: as, k, o, h => by
    obtain ⟨j, e1, e2⟩ := backAt_some (rs := rs) (as := as) (by simpa [backAt] using h)
    exact ⟨j + 1, by simpa using e1, by simpa using e2⟩
theorem backAt_none : ∀ {rs : List Rs} {as : Sls} {k j : Nat} {o : Ow}, backAt k rs as = none → rs[j]? = some (.al k) → as[j]? ≠ some (.par o)
  | [], _, _, _, _, _, h => by simp at h
  | r :: rs, [], _, _, _, _, _ => by simp
  | .al i :: rs, .par u :: as, k, j, o, h, h2 => by
    unfold backAt at h
    split at h
    · cases h
    · rename_i e
      cases j with
      | zero => cases h2; exact absurd rfl e
      | succ j =>
        have := backAt_none (j := j) (o := o) h (by simpa using h2)
        simpa using this
  | .al i :: rs, .no :: as, k, 0, o, h, h2 => by simp
  | .al i :: rs, .dat _ :: as, k, 0, o, h, h2 => by simp
  | .al i :: rs, .own _ :: as, k, 0, o, h, h2 => by simp
  | .al i :: rs, .no :: as, k, j + 1, o, h, h2 => by
    have := backAt_none (rs := rs) (as := as) (j := j) (o := o) (by simpa [backAt] using h) (by simpa using h2)
    simpa using this
  | .al i :: rs, .dat _ :: as, k, j + 1, o, h, h2 => by
    have := backAt_none (rs := rs) (as := as) (j := j) (o := o) (by simpa [backAt] using h) (by simpa using h2)
    simpa using this
  | .al i :: rs, .own _ :: as, k, j + 1, o, h, h2 => by
    have := backAt_none (rs := rs) (as := as) (j := j) (o := o) (by simpa [backAt] using h) (by simpa using h2)
    simpa using this
  | .dat _ :: rs, a :: as, k, 0, o, h, h2 => by cases h2
  | .new _ :: rs, a :: as, k, 0, o, h, h2 => by cases h2
  | .dat _ :: rs, a :: as, k, j + 1, o, h, h2 => by
    have := backAt_none (rs := rs) (as := as) (j := j) (o := o) (by simpa [backAt] using h) (by simpa using h2)
    simpa using this
  | .new _ :: rs, a :: as, k, j + 1, o, h, h2 => by
    have := backAt_none (rs := rs) (as := as) (j := j) (o := o) (by simpa [backAt] using h) (by simpa using h2)
    simpa using this
theorem wr_get {k : Nat} : (wr es rs as')[k]? = (es[k]?).map fun e => match backAt k rs as' with
    | some o => e.put o
    | none => e := by
  unfold wr
  rw [List.getElem?_mapIdx]
theorem put_ow {e : Sl} {o : Ow} : (e.put o).ow = if e.ow.isSome then some o else none := by cases e <;> rfl
/-- what is handed in, as slots -/
theorem Sep.args (S : Sep K σ G H es) {H0 : Hp} (n : RNL K σ H0 es G H vs rs) (hz : ∀ (j : Nat) (r : Rs), rs[j]? = some r → r.fz = r) (ha : argsS es rs = some as) (ok : alOk rs = true) {dvs : List V} {dd : List Dt} (hd : RpL K G dvs dd) : Sep K ((vs ++ dvs).map some) G H (as ++ dd.map .dat) := by
  have hl : as.length = vs.length := by rw [argsS_len ha, n.length]
  have own : ∀ (j : Nat) (e : Sl) (o : Ow) (a : Addr), (as ++ dd.map .dat)[j]? = some e → e.ow = some o → ((vs ++ dvs).map some)[j]? = some (some (.ref a)) → ∃ i u, rs[j]? = some (.al i) ∧ σ[i]? = some (some (.ref a)) ∧ ∃ e', es[i]? = some e' ∧ e'.ow = some u := fun j e o a h h2 h3 => by
    rw [List.getElem?_map] at h3
    by_cases hj : j < as.length
    · rw [List.getElem?_append_left hj] at h
      rw [List.getElem?_append_left (by omega)] at h3
      obtain ⟨r, e1, e2⟩ := argsS_get ha h
      obtain ⟨v, e3, e4⟩ := n.get e1
      rw [e3] at h3
      cases h3
      cases r with
      | dat d => cases e2; cases h2
      | new o => exact absurd (hz j _ e1) (fun z => nomatch z)
      | al i =>
        have e2' : (match es[i]? with
          | some (.own o) => some (Sl.par o)
          | some (.par o) => some (.par o)
          | some (.dat d) => some (.dat d)
          | _ => none) = some e := e2
        split at e2'
        · rename_i o ei
          exact ⟨i, _, e1, e4, _, ei, rfl⟩
        · rename_i o ei
          exact ⟨i, _, e1, e4, _, ei, rfl⟩
        · cases e2'
          cases h2
        · cases e2'
    · rw [List.getElem?_append_right (by omega), List.getElem?_map] at h
      obtain ⟨d, e1, e2⟩ := Option.map_eq_some_iff.mp h
      subst e2
      cases h2
  refine ⟨S.le, by simp [hl, hd.length], fun j a h => ?_, fun j j' e e' o o' a h1 h2 h3 h4 h5 h6 => ?_⟩
  · rw [List.getElem?_map]
    by_cases hj : j < as.length
    · rw [List.getElem?_append_left hj] at h
      obtain ⟨r, e1, e2⟩ := argsS_get ha h
      obtain ⟨v, e3, e4⟩ := n.get e1
      rw [List.getElem?_append_left (by omega), e3]
      cases r with
      | dat d => cases e2; exact ⟨v, rfl, e4⟩
      | new o => exact absurd (hz j _ e1) (fun z => nomatch z)
      | al i =>
        have e4' : σ[i]? = some (some v) := e4
        have e2' : (match es[i]? with
          | some (.own o) => some (Sl.par o)
          | some (.par o) => some (.par o)
          | some (.dat d) => some (.dat d)
          | _ => none) = some a := e2
        split at e2'
        · rename_i o ei
          cases e2'
          obtain ⟨a, w1, w2, w3⟩ := S.ow ei rfl
          rw [e4'] at w1
          cases w1
          exact ⟨a, rfl, w2, w3⟩
        · rename_i o ei
          cases e2'
          obtain ⟨a, w1, w2, w3⟩ := S.ow ei rfl
          rw [e4'] at w1
          cases w1
          exact ⟨a, rfl, w2, w3⟩
        · rename_i d ei
          cases e2'
          obtain ⟨w, w1, w2⟩ := S.dat ei
          rw [e4'] at w1
          cases w1
          exact ⟨v, rfl, w2⟩
        · cases e2'
    · rw [List.getElem?_append_right (by omega), List.getElem?_map] at h
      obtain ⟨d, e1, e2⟩ := Option.map_eq_some_iff.mp h
      subst e2
      obtain ⟨v, e3, e4⟩ := hd.get e1
      rw [List.getElem?_append_right (by omega), ← hl, e3]
      exact ⟨v, rfl, e4⟩
  · obtain ⟨i, u, q1, q2, e1, q3, q4⟩ := own j e o a h1 h3 h5
    obtain ⟨i', u', q1', q2', e1', q3', q4'⟩ := own j' e' o' a h2 h4 h6
    have : i = i' := S.ne i i' e1 e1' u u' a q3 q3' q4 q4' q2 q2'
    subst this
    exact alOk_ix ok q1 q1'
/-- behind a call, over the caller's slots -/
theorem Tr.called (S : Sep K σ G H es) {H0 : Hp} (n : RNL K σ H0 es G H vs rs) (hz : ∀ (j : Nat) (r : Rs), rs[j]? = some r → r.fz = r) (ha : argsS es rs = some as) {dvs : List V} {dd : List Dt} (hd : RpL K G dvs dd)
    (t : Tr K ((vs ++ dvs).map some) G H (as ++ dd.map .dat) ((vs ++ dvs).map some) G' H' as') : Tr K σ G H es σ G' H' (wr es rs as') := by
  have hl : as.length = vs.length := by rw [argsS_len ha, n.length]
  have own : ∀ a, Owd ((vs ++ dvs).map some) (as ++ dd.map .dat) a → ∃ i, (∃ j : Nat, rs[j]? = some (.al i)) ∧ σ[i]? = some (some (.ref a)) ∧ ∃ e u, es[i]? = some e ∧ e.ow = some u := by
    rintro a ⟨j, e, o, h, h2, h3⟩
    rw [List.getElem?_map] at h3
    by_cases hj : j < as.length
    · rw [List.getElem?_append_left hj] at h
      rw [List.getElem?_append_left (by omega)] at h3
      obtain ⟨r, e1, e2⟩ := argsS_get ha h
      obtain ⟨v, e3, e4⟩ := n.get e1
      rw [e3] at h3
      cases h3
      cases r with
      | dat d => cases e2; cases h2
      | new o => exact absurd (hz j _ e1) (fun z => nomatch z)
      | al i =>
        have e2' : (match es[i]? with
          | some (.own o) => some (Sl.par o)
          | some (.par o) => some (.par o)
          | some (.dat d) => some (.dat d)
          | _ => none) = some e := e2
        split at e2'
        · rename_i o ei
          exact ⟨i, ⟨j, e1⟩, e4, _, _, ei, rfl⟩
        · rename_i o ei
          exact ⟨i, ⟨j, e1⟩, e4, _, _, ei, rfl⟩
        · cases e2'
          cases h2
        · cases e2'
    · rw [List.getElem?_append_right (by omega), List.getElem?_map] at h
      obtain ⟨d, e1, e2⟩ := Option.map_eq_some_iff.mp h
      subst e2
      cases h2
  have sub : ∀ a, Owd ((vs ++ dvs).map some) (as ++ dd.map .dat) a → Owd σ es a := fun a h => by
    obtain ⟨i, _, h2, e, u, h3, h4⟩ := own a h
    exact ⟨i, e, u, h3, h4, h2⟩
  have owk : ∀ (k : Nat) (e : Sl) (o : Ow), (wr es rs as')[k]? = some e → e.ow = some o → ∃ e' o', es[k]? = some e' ∧ e'.ow = some o' := fun k e o h1 h2 => by
    rw [wr_get] at h1
    obtain ⟨e', q1, q2⟩ := Option.map_eq_some_iff.mp h1
    cases hb : backAt k rs as' with
    | none =>
      rw [hb] at q2
      subst q2
      exact ⟨_, o, q1, h2⟩
    | some u =>
      rw [hb] at q2
      subst q2
      rw [put_ow] at h2
      cases hw : e'.ow with
      | none => rw [hw] at h2; cases h2
      | some o' => exact ⟨e', o', q1, hw⟩
  have owd : ∀ a, Owd σ (wr es rs as') a → Owd σ es a := fun a ⟨k, e, o, h1, h2, h3⟩ => by
    obtain ⟨e', o', q1, q2⟩ := owk k e o h1 h2
    exact ⟨k, e', o', q1, q2, h3⟩
  have back : ∀ (k : Nat) (u : Ow), backAt k rs as' = some u → ∃ a, σ[k]? = some (some (.ref a)) ∧ G' a = none ∧ OwAt K G' H' a u := fun k u hb => by
    obtain ⟨j, e1, e2⟩ := backAt_some hb
    obtain ⟨v, e3, e4⟩ := n.get e1
    obtain ⟨a, w1, w2, w3⟩ := t.sep.ow e2 rfl
    have hj := (List.getElem?_eq_some_iff.mp e3).1
    rw [List.getElem?_map, List.getElem?_append_left hj, e3] at w1
    cases w1
    exact ⟨a, e4, w2, w3⟩
  -- an owned slot that was handed in comes back
  have came : ∀ (k : Nat) (e : Sl) (o : Ow) (j : Nat), es[k]? = some e → e.ow = some o → rs[j]? = some (.al k) → backAt k rs as' ≠ none := fun k e o j h1 h2 h3 hb => by
    obtain ⟨a, q1, q2⟩ := argsS_of ha h3
    have q2' : (match es[k]? with
      | some (.own o) => some (Sl.par o)
      | some (.par o) => some (.par o)
      | some (.dat d) => some (.dat d)
      | _ => none) = some a := q2
    rw [h1] at q2'
    have pa : ∃ u, a = .par u := by
      cases e with
      | no => cases h2
      | dat d => cases h2
      | own u => cases q2'; exact ⟨u, rfl⟩
      | par u => cases q2'; exact ⟨u, rfl⟩
    obtain ⟨u, rfl⟩ := pa
    have hj := (List.getElem?_eq_some_iff.mp q1).1
    obtain ⟨_, o', e2⟩ := t.par j u (by rw [List.getElem?_append_left hj]; exact q1)
    exact backAt_none hb h3 e2
  refine ⟨t.g, ⟨t.sep.le, ?_, fun k e he => ?_, fun i j e e' o o' a h1 h2 h3 h4 h5 h6 => ?_⟩, fun a o h hn => t.keep a o h fun z => hn (sub a z), fun a h g hn => t.out a h g fun z => hn (sub a z), fun a h => .inl (owd a h), fun k o h => ⟨rfl, ?_⟩, t.alive, by unfold wr; rw [List.length_mapIdx]⟩
  · unfold wr
    rw [List.length_mapIdx]
    exact S.len
  · rw [wr_get] at he
    obtain ⟨e', q1, q2⟩ := Option.map_eq_some_iff.mp he
    cases hb : backAt k rs as' with
    | some u =>
      rw [hb] at q2
      subst q2
      obtain ⟨a, w1, w2, w3⟩ := back k u hb
      have q := S.ok k e' q1
      cases e' with
      | no => trivial
      | dat d =>
        obtain ⟨w, z1, z2⟩ := q
        exact ⟨w, z1, z2.mono t.g⟩
      | own o => exact ⟨a, w1, w2, w3⟩
      | par o => exact ⟨a, w1, w2, w3⟩
    | none =>
      rw [hb] at q2
      subst q2
      have q := S.ok k e' q1
      have stay : ∀ o, e'.ow = some o → ∀ a, σ[k]? = some (some (.ref a)) → ¬ Owd ((vs ++ dvs).map some) (as ++ dd.map .dat) a := fun o ho a ea z => by
        obtain ⟨i, ⟨j, h1⟩, h2, e2, u, h3, h4⟩ := own a z
        have : k = i := S.ne k i e' e2 o u a q1 h3 ho h4 ea h2
        subst this
        exact came k e' o j q1 ho h1 hb
      cases e' with
      | no => trivial
      | dat d =>
        obtain ⟨w, z1, z2⟩ := q
        exact ⟨w, z1, z2.mono t.g⟩
      | own o =>
        obtain ⟨a, z1, z2, ho, z3, z4⟩ := q
        have st := stay o rfl a z1
        exact ⟨a, z1, t.out a (by rw [z3]; exact fun z => nomatch z) z2 st, ho, t.keep a ho z3 st, z4.mono t.g⟩
      | par o =>
        obtain ⟨a, z1, z2, ho, z3, z4⟩ := q
        have st := stay o rfl a z1
        exact ⟨a, z1, t.out a (by rw [z3]; exact fun z => nomatch z) z2 st, ho, t.keep a ho z3 st, z4.mono t.g⟩
  · obtain ⟨e1, o1, q1, q2⟩ := owk i e o h1 h3
    obtain ⟨e2, o2, q3, q4⟩ := owk j e' o' h2 h4
    exact S.ne i j e1 e2 o1 o2 a q1 q3 q2 q4 h5 h6
  · cases hb : backAt k rs as' with
    | some u => exact ⟨u, by rw [wr_get, h, hb]; rfl⟩
    | none => exact ⟨o, by rw [wr_get, h, hb]; rfl⟩
/-- all results frozen -/
theorem RNL.fzl {σ : St} {G H G' H' : Hp} {es es' : Sls} (t : Tr K σ G H es σ G' H' es') (h : RNL K σ H es' G' H' vs rs) (hd : Hd rs) : ∃ G2, Same G' G2 ∧ Tr K σ G H es σ G2 H' es' ∧ RNL K σ H es' G2 H' vs (rs.map Rs.fz) := by
  induction h with
  | nil => exact ⟨G', Same.refl _, t, .nil⟩
  | @cons v r vs rs a b ih =>
    cases rs with
    | nil =>
      cases b
      cases r with
      | dat d => exact ⟨G', Same.refl _, t, .cons a .nil⟩
      | al i => exact ⟨G', Same.refl _, t, .cons a .nil⟩
      | new o =>
        obtain ⟨p, rfl, h1, h2, ⟨ho, h3, h4⟩, h5⟩ := a
        obtain ⟨t2, q⟩ := t.freeze h1 h2 h3 h4 h5
        exact ⟨_, same_new h2, t2, .cons q .nil⟩
    | cons r2 rs2 =>
      obtain ⟨f1, f2⟩ := hd
      obtain ⟨G2, sm, t2, n2⟩ := ih f2
      refine ⟨G2, sm, t2, .cons ?_ n2⟩
      cases r with
      | dat d => exact Rp.mono sm a
      | al i => exact a
      | new o => cases f1
end
/-- a def that may be called by its name -/
structure CalF (P : Program) (w : World) (K : PySem.W.Frag) (mg : Str → Option Value) (base : Heap) (k : Nat) (x : Str) (F : DE) (dd : List Dt) : Prop where
  ex : ∃ (f : Addr) (fd : FuncData) (ps : List Str) (ds : List Value) (dvs : List V), FnOk P w K mg base CX0 k f fd ps (spF K F) ∧ mg x = some (.ref f) ∧ PySem.W.keepIn K (.ref f) = true ∧ Binds K fd ps ds ∧ Vals dvs ds ∧ ∀ G, RpL K G dvs dd
/-- what a call does to the slots -/
def callG (F : DE) (dd : List Dt) (rs : List Rs) (es : Sls) : Option (Rs × Sls) := match alOk rs with
  | true => (argsS es rs).bind fun as => (F (as ++ dd.map .dat)).bind fun q => match q.1 with
    | .al _ => none
    | r => some (r, wr es rs q.2)
  | false => none
def callF (F : DE) (dd : List Dt) (A : DA) : DE := fun es => (A es).bind fun p => callG F dd (p.1.map Rs.fz) p.2
theorem callG_inv {F : DE} {dd : List Dt} {rs : List Rs} {es es' : Sls} {r : Rs} (h : callG F dd rs es = some (r, es')) : alOk rs = true ∧ ∃ as as', argsS es rs = some as ∧ F (as ++ dd.map .dat) = some (r, as') ∧ (∀ i, r ≠ .al i) ∧ es' = wr es rs as' := by
  unfold callG at h
  split at h
  · rename_i hal
    obtain ⟨as, h1, h⟩ := Option.bind_eq_some_iff.mp h
    obtain ⟨⟨r', as'⟩, h2, h⟩ := Option.bind_eq_some_iff.mp h
    refine ⟨hal, as, as', h1, ?_⟩
    cases r' with
    | dat d => cases h; exact ⟨h2, (fun _ z => nomatch z), rfl⟩
    | new o => cases h; exact ⟨h2, (fun _ z => nomatch z), rfl⟩
    | al i => cases h
  · cases h
theorem map_fz {rs : List Rs} (j : Nat) (r : Rs) (h : (rs.map Rs.fz)[j]? = some r) : r.fz = r := by
  rw [List.getElem?_map] at h
  obtain ⟨r', _, rfl⟩ := Option.map_eq_some_iff.mp h
  exact fz_fz r'
/-- the promise is met -/
theorem spF_go {K : PySem.W.Frag} {σ : St} {G H G1 H1 : Hp} {es es1 es' : Sls} {vs dvs : List V} {rs : List Rs} {F : DE} {dd : List Dt} {r : Rs} {Q : VK} (t : Tr K σ G H es σ G1 H1 es1) (n : RNL K σ H es1 G1 H1 vs rs) (hh : Hd rs) (hd : ∀ G, RpL K G dvs dd)
    (h : callG F dd (rs.map Rs.fz) es1 = some (r, es')) (k : ∀ v G' H', Tr K σ G H es σ G' H' es' → RN K σ H es' G' H' v r → Q v H') (E : XK) : spF K F (vs ++ dvs) H1 Q E := by
  obtain ⟨hal, as, as', h1, h2, h3, rfl⟩ := callG_inv h
  obtain ⟨G2, sm, t2, n2⟩ := n.fzl t hh
  refine ⟨_, r, as', h2, G2, t2.sep.args n2 map_fz h1 hal (hd G2), fun v G' H' tc nc => ?_⟩
  have t3 := Tr.called t2.sep n2 map_fz h1 (hd G2) tc
  refine k v G' H' (t2.trans t3) ?_
  cases r with
  | dat d => exact nc
  | al i => exact absurd rfl (h3 i)
  | new o =>
    obtain ⟨p, e1, e2, e3, e4, e5⟩ := nc
    refine ⟨p, e1, t2.fresh e2, e3, e4, fun z => ?_⟩
    rcases t3.own p z with q | q
    · exact t2.sep.owd_h q e2
    · have : OwAt K G' H' p o := e4
      exact t3.sep.owd_g z |> fun _ => by
        -- p is new to the callee: none of the caller's slots has it
        obtain ⟨kk, e, u, w1, w2, w3⟩ := z
        rw [wr_get] at w1
        obtain ⟨e', q1, q2⟩ := Option.map_eq_some_iff.mp w1
        have ho : ∃ u', e'.ow = some u' := by
          cases hb : backAt kk (rs.map Rs.fz) as' with
          | none => rw [hb] at q2; subst q2; exact ⟨u, w2⟩
          | some u2 =>
            rw [hb] at q2
            subst q2
            rw [put_ow] at w2
            cases hw : e'.ow with
            | none => rw [hw] at w2; cases w2
            | some o' => exact ⟨o', rfl⟩
        obtain ⟨u', hu⟩ := ho
        exact t2.sep.owd_h ⟨kk, e', u', q1, hu, w3⟩ e2
section
variable {X : Cx} {e : Expr} {l : List Expr} {A : DA} {F : DE} {dd : List Dt} {j k : Nat} {x : Str} {p pos : Pos}
theorem sx_call (c : CalF X.prog X.w X.K X.mg X.base k x F dd) (hr : Room j X.A) (hk : k ≤ j) (sa : Sa X (e :: l) A) (hh : HdF A) (hg : Gl X x := by rfl) (hdb : (x == ("__debug__" : Str)) = false := by decide) (he : starEach (e :: l) X.env = (false, eval e X.env) :: starEach l X.env := by rfl)
    (hpl : (backTo pos (starEach l X.env)).any (·.1) = false := by rfl) : Sx X (.Call (.Name x p) (e :: l) [] pos) (callF F dd A) := fun es r es' h => by
  obtain ⟨⟨rs, es1⟩, h1, h⟩ := Option.bind_eq_some_iff.mp h
  obtain ⟨f, fd, ps, ds, dvs, F1, m, kp, b, d, dr⟩ := c.ex
  refine pe_imp (pe_call F1 (hr.mono hk) hg m kp b d pass0 (sa _ _ _ h1) hdb he hpl) fun σ H Q ⟨G, S, kk⟩ => ⟨G, S, fun vs G1 H1 t n => ?_⟩
  exact spF_go t n (hh _ _ _ h1) dr h kk _
end
end PL

set_option Elab.async false
set_option linter.all false
set_option maxRecDepth 100000
set_option maxHeartbeats 1000000
/-! The pure layer, part F: comprehensions, objects that are changed. -/
namespace PL
open PySem PySem.Spec PyProof.Rows L2

section
variable {K : PySem.W.Frag} {σ σ' σ2 : St} {G H G' H' G2 H2 : Hp} {es es' es1 es2 : Sls} {v x y : V} {r : Rs}
/-- the object of a slot is changed -/
theorem Tr.put (S : Sep K σ G H es) {i : Nat} {e : Sl} {o o' : Ow} {a : Addr} {ho : HO} (h : es[i]? = some e) (he : e.ow = some o) (ha : σ[i]? = some (some (.ref a))) (ok : OwHO K G ho o') : Tr K σ G H es σ G (upd H a ho) (es.set i (e.put o')) := by
  have hi : i < es.length := (List.getElem?_eq_some_iff.mp h).1
  obtain ⟨b, e1, e2, e3⟩ := S.ow h he
  rw [ha] at e1
  cases e1
  have own : Owd σ es a := ⟨i, e, o, h, he, ha⟩
  have oth : ∀ (j : Nat) (e' : Sl) (u : Ow) (b : Addr), j ≠ i → es[j]? = some e' → e'.ow = some u → σ[j]? = some (some (.ref b)) → b ≠ a := fun j e' u b hj h1 h2 h3 z => by
    subst z
    exact hj (S.ne j i e' e u o b h1 h h2 he h3 ha)
  have ows : (e.put o').ow = some o' := by rw [put_ow, he]; rfl
  have owk : ∀ (k : Nat) (e1 : Sl) (u : Ow), (es.set i (e.put o'))[k]? = some e1 → e1.ow = some u → ∃ e2 u2, es[k]? = some e2 ∧ e2.ow = some u2 := fun k e1 u h1 h2 => by
    rw [get_set] at h1
    split at h1
    · rename_i hik
      subst hik
      exact ⟨e, o, h, he⟩
    · exact ⟨e1, u, h1, h2⟩
  refine ⟨Same.refl G, ⟨fun b u q => ?_, by rw [List.length_set]; exact S.len, fun j e' he' => ?_, fun j k e1 e2 o1 o2 b h1 h2 h3 h4 h5 h6 => ?_⟩, fun b u q n => ?_, fun _ _ h _ => h, fun b ⟨j, e1, u, h1, h2, h3⟩ => ?_, fun j u h1 => ⟨rfl, ?_⟩, fun b hb z => ?_, by rw [List.length_set]⟩
  · have nb : b ≠ a := fun z => by rw [z, e2] at q; cases q
    rw [upd_ne nb]
    exact S.le b u q
  · rw [get_set] at he'
    split at he'
    · rename_i hij
      subst hij
      rw [if_pos hi] at he'
      cases he'
      have res : ∃ a', σ[i]? = some (some (V.ref a')) ∧ G a' = none ∧ OwAt K G (upd H a ho) a' o' := ⟨a, ha, e2, ho, upd_same, ok⟩
      cases e with
      | no => cases he
      | dat d => cases he
      | own u => exact res
      | par u => exact res
    · rename_i hij
      have q := S.ok j e' he'
      cases e' with
      | no => trivial
      | dat d => exact q
      | own u =>
        obtain ⟨b, q1, q2, ho', q3, q4⟩ := q
        exact ⟨b, q1, q2, ho', by rw [upd_ne (oth j _ u b (Ne.symm hij) he' rfl q1)]; exact q3, q4⟩
      | par u =>
        obtain ⟨b, q1, q2, ho', q3, q4⟩ := q
        exact ⟨b, q1, q2, ho', by rw [upd_ne (oth j _ u b (Ne.symm hij) he' rfl q1)]; exact q3, q4⟩
  · obtain ⟨f1, u1, g1, g2⟩ := owk j e1 o1 h1 h3
    obtain ⟨f2, u2, g3, g4⟩ := owk k e2 o2 h2 h4
    exact S.ne j k f1 f2 u1 u2 b g1 g3 g2 g4 h5 h6
  · have nb : b ≠ a := fun z => n (by rw [z]; exact own)
    rw [upd_ne nb]
    exact q
  · obtain ⟨f1, u1, g1, g2⟩ := owk j e1 u h1 h2
    exact .inl ⟨j, f1, u1, g1, g2, h3⟩
  · by_cases hij : i = j
    · subst hij
      rw [h] at h1
      cases h1
      exact ⟨o', by rw [get_set, if_pos rfl, if_pos hi]; rfl⟩
    · exact ⟨u, by rw [get_set, if_neg hij]; exact h1⟩
  · by_cases hba : b = a
    · rw [hba, upd_same] at z
      cases z
    · rw [upd_ne hba] at z
      exact hb z
/-- an object that nothing knows yet is changed -/
theorem Tr.scratch (t : Tr K σ G H es σ' G' H' es') {D : Addr} {ho : HO} (hD : H D = none) (gD : G' D = none) (n : ¬ Owd σ' es' D) : Tr K σ G H es σ' G' (upd H' D ho) es' := by
  have npo : ∀ a, Owd σ' es' a → a ≠ D := fun a h z => n (by rw [← z]; exact h)
  refine ⟨t.g, ⟨fun b u q => ?_, t.sep.len, fun i e he => ?_, t.sep.ne⟩, fun a o h hn => ?_, t.out, t.own, t.par, fun a h z => ?_, t.len⟩
  · rw [upd_ne (ne_of_none q gD)]
    exact t.sep.le b u q
  · have q := t.sep.ok i e he
    cases e with
    | no => trivial
    | dat d => exact q
    | own u =>
      obtain ⟨b, q1, q2, ho', q3, q4⟩ := q
      exact ⟨b, q1, q2, ho', by rw [upd_ne (npo b ⟨i, _, u, he, rfl, q1⟩)]; exact q3, q4⟩
    | par u =>
      obtain ⟨b, q1, q2, ho', q3, q4⟩ := q
      exact ⟨b, q1, q2, ho', by rw [upd_ne (npo b ⟨i, _, u, he, rfl, q1⟩)]; exact q3, q4⟩
  · rw [upd_ne (ne_of_none h hD)]
    exact t.keep a o h hn
  · by_cases haD : a = D
    · rw [haD] at h
      exact h hD
    · rw [upd_ne haD] at z
      exact t.alive a h z

/-! ### a block's own slots -/
def wipeS (es : Sls) : List Nat → Sls
  | [] => es
  | v :: vs => (wipeS es vs).set v .no
/-- none of these slots has an object -/
def bare (es : Sls) (vs : List Nat) : Bool := vs.all fun i => match es[i]? with
  | some e => e.ow.isNone
  | none => false
theorem wipeS_len : ∀ vs : List Nat, (wipeS es vs).length = es.length
  | [] => rfl
  | v :: vs => by unfold wipeS; rw [List.length_set, wipeS_len vs]
theorem wipeS_get {vs : List Nat} {i : Nat} : (wipeS es vs)[i]? = if i ∈ vs then (if i < es.length then some .no else none) else es[i]? := by
  induction vs with
  | nil => simp [wipeS]
  | cons v vs ih =>
    unfold wipeS
    rw [get_set, wipeS_len, ih]
    by_cases h : v = i
    · subst h
      simp
    · rw [if_neg h]
      have : (i ∈ v :: vs) = (i ∈ vs) := by
        rw [List.mem_cons]
        exact propext ⟨fun z => z.resolve_left (Ne.symm h), .inr⟩
      simp only [this]
theorem wipe_get {vs : List Nat} {i : Nat} : (wipe σ vs)[i]? = if i ∈ vs then (if i < σ.length then some none else none) else σ[i]? := by
  induction vs with
  | nil => simp [wipe]
  | cons v vs ih =>
    unfold wipe
    rw [List.getElem?_set, wipe_length, ih]
    by_cases h : v = i
    · subst h
      simp
    · rw [if_neg h]
      have : (i ∈ v :: vs) = (i ∈ vs) := by
        rw [List.mem_cons]
        exact propext ⟨fun z => z.resolve_left (Ne.symm h), .inr⟩
      simp only [this]
theorem bare_ok {vs : List Nat} (h : bare es vs = true) {i : Nat} (hi : i ∈ vs) : ∃ e, es[i]? = some e ∧ e.ow = none := by
  have := List.all_eq_true.mp h i hi
  cases q : es[i]? with
  | none => rw [q] at this; cases this
  | some e =>
    rw [q] at this
    exact ⟨e, rfl, Option.isNone_iff_eq_none.mp this⟩
theorem owd_wipe {vs : List Nat} (h : bare es vs = true) {a : Addr} : Owd (wipe σ vs) (wipeS es vs) a ↔ Owd σ es a := by
  constructor
  · rintro ⟨i, e, o, h1, h2, h3⟩
    rw [wipeS_get] at h1
    rw [wipe_get] at h3
    by_cases hi : i ∈ vs
    · rw [if_pos hi] at h1
      split at h1
      · cases h1; cases h2
      · cases h1
    · rw [if_neg hi] at h1 h3
      exact ⟨i, e, o, h1, h2, h3⟩
  · rintro ⟨i, e, o, h1, h2, h3⟩
    have hi : i ∉ vs := fun z => by
      obtain ⟨e', q1, q2⟩ := bare_ok h z
      rw [h1] at q1
      cases q1
      rw [h2] at q2
      cases q2
    exact ⟨i, e, o, by rw [wipeS_get, if_neg hi]; exact h1, h2, by rw [wipe_get, if_neg hi]; exact h3⟩
theorem Sep.wipe (S : Sep K σ G H es) {vs : List Nat} (h : bare es vs = true) : Sep K (wipe σ vs) G H (wipeS es vs) := by
  refine ⟨S.le, by rw [wipe_length, wipeS_len]; exact S.len, fun i e he => ?_, fun i j e e' o o' a h1 h2 h3 h4 h5 h6 => ?_⟩
  · rw [wipeS_get] at he
    rw [wipe_get]
    by_cases hi : i ∈ vs
    · rw [if_pos hi] at he
      split at he
      · cases he; trivial
      · cases he
    · rw [if_neg hi] at he ⊢
      exact S.ok i e he
  · rw [wipeS_get] at h1 h2
    rw [wipe_get] at h5 h6
    by_cases hi : i ∈ vs
    · rw [if_pos hi] at h1
      split at h1
      · cases h1; cases h3
      · cases h1
    · by_cases hj : j ∈ vs
      · rw [if_pos hj] at h2
        split at h2
        · cases h2; cases h4
        · cases h2
      · rw [if_neg hi] at h1 h5
        rw [if_neg hj] at h2 h6
        exact S.ne i j e e' o o' a h1 h2 h3 h4 h5 h6
/-- the block's slots as they stood ahead of it -/
def heal (es es' : Sls) (vs : List Nat) : Sls := es'.mapIdx fun k e => if k ∈ vs then es.getD k .no else e
theorem heal_get {vs : List Nat} {i : Nat} (hl : es'.length = es.length) : (heal es es' vs)[i]? = if i ∈ vs then es[i]? else es'[i]? := by
  unfold heal
  rw [List.getElem?_mapIdx]
  by_cases hi : i ∈ vs
  · rw [if_pos hi]
    by_cases hlt : i < es.length
    · rw [List.getElem?_eq_getElem (by omega : i < es'.length), List.getElem?_eq_getElem hlt]
      simp [hi, List.getD_eq_getElem?_getD, hlt]
    · rw [List.getElem?_eq_none (by omega : es'.length ≤ i), List.getElem?_eq_none (by omega)]
      rfl
  · rw [if_neg hi]
    cases es'[i]? with
    | none => rfl
    | some e => simp [hi]
/-- behind a block, over the slots of the frame -/
theorem Tr.unwipe (S : Sep K σ G H es) {vs : List Nat} (h : bare es vs = true) (t : Tr K (wipe σ vs) G H (wipeS es vs) (wipe σ vs) G' H' es') : Tr K σ G H es σ G' H' (heal es es' vs) := by
  have hl : es'.length = es.length := by rw [t.len, wipeS_len]
  have own : ∀ a, Owd σ (heal es es' vs) a → ∃ (i : Nat) (e : Sl) (o : Ow), i ∉ vs ∧ es'[i]? = some e ∧ e.ow = some o ∧ σ[i]? = some (some (.ref a)) := by
    rintro a ⟨i, e, o, h1, h2, h3⟩
    rw [heal_get hl] at h1
    by_cases hi : i ∈ vs
    · rw [if_pos hi] at h1
      obtain ⟨e', q1, q2⟩ := bare_ok h hi
      rw [h1] at q1
      cases q1
      rw [h2] at q2
      cases q2
    · rw [if_neg hi] at h1
      exact ⟨i, e, o, hi, h1, h2, h3⟩
  refine ⟨t.g, ⟨t.sep.le, by unfold heal; rw [List.length_mapIdx, hl]; exact S.len, fun i e he => ?_, fun i j e e' o o' a h1 h2 h3 h4 h5 h6 => ?_⟩, fun a o ha hn => t.keep a o ha fun z => hn ((owd_wipe h).mp z), fun a ha g hn => t.out a ha g fun z => hn ((owd_wipe h).mp z),
    fun a z => ?_, fun i o hi => ⟨rfl, ?_⟩, t.alive, by unfold heal; rw [List.length_mapIdx, hl]⟩
  · rw [heal_get hl] at he
    by_cases hi : i ∈ vs
    · rw [if_pos hi] at he
      obtain ⟨e', q1, q2⟩ := bare_ok h hi
      rw [he] at q1
      cases q1
      have q := S.ok i e he
      cases e with
      | no => trivial
      | dat d =>
        obtain ⟨w, w1, w2⟩ := q
        exact ⟨w, w1, w2.mono t.g⟩
      | own u => cases q2
      | par u => cases q2
    · rw [if_neg hi] at he
      have q := t.sep.ok i e he
      rw [wipe_get, if_neg hi] at q
      exact q
  · rw [heal_get hl] at h1 h2
    by_cases hi : i ∈ vs
    · rw [if_pos hi] at h1
      obtain ⟨e1, q1, q2⟩ := bare_ok h hi
      rw [h1] at q1
      cases q1
      rw [h3] at q2
      cases q2
    · by_cases hj : j ∈ vs
      · rw [if_pos hj] at h2
        obtain ⟨e1, q1, q2⟩ := bare_ok h hj
        rw [h2] at q1
        cases q1
        rw [h4] at q2
        cases q2
      · rw [if_neg hi] at h1
        rw [if_neg hj] at h2
        exact t.sep.ne i j e e' o o' a h1 h2 h3 h4 (by rw [wipe_get, if_neg hi]; exact h5) (by rw [wipe_get, if_neg hj]; exact h6)
  · obtain ⟨i, e, o, hi, h1, h2, h3⟩ := own a z
    rcases t.own a ⟨i, e, o, h1, h2, by rw [wipe_get, if_neg hi]; exact h3⟩ with q | q
    · exact .inl ((owd_wipe h).mp q)
    · exact .inr q
  · have hi2 : i ∉ vs := fun z => by
      obtain ⟨e', q1, q2⟩ := bare_ok h z
      rw [hi] at q1
      cases q1
      cases q2
    obtain ⟨_, o', e2⟩ := t.par i o (by rw [wipeS_get, if_neg hi2]; exact hi)
    exact ⟨o', by rw [heal_get hl, if_neg hi2]; exact e2⟩
/-- forgetting a block's slots -/
theorem Tr.wiped (t : Tr K σ G H es σ' G' H' es') {vs : List Nat} (h : bare es' vs = true) (h0 : ∀ (i : Nat) (o : Ow), i ∈ vs → es[i]? ≠ some (.par o)) : Tr K σ G H es (wipe σ' vs) G' H' (wipeS es' vs) := by
  refine ⟨t.g, t.sep.wipe h, t.keep, t.out, fun a z => t.own a ((owd_wipe h).mp z), fun i o hi => ?_, t.alive, by rw [wipeS_len]; exact t.len⟩
  have hi2 : i ∉ vs := fun z => h0 i o z hi
  obtain ⟨e1, o', e2⟩ := t.par i o hi
  exact ⟨by rw [wipe_get, if_neg hi2]; exact e1, o', by rw [wipeS_get, if_neg hi2]; exact e2⟩
theorem wipe_eq {vs ws : List Nat} (hl : σ'.length = σ.length) (h : ∀ k, k ∉ ws → σ'[k]? = (wipe σ vs)[k]?) (sub : ∀ k ∈ ws, k ∈ vs) : wipe σ' vs = wipe σ vs := by
  apply List.ext_getElem?
  intro k
  rw [wipe_get, wipe_get]
  by_cases hk : k ∈ vs
  · rw [if_pos hk, if_pos hk, hl]
  · rw [if_neg hk, if_neg hk, h k fun z => hk (sub k z), wipe_get, if_neg hk]
end

/-! ### tests of a comprehension -/
def tyB : DT := fun es => some (true, es)
def Tsx (X : Cx) (ifs : List Expr) (t : DT) : Prop := ∀ es b es', t es = some (b, es') → PTs X ifs (tTP X.K es b es')
theorem pts_imp {X : Cx} {ifs : List Expr} {t t' : TT} (h : PTs X ifs t) (i : ∀ σ H Q, t' σ H Q → t σ H Q) : PTs X ifs t' := ⟨fun pins s σ H Q I q => h.run pins s σ H Q I (i σ H Q q)⟩
section
variable {X : Cx} {c : Expr} {t : DT} {ifs : List Expr}
theorem tsx_nil : Tsx X [] tyB := fun es b es' h => by
  cases h
  exact pts_imp pts_nil fun σ H Q ⟨G, S, k⟩ => k G H (Tr.refl S)
theorem tsx_one (h : Tx X c t) : Tsx X [c] t := fun es b es' q => pts_one (h es b es' q)
theorem tsxU (h : Tsx X ifs t) : PTs X ifs (tTU X.K t) := ⟨fun pins s σ H Q I ⟨es, k, es', e, q⟩ => (h es k es' e).run pins s σ H Q I q⟩
end
/-! ### a list comprehension -/
def lcLoop (vs : List Nat) (g : DG) (t : DT) (f : DE) : List Dt → List Dt → Sls → Option (List Dt × Sls)
  | [], acc, es => some (acc, es)
  | d :: ds, acc, es => (g d es).bind fun es1 => (t es1).bind fun p => match p.1 with
    | true => (f p.2).bind fun q => match q.1.fz with
      | .dat y => (match bare q.2 vs with
        | true => lcLoop vs g t f ds (acc ++ [y]) (wipeS q.2 vs)
        | false => none)
      | _ => none
    | false => (match bare p.2 vs with
      | true => lcLoop vs g t f ds acc (wipeS p.2 vs)
      | false => none)
def lcF (vs : List Nat) (it : DI) (g : DG) (t : DT) (f : DE) : DE := fun es => (it es).bind fun p => match bare p.2 vs, Nat.ble p.1.length 100000 with
  | true, true => (lcLoop vs g t f p.1 [] (wipeS p.2 vs)).map fun q => (.new (.lst q.1), heal p.2 q.2 vs)
  | _, _ => none
/-- an object under way: it stands in H, nothing knows or owns it -/
def Scr (D : Addr) (ho : HO) (σ : St) (G H : Hp) (es : Sls) : Prop := H D = some ho ∧ G D = none ∧ ¬ Owd σ es D
theorem Scr.step {K : PySem.W.Frag} {D : Addr} {ho : HO} {σ σ' : St} {G H G' H' : Hp} {es es' : Sls} (s : Scr D ho σ G H es) (t : Tr K σ G H es σ' G' H' es') : Scr D ho σ' G' H' es' := by
  obtain ⟨h1, h2, h3⟩ := s
  have hn : H D ≠ none := by rw [h1]; exact fun z => nomatch z
  exact ⟨t.keep D _ h1 h3, t.out D hn h2 h3, fun z => (t.own D z).elim h3 hn⟩
theorem lcLoop_go {ws vs : List Nat} (sub : ∀ k ∈ ws, k ∈ vs) {K : PySem.W.Frag} {σ : St} {G1 H1 : Hp} {es1 esF : Sls} {g : DG} {t : DT} {f : DE} {items dsF : List Dt} {J : It} (S : Sep K σ G1 H1 es1) (hb : bare es1 vs = true) (hz : items.length ≤ 100000)
    (hl : lcLoop vs g t f items [] (wipeS es1 vs) = some (dsF, esF)) (w : IW K G1 J items) {Q : VK}
    (k : ∀ v G2 H2, Tr K σ G1 H1 es1 σ G2 H2 (heal es1 esF vs) → RN K σ H1 (heal es1 esF vs) G2 H2 v (.new (.lst dsF)) → Q v H2) : ∀ D, H1 D = none →
    ∃ W : Nat → Nat → Hp → Prop, (∃ m, W 0 m (upd H1 D (.lst []))) ∧ ∀ i m H, W i m H → (J.stop i H ∧ Q (.ref D) H) ∨ (J.go i H ∧ ∃ Nx : Hp → Prop, (∀ H', Nx H' → ∃ m', m' < m ∧ W (i + 1) m' H') ∧
      ∀ x H', J.yld i H x H' → tGU K ws g x (wipe σ vs) H' fun σ2 H2 => wipe σ2 vs = wipe σ vs ∧ tTU K t σ2 H2 fun b H3 => if b = true then tU K f σ2 H3 fun y H4 => ∃ acc, H4 D = some (.lst acc) ∧ acc.length < sizeLine ∧ Nx (upd H4 D (.lst (acc ++ [y]))) else Nx H3) := fun D hD => by
  obtain ⟨GG, Y, wk, hG, hY⟩ := w
  have SW := S.wipe hb
  have npar : ∀ (i : Nat) (o : Ow), i ∈ vs → (wipeS es1 vs)[i]? ≠ some (.par o) := fun i o hi z => by
    rw [wipeS_get, if_pos hi] at z
    split at z <;> cases z
  have gD : G1 D = none := S.fresh_g hD
  refine lc_it wk (fun i H' => ∃ G' esi acc ds, Tr K (wipe σ vs) G1 H1 (wipeS es1 vs) (wipe σ vs) G' H' esi ∧ Scr D (.lst acc) (wipe σ vs) G' H' esi ∧ RpL K G' acc ds ∧ ds.length ≤ i ∧ lcLoop vs g t f (items.drop i) ds esi = some (dsF, esF)) ?_
    (fun i H' _ ⟨G', esi, acc, ds, tr, _⟩ => hG H' (tr.g.trans tr.sep.le)) (fun i x H' H3 hi ⟨G', esi, acc, ds, tr, sc, a3, a4, hr⟩ y => ?_) (fun H' ⟨G', esi, acc, ds, tr, sc, a3, a4, hr⟩ => ?_)
  · refine ⟨G1, _, [], [], (Tr.refl SW).scratch hD gD (SW.fresh_o hD), ⟨upd_same, gD, SW.fresh_o hD⟩, .nil, Nat.zero_le _, by rw [List.drop_zero]; exact hl⟩
  · obtain ⟨ro, d, e1, e2, e3, e4⟩ := hY i H' x H3 hi (tr.g.trans tr.sep.le) y
    obtain ⟨G2, t2, n2⟩ := (e4.mono tr.g).item tr.sep e3
    rw [e2] at n2
    have hd : items.drop i = d :: items.drop (i + 1) := by
      obtain ⟨h5, h6⟩ := List.getElem?_eq_some_iff.mp e1
      rw [← h6]
      exact List.drop_eq_getElem_cons h5
    rw [hd] at hr
    obtain ⟨es2, q1, hr⟩ := Option.bind_eq_some_iff.mp hr
    obtain ⟨⟨b, es3⟩, q2, hr⟩ := Option.bind_eq_some_iff.mp hr
    refine ⟨d, esi, es2, q1, G2, t2.sep, n2, fun σ2 G3 H4 t3 hw => ⟨?_, es2, b, es3, q2, G3, t3.sep, fun G4 H5 t4 => ?_⟩⟩
    · refine wipe_eq ?_ hw sub
      have := t3.sep.len
      rw [this, t3.len, tr.len, wipeS_len, S.len]
    have we : wipe σ2 vs = wipe σ vs := wipe_eq (by rw [t3.sep.len, t3.len, tr.len, wipeS_len, S.len]) hw sub
    have t5 := (tr.trans t2).trans (t3.trans t4)
    have s5 := (sc.step t2).step (t3.trans t4)
    have g5 : Same G' G4 := t2.g.trans (t3.g.trans t4.g)
    cases b with
    | false =>
      refine iteF ?_
      dsimp only at hr
      split at hr
      · rename_i hb3
        have t6 := t5.wiped hb3 npar
        rw [we] at t6
        refine ⟨G4, _, acc, ds, t6, ⟨s5.1, s5.2.1, fun z => ?_⟩, a3.mono g5, Nat.le_succ_of_le a4, hr⟩
        rw [← we] at z
        exact s5.2.2 ((owd_wipe hb3).mp z)
      · cases hr
    | true =>
      refine iteT ?_
      obtain ⟨⟨r4, es4⟩, q3, hr⟩ := Option.bind_eq_some_iff.mp hr
      refine ⟨es3, r4, es4, q3, G4, t4.sep, fun y2 G5 H6 t6 n6 => ?_⟩
      obtain ⟨G6, t7, n7⟩ := n6.fz t6
      have s7 := s5.step t7
      have t8 := t5.trans t7
      have hlen : acc.length = ds.length := a3.length
      refine ⟨acc, s7.1, by rw [hlen]; exact Nat.lt_of_le_of_lt (Nat.le_trans a4 (Nat.le_of_lt (Nat.lt_of_lt_of_le hi hz))) (by decide), ?_⟩
      dsimp only at hr
      split at hr
      · rename_i dy hdy
        rw [hdy] at n7
        split at hr
        · rename_i hb4
          have t9 := t8.scratch (ho := .lst (acc ++ [y2])) hD s7.2.1 s7.2.2
          have t10 := t9.wiped hb4 npar
          rw [we] at t10
          refine ⟨G6, _, acc ++ [y2], ds ++ [dy], t10, ⟨upd_same, s7.2.1, fun z => ?_⟩, (a3.mono (g5.trans t7.g)).append (.one n7), by rw [List.length_append, List.length_singleton]; omega, hr⟩
          rw [← we] at z
          exact s7.2.2 ((owd_wipe hb4).mp z)
        · cases hr
      · cases hr
  · rw [List.drop_length] at hr
    cases hr
    refine k _ G' H' (Tr.unwipe S hb tr) ⟨D, rfl, hD, sc.2.1, ⟨_, sc.1, .lst a3⟩, fun z => ?_⟩
    obtain ⟨i, e, o, h1, h2, h3⟩ := z
    rw [heal_get (by rw [tr.len, wipeS_len])] at h1
    by_cases hi : i ∈ vs
    · rw [if_pos hi] at h1
      obtain ⟨e', q1, q2⟩ := bare_ok hb hi
      rw [h1] at q1
      cases q1
      rw [h2] at q2
      cases q2
    · rw [if_neg hi] at h1
      exact sc.2.2 ⟨i, e, o, h1, h2, by rw [wipe_get, if_neg hi]; exact h3⟩
/-- what is shown of a part of a block, whatever its start -/
abbrev InBlk (X : Cx) (scope : Scope) (φ : Cx → Prop) : Prop := ∀ (s : Shared) (H : Hp) (C : Addr) (cl : List (Str × Addr)) (fp : List Addr), φ (X.blk s H scope (compEnvC scope cl C X.env) fp)
section
variable {X : Cx} {elt tg iter kx vx : Expr} {ifs : List Expr} {scope : Scope} {own : List (Str × Nat)} {ws : List Nat} {pos spos : Pos} {it : DI} {g : DG} {t : DT} {f fk : DE}
theorem lc_go {K : PySem.W.Frag} {σ : St} {H : Hp} {es es' : Sls} {r : Rs} {Q : VK} {vs : List Nat} (sub : ∀ k ∈ ws, k ∈ vs) {items : List Dt} {es1 : Sls} (h1 : it es = some (items, es1)) (h : lcF vs it g t f es = some (r, es')) (q : tP K es r es' σ H Q) :
    tLc (tIP K es items es1) (tGU K ws g) (tTU K t) (tU K f) vs σ H Q := by
  unfold lcF at h
  rw [h1] at h
  obtain ⟨G, S, kk⟩ := q
  refine ⟨G, S, fun J G1 H1 t1 w => ?_⟩
  have h' : (match bare es1 vs, Nat.ble items.length 100000 with
    | true, true => (lcLoop vs g t f items [] (wipeS es1 vs)).map fun q => ((.new (.lst q.1) : Rs), heal es1 q.2 vs)
    | _, _ => none) = some (r, es') := h
  split at h'
  · rename_i hb hz
    obtain ⟨⟨dsF, esF⟩, q1, q2⟩ := Option.map_eq_some_iff.mp h'
    cases q2
    exact lcLoop_go sub t1.sep hb (Nat.le_of_ble_eq_true hz) q1 w fun v G2 H2 t2 n2 => kk v G2 H2 (t1.trans t2) (n2.back t1)
  · cases h'
theorem lcF_it {vs : List Nat} {es es' : Sls} {r : Rs} (h : lcF vs it g t f es = some (r, es')) : ∃ items es1, it es = some (items, es1) := by
  unfold lcF at h
  obtain ⟨⟨items, es1⟩, h1, _⟩ := Option.bind_eq_some_iff.mp h
  exact ⟨items, es1, h1⟩
theorem sx_lc (hc : X.calm = true) (hN : X.N.Nodup) (hi : Ix X tg iter it) (ok : BlkOk X.N X.env.scope scope own) (hg : InBlk X scope fun Y => Gx Y tg ws g) (ht : InBlk X scope fun Y => Tsx Y ifs t) (he : InBlk X scope fun Y => Sx Y elt f) (sub : ∀ k ∈ ws, k ∈ own.map (·.2) := by decide)
    (hs : ∀ x, foldedSetIterable iter X.env x = pure x := by intro _; rfl) : Sx X (.ListComp elt [⟨tg, iter, ifs, 0⟩] scope pos) (lcF (own.map (·.2)) it g t f) := fun es r es' h => by
  obtain ⟨items, es1, h1⟩ := lcF_it h
  exact pe_imp (pe_lc hc hN (hi _ _ _ h1) ok (fun s H C cl fp => gxU (hg s H C cl fp)) (fun s H C cl fp => tsxU (ht s H C cl fp)) (fun s H C cl fp => sxU (he s H C cl fp)) hs) fun σ H Q q => lc_go sub h1 h q
/-- y = [..], its own; frozen -/
theorem px_setLcU {i : Nat} {y : Str} {py : Pos} (hc : X.calm = true) (hN : X.N.Nodup) (hi : Ix X tg iter it) (ok : BlkOk X.N X.env.scope scope own) (hg : InBlk X scope fun Y => Gx Y tg ws g) (ht : InBlk X scope fun Y => Tsx Y ifs t) (he : InBlk X scope fun Y => Sx Y elt f) (sub : ∀ k ∈ ws, k ∈ own.map (·.2))
    (hsw : swapsWith (.ListComp elt [⟨tg, iter, ifs, 0⟩] scope pos) (some (.Name y py)) spos.line X.env = pure true) (hy : X.N[i]? = some y) (hyl : X.env.scope.names.lookup y = some .local)
    (hs : ∀ x, foldedSetIterable iter X.env x = pure x) {es es' es1 : Sls} {r : Rs} {items : List Dt} (h1 : it es = some (items, es1)) (h : lcF (own.map (·.2)) it g t f es = some (r, es')) {D : Ends} {σ : St} {H : Hp} {pins : List (Addr × Obj)} {s : Shared} (I : Inv X pins σ H s)
    (q : tP X.K es r es' σ H fun v H1 => D.nx (σ.set i (some v)) H1) : wpAny (model X.prog X.w) X.A (exec (.Assign [.Name y py] (.ListComp elt [⟨tg, iter, ifs, 0⟩] scope pos) spos) X.env) (SP X pins D) X.xe s :=
  (ps_setLc hc hN hy hyl hsw (hi _ _ _ h1) ok (fun s H C cl fp => gxU (hg s H C cl fp)) (fun s H C cl fp => tsxU (ht s H C cl fp)) (fun s H C cl fp => sxU (he s H C cl fp)) hs).run pins s σ H D I (lc_go sub h1 h q)
/-- what a statement name = e does, from what e comes to -/
theorem setB_go {K : PySem.W.Frag} {σ : St} {H : Hp} {es es' : Sls} {fl : Fl} {i : Nat} {F : DE} {D : Ends} (q : setB i F es = some (fl, es')) (k : tSP K es fl es' D σ H) : ∃ r es1, F es = some (r, es1) ∧ tP K es r es1 σ H fun v H1 => D.nx (σ.set i (some v)) H1 := by
  obtain ⟨⟨r, es1⟩, q1, q⟩ := Option.bind_eq_some_iff.mp q
  obtain ⟨G, S, k⟩ := k
  refine ⟨r, es1, q1, G, S, fun v G' H' t n => ?_⟩
  dsimp only at q
  cases hp : noPar es1 i with
  | false => rw [hp] at q; cases q
  | true =>
    rw [hp] at q
    obtain ⟨h1, h2⟩ := noPar_ok hp
    cases r with
    | dat d =>
      cases q
      exact k _ G' H' (t.storeD h1 h2 n)
    | al j => cases q
    | new o =>
      cases q
      obtain ⟨p, rfl, w1, w2, w3, w4⟩ := n
      refine k _ G' H' (t.store h1 h2 (e := .own o) ⟨p, rfl, w2, w3⟩ (fun _ z => nomatch z) fun o' p' e1 e2 => ?_)
      cases e2
      exact ⟨w4, .inr w1⟩
theorem setZ_go {K : PySem.W.Frag} {σ : St} {H : Hp} {es es' : Sls} {fl : Fl} {i : Nat} {F : DE} {D : Ends} (q : setZ i F es = some (fl, es')) (k : tSP K es fl es' D σ H) : ∃ r es1, F es = some (r, es1) ∧ tP K es r es1 σ H fun v H1 => D.nx (σ.set i (some v)) H1 := by
  obtain ⟨⟨r, es1⟩, q1, q⟩ := Option.bind_eq_some_iff.mp q
  obtain ⟨G, S, k⟩ := k
  refine ⟨r, es1, q1, G, S, fun v G' H' t n => ?_⟩
  dsimp only at q
  cases hp : noPar es1 i with
  | false => rw [hp] at q; cases q
  | true =>
    rw [hp] at q
    cases r with
    | dat d =>
      cases q
      obtain ⟨G2, t2⟩ := n.storeZ t hp rfl
      exact k _ G2 H' t2
    | al j => cases q
    | new o =>
      cases q
      obtain ⟨G2, t2⟩ := n.storeZ t hp rfl
      exact k _ G2 H' t2
theorem px_setLc {i : Nat} {y : Str} {py : Pos} (hc : X.calm = true) (hN : X.N.Nodup) (hi : Ix X tg iter it) (ok : BlkOk X.N X.env.scope scope own) (hg : InBlk X scope fun Y => Gx Y tg ws g) (ht : InBlk X scope fun Y => Tsx Y ifs t) (he : InBlk X scope fun Y => Sx Y elt f) (sub : ∀ k ∈ ws, k ∈ own.map (·.2) := by decide)
    (hsw : swapsWith (.ListComp elt [⟨tg, iter, ifs, 0⟩] scope pos) (some (.Name y py)) spos.line X.env = pure true) (hy : X.N[i]? = some y := by rfl) (hyl : X.env.scope.names.lookup y = some .local := by rfl)
    (hs : ∀ x, foldedSetIterable iter X.env x = pure x := by intro _; rfl) : Px X (.Assign [.Name y py] (.ListComp elt [⟨tg, iter, ifs, 0⟩] scope pos) spos) (setB i (lcF (own.map (·.2)) it g t f)) := fun es fl es' q => ⟨fun pins s σ H D I k => by
  obtain ⟨r, es1, h, k2⟩ := setB_go q k
  obtain ⟨items, es2, h1⟩ := lcF_it h
  exact px_setLcU hc hN hi ok hg ht he sub hsw hy hyl hs h1 h I k2⟩
theorem px_setLcZ {i : Nat} {y : Str} {py : Pos} (hc : X.calm = true) (hN : X.N.Nodup) (hi : Ix X tg iter it) (ok : BlkOk X.N X.env.scope scope own) (hg : InBlk X scope fun Y => Gx Y tg ws g) (ht : InBlk X scope fun Y => Tsx Y ifs t) (he : InBlk X scope fun Y => Sx Y elt f) (sub : ∀ k ∈ ws, k ∈ own.map (·.2) := by decide)
    (hsw : swapsWith (.ListComp elt [⟨tg, iter, ifs, 0⟩] scope pos) (some (.Name y py)) spos.line X.env = pure true) (hy : X.N[i]? = some y := by rfl) (hyl : X.env.scope.names.lookup y = some .local := by rfl)
    (hs : ∀ x, foldedSetIterable iter X.env x = pure x := by intro _; rfl) : Px X (.Assign [.Name y py] (.ListComp elt [⟨tg, iter, ifs, 0⟩] scope pos) spos) (setZ i (lcF (own.map (·.2)) it g t f)) := fun es fl es' q => ⟨fun pins s σ H D I k => by
  obtain ⟨r, es1, h, k2⟩ := setZ_go q k
  obtain ⟨items, es2, h1⟩ := lcF_it h
  exact px_setLcU hc hN hi ok hg ht he sub hsw hy hyl hs h1 h I k2⟩
end
end PL

set_option Elab.async false
set_option linter.all false
set_option maxRecDepth 100000
set_option maxHeartbeats 1000000
/-! The pure layer, part G: the operators on data. -/
namespace PL
open PySem PySem.Spec PyProof.Rows L2

/-! ### data of the library -/
mutual
def py : Dt → PyData
  | .non => .none
  | .bl b => .bool b
  | .int i => .int i
  | .str x => .str x
  | .lst l => .list (pys l)
  | .tup l => .tuple (pys l)
  | _ => .none
def pys : List Dt → List PyData
  | [] => []
  | d :: ds => py d :: pys ds
end
mutual
/-- no dict, no instance within -/
def flat : Dt → Bool
  | .non => true
  | .bl _ => true
  | .int _ => true
  | .str _ => true
  | .lst l => flats l
  | .tup l => flats l
  | _ => false
def flats : List Dt → Bool
  | [] => true
  | d :: ds => flat d && flats ds
end
mutual
def dep : Dt → Nat
  | .lst l => deps l + 1
  | .tup l => deps l + 1
  | _ => 0
def deps : List Dt → Nat
  | [] => 0
  | d :: ds => max (dep d) (deps ds)
end
mutual
theorem py_dep : ∀ d : Dt, (py d).depth = dep d
  | .non => by simp [py, PyData.depth, dep]
  | .bl _ => by simp [py, PyData.depth, dep]
  | .int _ => by simp [py, PyData.depth, dep]
  | .str _ => by simp [py, PyData.depth, dep]
  | .lst l => by simp [py, PyData.depth, dep, pys_dep l]
  | .frl l => by simp [py, PyData.depth, dep]
  | .tup l => by simp [py, PyData.depth, dep, pys_dep l]
  | .dct _ => by simp [py, PyData.depth, dep]
  | .dcT _ => by simp [py, PyData.depth, dep]
  | .ob _ _ => by simp [py, PyData.depth, dep]
theorem pys_dep : ∀ l : List Dt, PyData.depthAll (pys l) = deps l
  | [] => by simp [pys, PyData.depthAll, deps]
  | d :: ds => by simp [pys, PyData.depthAll, deps, py_dep d, pys_dep ds]
end
mutual
theorem py_plain : ∀ d : Dt, (py d).plain = true
  | .non => by simp [py, PyData.plain]
  | .bl _ => by simp [py, PyData.plain]
  | .int _ => by simp [py, PyData.plain]
  | .str _ => by simp [py, PyData.plain]
  | .lst l => by simp [py, PyData.plain, pys_plain l]
  | .frl l => by simp [py, PyData.plain]
  | .tup l => by simp [py, PyData.plain, pys_plain l]
  | .dct _ => by simp [py, PyData.plain]
  | .dcT _ => by simp [py, PyData.plain]
  | .ob _ _ => by simp [py, PyData.plain]
theorem pys_plain : ∀ l : List Dt, PyData.plainAll (pys l) = true
  | [] => by simp [pys, PyData.plainAll]
  | d :: ds => by simp [pys, PyData.plainAll, py_plain d, pys_plain ds]
end
section
variable {K : PySem.W.Frag} {G H G' H' : Hp}
mutual
theorem Rp.dp : ∀ {v : V} {d : Dt}, Rp K G v d → flat d = true → Dp K G v (py d)
  | _, _, .non, _ => by rw [py]; exact .non
  | _, _, .bl b, _ => by rw [py]; exact .bl b
  | _, _, .int i, _ => by rw [py]; exact .int i
  | _, _, .str x, _ => by rw [py]; exact .str x
  | _, _, .lst h r, f => by
    rw [py]
    rw [flat] at f
    exact .lst (.inl (.inl h)) (RpL.dp r f)
  | _, _, .frl h r, f => by simp [flat] at f
  | _, _, .tup h r, f => by
    rw [py]
    rw [flat] at f
    exact .tup h (RpL.dp r f)
  | _, _, .dct h r, f => by simp [flat] at f
  | _, _, .dcT h r, f => by simp [flat] at f
  | _, _, .ob h r, f => by simp [flat] at f
theorem RpL.dp : ∀ {vs : List V} {ds : List Dt}, RpL K G vs ds → flats ds = true → DpAll K G vs (pys ds)
  | _, _, .nil, _ => by rw [pys]; exact .nil
  | _, _, .cons h r, f => by
    rw [flats, Bool.and_eq_true] at f
    rw [pys]
    exact .cons (Rp.dp h f.1) (RpL.dp r f.2)
end
theorem Rq.dp {v : V} {d : Dt} (h : Rq K G H v d) (le : Same G H) (f : flat d = true) : Dp K H v (py d) := (h.rp le).dp f
end

/-! ### operations by data, whatever rule does it -/
def BinAt (K : PySem.W.Frag) (r : R2) (d e : Dt) (ro : Ro) : Prop :=
  ∀ (G H : Hp) (x y : V) (Q : VK), Same G H → Rq K G H x d → Rq K G H y e → (∀ v H', RoOk K G H v H' ro → Q v H') → r x y H Q
def OpAt (X : Cx) (f : Value → Value → Sem Value) (pf : Dt → Dt → Option Ro) : Prop := ∀ d e ro, pf d e = some ro → ∃ r, OpR X f r ∧ BinAt X.K r d e ro
theorem tOp_at {K : PySem.W.Frag} {σ : St} {H : Hp} {es es1 es2 : Sls} {r1 r2 : Rs} {r : R2} {d e : Dt} {ro : Ro} (hb : BinAt K r d e ro) (l1 : look es2 r1.fz = some d) (l2 : look es2 r2 = some e) {Q : VK} (q : tP K es ro.rs es2 σ H Q) : tOp r (tP K es r1 es1) (tP K es1 r2 es2) σ H Q := by
  obtain ⟨G, S, k⟩ := q
  refine ⟨G, S, fun x G1 H1 t1 n1 => ?_⟩
  obtain ⟨G1', t1', n1'⟩ := n1.fz t1
  refine ⟨G1', t1'.sep, fun y G2 H2 t2 n2 => ?_⟩
  have t := t1'.trans t2
  refine hb G2 H2 x y Q t.sep.le ((n1'.later t2).rq t.sep l1) (n2.rq t.sep l2) fun v H' ok => ?_
  obtain ⟨G3, t3, n3⟩ := ok.go t
  exact k v G3 H' t3 n3
section
variable {X : Cx} {a b c : Expr} {f g h : DE} {pos : Pos}
theorem sx_opA {op : Operator} {pf : Dt → Dt → Option Ro} (ho : OpAt X (binaryOp op) pf) (sa : Sx X a f) (sb : Sx X b g) : Sx X (.BinOp a op b pos) (opF pf f g) := fun es r es' h => by
  obtain ⟨r1, es1, r2, d, e, ro, h1, h2, h3, h4, h5, rfl⟩ := opF_inv h
  obtain ⟨r, o, hb⟩ := ho d e ro h5
  exact pe_imp (pe_op o (sa _ _ _ h1) (sb _ _ _ h2)) fun σ H Q q => tOp_at hb h3 h4 q
theorem sx_cmpA {op : CmpOp} {pf : Dt → Dt → Option Ro} (ho : OpAt X (compareOp op) pf) (sa : Sx X a f) (sb : Sx X b g) (hm : behindInMarks op b = false := by first | rfl | exact nomark _) : Sx X (.Compare a [op] [b] pos) (opF pf f g) := fun es r es' h => by
  obtain ⟨r1, es1, r2, d, e, ro, h1, h2, h3, h4, h5, rfl⟩ := opF_inv h
  obtain ⟨r, o, hb⟩ := ho d e ro h5
  exact pe_imp (pe_cmpR o (sa _ _ _ h1) (sb _ _ _ h2) hm) fun σ H Q q => tOp_at hb h3 h4 q
theorem tx_cmpA {op : CmpOp} {pf : Dt → Dt → Option Ro} (ho : OpAt X (compareOp op) pf) (sa : Sx X a f) (sb : Sx X b g) (hm : behindInMarks op b = false := by first | rfl | exact nomark _) : Tx X (.Compare a [op] [b] pos) (boolF (opF pf f g)) := fun es k es' h => by
  obtain ⟨r1, es1, r2, d, e, ro, h1, h2, h3, h4, h5, h6⟩ := opF_inv (boolF_inv h)
  obtain ⟨r, o, hb⟩ := ho d e ro h5
  refine pt_imp (pt_cmpR o (sa _ _ _ h1) (sb _ _ _ h2) hm) fun σ H Q q => ?_
  obtain ⟨G, S, kk⟩ := q
  refine tOp_at hb h3 h4 ⟨G, S, fun v G' H' t n => ?_⟩
  rw [← h6] at n
  have n' : Rp X.K G' v (.bl k) := n
  cases n'
  exact ⟨k, rfl, kk G' H' t⟩
/-! ### a < b < c -/
def chainF (pf pf' : Dt → Dt → Option Ro) (f g h : DE) : DE := fun es => (f es).bind fun p => (g p.2).bind fun q => (look q.2 p.1.fz).bind fun d => (look q.2 q.1.fz).bind fun e => match pf d e with
  | some (.val (.bl true)) => (h q.2).bind fun z => (look z.2 q.1.fz).bind fun e' => (look z.2 z.1).bind fun c => (pf' e' c).map fun ro => (ro.rs, z.2)
  | some (.val (.bl false)) => some (.dat (.bl false), q.2)
  | _ => none
theorem chain_go {K : PySem.W.Frag} {σ : St} {H : Hp} {es es' es1 es2 : Sls} {r1 r2 rr : Rs} {r r' : R2} {d e : Dt} {k : Bool} {pf' : Dt → Dt → Option Ro} (hb : BinAt K r d e (.val (.bl k))) (hb' : ∀ e' c ro, pf' e' c = some ro → BinAt K r' e' c ro) (l1 : look es2 r1.fz = some d) (l2 : look es2 r2.fz = some e)
    (hk : (k = true ∧ ∃ r3 e' c ro, h es2 = some (r3, es') ∧ look es' r2.fz = some e' ∧ look es' r3 = some c ∧ pf' e' c = some ro ∧ rr = ro.rs) ∨ (k = false ∧ es' = es2 ∧ rr = .dat (.bl false))) {Q : VK} (q : tP K es rr es' σ H Q) :
    tChain r r' (tP K es r1 es1) (tP K es1 r2 es2) (tU K h) σ H Q := by
  obtain ⟨G, S, kk⟩ := q
  refine ⟨G, S, fun x G1 H1 t1 n1 => ?_⟩
  obtain ⟨G1', t1', n1'⟩ := n1.fz t1
  refine ⟨G1', t1'.sep, fun y G2 H2 t2 n2 => ?_⟩
  obtain ⟨G2', t2', n2'⟩ := n2.fz t2
  have t := t1'.trans t2'
  refine hb G2' H2 x y _ t.sep.le ((n1'.later t2').rq t.sep l1) (n2'.rq t.sep l2) fun v H' ok => ?_
  obtain ⟨rfl, n⟩ := ok
  cases n
  refine ⟨k, rfl, ?_⟩
  rcases hk with ⟨rfl, r3, e', c, ro, q1, q2, q3, q4, rfl⟩ | ⟨rfl, rfl, rfl⟩
  · rw [if_pos rfl]
    refine ⟨_, r3, _, q1, G2', t.sep, fun w G3 H3 t3 n3 => ?_⟩
    have t4 := t.trans t3
    refine hb' e' c ro q4 G3 H3 y w Q t4.sep.le ((n2'.later t3).rq t4.sep q2) (n3.rq t4.sep q3) fun v H' ok => ?_
    obtain ⟨G4, t5, n5⟩ := ok.go t4
    exact kk v G4 H' t5 n5
  · rw [if_neg Bool.false_ne_true]
    exact kk _ G2' _ t (Rp.bl false)
theorem chainF_inv {pf pf' : Dt → Dt → Option Ro} {es es' : Sls} {rr : Rs} (hh : chainF pf pf' f g h es = some (rr, es')) : ∃ r1 es1 r2 es2 d e k, f es = some (r1, es1) ∧ g es1 = some (r2, es2) ∧ look es2 r1.fz = some d ∧ look es2 r2.fz = some e ∧ pf d e = some (.val (.bl k)) ∧
    ((k = true ∧ ∃ r3 e' c ro, h es2 = some (r3, es') ∧ look es' r2.fz = some e' ∧ look es' r3 = some c ∧ pf' e' c = some ro ∧ rr = ro.rs) ∨ (k = false ∧ es' = es2 ∧ rr = .dat (.bl false))) := by
  unfold chainF at hh
  obtain ⟨⟨r1, es1⟩, h1, hh⟩ := Option.bind_eq_some_iff.mp hh
  obtain ⟨⟨r2, es2⟩, h2, hh⟩ := Option.bind_eq_some_iff.mp hh
  obtain ⟨d, h3, hh⟩ := Option.bind_eq_some_iff.mp hh
  obtain ⟨e, h4, hh⟩ := Option.bind_eq_some_iff.mp hh
  dsimp only at hh
  split at hh
  · rename_i hp
    obtain ⟨⟨r3, es3⟩, q1, hh⟩ := Option.bind_eq_some_iff.mp hh
    obtain ⟨e', q2, hh⟩ := Option.bind_eq_some_iff.mp hh
    obtain ⟨c, q3, hh⟩ := Option.bind_eq_some_iff.mp hh
    obtain ⟨ro, q4, hh⟩ := Option.map_eq_some_iff.mp hh
    cases hh
    exact ⟨r1, es1, r2, es2, d, e, true, h1, h2, h3, h4, hp, .inl ⟨rfl, r3, e', c, ro, q1, q2, q3, q4, rfl⟩⟩
  · rename_i hp
    cases hh
    exact ⟨r1, es1, r2, _, d, e, false, h1, h2, h3, h4, hp, .inr ⟨rfl, rfl, rfl⟩⟩
  · cases hh
/-- the second rule must be one for all data (ints) -/
theorem sx_chain {op op' : CmpOp} {pf pf' : Dt → Dt → Option Ro} {r' : R2} (ho : OpAt X (compareOp op) pf) (ho' : OpR X (compareOp op') r') (hb' : ∀ e' c ro, pf' e' c = some ro → BinAt X.K r' e' c ro) (sa : Sx X a f) (sb : Sx X b g) (sc : Sx X c h)
    (hm : lastMarks [op, op'] [b, c] = false := by with_unfolding_all rfl) : Sx X (.Compare a [op, op'] [b, c] pos) (chainF pf pf' f g h) := fun es rr es' hh => by
  obtain ⟨r1, es1, r2, es2, d, e, k, h1, h2, h3, h4, h5, h6⟩ := chainF_inv hh
  obtain ⟨r, o, hb⟩ := ho d e _ h5
  exact pe_imp (pe_chain o ho' (sa _ _ _ h1) (sb _ _ _ h2) (sxU sc) hm) fun σ H Q q => chain_go hb hb' h3 h4 h6 q
theorem tx_chain {op op' : CmpOp} {pf pf' : Dt → Dt → Option Ro} {r' : R2} (ho : OpAt X (compareOp op) pf) (ho' : OpR X (compareOp op') r') (hb' : ∀ e' c ro, pf' e' c = some ro → BinAt X.K r' e' c ro) (sa : Sx X a f) (sb : Sx X b g) (sc : Sx X c h)
    (hm : lastMarks [op, op'] [b, c] = false := by with_unfolding_all rfl) : Tx X (.Compare a [op, op'] [b, c] pos) (boolF (chainF pf pf' f g h)) := fun es kk es' hh => by
  obtain ⟨r1, es1, r2, es2, d, e, k, h1, h2, h3, h4, h5, h6⟩ := chainF_inv (boolF_inv hh)
  obtain ⟨r, o, hb⟩ := ho d e _ h5
  refine pt_imp (pt_chain o ho' (sa _ _ _ h1) (sb _ _ _ h2) (sxU sc) hm) fun σ H Q q => ?_
  obtain ⟨G, S, q⟩ := q
  refine chain_go hb hb' h3 h4 h6 ⟨G, S, fun v G' H' t n => ?_⟩
  have n' : Rp X.K G' v (.bl kk) := n
  cases n'
  exact ⟨kk, rfl, q G' H' t⟩

/-! ### arithmetic -/
def small64 (i : Int) : Bool := decide (-(2 ^ 64) < i ∧ i < 2 ^ 64)
def addP : Dt → Dt → Option Ro
  | .int i, .int j => some (.val (.int (i + j)))
  | .str x, .str y => if x.length + y.length ≤ 100000 then some (.val (.str (x ++ y))) else none
  | .lst l, .lst m => if l.length + m.length ≤ 100000 then some (.nw (.lst (l ++ m))) else none
  | .tup l, .tup m => if l.length + m.length ≤ 100000 then (if l.isEmpty then some (.val (.tup m)) else if m.isEmpty then some (.val (.tup l)) else some (.nt (l ++ m))) else none
  | _, _ => none
theorem int2 {K : PySem.W.Frag} {G H : Hp} {x y : V} {i j : Int} {g : Int → Int → V} {d : Dt} {Q : VK} (h1 : Rq K G H x (.int i)) (h2 : Rq K G H y (.int j)) (hr : Rp K G (g i j) d) (k : ∀ v H', RoOk K G H v H' (.val d) → Q v H') : rI0 g x y H Q :=
  ⟨i, j, h1.int, h2.int, k _ H ⟨rfl, hr⟩⟩
theorem rq_tupV {K : PySem.W.Frag} {G H : Hp} {x : V} {l : List Dt} (h : Rq K G H x (.tup l)) : Rp K G x (.tup l) := by
  rcases h with h | ⟨a, o, _, _, h4⟩
  · exact h
  · cases o <;> cases h4
theorem add_at : OpAt X (binaryOp .Add) addP := fun d e ro h => by
  cases d with
  | int i =>
    cases e with
    | int j =>
      cases h
      exact ⟨_, op_add, fun G H x y Q le h1 h2 k => int2 h1 h2 (.int _) k⟩
    | _ => cases h
  | str x =>
    cases e with
    | str y =>
      have h' : (if x.length + y.length ≤ 100000 then some (Ro.val (.str (x ++ y))) else none) = some ro := h
      split at h'
      · rename_i hl
        cases h'
        exact ⟨_, op_add_str, fun G H v w Q le h1 h2 k => ⟨x, y, h1.str, h2.str, sz100 hl, k _ H ⟨rfl, .str _⟩⟩⟩
      · cases h'
    | _ => cases h
  | lst l =>
    cases e with
    | lst m =>
      have h' : (if l.length + m.length ≤ 100000 then some (Ro.nw (.lst (l ++ m))) else none) = some ro := h
      split at h'
      · rename_i hl
        cases h'
        refine ⟨_, op_cat, fun G H v w Q le h1 h2 k => ?_⟩
        obtain ⟨p, vs, rfl, a1, a2⟩ := h1.lst le
        obtain ⟨q, ws, rfl, b1, b2⟩ := h2.lst le
        exact ⟨p, q, vs, ws, rfl, rfl, a1, b1, by rw [a2.length, b2.length]; exact sz100 hl, fun z hz => k _ _ ⟨z, _, rfl, hz, rfl, .lst (a2.append b2)⟩⟩
      · cases h'
    | _ => cases h
  | tup l =>
    cases e with
    | tup m =>
      have h' : (if l.length + m.length ≤ 100000 then (if l.isEmpty then some (Ro.val (.tup m)) else if m.isEmpty then some (.val (.tup l)) else some (.nt (l ++ m))) else none) = some ro := h
      split at h'
      · rename_i hl
        refine ⟨_, op_catA, fun G H v w Q le h1 h2 k => ?_⟩
        obtain ⟨p, vs, rfl, a1, a2⟩ := h1.tup le
        obtain ⟨q, ws, rfl, b1, b2⟩ := h2.tup le
        have el : vs = [] ↔ l.isEmpty = true := by cases a2 <;> simp
        have em : ws = [] ↔ m.isEmpty = true := by cases b2 <;> simp
        refine ⟨p, q, vs, ws, rfl, rfl, a1, b1, by rw [a2.length, b2.length]; exact sz100 hl, fun z => ?_, fun z1 z2 => ?_, fun z1 z2 => ?_⟩
        · rw [if_pos (el.mp z)] at h'
          cases h'
          exact k _ H ⟨rfl, rq_tupV h2⟩
        · rw [if_neg (fun z => z1 (el.mpr z)), if_pos (em.mp z2)] at h'
          cases h'
          exact k _ H ⟨rfl, rq_tupV h1⟩
        · rw [if_neg (fun z => z1 (el.mpr z)), if_neg (fun z => z2 (em.mpr z))] at h'
          cases h'
          exact fun r hr => k _ _ ⟨r, _, rfl, hr, rfl, a2.append b2⟩
      · cases h'
    | _ => cases h
  | _ => cases h
def subP : Dt → Dt → Option Ro
  | .int i, .int j => some (.val (.int (i - j)))
  | _, _ => none
theorem sub_at : OpAt X (binaryOp .Sub) subP := fun d e ro h => by
  cases d with
  | int i =>
    cases e with
    | int j => cases h; exact ⟨_, op_sub, fun G H x y Q le h1 h2 k => int2 h1 h2 (.int _) k⟩
    | _ => cases h
  | _ => cases h
/-- one factor below 2 ^ 64, or both of less than a million bits together -/
def mulOk (i j : Int) : Prop := (-(2 ^ 64) < i ∧ i < 2 ^ 64) ∨ (-(2 ^ 64) < j ∧ j < 2 ^ 64) ∨ i.natAbs.log2 + j.natAbs.log2 < 1000000
instance (i j : Int) : Decidable (mulOk i j) := by unfold mulOk; infer_instance
def mulP : Dt → Dt → Option Ro
  | .int i, .int j => if mulOk i j then some (.val (.int (i * j))) else none
  | .lst l, .int k => if -(2 ^ 63) ≤ k ∧ k < 2 ^ 63 ∧ l.length * k.toNat ≤ 100000 then some (.nw (.lst (List.replicate k.toNat l).flatten)) else none
  | _, _ => none
theorem RpL.rep {K : PySem.W.Frag} {G : Hp} {vs : List V} {ds : List Dt} (h : RpL K G vs ds) : ∀ n, RpL K G (List.replicate n vs).flatten (List.replicate n ds).flatten
  | 0 => .nil
  | n + 1 => by
    rw [List.replicate_succ, List.replicate_succ, List.flatten_cons, List.flatten_cons]
    exact h.append (RpL.rep h n)
theorem mul_at : OpAt X (binaryOp .Mult) mulP := fun d e ro h => by
  cases d with
  | int i =>
    cases e with
    | int j =>
      have h' : (if mulOk i j then some (Ro.val (.int (i * j))) else none) = some ro := h
      split at h'
      · rename_i hm
        cases h'
        by_cases hw : i.natAbs.log2 + j.natAbs.log2 < 1000000
        · exact ⟨_, op_mulW, fun G H x y Q le h1 h2 k => ⟨i, j, h1.int, h2.int, hw, k _ H ⟨rfl, .int _⟩⟩⟩
        · exact ⟨_, op_mul, fun G H x y Q le h1 h2 k => ⟨i, j, h1.int, h2.int, by
            rcases hm with q | q | q
            · exact .inl q
            · exact .inr q
            · exact absurd q hw, k _ H ⟨rfl, .int _⟩⟩⟩
      · cases h'
    | _ => cases h
  | lst l =>
    cases e with
    | int n =>
      have h' : (if -(2 ^ 63) ≤ n ∧ n < 2 ^ 63 ∧ l.length * n.toNat ≤ 100000 then some (Ro.nw (.lst (List.replicate n.toNat l).flatten)) else none) = some ro := h
      split at h'
      · rename_i hn
        cases h'
        refine ⟨_, op_rep, fun G H v w Q le h1 h2 k => ?_⟩
        obtain ⟨p, vs, rfl, a1, a2⟩ := h1.lst le
        exact ⟨p, n, vs, rfl, h2.int, a1, hn.1, hn.2.1, by rw [a2.length]; exact sz100 hn.2.2, fun z hz => k _ _ ⟨z, _, rfl, hz, rfl, .lst (a2.rep _)⟩⟩
      · cases h'
    | _ => cases h
  | _ => cases h
def divP : Dt → Dt → Option Ro
  | .int i, .int j => if 0 < j ∧ j.natAbs.log2 < 9000 then some (.val (.int (i / j))) else none
  | _, _ => none
theorem div_at : OpAt X (binaryOp .FloorDiv) divP := fun d e ro h => by
  cases d with
  | int i =>
    cases e with
    | int j =>
      have h' : (if 0 < j ∧ j.natAbs.log2 < 9000 then some (Ro.val (.int (i / j))) else none) = some ro := h
      split at h'
      · rename_i hm
        cases h'
        exact ⟨_, op_fdivW, fun G H x y Q le h1 h2 k => ⟨i, j, h1.int, h2.int, hm, k _ H ⟨rfl, .int _⟩⟩⟩
      · cases h'
    | _ => cases h
  | _ => cases h
def modP : Dt → Dt → Option Ro
  | .int i, .int j => if 0 < j then some (.val (.int (i % j))) else none
  | _, _ => none
theorem mod_at : OpAt X (binaryOp .Mod) modP := fun d e ro h => by
  cases d with
  | int i =>
    cases e with
    | int j =>
      have h' : (if 0 < j then some (Ro.val (.int (i % j))) else none) = some ro := h
      split at h'
      · rename_i hm
        cases h'
        exact ⟨_, op_mod, fun G H x y Q le h1 h2 k => ⟨i, j, h1.int, h2.int, hm, k _ H ⟨rfl, .int _⟩⟩⟩
      · cases h'
    | _ => cases h
  | _ => cases h
def powP : Dt → Dt → Option Ro
  | .int i, .int j => if 0 ≤ j ∧ j ≤ 1000000 ∧ i.natAbs < 2 ^ 64 then some (.val (.int (i ^ j.toNat))) else none
  | _, _ => none
theorem pow_at : OpAt X (binaryOp .Pow) powP := fun d e ro h => by
  cases d with
  | int i =>
    cases e with
    | int j =>
      have h' : (if 0 ≤ j ∧ j ≤ 1000000 ∧ i.natAbs < 2 ^ 64 then some (Ro.val (.int (i ^ j.toNat))) else none) = some ro := h
      split at h'
      · rename_i hm
        cases h'
        exact ⟨_, op_pow, fun G H x y Q le h1 h2 k => ⟨i, j, h1.int, h2.int, hm, k _ H ⟨rfl, .int _⟩⟩⟩
      · cases h'
    | _ => cases h
  | _ => cases h
def negP : Dt → Option Ro
  | .int i => some (.val (.int (-i)))
  | _ => none
theorem neg_ok {K : PySem.W.Frag} : UnS K (rU fun i => .int (-i)) negP := fun G H x d ro Q le h e k => by
  cases d with
  | int i => cases e; exact ⟨i, h.int, k _ H ⟨rfl, .int _⟩⟩
  | _ => cases e
theorem sx_neg (sa : Sx X a f) : Sx X (.UnaryOp .USub a pos) (unF negP f) := sx_un un_neg neg_ok sa

/-! ### comparisons -/
/-- == of data -/
def eqD (d e : Dt) : Bool := PyData.eqv (py d) (py e)
def eqP (neg : Bool) : Dt → Dt → Option Ro
  | .int i, .int j => some (.val (.bl (xor neg (decide (i = j)))))
  | .str i, .str j => some (.val (.bl (xor neg (decide (i = j)))))
  | .bl i, .bl j => some (.val (.bl (xor neg (decide (i = j)))))
  | d, e => if flat d = true ∧ flat e = true ∧ min (dep d) (dep e) ≤ 64 then some (.val (.bl (xor neg (eqD d e)))) else none
def rEqP (K : PySem.W.Frag) (neg : Bool) : R2 := fun x y H Q => ∃ d e, Dp K H x d ∧ Dp K H y e ∧ d.plain = true ∧ e.plain = true ∧ min d.depth e.depth ≤ 64 ∧ Q (.bl (xor neg (PyData.eqv d e))) H
theorem op_eqP (hu : X.A.units + 100 < cLine) : OpR X (compareOp .Eq) (rEqP X.K false) := by
  intro pins s σ H x y v u Q I rx ry h
  obtain ⟨d, e, hd, he, sd, se, hm, q⟩ := h
  obtain ⟨as, r1⟩ := Dp.reads I d x v hd rx
  obtain ⟨bs, r2⟩ := Dp.reads I e y u he ry
  rw [Bool.false_xor] at q
  exact SeqAt.eq_plain r1 r2 sd se (by omega) ⟨.bl _, H, I, rfl, q⟩
theorem op_neP (hu : X.A.units + 100 < cLine) : OpR X (compareOp .NotEq) (rEqP X.K true) := by
  intro pins s σ H x y v u Q I rx ry h
  obtain ⟨d, e, hd, he, sd, se, hm, q⟩ := h
  obtain ⟨as, r1⟩ := Dp.reads I d x v hd rx
  obtain ⟨bs, r2⟩ := Dp.reads I e y u he ry
  rw [Bool.true_xor] at q
  exact SeqAt.ne_plain r1 r2 sd se (by omega) ⟨.bl _, H, I, rfl, q⟩
theorem eqP_ok {K : PySem.W.Frag} {neg : Bool} {d e : Dt} {ro : Ro} (h : eqP neg d e = some ro) : BinAt K (rEqP K neg) d e ro := by
  have gen : ∀ {d e : Dt}, flat d = true ∧ flat e = true ∧ min (dep d) (dep e) ≤ 64 → BinAt K (rEqP K neg) d e (.val (.bl (xor neg (eqD d e)))) := fun {d e} c G H x y Q le h1 h2 k =>
    ⟨py d, py e, h1.dp le c.1, h2.dp le c.2.1, py_plain d, py_plain e, by rw [py_dep, py_dep]; exact c.2.2, k _ H ⟨rfl, .bl _⟩⟩
  unfold eqP at h
  split at h
  · rename_i i j
    cases h
    have q := gen (d := .int i) (e := .int j) ⟨by simp [flat], by simp [flat], by simp [dep]⟩
    have e1 : eqD (.int i) (.int j) = decide (i = j) := by
      unfold eqD
      rw [py, py, PyData.eqv]
      by_cases hij : i = j
      · subst hij
        rw [beq_self_eq_true, decide_eq_true rfl]
      · rw [beq_eq_false_iff_ne.mpr hij, decide_eq_false hij]
    rw [e1] at q
    exact q
  · rename_i i j
    cases h
    have q := gen (d := .str i) (e := .str j) ⟨by simp [flat], by simp [flat], by simp [dep]⟩
    have e1 : eqD (.str i) (.str j) = decide (i = j) := by
      unfold eqD
      rw [py, py, PyData.eqv]
      by_cases hij : i = j
      · subst hij
        rw [beq_self_eq_true, decide_eq_true rfl]
      · rw [beq_eq_false_iff_ne.mpr hij, decide_eq_false hij]
    rw [e1] at q
    exact q
  · rename_i i j
    cases h
    have q := gen (d := .bl i) (e := .bl j) ⟨by simp [flat], by simp [flat], by simp [dep]⟩
    have e1 : eqD (.bl i) (.bl j) = decide (i = j) := by unfold eqD; cases i <;> cases j <;> simp [py, PyData.eqv]
    rw [e1] at q
    exact q
  · split at h
    · rename_i c
      cases h
      exact gen c
    · cases h
theorem eq_at (hu : X.A.units + 100 < cLine) : OpAt X (compareOp .Eq) (eqP false) := fun d e ro h => ⟨_, op_eqP hu, eqP_ok h⟩
theorem ne_at (hu : X.A.units + 100 < cLine) : OpAt X (compareOp .NotEq) (eqP true) := fun d e ro h => ⟨_, op_neP hu, eqP_ok h⟩
/-- <, <=, >, >=: sw: the two exchanged; neg: the contrary -/
def ltD (d e : Dt) : Bool := PySem.W.dataLt (py d) (py e)
def sweet (d : Dt) : Bool := match d with
  | .non => false
  | _ => true
def ordOk (d e : Dt) : Bool := flat d && flat e && PySem.W.alike (py d) (py e) && sweet d && Nat.ble (min (dep d) (dep e)) 64
def swapD (sw : Bool) (d e : Dt) : Bool := match sw with
  | false => ltD d e
  | true => ltD e d
def swapI (sw : Bool) (i j : Int) : Bool := match sw with
  | false => decide (i < j)
  | true => decide (j < i)
def ordP (sw neg : Bool) : Dt → Dt → Option Ro
  | .int i, .int j => some (.val (.bl (xor neg (swapI sw i j))))
  | d, e => match ordOk d e with
    | true => some (.val (.bl (xor neg (swapD sw d e))))
    | false => none
def rOrdP (K : PySem.W.Frag) (sw neg : Bool) : R2 := fun x y H Q => ∃ d e, Dp K H x d ∧ Dp K H y e ∧ PySem.W.alike d e = true ∧ d ≠ .none ∧ min d.depth e.depth ≤ 64 ∧ Q (.bl (xor neg (match sw with
  | false => PySem.W.dataLt d e
  | true => PySem.W.dataLt e d))) H
def ordCmp : Bool → Bool → CmpOp
  | false, false => .Lt
  | true, false => .Gt
  | true, true => .LtE
  | false, true => .GtE
theorem op_ordP (sw neg : Bool) (hu : X.A.units + 100 < cLine) : OpR X (compareOp (ordCmp sw neg)) (rOrdP X.K sw neg) := by
  intro pins s σ H x y v u Q I rx ry h
  obtain ⟨d, e, hd, he, al, dn, hm, q⟩ := h
  obtain ⟨as, r1⟩ := Dp.reads I d x v hd rx
  obtain ⟨bs, r2⟩ := Dp.reads I e y u he ry
  have hw : X.A.units + min d.depth e.depth < cLine := by omega
  cases sw with
  | false =>
    cases neg with
    | false => exact PySem.W.lt_data r1 r2 al dn hw ⟨.bl _, H, I, rfl, by simpa using q⟩
    | true => exact PySem.W.ge_data r1 r2 al dn hw ⟨.bl _, H, I, rfl, by simpa using q⟩
  | true =>
    cases neg with
    | false => exact PySem.W.gt_data r1 r2 al dn hw ⟨.bl _, H, I, rfl, by simpa using q⟩
    | true => exact PySem.W.le_data r1 r2 al dn hw ⟨.bl _, H, I, rfl, by simpa using q⟩
theorem py_sweet {d : Dt} (f : flat d = true) (h : sweet d = true) : py d ≠ .none := by
  cases d with
  | non => cases h
  | frl l => simp [flat] at f
  | dct l => simp [flat] at f
  | dcT l => simp [flat] at f
  | ob c l => simp [flat] at f
  | _ => simp [py]
theorem ltD_int (i j : Int) : ltD (.int i) (.int j) = decide (i < j) := by
  unfold ltD PySem.W.dataLt
  rw [py, py]
  show PyProof.Rows.lexLt PyProof.Rows.itemOrd (PySem.W.keyToks (.int i)) (PySem.W.keyToks (.int j)) = decide (i < j)
  rw [PySem.W.keyToks, PySem.W.keyToks, PyProof.Rows.lex_cons]
  show (decide (i < j) || (!decide (j < i) && false)) = decide (i < j)
  rw [Bool.and_false, Bool.or_false]
theorem ordP_ok {K : PySem.W.Frag} {sw neg : Bool} {d e : Dt} {ro : Ro} (h : ordP sw neg d e = some ro) : BinAt K (rOrdP K sw neg) d e ro := by
  have gen : ∀ {d e : Dt}, ordOk d e = true → BinAt K (rOrdP K sw neg) d e (.val (.bl (xor neg (swapD sw d e)))) := fun {d e} c G H x y Q le h1 h2 k => by
    unfold ordOk at c
    simp only [Bool.and_eq_true] at c
    obtain ⟨⟨⟨⟨c1, c2⟩, c3⟩, c4⟩, c5⟩ := c
    exact ⟨py d, py e, h1.dp le c1, h2.dp le c2, c3, py_sweet c1 c4, by rw [py_dep, py_dep]; exact Nat.le_of_ble_eq_true c5, by cases sw <;> exact k _ H ⟨rfl, .bl _⟩⟩
  unfold ordP at h
  split at h
  · rename_i i j
    cases h
    have q := gen (d := .int i) (e := .int j) (by simp [ordOk, flat, py, PySem.W.alike, sweet, dep])
    have e1 : swapD sw (.int i) (.int j) = swapI sw i j := by cases sw <;> exact ltD_int _ _
    rw [e1] at q
    exact q
  · split at h
    · rename_i c
      cases h
      exact gen c
    · cases h
theorem ord_at (sw neg : Bool) (hu : X.A.units + 100 < cLine) : OpAt X (compareOp (ordCmp sw neg)) (ordP sw neg) := fun d e ro h => ⟨_, op_ordP sw neg hu, ordP_ok h⟩
theorem ord_op (sw neg : Bool) (hu : X.A.units + 100 < cLine) : OpR X (compareOp (ordCmp sw neg)) (rOrdP X.K sw neg) := op_ordP sw neg hu
end
end PL

set_option Elab.async false
set_option linter.all false
set_option maxRecDepth 100000
set_option maxHeartbeats 1000000
/-! The pure layer, part H: membership, places, parts, built-ins. -/
namespace PL
open PySem PySem.Spec PyProof.Rows L2

/-! ### keys -/
def keyD : Dt → Option Key
  | .int i => some (.inl i)
  | .str x => some (.inr x)
  | _ => none
def keysD : List Dt → Option (List Key)
  | [] => some []
  | d :: ds => (keyD d).bind fun k => (keysD ds).map fun ks => k :: ks
theorem keyD_rp {K : PySem.W.Frag} {G : Hp} {v : V} {d : Dt} {k : Key} (h : keyD d = some k) (r : Rp K G v d) : v = kV k := by
  cases r <;> cases h <;> rfl
/-- what stands at a key -/
def valD {κ : Type} [DecidableEq κ] (l : List (κ × Dt)) (k : κ) : Option Dt := (l.find? fun kv => decide (kv.1 = k)).map (·.2)
def putD {κ : Type} [DecidableEq κ] (l : List (κ × Dt)) (k : κ) (d : Dt) : List (κ × Dt) :=
  if (l.any fun kv => decide (kv.1 = k)) = true then l.map (fun kv => if kv.1 = k then (kv.1, d) else kv) else l ++ [(k, d)]
theorem valD_pos {κ : Type} [DecidableEq κ] {k k' : κ} {d : Dt} {l : List (κ × Dt)} (e : k' = k) : valD ((k', d) :: l) k = some d := by simp [valD, e]
theorem valD_neg {κ : Type} [DecidableEq κ] {k k' : κ} {d : Dt} {l : List (κ × Dt)} (e : ¬ k' = k) : valD ((k', d) :: l) k = valD l k := by simp [valD, List.find?_cons, e]
section
variable {K : PySem.W.Frag} {G : Hp} {κ : Type} [DecidableEq κ]
theorem RpA.val : ∀ {kvs : List (κ × V)} {ds : List (κ × Dt)} {k : κ}, RpA K G κ kvs ds → (valD ds k = none ∧ valV kvs k = none) ∨ ∃ d v, valD ds k = some d ∧ valV kvs k = some v ∧ Rp K G v d
  | _, _, k, .nil => .inl ⟨rfl, rfl⟩
  | _, _, k, .cons (k := k') (v := v) (d := d) h r => by
    by_cases e : k' = k
    · exact .inr ⟨d, v, valD_pos e, valV_pos (p := (k', v)) e, h⟩
    · rcases RpA.val (k := k) r with ⟨h1, h2⟩ | ⟨d', v', h1, h2, h3⟩
      · exact .inl ⟨by rw [valD_neg e]; exact h1, by rw [valV_neg (p := (k', v)) e]; exact h2⟩
      · exact .inr ⟨d', v', by rw [valD_neg e]; exact h1, by rw [valV_neg (p := (k', v)) e]; exact h2, h3⟩
theorem RpA.some {kvs : List (κ × V)} {ds : List (κ × Dt)} {k : κ} {d : Dt} (r : RpA K G κ kvs ds) (h : valD ds k = some d) : ∃ v, valV kvs k = some v ∧ Rp K G v d := by
  rcases r.val (k := k) with ⟨h1, h2⟩ | ⟨d', v', h1, h2, h3⟩
  · rw [h1] at h; cases h
  · rw [h1] at h; cases h; exact ⟨v', h2, h3⟩
theorem RpA.isSome {kvs : List (κ × V)} {ds : List (κ × Dt)} (r : RpA K G κ kvs ds) (k : κ) : (valV kvs k).isSome = (valD ds k).isSome := by
  rcases r.val (k := k) with ⟨h1, h2⟩ | ⟨d', v', h1, h2, h3⟩
  · rw [h1, h2]; rfl
  · rw [h1, h2]; rfl
theorem RpA.any {kvs : List (κ × V)} {ds : List (κ × Dt)} (k : κ) (r : RpA K G κ kvs ds) : (kvs.any fun kv => decide (kv.1 = k)) = (ds.any fun kv => decide (kv.1 = k)) := by
  induction kvs generalizing ds with
  | nil => cases r; rfl
  | cons p ps ih =>
    cases r with
    | cons h r => rw [List.any_cons, List.any_cons, ih r]
theorem RpA.mapPut {v : V} {d : Dt} (h : Rp K G v d) (k : κ) : ∀ {kvs : List (κ × V)} {ds : List (κ × Dt)}, RpA K G κ kvs ds → RpA K G κ (kvs.map fun kv => if kv.1 = k then (kv.1, v) else kv) (ds.map fun kv => if kv.1 = k then (kv.1, d) else kv)
  | _, _, .nil => .nil
  | _, _, .cons (k := k') h' r => by
    rw [List.map_cons, List.map_cons]
    by_cases e : k' = k
    · simp only [e, if_true]
      exact .cons h (RpA.mapPut h k r)
    · simp only [e, if_false]
      exact .cons h' (RpA.mapPut h k r)
theorem RpA.app {kvs : List (κ × V)} {ds : List (κ × Dt)} {kws : List (κ × V)} {es : List (κ × Dt)} (r : RpA K G κ kvs ds) (s : RpA K G κ kws es) : RpA K G κ (kvs ++ kws) (ds ++ es) := by
  induction kvs generalizing ds with
  | nil => cases r; exact s
  | cons p ps ih =>
    cases r with
    | cons h r => exact .cons h (ih r)
theorem RpA.put {v : V} {d : Dt} (h : Rp K G v d) (k : κ) {kvs : List (κ × V)} {ds : List (κ × Dt)} (r : RpA K G κ kvs ds) : RpA K G κ (putK kvs k v) (putD ds k d) := by
  unfold putK putD
  rw [r.any k]
  split
  · exact r.mapPut h k
  · exact r.app (.cons h .nil)
theorem RpA.length {kvs : List (κ × V)} {ds : List (κ × Dt)} (r : RpA K G κ kvs ds) : kvs.length = ds.length := by
  induction kvs generalizing ds with
  | nil => cases r; rfl
  | cons p ps ih =>
    cases r with
    | cons h r => rw [List.length_cons, List.length_cons, ih r]
end
theorem Rq.str2 {K : PySem.W.Frag} {G H : Hp} {v : V} {d : Dt} {k : Key} (h : Rq K G H v d) (e : keyD d = some k) : v = kV k := by
  cases d with
  | int i => cases e; exact h.int
  | str x => cases e; exact h.str
  | _ => cases e

/-! ### x in y -/
def inAny (d : Dt) (l : List Dt) : Bool := l.any fun y => eqD y d
def seqIn (neg : Bool) (d : Dt) (l : List Dt) : Option Ro := match flat d && flats l && Nat.ble (min (deps l) (dep d)) 64 with
  | true => some (.val (.bl (xor neg (inAny d l))))
  | false => none
def inP (neg : Bool) : Dt → Dt → Option Ro
  | .str x, .str y => match x.cps.toList with
    | [c] => some (.val (.bl (xor neg (decide (c ∈ y.cps.toList)))))
    | _ => none
  | d, .lst l => seqIn neg d l
  | d, .tup l => seqIn neg d l
  | d, .dct l => (keyD d).map fun k => .val (.bl (xor neg (valD l k).isSome))
  | _, _ => none
def rInP (K : PySem.W.Frag) (neg : Bool) : R2 := fun x y H Q => (∃ d ds, Dp K H x d ∧ (Dp K H y (.list ds) ∨ Dp K H y (.tuple ds)) ∧ d.plain = true ∧ PyData.plainAll ds = true ∧ min (PyData.depthAll ds) d.depth ≤ 64 ∧ Q (.bl (xor neg (ds.any fun z => PyData.eqv z d))) H) ∨
  ∃ a o, y = .ref a ∧ DGet H a x o ∧ Q (.bl (xor neg o.isSome)) H
section
variable {X : Cx} {a b c : Expr} {f g h : DE} {pos : Pos}
theorem op_inP (hu : X.A.units + 100 < cLine) : OpR X (compareOp .In) (rInP X.K false) := by
  intro pins s σ H x y v u Q I rx ry h
  rcases h with ⟨d, ds, hd, he, sd, se, hm, q⟩ | ⟨a, o, rfl, g, q⟩
  · obtain ⟨as, r1⟩ := Dp.reads I d x v hd rx
    rw [Bool.false_xor] at q
    rcases he with he | he
    · obtain ⟨bs, r2⟩ := Dp.reads I _ y u he ry
      exact SeqAt.in_list_data r2 r1 se sd (by omega) ⟨.bl _, H, I, rfl, q⟩
    · obtain ⟨bs, r2⟩ := Dp.reads I _ y u he ry
      exact SeqAt.in_tuple_data r2 r1 se sd (by omega) ⟨.bl _, H, I, rfl, q⟩
  · obtain rfl : u = Value.ref a := ry
    rw [Bool.false_xor] at q
    exact d_in (by omega) I g rx fun s3 I3 => ⟨.bl o.isSome, H, I3, rfl, q⟩
theorem op_notInP (hu : X.A.units + 100 < cLine) : OpR X (compareOp .NotIn) (rInP X.K true) := by
  intro pins s σ H x y v u Q I rx ry h
  rcases h with ⟨d, ds, hd, he, sd, se, hm, q⟩ | ⟨a, o, rfl, g, q⟩
  · obtain ⟨as, r1⟩ := Dp.reads I d x v hd rx
    rw [Bool.true_xor] at q
    rcases he with he | he
    · obtain ⟨bs, r2⟩ := Dp.reads I _ y u he ry
      exact SeqAt.notIn_list_data r2 r1 se sd (by omega) ⟨.bl _, H, I, rfl, q⟩
    · obtain ⟨bs, r2⟩ := Dp.reads I _ y u he ry
      exact SeqAt.notIn_tuple_data r2 r1 se sd (by omega) ⟨.bl _, H, I, rfl, q⟩
  · obtain rfl : u = Value.ref a := ry
    rw [Bool.true_xor] at q
    exact d_notIn (by omega) I g rx fun s3 I3 => ⟨.bl (!o.isSome), H, I3, rfl, q⟩
theorem any_py (d : Dt) : ∀ l : List Dt, (pys l).any (fun z => PyData.eqv z (py d)) = inAny d l
  | [] => by rw [pys]; rfl
  | e :: l => by
    have := any_py d l
    unfold inAny at this ⊢
    rw [pys, List.any_cons, List.any_cons, this]
    rfl
theorem seqIn_ok {K : PySem.W.Frag} {neg : Bool} {d e : Dt} {l : List Dt} {ro : Ro} (h : seqIn neg d l = some ro) (he : e = .lst l ∨ e = .tup l) : BinAt K (rInP K neg) d e ro := by
  unfold seqIn at h
  split at h
  · rename_i c
    cases h
    simp only [Bool.and_eq_true] at c
    obtain ⟨⟨c1, c2⟩, c3⟩ := c
    refine fun G H x y Q le h1 h2 k => .inl ⟨py d, pys l, h1.dp le c1, ?_, py_plain d, pys_plain l, by rw [pys_dep, py_dep]; exact Nat.le_of_ble_eq_true c3, by rw [any_py]; exact k _ H ⟨rfl, .bl _⟩⟩
    rcases he with rfl | rfl
    · have := h2.dp le (by rw [flat]; exact c2)
      rw [py] at this
      exact .inl this
    · have := h2.dp le (by rw [flat]; exact c2)
      rw [py] at this
      exact .inr this
  · cases h
theorem Rq.dg {K : PySem.W.Frag} {G H : Hp} {x y : V} {d : Dt} {l : List (Key × Dt)} {k : Key} (le : Same G H) (h1 : Rq K G H x d) (h2 : Rq K G H y (.dct l)) (e : keyD d = some k) : ∃ a kvs, y = .ref a ∧ RpA K G Key kvs l ∧ DGet H a x (valV kvs k) := by
  obtain ⟨a, kvs, rfl, q1, q2⟩ := h2.dct le
  rw [h1.str2 e]
  exact ⟨a, kvs, rfl, q2, .inl ⟨kvs, k, q1, rfl, rfl⟩⟩
theorem din_ok {K : PySem.W.Frag} {neg : Bool} {d : Dt} {l : List (Key × Dt)} {k : Key} (e : keyD d = some k) : BinAt K (rInP K neg) d (.dct l) (.val (.bl (xor neg (valD l k).isSome))) := fun G H x y Q le h1 h2 kk => by
  obtain ⟨a, kvs, rfl, q2, q3⟩ := Rq.dg le h1 h2 e
  refine .inr ⟨a, _, rfl, q3, ?_⟩
  rw [q2.isSome k]
  exact kk _ H ⟨rfl, .bl _⟩
theorem str_one {x : Str} {c : Nat} (h : x.cps.toList = [c]) : x = ⟨#[c]⟩ := by
  cases x with
  | mk cps =>
    have : cps = [c].toArray := by rw [← h]
    rw [this]
theorem in_at (hu : X.A.units + 100 < cLine) : OpAt X (compareOp .In) (inP false) := fun d e ro h => by
  unfold inP at h
  split at h
  · rename_i x y
    split at h
    · rename_i c hc
      cases h
      refine ⟨_, op_in_sign, fun G H v w Q le h1 h2 k => ⟨c, y, ?_, h2.str, k _ H ⟨rfl, by rw [Bool.false_xor]; exact .bl _⟩⟩⟩
      rw [h1.str, str_one hc]
    · cases h
  · exact ⟨_, op_inP hu, seqIn_ok h (.inl rfl)⟩
  · exact ⟨_, op_inP hu, seqIn_ok h (.inr rfl)⟩
  · obtain ⟨k, e1, rfl⟩ := Option.map_eq_some_iff.mp h
    exact ⟨_, op_inP hu, din_ok e1⟩
  · cases h
theorem notIn_at (hu : X.A.units + 100 < cLine) : OpAt X (compareOp .NotIn) (inP true) := fun d e ro h => by
  unfold inP at h
  split at h
  · rename_i x y
    split at h
    · rename_i c hc
      cases h
      refine ⟨_, op_notIn_sign, fun G H v w Q le h1 h2 k => ⟨c, y, ?_, h2.str, k _ H ⟨rfl, by rw [Bool.true_xor]; exact .bl _⟩⟩⟩
      rw [h1.str, str_one hc]
    · cases h
  · exact ⟨_, op_notInP hu, seqIn_ok h (.inl rfl)⟩
  · exact ⟨_, op_notInP hu, seqIn_ok h (.inr rfl)⟩
  · obtain ⟨k, e1, rfl⟩ := Option.map_eq_some_iff.mp h
    exact ⟨_, op_notInP hu, din_ok e1⟩
  · cases h

/-! ### a[b] -/
def IxAt (X : Cx) (pf : Dt → Dt → Option Ro) : Prop := ∀ d e ro, pf d e = some ro → ∃ r, IxR X r ∧ BinAt X.K r d e ro
theorem sx_ixA {pf : Dt → Dt → Option Ro} (ho : IxAt X pf) (sa : Sx X a f) (sb : Sx X b g) (hs : PlainIx b := by exact fun _ _ => rfl) : Sx X (.Subscript a b pos) (opF pf f g) := fun es r es' h => by
  obtain ⟨r1, es1, r2, d, e, ro, h1, h2, h3, h4, h5, rfl⟩ := opF_inv h
  obtain ⟨r, o, hb⟩ := ho d e ro h5
  exact pe_imp (pe_ix o (sa _ _ _ h1) (sb _ _ _ h2) hs) fun σ H Q q => tOp_at hb h3 h4 q
def rIxD : R2 := fun x y H Q => ∃ a v, x = .ref a ∧ DGet H a y (some v) ∧ Q v H
theorem ix_dct (hu : X.A.units + 100 < cLine) : IxR X rIxD := by
  intro value slice pins s σ H x y v u Q I rx ry h hs
  obtain ⟨a, z, rfl, g, q⟩ := h
  obtain rfl : v = Value.ref a := rx
  exact tail_any (dict_typeIs I g) PySem.F.slot_dict_getitem.lookup (d_getItem (by omega) I g ry fun w' s3 I3 rw' => ⟨z, H, I3, rw', q⟩) hs
/-- a place, from behind too -/
def atD (l : List Dt) (i : Int) : Option Dt := atI l i
theorem RpL.atI {K : PySem.W.Frag} {G : Hp} {vs : List V} {ds : List Dt} {i : Int} {d : Dt} (r : RpL K G vs ds) (h : L2.atI ds i = some d) : ∃ v, L2.atI vs i = some v ∧ Rp K G v d := by
  unfold L2.atI at h ⊢
  rw [r.length]
  obtain ⟨j, h1, h2⟩ := Option.bind_eq_some_iff.mp h
  obtain ⟨v, h3, h4⟩ := r.get h2
  exact ⟨v, by rw [h1]; exact h3, h4⟩
def ixP : Dt → Dt → Option Ro
  | .lst l, .int i => (atD l i).map .val
  | .frl l, .int i => (atD l i).map .val
  | .tup l, .int i => (atD l i).map .val
  | .str z, .int i => if z.length ≤ 100000 then (L2.atI z.cps.toList i).map fun c => .val (.str ⟨#[c]⟩) else none
  | .dct l, e => (keyD e).bind fun k => (valD l k).map .val
  | _, _ => none
theorem ix_at (hu : X.A.units + 100 < cLine) : IxAt X ixP := fun d e ro h => by
  unfold ixP at h
  split at h
  · rename_i l i
    obtain ⟨d, e1, rfl⟩ := Option.map_eq_some_iff.mp h
    refine ⟨_, ix_list, fun G H v w Q le h1 h2 k => ?_⟩
    obtain ⟨p, vs, rfl, a1, a2⟩ := h1.lst le
    obtain ⟨z, z1, z2⟩ := a2.atI e1
    exact ⟨p, vs, i, z, rfl, h2.int, .inl (.inl a1), z1, k _ H ⟨rfl, z2⟩⟩
  · rename_i l i
    obtain ⟨d, e1, rfl⟩ := Option.map_eq_some_iff.mp h
    refine ⟨_, ix_list, fun G H v w Q le h1 h2 k => ?_⟩
    obtain ⟨p, vs, rfl, a1, a2⟩ := h1.frl le
    obtain ⟨z, z1, z2⟩ := a2.atI e1
    exact ⟨p, vs, i, z, rfl, h2.int, a1, z1, k _ H ⟨rfl, z2⟩⟩
  · rename_i l i
    obtain ⟨d, e1, rfl⟩ := Option.map_eq_some_iff.mp h
    refine ⟨_, ix_tup, fun G H v w Q le h1 h2 k => ?_⟩
    obtain ⟨p, vs, rfl, a1, a2⟩ := h1.tup le
    obtain ⟨z, z1, z2⟩ := a2.atI e1
    exact ⟨p, vs, i, z, rfl, h2.int, a1, z1, k _ H ⟨rfl, z2⟩⟩
  · rename_i z i
    split at h
    · rename_i hz
      obtain ⟨c, e1, rfl⟩ := Option.map_eq_some_iff.mp h
      exact ⟨_, ix_str, fun G H v w Q le h1 h2 k => ⟨z, i, c, h1.str, h2.int, sz100 hz, e1, k _ H ⟨rfl, .str _⟩⟩⟩
    · cases h
  · rename_i l
    obtain ⟨k, e1, h⟩ := Option.bind_eq_some_iff.mp h
    obtain ⟨d, e2, rfl⟩ := Option.map_eq_some_iff.mp h
    refine ⟨_, ix_dct hu, fun G H v w Q le h1 h2 kk => ?_⟩
    obtain ⟨a, kvs, rfl, q2, q3⟩ := Rq.dg le h2 h1 e1
    obtain ⟨z, z1, z2⟩ := q2.some e2
    rw [z1] at q3
    exact ⟨a, z, rfl, q3, kk _ H ⟨rfl, z2⟩⟩
  · cases h
end
end PL

set_option Elab.async false
set_option linter.all false
set_option maxRecDepth 100000
set_option maxHeartbeats 1000000
/-! The pure layer, part I: slices, built-in calls. -/
namespace PL
open PySem PySem.Spec PyProof.Rows L2

/-! ### a[lo:hi] -/
def SlAt (X : Cx) (pf : Dt → Option Int → Option Int → Option Ro) : Prop := ∀ d lo hi ro, pf d lo hi = some ro → ∃ r, SlR X r ∧ ∀ (G H : Hp) (x : V) (Q : VK), Same G H → Rq X.K G H x d → (∀ v H', RoOk X.K G H v H' ro → Q v H') → r x lo hi H Q
section
variable {X : Cx} {a b c : Expr} {f g h : DE} {pos : Pos}
theorem sx_slA {lo hi : Option Expr} {l u : DO} {p2 : Pos} {pf : Dt → Option Int → Option Int → Option Ro} (ho : SlAt X pf) (sa : Sx X a f) (sl : Ox X lo l) (su : Ox X hi u) :
    Sx X (.Subscript a (.Slice lo hi none p2) pos) (slF pf f l u) := fun es r0 es' h => by
  obtain ⟨⟨r1, es1⟩, h1, h⟩ := Option.bind_eq_some_iff.mp h
  obtain ⟨⟨i, es2⟩, h2, h⟩ := Option.bind_eq_some_iff.mp h
  obtain ⟨⟨j, es3⟩, h3, h⟩ := Option.bind_eq_some_iff.mp h
  obtain ⟨d, h4, h⟩ := Option.bind_eq_some_iff.mp h
  obtain ⟨ro, h5, h⟩ := Option.map_eq_some_iff.mp h
  cases h
  obtain ⟨r, ho, hb⟩ := ho d i j ro h5
  refine pe_imp (pe_slice ho (sa _ _ _ h1) (sl _ _ _ h2) (su _ _ _ h3)) fun σ H Q q => ?_
  obtain ⟨G, S, kk⟩ := q
  refine ⟨G, S, fun v G1 H1 t n => ?_⟩
  obtain ⟨G1', t1, n1⟩ := n.fz t
  refine ⟨G1', t1.sep, fun G2 H2 t2 => ⟨G2, t2.sep, fun G3 H3 t3 => ?_⟩⟩
  have t4 := t2.trans t3
  have t5 := t1.trans t4
  refine hb G3 H3 v Q t5.sep.le ((n1.later t4).rq t5.sep h4) fun w H' ok => ?_
  obtain ⟨G4, t6, n6⟩ := ok.go t5
  exact kk w G4 H' t6 n6
def cutD {α : Type} (l : List α) (lo hi : Option Int) : List α := (l.drop (HT.sIx l.length 0 lo)).take (HT.sIx l.length l.length hi - HT.sIx l.length 0 lo)
theorem RpL.cut {K : PySem.W.Frag} {G : Hp} {vs : List V} {ds : List Dt} (r : RpL K G vs ds) (lo hi : Option Int) : RpL K G (cutV vs lo hi) (cutD ds lo hi) := by
  unfold cutV cutD
  rw [r.length]
  exact (r.drop _).take _
def slP : Dt → Option Int → Option Int → Option Ro
  | .lst l, lo, hi => some (.nw (.lst (cutD l lo hi)))
  | .frl l, lo, hi => some (.nw (.lst (cutD l lo hi)))
  | .tup l, lo, hi => if HT.sIx l.length 0 lo = 0 ∧ HT.sIx l.length l.length hi = l.length then some (.val (.tup l)) else some (.nt (cutD l lo hi))
  | .str z, lo, hi => if z.length ≤ 100000 then some (.val (.str ⟨(cutD z.cps.toList lo hi).toArray⟩)) else none
  | _, _, _ => none
theorem sl_at : SlAt X slP := fun d lo hi ro h => by
  unfold slP at h
  split at h
  · cases h
    refine ⟨_, sl_list, fun G H x Q le h1 k => ?_⟩
    obtain ⟨p, vs, rfl, a1, a2⟩ := h1.lst le
    exact ⟨p, vs, rfl, .inl (.inl a1), fun q hq => k _ _ ⟨q, _, rfl, hq, rfl, .lst (a2.cut lo hi)⟩⟩
  · cases h
    refine ⟨_, sl_list, fun G H x Q le h1 k => ?_⟩
    obtain ⟨p, vs, rfl, a1, a2⟩ := h1.frl le
    exact ⟨p, vs, rfl, a1, fun q hq => k _ _ ⟨q, _, rfl, hq, rfl, .lst (a2.cut lo hi)⟩⟩
  · rename_i l
    refine ⟨_, sl_tupA, fun G H x Q le h1 k => ?_⟩
    obtain ⟨p, vs, rfl, a1, a2⟩ := h1.tup le
    refine ⟨p, vs, rfl, a1, fun w => ?_, fun w q hq => ?_⟩
    · rw [a2.length] at w
      rw [if_pos w] at h
      cases h
      exact k _ H ⟨rfl, rq_tupV h1⟩
    · rw [a2.length] at w
      rw [if_neg w] at h
      cases h
      exact k _ _ ⟨q, _, rfl, hq, rfl, a2.cut lo hi⟩
  · rename_i z
    split at h
    · rename_i hz
      cases h
      refine ⟨_, sl_str, fun G H x Q le h1 k => ⟨z, h1.str, sz100 hz, k _ H ⟨rfl, ?_⟩⟩⟩
      have : cutS z lo hi = ⟨(cutD z.cps.toList lo hi).toArray⟩ := by
        unfold cutD
        rw [show z.cps.toList.length = z.length by simp [Str.length]]
        rfl
      rw [this]
      exact .str _
    · cases h
  · cases h

/-! ### built-in calls, by data -/
def CbAt (X : Cx) (w : Value) (pf : List Dt → Option Ro) : Prop := ∀ ds ro, pf ds = some ro → ∃ r, CallR X w r ∧ ∀ (G H : Hp) (vs : List V) (Q : VK), Same G H → RqL X.K G H vs ds → (∀ v H', RoOk X.K G H v H' ro → Q v H') → r vs H Q
theorem sx_cbA {x : Str} {p : Pos} {id : String} {e : Expr} {l : List Expr} {F : DA} {pf : List Dt → Option Ro} (ho : CbAt X (.builtin id) pf) (hm : X.mg x = none) (hv : bootBuiltins x = some (.builtin id)) (sa : Sa X (e :: l) F)
    (hg : Gl X x := by rfl) (hn : x ≠ "__name__" := by decide) (hd : (x == ("__debug__" : Str)) = false := by decide) (hst : starEach (e :: l) X.env = (false, eval e X.env) :: starEach l X.env := by rfl) (hpl : (backTo pos (starEach l X.env)).any (·.1) = false := by rfl) : Sx X (.Call (.Name x p) (e :: l) [] pos) (cbF pf F) := fun es r es' h => by
  obtain ⟨rs, ds, ro, h1, h3, h5, rfl⟩ := cbF_inv h
  obtain ⟨r, ho, hb⟩ := ho ds ro h5
  refine pe_imp (pe_callB ho hg hm hv (sa _ _ _ h1) hn hd hst hpl) fun σ H Q ⟨G, S, k⟩ => ⟨G, S, fun vs G1 H1 t n => ?_⟩
  refine hb G1 H1 vs Q t.sep.le (n.rq t.sep h3) fun v H' ok => ?_
  obtain ⟨G3, t3, n3⟩ := ok.go t
  exact k v G3 H' t3 n3
theorem sx_tyA {x : Str} {p : Pos} {T : String} {e : Expr} {l : List Expr} {F : DA} {pf : List Dt → Option Ro} (ho : CbAt X (.type T) pf) (hm : X.mg x = none) (hv : bootBuiltins x = some (.type T)) (sa : Sa X (e :: l) F)
    (hg : Gl X x := by rfl) (hn : x ≠ "__name__" := by decide) (hd : (x == ("__debug__" : Str)) = false := by decide) (hst : starEach (e :: l) X.env = (false, eval e X.env) :: starEach l X.env := by rfl) (hpl : (backTo pos (starEach l X.env)).any (·.1) = false := by rfl) : Sx X (.Call (.Name x p) (e :: l) [] pos) (cbF pf F) := fun es r es' h => by
  obtain ⟨rs, ds, ro, h1, h3, h5, rfl⟩ := cbF_inv h
  obtain ⟨r, ho, hb⟩ := ho ds ro h5
  refine pe_imp (pe_callTy ho hg hm hv (sa _ _ _ h1) hn hd hst hpl) fun σ H Q ⟨G, S, k⟩ => ⟨G, S, fun vs G1 H1 t n => ?_⟩
  refine hb G1 H1 vs Q t.sep.le (n.rq t.sep h3) fun v H' ok => ?_
  obtain ⟨G3, t3, n3⟩ := ok.go t
  exact k v G3 H' t3 n3
theorem RqL.one {K : PySem.W.Frag} {G H : Hp} {vs : List V} {d : Dt} (h : RqL K G H vs [d]) : ∃ v, vs = [v] ∧ Rq K G H v d := by
  cases h with
  | cons a b => cases b; exact ⟨_, rfl, a⟩
theorem RqL.two {K : PySem.W.Frag} {G H : Hp} {vs : List V} {d e : Dt} (h : RqL K G H vs [d, e]) : ∃ v w, vs = [v, w] ∧ Rq K G H v d ∧ Rq K G H w e := by
  cases h with
  | cons a b =>
    obtain ⟨w, rfl, c⟩ := b.one
    exact ⟨_, w, rfl, a, c⟩
/-! len -/
def lenD : Dt → Option Nat
  | .lst l => some l.length
  | .frl l => some l.length
  | .tup l => some l.length
  | .str z => if z.length ≤ 100000 then some z.length else none
  | _ => none
def lenP : List Dt → Option Ro
  | [d] => (lenD d).map fun n : Nat => Ro.val (.int (n : Int))
  | _ => none
theorem len_at : CbAt X (.builtin "len") lenP := fun ds ro h => by
  unfold lenP at h
  split at h
  · rename_i d
    obtain ⟨n, e1, rfl⟩ := Option.map_eq_some_iff.mp h
    refine ⟨_, call_len, fun G H vs Q le r k => ?_⟩
    obtain ⟨v, rfl, rv⟩ := r.one
    refine ⟨v, n, rfl, ?_, k _ H ⟨rfl, .int _⟩⟩
    unfold lenD at e1
    split at e1
    · cases e1
      obtain ⟨p, xs, rfl, a1, a2⟩ := rv.lst le
      exact .inl ⟨xs, .inl (.inl a1), a2.length.symm⟩
    · cases e1
      obtain ⟨p, xs, rfl, a1, a2⟩ := rv.frl le
      exact .inl ⟨xs, a1, a2.length.symm⟩
    · cases e1
      obtain ⟨p, xs, rfl, a1, a2⟩ := rv.tup le
      exact .inr ⟨xs, a1, a2.length.symm⟩
    · rename_i z
      split at e1
      · rename_i hz
        cases e1
        rw [rv.str]
        exact ⟨sz100 hz, rfl⟩
      · cases e1
    · cases e1
  · cases h
/-! int -/
def intP : List Dt → Option Ro
  | [.int i] => some (.val (.int i))
  | [.bl k] => some (.val (.int (if k then 1 else 0)))
  | _ => none
theorem int_at : CbAt X (.type "int") intP := fun ds ro h => by
  unfold intP at h
  split at h
  · cases h
    refine ⟨_, call_int1, fun G H vs Q le r k => ?_⟩
    obtain ⟨v, rfl, rv⟩ := r.one
    exact .inl ⟨_, by rw [rv.int], k _ H ⟨rfl, .int _⟩⟩
  · cases h
    refine ⟨_, call_int1, fun G H vs Q le r k => ?_⟩
    obtain ⟨v, rfl, rv⟩ := r.one
    exact .inr ⟨_, by rw [rv.bl], k _ H ⟨rfl, .int _⟩⟩
  · cases h
/-! max, min of two; abs -/
def maxP : List Dt → Option Ro
  | [.int i, .int j] => some (.val (.int (if j > i then j else i)))
  | _ => none
theorem max_at (hc : X.calm = true) : CbAt X (.builtin "max") maxP := fun ds ro h => by
  unfold maxP at h
  split at h
  · cases h
    refine ⟨_, call_max2 hc, fun G H vs Q le r k => ?_⟩
    obtain ⟨v, w, rfl, rv, rw'⟩ := r.two
    exact ⟨_, _, by rw [rv.int, rw'.int], k _ H ⟨rfl, .int _⟩⟩
  · cases h
def minP : List Dt → Option Ro
  | [.int i, .int j] => some (.val (.int (if j < i then j else i)))
  | _ => none
theorem min_at (hc : X.calm = true) : CbAt X (.builtin "min") minP := fun ds ro h => by
  unfold minP at h
  split at h
  · cases h
    refine ⟨_, call_min2 hc, fun G H vs Q le r k => ?_⟩
    obtain ⟨v, w, rfl, rv, rw'⟩ := r.two
    exact ⟨_, _, by rw [rv.int, rw'.int], k _ H ⟨rfl, .int _⟩⟩
  · cases h
def absP : List Dt → Option Ro
  | [.int i] => some (.val (.int (if i < 0 then -i else i)))
  | _ => none
theorem abs_at : CbAt X (.builtin "abs") absP := fun ds ro h => by
  unfold absP at h
  split at h
  · cases h
    refine ⟨_, call_abs, fun G H vs Q le r k => ?_⟩
    obtain ⟨v, rfl, rv⟩ := r.one
    exact ⟨_, by rw [rv.int], k _ H ⟨rfl, .int _⟩⟩
  · cases h
/-! sum, all, any of a list -/
def intsD : List Dt → Option (List Int)
  | [] => some []
  | .int i :: ds => (intsD ds).map fun l => i :: l
  | _ => none
def blsD : List Dt → Option (List Bool)
  | [] => some []
  | .bl i :: ds => (blsD ds).map fun l => i :: l
  | _ => none
def strsD : List Dt → Option (List Str)
  | [] => some []
  | .str i :: ds => (strsD ds).map fun l => i :: l
  | _ => none
theorem intsD_inv : ∀ {l : List Dt} {ns : List Int}, intsD l = some ns → l = ns.map .int
  | [], _, h => by cases h; rfl
  | .int i :: ds, _, h => by
    obtain ⟨l, h1, rfl⟩ := Option.map_eq_some_iff.mp h
    rw [intsD_inv h1]; rfl
theorem blsD_inv : ∀ {l : List Dt} {ns : List Bool}, blsD l = some ns → l = ns.map .bl
  | [], _, h => by cases h; rfl
  | .bl i :: ds, _, h => by
    obtain ⟨l, h1, rfl⟩ := Option.map_eq_some_iff.mp h
    rw [blsD_inv h1]; rfl
theorem strsD_inv : ∀ {l : List Dt} {ns : List Str}, strsD l = some ns → l = ns.map .str
  | [], _, h => by cases h; rfl
  | .str i :: ds, _, h => by
    obtain ⟨l, h1, rfl⟩ := Option.map_eq_some_iff.mp h
    rw [strsD_inv h1]; rfl
theorem intsD_map : ∀ ns : List Int, intsD (ns.map .int) = some ns
  | [] => rfl
  | n :: ns => by
    show (intsD (ns.map .int)).map _ = _
    rw [intsD_map ns]; rfl
theorem blsD_map : ∀ ns : List Bool, blsD (ns.map .bl) = some ns
  | [] => rfl
  | n :: ns => by
    show (blsD (ns.map .bl)).map _ = _
    rw [blsD_map ns]; rfl
theorem strsD_map : ∀ ns : List Str, strsD (ns.map .str) = some ns
  | [] => rfl
  | n :: ns => by
    show (strsD (ns.map .str)).map _ = _
    rw [strsD_map ns]; rfl
def sumP : List Dt → Option Ro
  | [.lst l] => (intsD l).map fun ns => .val (.int ns.sum)
  | _ => none
theorem sum_at (hc : X.calm = true) : CbAt X (.builtin "sum") sumP := fun ds ro h => by
  unfold sumP at h
  split at h
  · obtain ⟨ns, e1, rfl⟩ := Option.map_eq_some_iff.mp h
    refine ⟨_, cr_sum hc, fun G H vs Q le r k => ?_⟩
    obtain ⟨v, rfl, rv⟩ := r.one
    obtain ⟨p, xs, rfl, a1, a2⟩ := rv.lst le
    rw [intsD_inv e1] at a2
    exact ⟨p, ns, rfl, .inl (.inl (by rw [← a2.ints]; exact a1)), k _ H ⟨rfl, .int _⟩⟩
  · cases h
def allP : List Dt → Option Ro
  | [.lst l] => (blsD l).map fun ns => .val (.bl (ns.all id))
  | _ => none
theorem all_at (hc : X.calm = true) : CbAt X (.builtin "all") allP := fun ds ro h => by
  unfold allP at h
  split at h
  · obtain ⟨ns, e1, rfl⟩ := Option.map_eq_some_iff.mp h
    refine ⟨_, cr_all hc, fun G H vs Q le r k => ?_⟩
    obtain ⟨v, rfl, rv⟩ := r.one
    obtain ⟨p, xs, rfl, a1, a2⟩ := rv.lst le
    rw [blsD_inv e1] at a2
    exact ⟨p, ns, rfl, .inl (.inl (by rw [← a2.bls]; exact a1)), k _ H ⟨rfl, .bl _⟩⟩
  · cases h
def anyP : List Dt → Option Ro
  | [.lst l] => (blsD l).map fun ns => .val (.bl (ns.any id))
  | _ => none
theorem any_at (hc : X.calm = true) : CbAt X (.builtin "any") anyP := fun ds ro h => by
  unfold anyP at h
  split at h
  · obtain ⟨ns, e1, rfl⟩ := Option.map_eq_some_iff.mp h
    refine ⟨_, cr_any hc, fun G H vs Q le r k => ?_⟩
    obtain ⟨v, rfl, rv⟩ := r.one
    obtain ⟨p, xs, rfl, a1, a2⟩ := rv.lst le
    rw [blsD_inv e1] at a2
    exact ⟨p, ns, rfl, .inl (.inl (by rw [← a2.bls]; exact a1)), k _ H ⟨rfl, .bl _⟩⟩
  · cases h
/-! tuple, list -/
def tuplP : List Dt → Option Ro
  | [.lst l] => some (.nt l)
  | [.tup l] => some (.val (.tup l))
  | _ => none
theorem tuple_at : CbAt X (.type "tuple") tuplP := fun ds ro h => by
  unfold tuplP at h
  split at h
  · cases h
    refine ⟨_, call_tuple_of, fun G H vs Q le r k => ?_⟩
    obtain ⟨v, rfl, rv⟩ := r.one
    obtain ⟨p, xs, rfl, a1, a2⟩ := rv.lst le
    exact ⟨p, xs, rfl, .inl ⟨.inl (.inl a1), fun q hq => k _ _ ⟨q, _, rfl, hq, rfl, a2⟩⟩⟩
  · cases h
    refine ⟨_, call_tuple_of, fun G H vs Q le r k => ?_⟩
    obtain ⟨v, rfl, rv⟩ := r.one
    obtain ⟨p, xs, rfl, a1, a2⟩ := rv.tup le
    exact ⟨p, xs, rfl, .inr ⟨a1, k _ H ⟨rfl, rq_tupV rv⟩⟩⟩
  · cases h
def listP : List Dt → Option Ro
  | [.lst l] => some (.nw (.lst l))
  | [.frl l] => some (.nw (.lst l))
  | [.tup l] => some (.nw (.lst l))
  | _ => none
theorem list_at : CbAt X (.type "list") listP := fun ds ro h => by
  unfold listP at h
  split at h
  · cases h
    refine ⟨_, call_list_of, fun G H vs Q le r k => ?_⟩
    obtain ⟨v, rfl, rv⟩ := r.one
    obtain ⟨p, xs, rfl, a1, a2⟩ := rv.lst le
    exact ⟨p, xs, rfl, .inl (.inl (.inl a1)), fun q hq => k _ _ ⟨q, _, rfl, hq, rfl, .lst a2⟩⟩
  · cases h
    refine ⟨_, call_list_of, fun G H vs Q le r k => ?_⟩
    obtain ⟨v, rfl, rv⟩ := r.one
    obtain ⟨p, xs, rfl, a1, a2⟩ := rv.frl le
    exact ⟨p, xs, rfl, .inl a1, fun q hq => k _ _ ⟨q, _, rfl, hq, rfl, .lst a2⟩⟩
  · cases h
    refine ⟨_, call_list_of, fun G H vs Q le r k => ?_⟩
    obtain ⟨v, rfl, rv⟩ := r.one
    obtain ⟨p, xs, rfl, a1, a2⟩ := rv.tup le
    exact ⟨p, xs, rfl, .inr a1, fun q hq => k _ _ ⟨q, _, rfl, hq, rfl, .lst a2⟩⟩
  · cases h
/-! dict of a list of pairs -/
def pairsD : List Dt → Option (List (Key × Dt))
  | [] => some []
  | .tup [k, d] :: ds => (keyD k).bind fun k => (pairsD ds).map fun l => (k, d) :: l
  | _ => none
def mergeD (l m : List (Key × Dt)) : List (Key × Dt) := m.foldl (fun acc kv => putD acc kv.1 kv.2) l
def dictP : List Dt → Option Ro
  | [.lst l] => (pairsD l).map fun ps => .nw (.dct (mergeD [] ps))
  | _ => none
theorem pairs_rp {K : PySem.W.Frag} {G H : Hp} (le : Same G H) : ∀ {l : List Dt} {ps : List (Key × Dt)} {vs : List V}, pairsD l = some ps → RpL K G vs l → ∃ (as : List Addr) (kvs : List (Key × V)), vs = as.map V.ref ∧ Paired (fun p kv => SqT K H p [kV kv.1, kv.2]) as kvs ∧ RpA K G Key kvs ps
  | [], _, _, h, r => by
    cases h
    cases r
    exact ⟨[], [], rfl, .nil, .nil⟩
  | d :: ds, ps, vs, h, r => by
    cases r with
    | cons r0 r1 =>
      unfold pairsD at h
      split at h
      · rename_i e; cases e
      · rename_i k d' ds' e
        cases e
        obtain ⟨k', e1, h⟩ := Option.bind_eq_some_iff.mp h
        obtain ⟨l, e2, rfl⟩ := Option.map_eq_some_iff.mp h
        obtain ⟨as, kvs, rfl, q1, q2⟩ := pairs_rp le e2 r1
        cases r0 with
        | tup t1 t2 =>
          cases t2 with
          | cons t3 t4 =>
            cases t4 with
            | cons t5 t6 =>
              cases t6
              have := keyD_rp e1 t3
              subst this
              exact ⟨_ :: as, (k', _) :: kvs, rfl, .cons (sqt_same le t1) q1, .cons t5 q2⟩
      · cases h
theorem RpA.merge {K : PySem.W.Frag} {G : Hp} : ∀ {m : List (Key × V)} {n : List (Key × Dt)} {l : List (Key × V)} {k : List (Key × Dt)}, RpA K G Key m n → RpA K G Key l k → RpA K G Key (mergeK l m) (mergeD k n)
  | [], _, _, _, r, s => by cases r; exact s
  | (k, v) :: m, _, _, _, r, s => by
    cases r with
    | cons h r =>
      have q := RpA.merge r (s.put h k)
      exact q
theorem dict_at (hc : X.calm = true) : CbAt X (.type "dict") dictP := fun ds ro h => by
  unfold dictP at h
  split at h
  · obtain ⟨ps, e1, rfl⟩ := Option.map_eq_some_iff.mp h
    refine ⟨_, call_dictP hc, fun G H vs Q le r k => ?_⟩
    obtain ⟨v, rfl, rv⟩ := r.one
    obtain ⟨p, xs, rfl, a1, a2⟩ := rv.lst le
    obtain ⟨as, kvs, rfl, q1, q2⟩ := pairs_rp le e1 a2
    exact ⟨p, as, kvs, rfl, .inl (.inl a1), q1, fun q hq => k _ _ ⟨q, _, rfl, hq, rfl, .dct (q2.merge .nil)⟩⟩
  · cases h

/-! ### isinstance -/
inductive Kd where
  | non | bl | int | str | lst | tup | dct
inductive Cl where
  | bl | int | str | lst | tup | dct
def Kd.s : Kd → String
  | .non => "NoneType" | .bl => "bool" | .int => "int" | .str => "str" | .lst => "list" | .tup => "tuple" | .dct => "dict"
def Cl.s : Cl → String
  | .bl => "bool" | .int => "int" | .str => "str" | .lst => "list" | .tup => "tuple" | .dct => "dict"
def isK : Kd → Cl → Bool
  | .bl, .bl => true | .bl, .int => true | .int, .int => true | .str, .str => true | .lst, .lst => true | .tup, .tup => true | .dct, .dct => true
  | _, _ => false
theorem isK_ok : ∀ (k : Kd) (c : Cl), kitB k.s c.s = some (isK k c) := by
  intro k c
  cases k <;> cases c <;> decide +kernel
def kdD : Dt → Option Kd
  | .non => some .non
  | .bl _ => some .bl
  | .int _ => some .int
  | .str _ => some .str
  | .lst _ => some .lst
  | .frl _ => some .lst
  | .tup _ => some .tup
  | .dct _ => some .dct
  | _ => none
theorem kd_ty {K : PySem.W.Frag} {G H : Hp} {v : V} {d : Dt} {k : Kd} (le : Same G H) (r : Rq K G H v d) (h : kdD d = some k) : TyX K H v (.type k.s) := by
  cases d with
  | non => cases h; rw [r.non]; exact .base .non
  | bl b => cases h; rw [r.bl]; exact .base (.bl _)
  | int i => cases h; rw [r.int]; exact .base (.int _)
  | str x => cases h; rw [r.str]; exact .base (.str _)
  | lst l =>
    cases h
    obtain ⟨a, vs, rfl, h1, _⟩ := r.lst le
    exact .base (.lst h1)
  | frl l =>
    cases h
    obtain ⟨a, vs, rfl, h1, _⟩ := r.frl le
    rcases h1 with (h1 | ⟨o, h1⟩) | ⟨o, its, n, h1, h2, _⟩
    · exact .base (.lst h1)
    · exact .base (.frz h1)
    · exact .kList h1 h2
  | tup l =>
    cases h
    obtain ⟨a, vs, rfl, h1, _⟩ := r.tup le
    rcases h1 with (h1 | ⟨o, h1⟩) | ⟨o, its, n, h1, h2, _⟩
    · exact .base (.tup h1)
    · exact .fTuple h1
    · exact .kTuple h1 h2
  | dct l =>
    cases h
    obtain ⟨a, vs, rfl, h1, _⟩ := r.dct le
    rcases h1 with h1 | ⟨o, h1⟩
    · exact .base (.dK h1)
    · exact .fDict h1
  | _ => cases h
def isiF (c : Cl) (f : DE) : DE := unF (fun d => (kdD d).map fun k => .val (.bl (isK k c))) f
theorem sx_isi (c : Cl) {p p2 : Pos} {e : Expr} {T : Str} (hm : X.mg "isinstance" = none) (hm2 : X.mg T = none) (sa : Sx X e f) (hv2 : bootBuiltins T = some (.type c.s) := by rfl) (hg : Gl X "isinstance" := by rfl) (hg2 : Gl X T := by rfl)
    (hn2 : T ≠ "__name__" := by decide) (hd2 : (T == ("__debug__" : Str)) = false := by decide) (hv : bootBuiltins "isinstance" = some (.builtin "isinstance") := by rfl)
    (hst : starEach [e, .Name T p2] X.env = (false, eval e X.env) :: starEach [.Name T p2] X.env := by rfl) (hst2 : starEach [.Name T p2] X.env = (false, eval (.Name T p2) X.env) :: starEach [] X.env := by rfl)
    (hpl : (backTo pos (starEach [.Name T p2] X.env)).any (·.1) = false := by rfl) : Sx X (.Call (.Name "isinstance" p) [e, .Name T p2] [] pos) (isiF c f) := fun es r es' h => by
  obtain ⟨r1, d, ro, h1, h3, h5, rfl⟩ := unF_inv h
  obtain ⟨k, e1, rfl⟩ := Option.map_eq_some_iff.mp h5
  refine pe_imp (pe_callB call_isi hg hm hv (pa_cons (sa _ _ _ h1) (pa_cons (pe_bltn (v := .ty c.s) hg2 hm2 hv2 rfl hn2 hd2) pa_nil hst2) hst) (by decide) (by decide) hst hpl) fun σ H Q ⟨G, S, kk⟩ => ⟨G, S, fun v G1 H1 t n => ?_⟩
  exact ⟨v, .ty c.s, .type k.s, .type c.s, isK k c, rfl, .ty _, kd_ty t.sep.le (n.rq t.sep h3) e1, kit_ty (isK_ok k c), kk _ G1 H1 t (Rp.bl _)⟩
/-- isinstance(x, C), x an instance of C -/
def isoF (c : Str) (f : DE) : DE := unF (fun d => match d with
  | .ob c' _ => if c' = c then some (.val (.bl true)) else none
  | _ => none) f
theorem sx_iso (c : Str) {p p2 : Pos} {e : Expr} (hm : X.mg "isinstance" = none) (hm2 : X.mg c = some (.ref (He.ga X.K c))) (ic : C8.InsC X.K (He.ga X.K c)) (sa : Sx X e f) (hg : Gl X "isinstance" := by rfl) (hg2 : Gl X c := by rfl)
    (hd2 : (c == ("__debug__" : Str)) = false := by decide) (hv : bootBuiltins "isinstance" = some (.builtin "isinstance") := by rfl)
    (hst : starEach [e, .Name c p2] X.env = (false, eval e X.env) :: starEach [.Name c p2] X.env := by rfl) (hst2 : starEach [.Name c p2] X.env = (false, eval (.Name c p2) X.env) :: starEach [] X.env := by rfl)
    (hpl : (backTo pos (starEach [.Name c p2] X.env)).any (·.1) = false := by rfl) : Sx X (.Call (.Name "isinstance" p) [e, .Name c p2] [] pos) (isoF c f) := fun es r es' h => by
  obtain ⟨r1, d, ro, h1, h3, h5, rfl⟩ := unF_inv h
  split at h5
  · rename_i c' l
    split at h5
    · rename_i ec
      subst ec
      cases h5
      refine pe_imp (pe_callB (C8.call_isC ic) hg hm hv (pa_cons (sa _ _ _ h1) (pa_cons (C8.pe_gc (v := .ref (He.ga X.K c')) hg2 ⟨_, hm2, rfl⟩ hd2) pa_nil hst2) hst) (by decide) (by decide) hst hpl) fun σ H Q ⟨G, S, kk⟩ => ⟨G, S, fun v G1 H1 t n => ?_⟩
      obtain ⟨b, dx, fs, rfl, q1, q2⟩ := (n.rq t.sep h3).ob t.sep.le
      exact ⟨b, dx, fs, rfl, q1, kk _ G1 H1 t (Rp.bl _)⟩
    · cases h5
  · cases h5
end
end PL

set_option Elab.async false
set_option linter.all false
set_option maxRecDepth 100000
set_option maxHeartbeats 1000000
/-! The pure layer, part J: stores, methods of lists and texts. -/
namespace PL
open PySem PySem.Spec PyProof.Rows L2

/-! ### o[i] = value -/
def setO : Ow → Dt → Dt → Option Ow
  | .lst l, .int k, d => (ixN l.length k).map fun j => .lst (l.set j d)
  | .dct l, e, d => if l.length ≤ 100000 then (keyD e).map fun k => .dct (putD l k d) else none
  | _, _, _ => none
def rSetA : TSet := fun o i v H Q => rSetL o i v H Q ∨ rSetD o i v H Q
theorem sz100lt {n : Nat} (h : n ≤ 100000) : n < sizeLine := Nat.lt_of_le_of_lt h (by decide)
section
variable {X : Cx} {a b c o i value e : Expr} {f g h : DE} {pos pos' : Pos}
theorem set_any (hu : X.A.units + 100 < cLine) : PSet X rSetA := by
  intro pins s σ H o i v ov iv u Q I ro ri rv h
  rcases h with h | h
  · exact set_list pins s σ H o i v ov iv u Q I ro ri rv h
  · exact set_dict (by omega) pins s σ H o i v ov iv u Q I ro ri rv h
/-- what the change of an owned object's items is -/
theorem setO_go {K : PySem.W.Frag} {σ : St} {G H : Hp} {es : Sls} {k : Nat} {sl : Sl} {ow o' : Ow} {x y z : V} {dy dz : Dt} (S : Sep K σ G H es) (hk : es[k]? = some sl) (hs : sl.ow = some ow) (hx : σ[k]? = some (some x)) (hy : Rq K G H y dy) (hz : Rp K G z dz) (hset : setO ow dy dz = some o')
    {Q : Hp → Prop} (q : ∀ H', Tr K σ G H es σ G H' (es.set k (sl.put o')) → Q H') : rSetA x y z H Q := by
  obtain ⟨p, e1, e2, ho, e3, e4⟩ := S.ow hk hs
  rw [hx] at e1
  cases e1
  unfold setO at hset
  split at hset
  · rename_i l k'
    obtain ⟨j, h1, h2⟩ := Option.map_eq_some_iff.mp hset
    subst h2
    cases e4 with
    | lst r =>
      refine .inl ⟨p, _, k', j, rfl, hy.int, e3, by rw [r.length]; exact h1, q _ ?_⟩
      exact Tr.put S hk hs hx (.lst (r.set hz j))
  · rename_i l
    split at hset
    · rename_i hl
      obtain ⟨k', h1, h2⟩ := Option.map_eq_some_iff.mp hset
      subst h2
      cases e4 with
      | dct r =>
        refine .inr ⟨p, _, rfl, .inl ⟨_, k', e3, hy.str2 h1, by rw [r.length]; exact sz100lt hl, rfl⟩, q _ ?_⟩
        exact Tr.put S hk hs hx (.dct (r.put hz k'))
    · cases hset
  · cases hset
/-- name[i] = value -/
def stoB (F : DE) (k : Nat) (I : DE) : DS := fun es => (F es).bind fun p => match p.1.fz with
  | .dat d => (match p.2[k]? with
    | some sl => (match sl.ow with
      | some _ => (I p.2).bind fun q => (look q.2 q.1).bind fun e => (match q.2[k]? with
        | some sl' => sl'.ow.bind fun ow => (setO ow e d).map fun o' => (.nx, q.2.set k (sl'.put o'))
        | none => none)
      | none => none)
    | none => none)
  | _ => none
theorem px_sto {k : Nat} {x : Str} {px : Pos} (hu : X.A.units + 100 < cLine) (hv : Sx X value f) (hi : Sx X i g) (hN : X.N[k]? = some x := by rfl) (hvis : Vis X.env.scope x := by first | exact Or.inl rfl | exact Or.inr (Or.inl rfl) | exact Or.inr (Or.inr rfl)) (hd : (x == ("__debug__" : Str)) = false := by decide)
    (hcd : (x == ("__classdict__" : Str)) = false := by decide) (hs : swapsWithSole [.Subscript (.Name x px) i pos'] value pos.line X.env = pure false := by rfl) (hw : swappedStores [.Subscript (.Name x px) i pos'] value X.env = pure none := by rfl)
    (ha : ∀ v, assign (.Subscript (.Name x px) i pos') X.env v = (do
      let ov ← holding [v] (eval (.Name x px) X.env)
      let iv ← holding [v, ov] (eval i X.env)
      standAt pos'
      holding [v, ov, iv] (setItem ov iv v)
      release [v, ov, iv] []) := by intro _; rfl) : Px X (.Assign [.Subscript (.Name x px) i pos'] value pos) (stoB f k g) := fun es fl es' q => by
  obtain ⟨⟨r, es1⟩, q1, q⟩ := Option.bind_eq_some_iff.mp q
  dsimp only at q
  split at q
  · rename_i d hd'
    split at q
    · rename_i sl hk
      split at q
      · rename_i ow0 how
        obtain ⟨⟨r2, es2⟩, q2, q⟩ := Option.bind_eq_some_iff.mp q
        obtain ⟨e, q3, q⟩ := Option.bind_eq_some_iff.mp q
        dsimp only at q
        split at q
        · rename_i sl' hk'
          obtain ⟨ow, q4, q⟩ := Option.bind_eq_some_iff.mp q
          obtain ⟨o', q5, q⟩ := Option.map_eq_some_iff.mp q
          cases q
          refine ps_imp (ps_asg (hv _ _ _ q1) (pg_sub (pe_var hN hvis hd hcd) (hi _ _ _ q2) (set_any hu) ha) hs hw) fun D σ H ⟨G, S, kk⟩ => ⟨G, S, fun v G1 H1 t n => ?_⟩
          obtain ⟨G2, t2, n2⟩ := n.fz t
          rw [hd'] at n2
          obtain ⟨p, e1, e2, e3⟩ := t2.sep.ow hk how
          refine ⟨.ref p, e1, G2, t2.sep, fun y G3 H3 t3 n3 => ?_⟩
          have t4 := t2.trans t3
          obtain ⟨p', e1', _, _⟩ := t4.sep.ow hk' q4
          rw [e1] at e1'
          cases e1'
          refine setO_go t4.sep hk' q4 e1 (n3.rq t4.sep q3) (n2.mono t3.g) q5 fun H' t5 => kk _ _ _ (t4.trans t5)
        · cases q
      · cases q
    · cases q
  · cases q

/-! ### name.m(e), m changing a list of one's own -/
/-- what m does: the list, the argument: what comes, the list behind -/
abbrev DM := List Dt → List Dt → Option (Dt × List Dt)
def MtAt (X : Cx) (name : Str) (pf : DM) : Prop := ∃ (id : String) (r : V → List V → Hp → VK → Prop), Slot "list" name id ∧ typeOf (.builtin id) = pure (.type "method_descriptor") ∧ MtR X id r ∧
  ∀ (G H : Hp) (p : Addr) (xs : List V) (l : List Dt) (vs : List V) (ds : List Dt) (d : Dt) (l' : List Dt) (Q : VK), Same G H → H p = some (.lst xs) → RpL X.K G xs l → RpL X.K G vs ds → pf l ds = some (d, l') → (∀ v xs', Rp X.K G v d → RpL X.K G xs' l' → Q v (upd H p (.lst xs'))) → r (.ref p) vs H Q
def mtF (pf : DM) (k : Nat) (A : DA) : DE := fun es => match es[k]? with
  | some sl0 => (match sl0.ow with
    | some (.lst _) => (A es).bind fun p => (datas p.1).bind fun ds => (match p.2[k]? with
      | some sl => (match sl.ow with
        | some (.lst l) => (pf l ds).map fun z => (.dat z.1, p.2.set k (sl.put (.lst z.2)))
        | _ => none)
      | none => none)
    | _ => none)
  | none => none
theorem sx_mt {pf : DM} {k : Nat} {x name : Str} {px apos cpos : Pos} {l : List Expr} {A : DA} (hm : MtAt X name pf) (sa : Sa X (e :: l) A) (hh : HdF A) (hN : X.N[k]? = some x := by rfl) (hvis : Vis X.env.scope x := by first | exact Or.inl rfl | exact Or.inr (Or.inl rfl) | exact Or.inr (Or.inr rfl)) (hd : (x == ("__debug__" : Str)) = false := by decide)
    (hcd : (x == ("__classdict__" : Str)) = false := by decide) (hbase : attributeBase (.Name x px) name X.env (eval (.Name x px) X.env) = eval (.Name x px) X.env := by rfl)
    (hfew : ((backTo cpos (starEach (e :: l) X.env)).all (fun x => !x.1) && (backToKw cpos (keywordEach [] X.env)).all (fun x => x.1.isSome)
      && decide ((e :: l).length + ([] : List Keyword).length + (if ([] : List Keyword).isEmpty then 0 else 1) < 30)) = true := by rfl)
    (hline : (apos.endLine == cpos.line) = true := by rfl) (hs : starEach (e :: l) X.env = (false, eval e X.env) :: starEach l X.env := by rfl) (hplain : (backTo cpos (starEach l X.env)).any (·.1) = false := by rfl) :
    Sx X (.Call (.Attribute (.Name x px) name apos) (e :: l) [] cpos) (mtF pf k A) := fun es r es' q => by
  unfold mtF at q
  split at q
  · rename_i sl0 hk0
    split at q
    · rename_i l0 ho0
      obtain ⟨⟨rs, es1⟩, q1, q⟩ := Option.bind_eq_some_iff.mp q
      obtain ⟨ds, q2, q⟩ := Option.bind_eq_some_iff.mp q
      dsimp only at q
      split at q
      · rename_i sl hk
        split at q
        · rename_i l1 ho
          obtain ⟨⟨d, l'⟩, q3, q⟩ := Option.map_eq_some_iff.mp q
          cases q
          obtain ⟨id, r, m1, m2, m3, m4⟩ := hm
          refine pe_imp (pe_bm PySem.F.plainAttrs_list m1 m2 m3 (pe_var hN hvis hd hcd) (sa _ _ _ q1) hbase hfew hline hs hplain) fun σ H Q ⟨G, S, kk⟩ => ?_
          obtain ⟨p, e1, e2, ho', e3, e4⟩ := S.ow hk0 ho0
          cases e4 with
          | lst r0 =>
            refine ⟨.ref p, e1, .inl ⟨rfl, _, .inl (.inl e3)⟩, G, S, fun vs G1 H1 t0 n0 => ?_⟩
            obtain ⟨G1, sm, t, n⟩ := n0.datas t0 (hh _ _ _ q1) q2
            obtain ⟨p', e1', e2', ho1, e3', e4'⟩ := t.sep.ow hk ho
            rw [e1] at e1'
            cases e1'
            cases e4' with
            | lst r1 =>
              refine m4 G1 H1 p _ l1 vs ds d l' Q t.sep.le e3' r1 n q3 fun v xs' w1 w2 => ?_
              exact kk v G1 _ (t.trans (Tr.put t.sep hk ho e1 (.lst w2))) w1
        · cases q
      · cases q
    · cases q
  · cases q
theorem RpL.one' {K : PySem.W.Frag} {G : Hp} {vs : List V} {d : Dt} (h : RpL K G vs [d]) : ∃ v, vs = [v] ∧ Rp K G v d := by
  cases h with
  | cons a b => cases b; exact ⟨_, rfl, a⟩
def appP : DM := fun l ds => match ds with
  | [d] => if l.length ≤ 100000 then some (.non, l ++ [d]) else none
  | _ => none
theorem app_ok : MtAt X "append" appP := ⟨_, _, PySem.F.slot_list_append, PySem.F.type_list_append, mt_append, fun G H p xs l vs ds d l' Q le e r rq h k => by
  unfold appP at h
  split at h
  · split at h
    · rename_i hl
      cases h
      obtain ⟨v, rfl, rv⟩ := rq.one'
      exact ⟨p, xs, v, rfl, rfl, e, by rw [r.length]; exact sz100lt hl, k _ _ .non (r.append (.one rv))⟩
    · cases h
  · cases h⟩
def extP : DM := fun l ds => match ds with
  | [.lst m] => if l.length + m.length ≤ 100000 then some (.non, l ++ m) else none
  | _ => none
theorem ext_ok : MtAt X "extend" extP := ⟨_, _, PySem.F.slot_list_extend, PySem.F.type_list_extend, mt_extend, fun G H p xs l vs ds d l' Q le e r rq h k => by
  unfold extP at h
  split at h
  · split at h
    · rename_i hl
      cases h
      obtain ⟨v, rfl, rv⟩ := rq.one'
      cases rv with
      | lst h1 h2 => exact ⟨p, _, xs, _, rfl, rfl, e, le _ _ h1, by rw [r.length, h2.length]; exact sz100 hl, k _ _ .non (r.append h2)⟩
    · cases h
  · cases h⟩
/-! ### text.join -/
def joinP (a : Str) : Dt → Option Ro
  | .lst l => (strsD l).bind fun ys => if (ys.map (·.length)).sum + ys.length * a.length ≤ 100000 then some (.val (.str (Txt.join a ys))) else none
  | .tup l => (strsD l).bind fun ys => if (ys.map (·.length)).sum + ys.length * a.length ≤ 100000 then some (.val (.str (Txt.join a ys))) else none
  | _ => none
/-- a text's method with one argument -/
def txF (pf : Str → Dt → Option Ro) (f g : DE) : DE := fun es => (f es).bind fun p => match p.1 with
  | .dat (.str a) => (g p.2).bind fun q => (look q.2 q.1).bind fun d => (pf a d).map fun ro => (ro.rs, q.2)
  | _ => none
theorem join_ok {K : PySem.W.Frag} {G H : Hp} {a : Str} {d : Dt} {ro : Ro} {y : V} {Q : VK} (h : joinP a d = some ro) (le : Same G H) (r : Rq K G H y d) (k : ∀ v H', RoOk K G H v H' ro → Q v H') :
    ∃ a' p, ∃ ys : List Str, V.str a = .str a' ∧ [y] = [V.ref p] ∧ (SqL K H p (ys.map V.str) ∨ SqT K H p (ys.map V.str)) ∧ (ys.map (·.length)).sum + ys.length * a'.length ≤ 16777216 ∧ Q (.str (Txt.join a' ys)) H := by
  unfold joinP at h
  split at h
  · obtain ⟨ys, e1, h⟩ := Option.bind_eq_some_iff.mp h
    split at h
    · rename_i hz
      cases h
      obtain ⟨p, xs, rfl, a1, a2⟩ := r.lst le
      rw [strsD_inv e1] at a2
      exact ⟨a, p, ys, rfl, rfl, .inl (.inl (.inl (by rw [← a2.strs]; exact a1))), by omega, k _ H ⟨rfl, .str _⟩⟩
    · cases h
  · obtain ⟨ys, e1, h⟩ := Option.bind_eq_some_iff.mp h
    split at h
    · rename_i hz
      cases h
      obtain ⟨p, xs, rfl, a1, a2⟩ := r.tup le
      rw [strsD_inv e1] at a2
      exact ⟨a, p, ys, rfl, rfl, .inr (by rw [← a2.strs]; exact a1), by omega, k _ H ⟨rfl, .str _⟩⟩
    · cases h
  · cases h
theorem sx_join {apos : Pos} (sa : Sx X o f) (sb : Sx X e g) (hs : starEach [e] X.env = [(false, eval e X.env)] := by rfl) (hbase : attributeBase o "join" X.env (eval o X.env) = eval o X.env := by rfl) (hline : (apos.endLine == pos.line) = true := by rfl) :
    Sx X (.Call (.Attribute o "join" apos) [e] [] pos) (txF joinP f g) := fun es r es' h => by
  obtain ⟨⟨r1, es1⟩, h1, h⟩ := Option.bind_eq_some_iff.mp h
  dsimp only at h
  split at h
  · rename_i a
    obtain ⟨⟨r2, es2⟩, h2, h⟩ := Option.bind_eq_some_iff.mp h
    obtain ⟨d, h3, h⟩ := Option.bind_eq_some_iff.mp h
    obtain ⟨ro, h5, h⟩ := Option.map_eq_some_iff.mp h
    cases h
    refine pe_imp (pe_join (sa _ _ _ h1) (sb _ _ _ h2) hs hbase hline) fun σ H Q ⟨G, S, kk⟩ => ⟨G, S, fun v G1 H1 t n => ?_⟩
    have n' : Rp X.K G1 v (.str a) := n
    cases n'
    refine ⟨⟨a, rfl⟩, G1, t.sep, fun y G2 H2 t2 n2 => ?_⟩
    have t3 := t.trans t2
    exact join_ok h5 t3.sep.le (n2.rq t3.sep h3) fun v H' ok => by
      obtain ⟨G3, t4, n4⟩ := ok.go t3
      exact kk v G3 H' t4 n4
  · cases h

/-! ### o.f = value -/
def putFD (f : Str) (d : Dt) : List (Str × Dt) → List (Str × Dt)
  | [] => [(f, d)]
  | (g, x) :: r => if g = f then (g, d) :: r else (g, x) :: putFD f d r
theorem RpA.putF {K : PySem.W.Frag} {G : Hp} {v : V} {d : Dt} (f : Str) (h : Rp K G v d) : ∀ {fs : List (Str × V)} {ds : List (Str × Dt)}, RpA K G Str fs ds → RpA K G Str (L2.putF f v fs) (putFD f d ds)
  | [], _, r => by cases r; exact .cons h .nil
  | (g, x) :: fs, _, r => by
    cases r with
    | cons a b =>
      unfold L2.putF putFD
      by_cases e : g = f
      · rw [if_pos e, if_pos e]; exact .cons h b
      · rw [if_neg e, if_neg e]; exact .cons a (RpA.putF f h b)
def fldB (c fl : Str) (F : DE) (k : Nat) : DS := fun es => (F es).bind fun p => match p.1.fz with
  | .dat d => (match p.2[k]? with
    | some sl => (match sl.ow with
      | some (.ob c' l) => if c' = c ∧ l.length < 900 then some (.nx, p.2.set k (sl.put (.ob c (putFD fl d l)))) else none
      | _ => none)
    | none => none)
  | _ => none
theorem px_fld {k : Nat} {x fl : Str} {px : Pos} (c : Str) (hc : Cls X.K (He.ga X.K c)) (hn : NoAttr X.K (He.ga X.K c) fl) (hv : Sx X value f) (hN : X.N[k]? = some x := by rfl) (hvis : Vis X.env.scope x := by first | exact Or.inl rfl | exact Or.inr (Or.inl rfl) | exact Or.inr (Or.inr rfl)) (hd : (x == ("__debug__" : Str)) = false := by decide)
    (hcd : (x == ("__classdict__" : Str)) = false := by decide) (hs : swapsWith value (some (.Attribute (.Name x px) fl pos')) pos.line X.env = pure false := by rfl) : Px X (.Assign [.Attribute (.Name x px) fl pos'] value pos) (fldB c fl f k) := fun es fl' es' q => by
  obtain ⟨⟨r, es1⟩, q1, q⟩ := Option.bind_eq_some_iff.mp q
  dsimp only at q
  split at q
  · rename_i d hd'
    split at q
    · rename_i sl hk
      split at q
      · rename_i c' l how
        split at q
        · rename_i hcl
          obtain ⟨rfl, hl⟩ := hcl
          cases q
          refine ps_imp (ps_fld (pe_var hN hvis hd hcd) (hv _ _ _ q1) hs) fun D σ H ⟨G, S, kk⟩ => ⟨G, S, fun v G1 H1 t n => ?_⟩
          obtain ⟨G2, t2, n2⟩ := n.fz t
          rw [hd'] at n2
          obtain ⟨p, e1, e2, ho, e3, e4⟩ := t2.sep.ow hk how
          cases e4 with
          | ob r0 =>
            exact ⟨.ref p, e1, p, _, _, _, rfl, e3, hc, hn, by rw [r0.length]; omega, kk _ _ _ (t2.trans (Tr.put t2.sep hk how e1 (.ob (r0.putF fl n2))))⟩
        · cases q
      · cases q
    · cases q
  · cases q
end
end PL

set_option Elab.async false
set_option linter.all false
set_option maxRecDepth 100000
set_option maxHeartbeats 1000000
/-! The pure layer, part K: dict comprehensions. -/
namespace PL
open PySem PySem.Spec PyProof.Rows L2 L2.Walk

section
variable {J : It} {n : Nat} {G : Hp → Prop} {Y : Nat → Hp → V → Hp → Prop}
theorem dc_it (w : Walk J n G Y) {g : TG} {tt : TT} {tk tv : TE} {vs : List Nat} {σ : St} {H1 : Hp} {D : Addr} {Qd : Hp → Prop} (Pv : Nat → Hp → Prop) (h0 : Pv 0 (upd H1 D (.dK []))) (hG : ∀ i H, i ≤ n → Pv i H → G H)
    (hs : ∀ i x H H', i < n → Pv i H → Y i H x H' → g x (wipe σ vs) H' fun σ2 H2 => wipe σ2 vs = wipe σ vs ∧ tt σ2 H2 fun b H3 =>
      if b = true then tk σ2 H3 fun y H4 => tv σ2 H4 fun z H5 => ∃ kvs k, y = kV k ∧ H5 D = some (.dK kvs) ∧ kvs.length < sizeLine ∧ Pv (i + 1) (upd H5 D (.dK (putK kvs k z))) else Pv (i + 1) H3) (hd : ∀ H, Pv n H → Qd H) :
    ∃ W : Nat → Nat → Hp → Prop, (∃ m, W 0 m (upd H1 D (.dK []))) ∧ ∀ i m H, W i m H →
      (J.stop i H ∧ Qd H) ∨ (J.go i H ∧ ∃ Nx : Hp → Prop, (∀ H', Nx H' → ∃ m', m' < m ∧ W (i + 1) m' H') ∧ ∀ x H', J.yld i H x H' → g x (wipe σ vs) H' fun σ2 H2 => wipe σ2 vs = wipe σ vs ∧ tt σ2 H2 fun b H3 =>
        if b = true then tk σ2 H3 fun y H4 => tv σ2 H4 fun z H5 => ∃ kvs k, y = kV k ∧ H5 D = some (.dK kvs) ∧ kvs.length < sizeLine ∧ Nx (upd H5 D (.dK (putK kvs k z))) else Nx H3) := by
  refine ⟨fun i m H => m = n - i ∧ i ≤ n ∧ Pv i H, ⟨n, by simp, Nat.zero_le _, h0⟩, ?_⟩
  rintro i m H ⟨rfl, hi, p⟩
  have q := hG i H hi p
  by_cases hlt : i < n
  · refine .inr ⟨w.goes i H hlt q, Pv (i + 1), fun H' p' => ⟨n - (i + 1), by omega, rfl, hlt, p'⟩, fun x H' y => hs i x H H' hlt p (w.yields i H x H' hlt q y)⟩
  · have e : i = n := by omega
    subst e
    exact .inl ⟨w.stops H q, hd H p⟩
end
def dcLoop (vs : List Nat) (g : DG) (t : DT) (fk f : DE) : List Dt → List (Key × Dt) → Sls → Option (List (Key × Dt) × Sls)
  | [], acc, es => some (acc, es)
  | d :: ds, acc, es => (g d es).bind fun es1 => (t es1).bind fun p => match p.1 with
    | true => (fk p.2).bind fun z => (match z.1 with
      | .dat kd => (keyD kd).bind fun k => (f z.2).bind fun q => match q.1.fz with
        | .dat y => (match bare q.2 vs with
          | true => dcLoop vs g t fk f ds (putD acc k y) (wipeS q.2 vs)
          | false => none)
        | _ => none
      | _ => none)
    | false => (match bare p.2 vs with
      | true => dcLoop vs g t fk f ds acc (wipeS p.2 vs)
      | false => none)
def dcF (vs : List Nat) (it : DI) (g : DG) (t : DT) (fk f : DE) : DE := fun es => (it es).bind fun p => match bare p.2 vs, Nat.ble p.1.length 100000 with
  | true, true => (dcLoop vs g t fk f p.1 [] (wipeS p.2 vs)).map fun q => (.new (.dct q.1), heal p.2 q.2 vs)
  | _, _ => none
theorem length_putD (l : List (Key × Dt)) (k : Key) (d : Dt) : (putD l k d).length ≤ l.length + 1 := by
  unfold putD
  split
  · rw [List.length_map]; omega
  · rw [List.length_append]; exact Nat.le_refl _
theorem dcLoop_go {ws vs : List Nat} (sub : ∀ k ∈ ws, k ∈ vs) {K : PySem.W.Frag} {σ : St} {G1 H1 : Hp} {es1 esF : Sls} {g : DG} {t : DT} {fk f : DE} {items : List Dt} {dsF : List (Key × Dt)} {J : It} (S : Sep K σ G1 H1 es1) (hb : bare es1 vs = true) (hz : items.length ≤ 100000)
    (hl : dcLoop vs g t fk f items [] (wipeS es1 vs) = some (dsF, esF)) (w : IW K G1 J items) {Q : VK}
    (k : ∀ v G2 H2, Tr K σ G1 H1 es1 σ G2 H2 (heal es1 esF vs) → RN K σ H1 (heal es1 esF vs) G2 H2 v (.new (.dct dsF)) → Q v H2) : ∀ D, H1 D = none →
    ∃ W : Nat → Nat → Hp → Prop, (∃ m, W 0 m (upd H1 D (.dK []))) ∧ ∀ i m H, W i m H → (J.stop i H ∧ Q (.ref D) H) ∨ (J.go i H ∧ ∃ Nx : Hp → Prop, (∀ H', Nx H' → ∃ m', m' < m ∧ W (i + 1) m' H') ∧
      ∀ x H', J.yld i H x H' → tGU K ws g x (wipe σ vs) H' fun σ2 H2 => wipe σ2 vs = wipe σ vs ∧ tTU K t σ2 H2 fun b H3 => if b = true then tU K fk σ2 H3 fun y H4 => tU K f σ2 H4 fun z H5 => ∃ kvs k, y = kV k ∧ H5 D = some (.dK kvs) ∧ kvs.length < sizeLine ∧ Nx (upd H5 D (.dK (putK kvs k z))) else Nx H3) := fun D hD => by
  obtain ⟨GG, Y, wk, hG, hY⟩ := w
  have SW := S.wipe hb
  have npar : ∀ (i : Nat) (o : Ow), i ∈ vs → (wipeS es1 vs)[i]? ≠ some (.par o) := fun i o hi z => by
    rw [wipeS_get, if_pos hi] at z
    split at z <;> cases z
  have gD : G1 D = none := S.fresh_g hD
  refine dc_it wk (fun i H' => ∃ G' esi acc ds, Tr K (wipe σ vs) G1 H1 (wipeS es1 vs) (wipe σ vs) G' H' esi ∧ Scr D (.dK acc) (wipe σ vs) G' H' esi ∧ RpA K G' Key acc ds ∧ ds.length ≤ i ∧ dcLoop vs g t fk f (items.drop i) ds esi = some (dsF, esF)) ?_
    (fun i H' _ ⟨G', esi, acc, ds, tr, _⟩ => hG H' (tr.g.trans tr.sep.le)) (fun i x H' H3 hi ⟨G', esi, acc, ds, tr, sc, a3, a4, hr⟩ y => ?_) (fun H' ⟨G', esi, acc, ds, tr, sc, a3, a4, hr⟩ => ?_)
  · refine ⟨G1, _, [], [], (Tr.refl SW).scratch hD gD (SW.fresh_o hD), ⟨upd_same, gD, SW.fresh_o hD⟩, .nil, Nat.zero_le _, by rw [List.drop_zero]; exact hl⟩
  · obtain ⟨ro, d, e1, e2, e3, e4⟩ := hY i H' x H3 hi (tr.g.trans tr.sep.le) y
    obtain ⟨G2, t2, n2⟩ := (e4.mono tr.g).item tr.sep e3
    rw [e2] at n2
    have hd : items.drop i = d :: items.drop (i + 1) := by
      obtain ⟨h5, h6⟩ := List.getElem?_eq_some_iff.mp e1
      rw [← h6]
      exact List.drop_eq_getElem_cons h5
    rw [hd] at hr
    obtain ⟨es2, q1, hr⟩ := Option.bind_eq_some_iff.mp hr
    obtain ⟨⟨b, es3⟩, q2, hr⟩ := Option.bind_eq_some_iff.mp hr
    refine ⟨d, esi, es2, q1, G2, t2.sep, n2, fun σ2 G3 H4 t3 hw => ⟨?_, es2, b, es3, q2, G3, t3.sep, fun G4 H5 t4 => ?_⟩⟩
    · refine wipe_eq ?_ hw sub
      have := t3.sep.len
      rw [this, t3.len, tr.len, wipeS_len, S.len]
    have we : wipe σ2 vs = wipe σ vs := wipe_eq (by rw [t3.sep.len, t3.len, tr.len, wipeS_len, S.len]) hw sub
    have t5 := (tr.trans t2).trans (t3.trans t4)
    have s5 := (sc.step t2).step (t3.trans t4)
    have g5 : Same G' G4 := t2.g.trans (t3.g.trans t4.g)
    cases b with
    | false =>
      refine iteF ?_
      dsimp only at hr
      split at hr
      · rename_i hb3
        have t6 := t5.wiped hb3 npar
        rw [we] at t6
        refine ⟨G4, _, acc, ds, t6, ⟨s5.1, s5.2.1, fun z => ?_⟩, a3.mono g5, Nat.le_succ_of_le a4, hr⟩
        rw [← we] at z
        exact s5.2.2 ((owd_wipe hb3).mp z)
      · cases hr
    | true =>
      refine iteT ?_
      obtain ⟨⟨rk, es3k⟩, q3k, hr⟩ := Option.bind_eq_some_iff.mp hr
      refine ⟨es3, rk, es3k, q3k, G4, t4.sep, fun yk G4k H5k t4k n4k => ?_⟩
      dsimp only at hr
      split at hr
      · rename_i kd
        obtain ⟨key, hkey, hr⟩ := Option.bind_eq_some_iff.mp hr
        obtain ⟨⟨r4, es4⟩, q3, hr⟩ := Option.bind_eq_some_iff.mp hr
        have hyk : yk = kV key := keyD_rp hkey n4k
        refine ⟨es3k, r4, es4, q3, G4k, t4k.sep, fun y2 G5 H6 t6 n6 => ?_⟩
        obtain ⟨G6, t7', n7⟩ := n6.fz t6
        have t7 := t4k.trans t7'
        have s7 := s5.step t7
        have t8 := t5.trans t7
        have hlen : acc.length = ds.length := a3.length
        refine ⟨acc, key, hyk, s7.1, by rw [hlen]; exact Nat.lt_of_le_of_lt (Nat.le_trans a4 (Nat.le_of_lt (Nat.lt_of_lt_of_le hi hz))) (by decide), ?_⟩
        dsimp only at hr
        split at hr
        · rename_i dy hdy
          rw [hdy] at n7
          split at hr
          · rename_i hb4
            have t9 := t8.scratch (ho := .dK (putK acc key y2)) hD s7.2.1 s7.2.2
            have t10 := t9.wiped hb4 npar
            rw [we] at t10
            refine ⟨G6, _, putK acc key y2, putD ds key dy, t10, ⟨upd_same, s7.2.1, fun z => ?_⟩, (a3.mono (g5.trans t7.g)).put n7 key, by have := length_putD ds key dy; omega, hr⟩
            rw [← we] at z
            exact s7.2.2 ((owd_wipe hb4).mp z)
          · cases hr
        · cases hr
      · cases hr
  · rw [List.drop_length] at hr
    cases hr
    refine k _ G' H' (Tr.unwipe S hb tr) ⟨D, rfl, hD, sc.2.1, ⟨_, sc.1, .dct a3⟩, fun z => ?_⟩
    obtain ⟨i, e, o, h1, h2, h3⟩ := z
    rw [heal_get (by rw [tr.len, wipeS_len])] at h1
    by_cases hi : i ∈ vs
    · rw [if_pos hi] at h1
      obtain ⟨e', q1, q2⟩ := bare_ok hb hi
      rw [h1] at q1
      cases q1
      rw [h2] at q2
      cases q2
    · rw [if_neg hi] at h1
      exact sc.2.2 ⟨i, e, o, h1, h2, by rw [wipe_get, if_neg hi]; exact h3⟩
/-- name = {..}, the name a local -/
theorem ps_setDc {X : Cx} {i : Nat} {y : Str} {py : Pos} {kx vx tg iter : Expr} {ifs : List Expr} {scope : Scope} {own : List (Str × Nat)} {pos spos : Pos} {wi : TI} {g : TG} {tt : TT} {tk tv : TE} (hc : X.calm = true) (hN : X.N.Nodup) (hy : X.N[i]? = some y) (hyl : X.env.scope.names.lookup y = some .local)
    (hsw : swapsWith (.DictComp kx vx [⟨tg, iter, ifs, 0⟩] scope pos) (some (.Name y py)) spos.line X.env = pure true) (hi : PI X tg iter wi) (ok : BlkOk X.N X.env.scope scope own)
    (hg : ∀ (s : Shared) (H : Hp) (C : Addr) (cl : List (Str × Addr)) (fp : List Addr), PG (X.blk s H scope (compEnvC scope cl C X.env) fp) tg g) (ht : ∀ (s : Shared) (H : Hp) (C : Addr) (cl : List (Str × Addr)) (fp : List Addr), PTs (X.blk s H scope (compEnvC scope cl C X.env) fp) ifs tt)
    (hk : ∀ (s : Shared) (H : Hp) (C : Addr) (cl : List (Str × Addr)) (fp : List Addr), PE (X.blk s H scope (compEnvC scope cl C X.env) fp) kx tk)
    (he : ∀ (s : Shared) (H : Hp) (C : Addr) (cl : List (Str × Addr)) (fp : List Addr), PE (X.blk s H scope (compEnvC scope cl C X.env) fp) vx tv) (hs : ∀ x, foldedSetIterable iter X.env x = pure x := by intro _; rfl) :
    PS X (.Assign [.Name y py] (.DictComp kx vx [⟨tg, iter, ifs, 0⟩] scope pos) spos) (tAsg (tDc wi g tt tk tv (own.map (·.2))) (gName i)) := by
  refine ⟨fun pins s σ H D I h => ?_⟩
  rw [exec_Assign_Name_used _ _ _ _ hsw]
  refine wpAny_bind (wpAny_standAt (wpAny_bind ?_))
  show wpAny _ X.A (do let _ ← comprehension (.DictComp kx vx [⟨tg, iter, ifs, 0⟩] scope pos) scope X.env (firstIterPos [⟨tg, iter, ifs, 0⟩] pos) newDict false (eval iter X.env) (some (assign (.Name y py) X.env))) _ _ s
  have h : tDc wi g tt tk tv (own.map (·.2)) σ H (fun x H1 => gName i x σ H1 D.nx) := h
  refine wpAny_bind (thn (dc_core (Qf := fun _ s' => SP X pins D .next s') hc hN I hi ok hg ht hk he hs h fun L C s' m H' I' q hn f => ?_) fun _ s' hq => wpAny_pure (wpAny_pure hq))
  show wpAny _ _ (assign (.Name y py) X.env (.ref L)) _ _ _
  refine wpAny_assign_Name (store_ok2 (v := V.ref L) I' hN hy (.inl hyl) rfl (fun s2 I2 ⟨a, sb, ha⟩ => ?_) (.inr hyl))
  obtain ⟨f0, f1, f2, f3, f4, f5⟩ := f
  have haC : C ≠ a := by
    rcases ha with z | z
    · rw [z]; exact f1
    · exact fun e => f4 y a z e.symm
  refine ⟨m, hn.sameBut sb haC, fun h3 sb3 => ?_⟩
  exact ⟨_, H', I2.turned (t' := s2.toks) (fun b o hb e => (sb3.2 b hb).trans e) f0 f1 f3 f4 f5, q⟩
section
variable {X : Cx} {elt tg iter kx vx : Expr} {ifs : List Expr} {scope : Scope} {own : List (Str × Nat)} {ws : List Nat} {pos spos : Pos} {it : DI} {g : DG} {t : DT} {f fk : DE}
theorem dc_go {K : PySem.W.Frag} {σ : St} {H : Hp} {es es' : Sls} {r : Rs} {Q : VK} {vs : List Nat} (sub : ∀ k ∈ ws, k ∈ vs) {items : List Dt} {es1 : Sls} (h1 : it es = some (items, es1)) (h : dcF vs it g t fk f es = some (r, es')) (q : tP K es r es' σ H Q) :
    tDc (tIP K es items es1) (tGU K ws g) (tTU K t) (tU K fk) (tU K f) vs σ H Q := by
  unfold dcF at h
  rw [h1] at h
  obtain ⟨G, S, kk⟩ := q
  refine ⟨G, S, fun J G1 H1 t1 w => ?_⟩
  have h' : (match bare es1 vs, Nat.ble items.length 100000 with
    | true, true => (dcLoop vs g t fk f items [] (wipeS es1 vs)).map fun q => ((.new (.dct q.1) : Rs), heal es1 q.2 vs)
    | _, _ => none) = some (r, es') := h
  split at h'
  · rename_i hb hz
    obtain ⟨⟨dsF, esF⟩, q1, q2⟩ := Option.map_eq_some_iff.mp h'
    cases q2
    exact dcLoop_go sub t1.sep hb (Nat.le_of_ble_eq_true hz) q1 w fun v G2 H2 t2 n2 => kk v G2 H2 (t1.trans t2) (n2.back t1)
  · cases h'
theorem dcF_it {vs : List Nat} {es es' : Sls} {r : Rs} (h : dcF vs it g t fk f es = some (r, es')) : ∃ items es1, it es = some (items, es1) := by
  unfold dcF at h
  obtain ⟨⟨items, es1⟩, h1, _⟩ := Option.bind_eq_some_iff.mp h
  exact ⟨items, es1, h1⟩
theorem sx_dc (hc : X.calm = true) (hN : X.N.Nodup) (hi : Ix X tg iter it) (ok : BlkOk X.N X.env.scope scope own) (hg : InBlk X scope fun Y => Gx Y tg ws g) (ht : InBlk X scope fun Y => Tsx Y ifs t) (hk : InBlk X scope fun Y => Sx Y kx fk) (he : InBlk X scope fun Y => Sx Y vx f) (sub : ∀ k ∈ ws, k ∈ own.map (·.2) := by decide)
    (hs : ∀ x, foldedSetIterable iter X.env x = pure x := by intro _; rfl) : Sx X (.DictComp kx vx [⟨tg, iter, ifs, 0⟩] scope pos) (dcF (own.map (·.2)) it g t fk f) := fun es r es' h => by
  obtain ⟨items, es1, h1⟩ := dcF_it h
  exact pe_imp (pe_dc hc hN (hi _ _ _ h1) ok (fun s H C cl fp => gxU (hg s H C cl fp)) (fun s H C cl fp => tsxU (ht s H C cl fp)) (fun s H C cl fp => sxU (hk s H C cl fp)) (fun s H C cl fp => sxU (he s H C cl fp)) hs) fun σ H Q q => dc_go sub h1 h q
theorem px_setDcU {i : Nat} {y : Str} {py : Pos} (hc : X.calm = true) (hN : X.N.Nodup) (hi : Ix X tg iter it) (ok : BlkOk X.N X.env.scope scope own) (hg : InBlk X scope fun Y => Gx Y tg ws g) (ht : InBlk X scope fun Y => Tsx Y ifs t) (hk : InBlk X scope fun Y => Sx Y kx fk) (he : InBlk X scope fun Y => Sx Y vx f) (sub : ∀ k ∈ ws, k ∈ own.map (·.2))
    (hsw : swapsWith (.DictComp kx vx [⟨tg, iter, ifs, 0⟩] scope pos) (some (.Name y py)) spos.line X.env = pure true) (hy : X.N[i]? = some y) (hyl : X.env.scope.names.lookup y = some .local)
    (hs : ∀ x, foldedSetIterable iter X.env x = pure x) {es es' es1 : Sls} {r : Rs} {items : List Dt} (h1 : it es = some (items, es1)) (h : dcF (own.map (·.2)) it g t fk f es = some (r, es')) {D : Ends} {σ : St} {H : Hp} {pins : List (Addr × Obj)} {s : Shared} (I : Inv X pins σ H s)
    (q : tP X.K es r es' σ H fun v H1 => D.nx (σ.set i (some v)) H1) : wpAny (model X.prog X.w) X.A (exec (.Assign [.Name y py] (.DictComp kx vx [⟨tg, iter, ifs, 0⟩] scope pos) spos) X.env) (SP X pins D) X.xe s :=
  (ps_setDc hc hN hy hyl hsw (hi _ _ _ h1) ok (fun s H C cl fp => gxU (hg s H C cl fp)) (fun s H C cl fp => tsxU (ht s H C cl fp)) (fun s H C cl fp => sxU (hk s H C cl fp)) (fun s H C cl fp => sxU (he s H C cl fp)) hs).run pins s σ H D I (dc_go sub h1 h q)
theorem px_setDc {i : Nat} {y : Str} {py : Pos} (hc : X.calm = true) (hN : X.N.Nodup) (hi : Ix X tg iter it) (ok : BlkOk X.N X.env.scope scope own) (hg : InBlk X scope fun Y => Gx Y tg ws g) (ht : InBlk X scope fun Y => Tsx Y ifs t) (hk : InBlk X scope fun Y => Sx Y kx fk) (he : InBlk X scope fun Y => Sx Y vx f) (sub : ∀ k ∈ ws, k ∈ own.map (·.2) := by decide)
    (hsw : swapsWith (.DictComp kx vx [⟨tg, iter, ifs, 0⟩] scope pos) (some (.Name y py)) spos.line X.env = pure true) (hy : X.N[i]? = some y := by rfl) (hyl : X.env.scope.names.lookup y = some .local := by rfl)
    (hs : ∀ x, foldedSetIterable iter X.env x = pure x := by intro _; rfl) : Px X (.Assign [.Name y py] (.DictComp kx vx [⟨tg, iter, ifs, 0⟩] scope pos) spos) (setB i (dcF (own.map (·.2)) it g t fk f)) := fun es fl es' q => ⟨fun pins s σ H D I k => by
  obtain ⟨r, es1, h, k2⟩ := setB_go q k
  obtain ⟨items, es2, h1⟩ := dcF_it h
  exact px_setDcU hc hN hi ok hg ht hk he sub hsw hy hyl hs h1 h I k2⟩
theorem px_setDcZ {i : Nat} {y : Str} {py : Pos} (hc : X.calm = true) (hN : X.N.Nodup) (hi : Ix X tg iter it) (ok : BlkOk X.N X.env.scope scope own) (hg : InBlk X scope fun Y => Gx Y tg ws g) (ht : InBlk X scope fun Y => Tsx Y ifs t) (hk : InBlk X scope fun Y => Sx Y kx fk) (he : InBlk X scope fun Y => Sx Y vx f) (sub : ∀ k ∈ ws, k ∈ own.map (·.2) := by decide)
    (hsw : swapsWith (.DictComp kx vx [⟨tg, iter, ifs, 0⟩] scope pos) (some (.Name y py)) spos.line X.env = pure true) (hy : X.N[i]? = some y := by rfl) (hyl : X.env.scope.names.lookup y = some .local := by rfl)
    (hs : ∀ x, foldedSetIterable iter X.env x = pure x := by intro _; rfl) : Px X (.Assign [.Name y py] (.DictComp kx vx [⟨tg, iter, ifs, 0⟩] scope pos) spos) (setZ i (dcF (own.map (·.2)) it g t fk f)) := fun es fl es' q => ⟨fun pins s σ H D I k => by
  obtain ⟨r, es1, h, k2⟩ := setZ_go q k
  obtain ⟨items, es2, h1⟩ := dcF_it h
  exact px_setDcU hc hN hi ok hg ht hk he sub hsw hy hyl hs h1 h I k2⟩
/-- name = {..} on one line -/
theorem sw_dc {kx vx : Expr} {gs : List Comprehension} {scope : Scope} {pos py : Pos} {y : Str} {l : Nat} {env : Env} (hk : env.scope.kind = .function) (hy : env.scope.names.lookup y = some .local) (hl : (py.line == pos.line) = true)
    (ha : (scope.names.any fun (n, k) => n == y && (k == .local || k == .cell)) = false) : swapsWith (.DictComp kx vx gs scope pos) (some (.Name y py)) l env = pure true := by
  have ky : env.kindOf y = some .local := hy
  have hb : env.blockKind = .function := by unfold Env.blockKind; rw [hk]; rfl
  unfold swapsWith
  simp only [hb, ky, ha, Expr.pos, hl]
  rfl
end
end PL

set_option Elab.async false
set_option linter.all false
set_option maxRecDepth 100000
set_option maxHeartbeats 1000000
/-! The pure layer, part L: sorted. -/
namespace PL
open PySem PySem.Spec PyProof.Rows L2

section
variable {prog : Program} {w : World} {A : Around} {E : Value → Shared → Prop} {s : Shared}
theorem collect_tuple {l : Addr} {vs : List Value} {Q : List Value → Shared → Prop} (hl : s.heap.IsTuple l vs.toArray)
    (h : Q vs { s with heap := (s.heap.push (seqObj "list" #[] 0)).update s.heap.objs.size (Obj.mapSeq (· ++ vs.toArray)) }) (hsz : vs.length ≤ sizeLine) :
    wpAny (model prog w) A (collect (.ref l)) Q E s := by
  obtain ⟨o, ho, hc, n, hd⟩ := id hl
  have hne : s.heap.objs.size ≠ l := Nat.ne_of_gt (Heap.lt_size ho)
  unfold collect
  refine wpAny_bind (wpAny_runValue (codeAny_builtin entry_proto_collect' ?_))
  show wpAny _ _ (do again (.builtin "list.__iadd__" ⟨[← newList [], .ref l], []⟩)) _ _ s
  refine wpAny_bind (wpAny_newList (wpAny_pure ⟨Code.quiet_builtin _ (by decide +kernel), codeAny_builtin entry_list_iadd' ?_⟩))
  show wpAny _ _ (Builtin.List.listExtendWith (.ref s.heap.objs.size) (.ref l) (.ref s.heap.objs.size)) _ _ { s with heap := s.heap.push (seqObj "list" #[] 0) }
  unfold Builtin.List.listExtendWith
  have ho' : (s.heap.push (seqObj "list" #[] 0)).get? l = some o := Heap.get?_push_of_some _ ho
  refine wpAny_bind (wpAny_typeOf (T := "tuple") ⟨o, ho', hc⟩ ?_)
  have ht : (Value.type "tuple" == Value.type "tuple") = true := by rfl
  have ht2 : (Value.type "tuple" == Value.type "list") = false := by decide
  rw [if_pos (by rw [ht]; simp)]
  refine wpAny_bind (listItems_at ho' hd ?_)
  refine wpAny_bind (listItems_at (xs := #[]) (n := 0) (Heap.get?_push_size _ rfl) rfl ?_)
  rw [if_neg (by simp)]
  refine wpAny_bind (listUpdate_at (xs := #[]) (n := 0) (Heap.get?_push_size _ rfl) rfl ?_ (Nat.zero_le _) (by show (#[] ++ vs.toArray).size ≤ sizeLine + 1; simp only [Array.size_append, List.size_toArray, List.length_nil]; omega))
  refine wpAny_pure ?_
  show wpAny (model prog w) A (do
      let o ← load s.heap.objs.size
      match o.data with
      | .seq xs _ => pure xs.toList
      | _ => unsupported "internal:collect") Q E { s with heap := (s.heap.push (seqObj "list" #[] 0)).update s.heap.objs.size (Obj.mapSeq (· ++ vs.toArray)) }
  refine wpAny_bind (wpAny_load (get?_update_seq (Heap.get?_push_size _ rfl) _) ?_)
  show wpAny _ _ (pure ((#[] : Array Value) ++ vs.toArray).toList) Q E _
  rw [show ((#[] : Array Value) ++ vs.toArray).toList = vs by simp]
  exact wpAny_pure h
end
/-- what a state keeps -/
structure Kp (s s1 : Shared) : Prop where
  heap : ∀ b o, s.heap.get? b = some o → s1.heap.get? b = some o
  size : s.heap.objs.size ≤ s1.heap.objs.size
  gens : s1.gens = s.gens
  os : s1.os = s.os
section
variable {prog : Program} {w : World} {A : Around} {E : Value → Shared → Prop} {s : Shared}
/-- sorted(x), x whatever can be gathered -/
theorem sorted_col {β : Type} {enc : β → PyData} {R : Value → β → Prop} {x : Value} {Pv : List Value → Prop} {Q : Value → Shared → Prop}
    (col : ∀ (E' : Value → Shared → Prop) (Q' : List Value → Shared → Prop), (∀ s1 vs, Kp s s1 → Pv vs → Q' vs s1) → wpAny (model prog w) A.in1 (collect x) Q' E' s)
    (data : ∀ s1 vs, Kp s s1 → Pv vs → ∃ bs : List β, W.EachIs R vs bs ∧ W.EachIs (fun v b => ∃ as, Reads s1.heap v (enc b) as) vs bs ∧ W.AllAlike (bs.map enc) ∧ W.Sortable (bs.map enc) ∧ bs.length ≤ sizeLine ∧ (∀ b, b ∈ bs → A.units + 2 + (enc b).depth < cLine) ∧
      ∀ p c s' out, Kp s s' → s.heap.objs.size ≤ p → s'.heap.get? p = some (seqObj "list" (List.toArray out) c) → W.EachIs R out (bs.mergeSort (W.dataLe false enc)) → Q (.ref p) s') :
    wpAny (model prog w) A (call (.builtin "sorted") [x]) Q E s := by
  refine Calls.call_function_entry kind_sorted plain_sorted entry_sorted (args_sorted1 _) ?_
  unfold Builtin.«sorted»
  refine wpAny_bind (m := checkCount "sorted" 1 1 _) (wpAny_pure ?_)
  refine wpAny_bind (col _ _ fun s1 vs kp hv => ?_)
  obtain ⟨bs, e, er, hal, hk, hL, hu, hQ⟩ := data s1 vs kp hv
  have hvl : vs.length ≤ sizeLine := by rw [e.length]; exact hL
  refine wpAny_bind (wpAny_newList ?_ hvl)
  have hoL : (s1.heap.push (seqObj "list" vs.toArray 0)).get? s1.heap.objs.size = some (seqObj "list" vs.toArray 0) := Heap.get?_push_size _ rfl
  have er' : W.EachIs (fun v b => ∃ as, Reads (W.sortingHeap (s1.heap.push (seqObj "list" vs.toArray 0)) s1.heap.objs.size vs) v (enc b) as) vs bs :=
    er.mono fun _ _ ⟨as, r⟩ => ⟨as, PyProof.Rows.Reads.keeps (fun b o q => W.sortingHeap_old (Nat.ne_of_lt (Heap.lt_size q)) (Heap.get?_push_of_some _ q)) r⟩
  refine wpAny_bind (wpAny_holding (wpAny_call_entry slot_list_sort ⟨_, hoL, rfl⟩ entry_list_sort
    (W.list_sort_vals (s := { s1 with heap := s1.heap.push (seqObj "list" vs.toArray 0) }) (κ := W.dataKind (W.sortingHeap (s1.heap.push (seqObj "list" vs.toArray 0)) s1.heap.objs.size vs) (bs.map enc)) hoL
      (W.SortsAt.data (s := { s1 with heap := W.sortingHeap (s1.heap.push (seqObj "list" vs.toArray 0)) s1.heap.objs.size vs }) (W.each_map (R := fun v d => ∃ as, Reads (W.sortingHeap (s1.heap.push (seqObj "list" vs.toArray 0)) s1.heap.objs.size vs) v d as) enc er') hal hk (W.bound_map (A := A.in1.in1) hu)) hvl ⟨_, rfl, ?_⟩) (args_list_sort _)))
  obtain ⟨c, hc⟩ := sortedHeap_at (vs := vs) (out := (W.sortVals (W.dataKind (W.sortingHeap (s1.heap.push (seqObj "list" vs.toArray 0)) s1.heap.objs.size vs) (bs.map enc)) false vs vs).toArray) hoL
  refine wpAny_pure ⟨_, rfl, hQ s1.heap.objs.size c _ (W.sortVals (W.dataKind (W.sortingHeap (s1.heap.push (seqObj "list" vs.toArray 0)) s1.heap.objs.size vs) (bs.map enc)) false vs vs) ⟨fun b u q => ?_, ?_, kp.gens, kp.os⟩ kp.size hc (W.sortVals_data false e er' hal)⟩
  · have q := kp.heap b u q
    have hlt := Heap.lt_size q
    show (sortedHeap (s1.heap.push (seqObj "list" vs.toArray 0)) s1.heap.objs.size vs _).get? b = some u
    rw [sortedHeap_old (Nat.ne_of_lt hlt) (by rw [size_push']; exact Nat.lt_succ_of_lt hlt)]
    exact Heap.get?_push_of_some _ q
  · have hlt := Heap.lt_size hc
    exact Nat.le_trans kp.size (Nat.le_of_lt hlt)
end
/-! ### sorted(xs) -/
def leD (d e : Dt) : Bool := !ltD e d
def tupB : Dt → Bool
  | .tup (_ :: _) => true
  | _ => false
def plainB : Dt → Bool
  | .non => false
  | .tup _ => false
  | _ => true
def sortOk (l : List Dt) : Bool := flats l && l.all (fun d => l.all fun e => W.alike (py d) (py e)) && (l.all tupB || l.all plainB) && Nat.ble (deps l) 60 && Nat.ble l.length 100000
def sortP : List Dt → Option Ro
  | [.lst l] => if sortOk l = true then some (.nw (.lst (l.mergeSort leD))) else none
  | [.tup l] => if sortOk l = true then some (.nw (.lst (l.mergeSort leD))) else none
  | _ => none
theorem pys_map : ∀ l : List Dt, pys l = l.map py
  | [] => by simp [pys]
  | d :: ds => by rw [pys, pys_map ds, List.map_cons]
theorem dep_le : ∀ {l : List Dt} {d : Dt}, d ∈ l → dep d ≤ deps l
  | e :: l, d, h => by
    rw [deps]
    rcases List.mem_cons.mp h with rfl | h
    · exact Nat.le_max_left _ _
    · exact Nat.le_trans (dep_le h) (Nat.le_max_right _ _)
theorem flat_of : ∀ {l : List Dt} {d : Dt}, flats l = true → d ∈ l → flat d = true
  | e :: l, d, f, h => by
    rw [flats, Bool.and_eq_true] at f
    rcases List.mem_cons.mp h with rfl | h
    · exact f.1
    · exact flat_of f.2 h
theorem sortOk_alike {l : List Dt} (h : sortOk l = true) : W.AllAlike (l.map py) := by
  unfold sortOk at h
  simp only [Bool.and_eq_true] at h
  intro d hd d' hd'
  obtain ⟨x, hx, rfl⟩ := List.mem_map.mp hd
  obtain ⟨y, hy, rfl⟩ := List.mem_map.mp hd'
  exact List.all_eq_true.mp (List.all_eq_true.mp h.1.1.1.2 x hx) y hy
theorem sortOk_sort {l : List Dt} (h : sortOk l = true) : W.Sortable (l.map py) := by
  unfold sortOk at h
  simp only [Bool.and_eq_true, Bool.or_eq_true] at h
  have hf := h.1.1.1.1
  rcases h.1.1.2 with q | q
  · refine .inl fun d hd => ?_
    obtain ⟨x, hx, rfl⟩ := List.mem_map.mp hd
    have := List.all_eq_true.mp q x hx
    unfold tupB at this
    split at this
    · rename_i a l'
      exact ⟨py a, pys l', by rw [py, pys]⟩
    · cases this
  · refine .inr fun d hd => ?_
    obtain ⟨x, hx, rfl⟩ := List.mem_map.mp hd
    have q1 := List.all_eq_true.mp q x hx
    have q2 := flat_of hf hx
    cases x with
    | non => cases q1
    | tup l => cases q1
    | frl l => simp [flat] at q2
    | dct l => simp [flat] at q2
    | dcT l => simp [flat] at q2
    | ob c l => simp [flat] at q2
    | _ => exact ⟨by simp [py], fun xs => by simp [py]⟩
theorem zip_vals {R : Value → V × Dt → Prop} (hR : ∀ v x d, RelV x v → R v (x, d)) : ∀ {xs : List V} {us : List Value} {ds : List Dt}, Vals xs us → xs.length = ds.length → W.EachIs R us (xs.zip ds)
  | _, _, [], .nil, _ => .nil
  | _, _, d :: ds, .cons r t, h => .cons (hR _ _ _ r) (zip_vals hR t (by simpa using h))
theorem vals_zip : ∀ {us : List Value} {bs : List (V × Dt)}, W.EachIs (fun v (b : V × Dt) => RelV b.1 v) us bs → Vals (bs.map Prod.fst) us
  | _, _, .nil => .nil
  | _, _, .cons h t => .cons h (vals_zip t)
theorem zip_snd : ∀ {xs : List V} {ds : List Dt}, xs.length = ds.length → (xs.zip ds).map Prod.snd = ds
  | [], [], _ => rfl
  | _ :: xs, d :: ds, h => by
    rw [List.zip_cons_cons, List.map_cons, zip_snd (by simpa using h)]
/-- sorted(xs), xs a list or a tuple of alike data -/
def rSortA (K : PySem.W.Frag) : List V → Hp → VK → Prop := fun vs H Q => ∃ (a : Addr) (xs : List V) (ds : List Dt), vs = [V.ref a] ∧ (SqL K H a xs ∨ SqT K H a xs) ∧ DpAll K H xs (pys ds) ∧ xs.length = ds.length ∧ sortOk ds = true ∧
  ∀ (bs : List (V × Dt)) (p : Addr), bs.Perm (xs.zip ds) → bs.map Prod.snd = ds.mergeSort leD → H p = none → Q (.ref p) (upd H p (.lst (bs.map Prod.fst)))
theorem reads_zip {K : PySem.W.Frag} {X : Cx} {pins : List (Addr × Obj)} {σ : St} {H : Hp} {s : Shared} (I : Inv X pins σ H s) : ∀ {xs : List V} {us : List Value} {ds : List Dt}, DpAll X.K H xs (pys ds) → Vals xs us → W.EachIs (fun v (b : V × Dt) => ∃ as, Reads s.heap v (py b.2) as) us (xs.zip ds)
  | [], _, [], _, .nil => .nil
  | [], _, d :: ds, h, _ => by rw [pys] at h; cases h
  | x :: xs, _, [], h, .cons _ _ => by rw [pys] at h; cases h
  | x :: xs, _, d :: ds, h, .cons r t => by
    rw [pys] at h
    cases h with
    | cons h1 h2 => exact .cons (Dp.reads I _ _ _ h1 r) (reads_zip (K := K) I h2 t)
section
variable {X : Cx}
theorem Kp.toInv {pins : List (Addr × Obj)} {σ : St} {H : Hp} {s s' : Shared} (I : Inv X pins σ H s) (kp : Kp s s') {p : Addr} {c : Nat} {ys : List V} {us : List Value} (hp : s.heap.objs.size ≤ p) (hg : s'.heap.get? p = some (seqObj "list" us.toArray c)) (hv : Vals ys us) (hz : ys.length ≤ sizeLine) :
    H p = none ∧ Inv X pins σ (upd H p (.lst ys)) s' := by
  have hn : H p = none := I.hok.fresh hp
  refine ⟨hn, ?_⟩
  have J : Inv X pins σ (upd H p (.lst ys)) { s with heap := s'.heap, gens := s'.gens, drawn := s'.drawn, toks := s'.toks } :=
    I.call (ch := []) (Un.laid kp.heap hp hn) (I.hok.laid kp.heap hp ⟨hz, us, c, hv, hg⟩) (by rw [kp.gens]; exact I.bare) (fun _ z => nomatch z)
  have e : s' = { s with heap := s'.heap, gens := s'.gens, drawn := s'.drawn, toks := s'.toks } := by
    have ho := kp.os
    cases s'
    cases s
    cases ho
    rfl
  rw [e]
  exact J
theorem call_sortA (hu : X.A.units + 100 < cLine) : CallR X (.builtin "sorted") (rSortA X.K) := by
  intro pins s σ H vs us Q I r h
  obtain ⟨a, xs, ds, rfl, hq, hd, hl, hok, q⟩ := h
  rw [Vals.ref1 r]
  have go : ∀ its : List Value, Vals xs its → xs.length ≤ sizeLine → (∀ (E' : Value → Shared → Prop) (Q' : List Value → Shared → Prop), (∀ s1 vs, Kp s s1 → vs = its → Q' vs s1) → wpAny (model X.prog X.w) X.A.in1 (collect (.ref a)) Q' E' s) →
      wpAny (model X.prog X.w) X.A (call (.builtin "sorted") [.ref a]) (EP X pins σ Q) X.xe s := fun its rv hz col => by
    refine sorted_col (β := V × Dt) (enc := fun b => py b.2) (R := fun v b => RelV b.1 v) (Pv := fun vs => vs = its) col fun s1 vs kp e => ?_
    subst e
    have em : (xs.zip ds).map (fun b => py b.2) = ds.map py := by
      have := congrArg (List.map py) (zip_snd hl)
      rw [List.map_map] at this
      exact this
    refine ⟨xs.zip ds, zip_vals (fun _ _ _ r => r) rv hl, (reads_zip (K := X.K) I hd rv).mono fun _ _ ⟨as, r⟩ => ⟨as, PyProof.Rows.Reads.keeps kp.heap r⟩, by rw [em]; exact sortOk_alike hok, by rw [em]; exact sortOk_sort hok, ?_, fun b hb => ?_, fun p c s' out kp' hp hg eo => ?_⟩
    · rw [List.length_zip, ← hl, Nat.min_self]; exact hz
    · have hb2 : b.2 ∈ ds := (List.of_mem_zip hb).2
      have := dep_le hb2
      unfold sortOk at hok
      simp only [Bool.and_eq_true] at hok
      have h60 := Nat.le_of_ble_eq_true hok.1.2
      rw [py_dep]
      omega
    · have hv := vals_zip eo
      have hpm := List.mergeSort_perm (xs.zip ds) (W.dataLe false fun b => py b.2)
      have hlen : (((xs.zip ds).mergeSort (W.dataLe false fun b => py b.2)).map Prod.fst).length ≤ sizeLine := by
        rw [List.length_map, hpm.length_eq, List.length_zip, ← hl, Nat.min_self]
        exact hz
      obtain ⟨hn, J⟩ := Kp.toInv I kp' hp hg hv hlen
      refine ⟨.ref p, _, J, rfl, q _ p hpm ?_ hn⟩
      have := W.sort_maps (r := W.dataLe false fun b : V × Dt => py b.2) (s := leD) Prod.snd (l := xs.zip ds) fun a _ b _ => rfl
      rw [this, zip_snd hl]
  rcases hq with hq | hq
  · obtain ⟨its, rv, pl, hz⟩ := I.list hq
    refine go its rv hz fun E' Q' k => collect_list pl.isList (k _ _ ⟨fun b o e => ?_, ?_, rfl, rfl⟩ rfl) (by rw [← rv.length]; exact hz)
    · rw [Heap.get?_update_ne _ _ _ _ (Nat.ne_of_lt (Heap.lt_size e))]
      exact Heap.get?_push_of_some _ e
    · show _ ≤ (Heap.update _ _ _).objs.size
      rw [Heap.size_update, size_push']
      exact Nat.le_succ _
  · obtain ⟨its, rv, pl, hz⟩ := I.tuple hq
    refine go its rv hz fun E' Q' k => collect_tuple pl (k _ _ ⟨fun b o e => ?_, ?_, rfl, rfl⟩ rfl) (by rw [← rv.length]; exact hz)
    · rw [Heap.get?_update_ne _ _ _ _ (Nat.ne_of_lt (Heap.lt_size e))]
      exact Heap.get?_push_of_some _ e
    · show _ ≤ (Heap.update _ _ _).objs.size
      rw [Heap.size_update, size_push']
      exact Nat.le_succ _
theorem RpL.of_perm {K : PySem.W.Frag} {G : Hp} {xs : List V} {ds : List Dt} (r : RpL K G xs ds) {bs : List (V × Dt)} (h : ∀ b ∈ bs, b ∈ xs.zip ds) : RpL K G (bs.map Prod.fst) (bs.map Prod.snd) := by
  have mem : ∀ b ∈ xs.zip ds, Rp K G b.1 b.2 := by
    clear h
    intro b hb
    obtain ⟨i, hi, e⟩ := List.getElem_of_mem hb
    rw [List.getElem_zip] at e
    rw [List.length_zip] at hi
    have h1 : xs[i]? = some b.1 := by rw [List.getElem?_eq_getElem (by omega), ← e]
    have h2 : ds[i]? = some b.2 := by rw [List.getElem?_eq_getElem (by omega), ← e]
    obtain ⟨v, h3, h4⟩ := r.get h2
    rw [h1] at h3
    cases h3
    exact h4
  induction bs with
  | nil => exact .nil
  | cons b bs ih => exact .cons (mem b (h b List.mem_cons_self)) (ih fun c hc => h c (List.mem_cons_of_mem _ hc))
theorem RpL.dpa {K : PySem.W.Frag} {G H : Hp} {vs : List V} {l : List Dt} (le : Same G H) (r : RpL K G vs l) (f : flats l = true) : DpAll K H vs (pys l) := (r.mono le).dp f
theorem sortOk_flat {l : List Dt} (h : sortOk l = true) : flats l = true := by
  unfold sortOk at h
  simp only [Bool.and_eq_true] at h
  exact h.1.1.1.1
theorem sort_at (hu : X.A.units + 100 < cLine) : CbAt X (.builtin "sorted") sortP := fun ds ro h => by
  unfold sortP at h
  split at h
  · split at h
    · rename_i l hok
      cases h
      refine ⟨_, call_sortA hu, fun G H vs Q le r k => ?_⟩
      obtain ⟨v, rfl, rv⟩ := r.one
      obtain ⟨p, xs, rfl, a1, a2⟩ := rv.lst le
      refine ⟨p, xs, l, rfl, .inl (.inl (.inl a1)), a2.dpa le (sortOk_flat hok), a2.length, hok, fun bs q hb1 hb2 hq => k _ _ ⟨q, _, rfl, hq, rfl, .lst ?_⟩⟩
      rw [← hb2]
      exact a2.of_perm fun b hb => hb1.mem_iff.mp hb
    · cases h
  · split at h
    · rename_i l hok
      cases h
      refine ⟨_, call_sortA hu, fun G H vs Q le r k => ?_⟩
      obtain ⟨v, rfl, rv⟩ := r.one
      obtain ⟨p, xs, rfl, a1, a2⟩ := rv.tup le
      refine ⟨p, xs, l, rfl, .inr a1, a2.dpa le (sortOk_flat hok), a2.length, hok, fun bs q hb1 hb2 hq => k _ _ ⟨q, _, rfl, hq, rfl, .lst ?_⟩⟩
      rw [← hb2]
      exact a2.of_perm fun b hb => hb1.mem_iff.mp hb
    · cases h
  · cases h
end
end PL

set_option Elab.async false
set_option linter.all false
set_option maxRecDepth 100000
set_option maxHeartbeats 2000000
/-! The pure layer, part M: sets of texts (the library's way with sets of truth values, turned to texts). -/
namespace PL
open PySem PySem.Spec PyProof.Rows L2

/-! ### what a set of texts is -/
def keyS (e : Int × Value) : Str := match e.2 with | .str k _ => k | _ => Str.empty
def GoodS (w : World) (e : Int × Value) : Prop := ∃ k tk, e.2 = Value.str k tk ∧ e.1 = hashStr w k
theorem strK_is (P : Program) (w : World) (k : Str) (tk : Tok) : (PySem.strKind P w).is k (.str k tk) = true := beq_self_eq_true k
/-- the set of texts at a: S its members, n their number; its table rises and can be walked -/
def SetS (w : World) (h : Heap) (a : Addr) (S : Str → Bool) (n : Nat) : Prop :=
  ∃ o es ep t, h.get? a = some o ∧ o.ExactSet ∧ o.data = .set es ep t ∧ (∀ e ∈ es.toList, GoodS w e) ∧ (es.toList.map keyS).Nodup ∧ (∀ k, S k = true ↔ k ∈ es.toList.map keyS) ∧
    es.size < scanBound ∧ t.fits es.size = true ∧ es.size = n ∧ Ris t.place.toList ∧ (w.params.followText "set-order" = true ∨ t.led = true)

section
variable {P : Program} {w : World} {h h' : Heap} {a : Addr} {S : Str → Bool} {n : Nat}

theorem SetS.at (R : SetS w h a S n) (k : ∀ o, h.get? a = some o → h'.get? a = some o) : SetS w h' a S n := by
  obtain ⟨o, es, ep, t, ho, r⟩ := R
  exact ⟨o, es, ep, t, k o ho, r⟩
theorem SetS.lt (R : SetS w h a S n) : a < h.objs.size := by
  obtain ⟨o, es, ep, t, ho, r⟩ := R
  exact Heap.lt_size ho
theorem SetS.congr {S' : Str → Bool} (R : SetS w h a S n) (e : ∀ k, S' k = S k) : SetS w h a S' n := by
  have q : S' = S := funext e
  rw [q]; exact R
theorem goodS_elems {l : List (Int × Value)} (g : ∀ e ∈ l, GoodS w e) : ElemsOf (PySem.strKind P w) l := fun e he => by
  obtain ⟨k, tk, h1, h2⟩ := g e he
  exact ⟨⟨k, by rw [h1]; exact strK_is P w k tk, h2⟩, by rw [h1] <;> rfl⟩
theorem goodS_is {e : Int × Value} (g : GoodS w e) (k : Str) : (PySem.strKind P w).is k e.2 = true ↔ keyS e = k := by
  obtain ⟨k0, tk0, h1, _⟩ := g
  unfold keyS
  rw [h1]
  show ((k0 == k) = true) ↔ k0 = k
  exact beq_iff_eq
theorem goodS_mem {l : List (Int × Value)} (g : ∀ e ∈ l, GoodS w e) (k : Str) : k ∈ l.map keyS ↔ ∃ e ∈ l, (PySem.strKind P w).is k e.2 = true := by
  rw [List.mem_map]
  constructor
  · rintro ⟨e, he, q⟩
    exact ⟨e, he, (goodS_is (g e he) k).2 q⟩
  · rintro ⟨e, he, q⟩
    exact ⟨e, he, (goodS_is (g e he) k).1 q⟩
theorem SetS.setOf (R : SetS w h a S n) : h.SetOf (PySem.strKind P w) a S n := by
  obtain ⟨o, es, ep, t, ho, hx, hd, g, nd, hm, hb, hf, hn, _⟩ := R
  exact ⟨o, es, ep, t, ho, hx, hd, goodS_elems g, fun k => (hm k).trans (goodS_mem g k), hb, hf, hn⟩
end

section
variable {P : Program} {w : World} {A : Around} {E : Value → Shared → Prop} {s : Shared} {a : Addr} {S : Str → Bool} {n : Nat}

/-! ### add -/
theorem storeS_at {h : Heap} {a : Addr} {o : Obj} {es es' : Array (Int × Value)} {ep : Nat} {t t' : SetTable} (ho : h.get? a = some o) (hd : o.data = .set es ep t) :
    (h.update a (Obj.putSet es' t')).get? a = some { o with data := .set es' (ep + 1) t' } := by
  have q := Heap.get?_update_self (Obj.putSet es' t') ho (by rw [putSet_of es' t' hd]; rfl)
  rw [putSet_of es' t' hd] at q
  exact q

theorem setS_add_tail {g : Bool → Sem Unit} (hg : ∀ (b : Bool) (s₁ : Shared) (Q' : Unit → Shared → Prop), Q' () s₁ → wpAny (model P w) A (g b) Q' E s₁)
    {o : Obj} {es : Array (Int × Value)} {ep : Nat} {t : SetTable} (ho : s.heap.get? a = some o) (hex : o.ExactSet) (hd : o.data = .set es ep t)
    {es1 : Array (Int × Value)} {t2 : SetTable} {S' : Str → Bool} (g1 : ∀ e ∈ es1.toList, GoodS w e) (nd1 : (es1.toList.map keyS).Nodup) (m1 : ∀ k, S' k = true ↔ k ∈ es1.toList.map keyS)
    (hb1 : es1.size < scanBound) (hf2 : t2.fits es1.size = true) (hr : Ris t2.place.toList) (hl : w.params.followText "set-order" = true ∨ t2.led = true) {wasDummy : Bool} {R : Option Bool → Shared → Prop}
    (hR : ∀ h', Heap.SameBut a s.heap h' → SetS w h' a S' es1.size → R (some true) { s with heap := h' }) :
    wpAny (model P w) A (do
        storeSet a es1 t2
        if (!wasDummy && t2.tooFull) = true then do
            g (relayAll t2 es1 (SetTable.grown es1.size)).2.2
            storeSet a (relayAll t2 es1 (SetTable.grown es1.size)).1 (relayAll t2 es1 (SetTable.grown es1.size)).2.1
            pure (some true)
          else pure (some true)) R E s := by
  refine wpAny_bind (wpAny_storeSet_of ho hd ?_ (fits_of_scanBound hb1))
  have ho1 := storeS_at (es' := es1) (t' := t2) ho hd
  have sb1 := Heap.SameBut.update s.heap a (Obj.putSet es1 t2)
  split
  · have pm := relayAll_perm t2 es1 (SetTable.grown es1.size)
    have hf3 := relayAll_fits t2 es1 (SetTable.grown es1.size)
    have hr3 := relayAll_ris t2 es1 (SetTable.grown es1.size)
    have hl3 := relayAll_led t2 es1 (SetTable.grown es1.size)
    generalize relayAll t2 es1 (SetTable.grown es1.size) = Z at pm hf3 hr3 hl3 ⊢
    obtain ⟨es2, t3, gave⟩ := Z
    dsimp only at pm hf3 hr3 hl3 ⊢
    have hsz : es2.size = es1.size := by rw [← Array.length_toList, pm.length_eq, Array.length_toList]
    have hb2 : es2.size < scanBound := by rw [hsz]; exact hb1
    refine wpAny_bind (hg _ _ _ ?_)
    refine wpAny_bind (wpAny_storeSet_of ho1 rfl ?_ (fits_of_scanBound hb2))
    have ho2 := storeS_at (es' := es2) (t' := t3) ho1 rfl
    refine wpAny_pure (hR _ (sb1.trans (Heap.SameBut.update _ a _)) ?_)
    exact ⟨_, es2, _, t3, ho2, hex, rfl, fun e he => g1 e (pm.mem_iff.mp he), (pm.map keyS).nodup_iff.mpr nd1, fun k => (m1 k).trans (pm.map keyS).mem_iff.symm, hb2, hf3, hsz, hr3,
      hl.imp id fun z => by rw [hl3]; exact z⟩
  · exact wpAny_pure (hR _ sb1 ⟨_, es1, _, t2, ho1, hex, rfl, g1, nd1, m1, hb1, hf2, rfl, hr, hl⟩)

theorem setS_add_hashed {k : Str} {tk : Tok} {Q : Bool → Shared → Prop} (R : SetS w s.heap a S n) (room : n + 1 < scanBound)
    (hQ : ∀ h', Heap.SameBut a s.heap h' → SetS w h' a (fun j => S j || decide (j = k)) (if S k = true then n else n + 1) → Q (!S k) { s with heap := h' }) :
    wpAny (model P w) A (setAddHashed a (.str k tk) ((PySem.strKind P w).hash k)) Q E s := by
  obtain ⟨o, es, ep, t, ho, hex, hd, g, nd, hm, hb, hf, hn, hr, hl⟩ := R
  have hkey : (PySem.strKind P w).is k (.str k tk) = true := strK_is P w k tk
  have hsc : (Value.str k tk).scannable = true := rfl
  have hel : ElemsOf (PySem.strKind P w) es.toList := goodS_elems g
  unfold setAddHashed setAddHashedIn
  refine wpAny_holding (wpAny_bind (wpAny_setState_of ho hd hf ?_))
  dsimp only
  rw [byScan_of hsc hb hel]
  simp only [↓reduceIte]
  unfold setAddByScan
  refine wpAny_bind ?_
  refine wpAny_bind (wpAny_rule ?_)
  refine wpAny_bind (wpAny_setScan_of hkey ho hd hf hel ?_)
  cases hfi : List.findIdx? (fun e => (PySem.strKind P w).is k e.2) es.toList with
  | some j =>
    dsimp only
    obtain ⟨hj, pj, _⟩ := List.findIdx?_eq_some_iff_getElem.mp hfi
    have hSk : S k = true := (hm k).2 ((goodS_mem (P := P) (w := w) g k).2 ⟨es.toList[j], List.getElem_mem hj, pj⟩)
    refine wpAny_pure (wpAny_pure ?_)
    have q := hQ s.heap (Heap.SameBut.refl a s.heap) ⟨o, es, ep, t, ho, hex, hd, g, nd, fun i => by
      rw [Bool.or_eq_true, decide_eq_true_eq, ← hm i]
      exact ⟨fun z => z.elim id (fun e => e ▸ hSk), .inl⟩, hb, hf, by rw [if_pos hSk]; exact hn, hr, hl⟩
    rw [hSk] at q
    exact q
  | none =>
    dsimp only
    have hnk : k ∉ es.toList.map keyS := fun z => by
      obtain ⟨e, he, q⟩ := (goodS_mem (P := P) (w := w) g k).1 z
      have c := List.findIdx?_eq_none_iff.mp hfi e he
      rw [q] at c
      cases c
    have hSk : S k = false := by
      cases q : S k with
      | false => rfl
      | true => exact absurd ((hm k).1 q) hnk
    have hgw : ∀ (b : Bool) {s₁ : Shared} {Q' : Unit → Shared → Prop}, Q' () s₁ → wpAny (model P w) A (match b with | true => rule "set.scan.the-table-gave-way" | false => pure ()) Q' E s₁ :=
      fun b s₁ Q' q => by cases b <;> first | exact wpAny_pure q | exact wpAny_rule q
    have pm := layNew_perm t es ((PySem.strKind P w).hash k) (.str k tk)
    have hf1 := layNew_fits t es ((PySem.strKind P w).hash k) (.str k tk)
    have hr1 := layNew_ris t es ((PySem.strKind P w).hash k) (.str k tk) hr
    have hl1 := layNew_led t es ((PySem.strKind P w).hash k) (.str k tk)
    generalize layNew t es ((PySem.strKind P w).hash k) (.str k tk) = Z at pm hf1 hr1 hl1 ⊢
    obtain ⟨es1, t1, wasDummy, gave⟩ := Z
    dsimp only at pm hf1 hr1 hl1 ⊢
    rw [Array.toList_push] at pm
    have pc : es1.toList.Perm (((PySem.strKind P w).hash k, Value.str k tk) :: es.toList) := pm.trans (List.perm_append_singleton _ _)
    have pk : (es1.toList.map keyS).Perm (k :: es.toList.map keyS) := pc.map keyS
    have g1 : ∀ e ∈ es1.toList, GoodS w e := fun e he => by
      rcases List.mem_cons.mp (pc.mem_iff.mp he) with z | z
      · rw [z]; exact ⟨k, tk, rfl, rfl⟩
      · exact g e z
    have nd1 : (es1.toList.map keyS).Nodup := pk.nodup_iff.mpr (List.nodup_cons.mpr ⟨hnk, nd⟩)
    have m1 : ∀ i, (S i || decide (i = k)) = true ↔ i ∈ es1.toList.map keyS := fun i => by
      rw [Bool.or_eq_true, decide_eq_true_eq, hm i, pk.mem_iff, List.mem_cons]
      exact Or.comm
    have hsz : es1.size = n + 1 := by rw [← Array.length_toList, pc.length_eq, List.length_cons, Array.length_toList, hn]
    have hb1 : es1.size < scanBound := by rw [hsz]; exact room
    have hled : w.params.followText "set-order" = true ∨ t1.led = true := hl.imp id fun z => by rw [hl1]; exact z
    have fin : ∀ h', Heap.SameBut a s.heap h' → SetS w h' a (fun j => S j || decide (j = k)) es1.size → Q true { s with heap := h' } := fun h' sb r => by
      have q := hQ h' sb
      rw [hSk] at q
      rw [hsz] at r
      exact q r
    refine wpAny_bind (hgw _ ?_)
    split
    · refine wpAny_bind ?_
      rw [hashByValue_scannable 8 hsc]
      refine wpAny_pure ?_
      refine setS_add_tail ?_ ho hex hd g1 nd1 m1 hb1 ?_ ?_ ?_ ?_
      · intro b s₁ Q' q; cases b <;> first | exact wpAny_pure q | exact wpAny_rule q
      · first | (split <;> first | exact hf1 | exact SetTable.fits_plain_off hf1) | exact hf1
      · first | (split <;> exact hr1) | exact hr1
      · first | (split <;> exact hled) | exact hled
      · intro h' sb r; dsimp only; exact wpAny_pure (fin h' sb r)
    · refine wpAny_bind (wpAny_pure ?_)
      simp only [↓reduceIte]
      refine setS_add_tail ?_ ho hex hd g1 nd1 m1 hb1 hf1 hr1 hled ?_
      · intro b s₁ Q' q; cases b <;> first | exact wpAny_pure q | exact wpAny_rule q
      · intro h' sb r; dsimp only; exact wpAny_pure (fin h' sb r)

/-- found.add(k) -/
theorem setS_add {k : Str} {tk : Tok} {Q : Value → Shared → Prop} (R : SetS w s.heap a S n) (room : n + 1 < scanBound)
    (hQ : ∀ h', Heap.SameBut a s.heap h' → SetS w h' a (fun j => S j || decide (j = k)) (if S k = true then n else n + 1) → Q .none { s with heap := h', toks := s.toks + 1 }) :
    wpAny (model P w) A (call (.builtin "set.add") [.ref a, .str k tk]) Q E s := by
  have hS : s.heap.SetOf (PySem.strKind P w) a S n := R.setOf
  refine wpAny_call_entry F.slot_set_add hS.typeIs F.entry_set_add ?_ (F.args_set_add_2 _ _)
  unfold Builtin.«set.add» Builtin.Frozenset.oneOther
  simp only [List.isEmpty_nil, bind_assoc]
  unfold Builtin.Frozenset.addrOf setAdd
  refine wpAny_bind (wpAny_pure ?_)
  try dsimp only
  refine wpAny_bind (wpAny_pure ?_)
  try dsimp only
  refine wpAny_bind ?_
  refine wpAny_holding ?_
  refine wpAny_bind ((PySem.strKind P w).pyHash (strK_is P w k tk) ?_)
  refine setS_add_hashed (s := { s with toks := s.toks + 1 }) R room fun h' sb r => ?_
  show wpAny _ _ (ret Value.none) _ _ _
  exact wpAny_pure ⟨_, rfl, hQ h' sb r⟩

end
section
variable {P : Program} {w : World} {A : Around} {E : Value → Shared → Prop} {s : Shared}
/-! ### a new set -/
theorem setS_fresh {h : Heap} (w : World) : SetS w (h.push { cls := .type "set", dict := none, data := .set #[] 0 (.fresh 0 0 (!w.params.followText "set-order")) }) h.objs.size (fun _ => false) 0 :=
  ⟨_, #[], 0, _, Heap.get?_push_size _ rfl, ⟨rfl, rfl, rfl⟩, rfl, (fun e he => by simp at he), (by simp), (fun k => by simp), (by decide), (by rfl), rfl, List.Pairwise.nil, by
    show _ ∨ (!w.params.followText "set-order") = true
    cases w.params.followText "set-order"
    · exact .inr rfl
    · exact .inl rfl⟩
theorem newSet_ok {Q : Value → Shared → Prop} (h : Q (.ref s.heap.objs.size) { s with heap := s.heap.push { cls := .type "set", dict := none, data := .set #[] 0 (.fresh 0 0 (!w.params.followText "set-order")) } }) :
    wpAny (model P w) A (newSet (.type "set")) Q E s := by
  unfold newSet
  refine wpAny_bind (wpAny_byText ?_)
  dsimp only
  simp only [newObj]
  exact wpAny_bind (wpAny_alloc (wpAny_pure h))

end
end PL

set_option Elab.async false
set_option linter.all false
set_option maxRecDepth 100000
set_option maxHeartbeats 2000000
/-! The pure layer, part N: set comprehensions of texts with two clauses (the library's way with lists, turned to sets), sorted of them. -/
namespace PL
open PySem PySem.Spec PyProof.Rows L2
/-- the set of texts at a -/
def SetSO (w : World) (a : Addr) (S : Str → Bool) (n : Nat) : HO := .ext fun h => SetS w h a S n
theorem setSO_new {w : World} {P : Program} {H : Hp} {h : Heap} {a : Addr} {S : Str → Bool} {n : Nat} (R : SetS w h a S n) : ObjOk P w H h a (SetSO w a S n) := by
  have ⟨o, _, _, _, ho, _⟩ := R
  exact ⟨R, ⟨o, ho⟩, fun h1 h2 p k => SetS.at p k⟩
section
variable {X : Cx}
theorem setSO_get {pins : List (Addr × Obj)} {σ : St} {H : Hp} {s : Shared} {a : Addr} {S : Str → Bool} {n : Nat} (I : Inv X pins σ H s) (ha : H a = some (SetSO X.w a S n)) : SetS X.w s.heap a S n := (I.hok a _ ha).1
/-- set.add of a text -/
theorem addS_ok {pins : List (Addr × Obj)} {σ : St} {H : Hp} {s : Shared} {E : Value → Shared → Prop} {D : Addr} {S : Str → Bool} {n : Nat} {y : Str} {ty : Tok} {Q : Value → Shared → Prop} (I : Inv X pins σ H s) (hD : H D = some (SetSO X.w D S n)) (room : n + 1 < scanBound)
    (h : ∀ s', Inv X pins σ (upd H D (SetSO X.w D (fun j => S j || decide (j = y)) (if S y = true then n else n + 1))) s' → Q .none s') : wpAny (model X.prog X.w) X.A (call (.builtin "set.add") [.ref D, .str y ty]) Q E s := by
  have R := setSO_get I hD
  refine setS_add R room fun h' sb new => ?_
  have he : ∃ u, h'.get? D = some u := by
    have ⟨o, _, _, _, ho, _⟩ := new
    exact ⟨o, ho⟩
  exact h _ (I.write (e := D) (t' := s.toks + 1) (by rw [hD]; trivial) (.inl rfl) (fun b u hb hu => (sb.2 b hb).trans hu) he (setSO_new new))
end
theorem compTurnS2_out (elt t0 i0 t1 i1 : Expr) (ifs0 ifs1 : List Expr) (scope : Scope) (pos : Pos) (it acc : Value) (env : Env) :
    compTurn (.SetComp elt [⟨t0, i0, ifs0, 0⟩, ⟨t1, i1, ifs1, 0⟩] scope pos) 0 it acc env = (do
      standAt i0.pos
      match ← pyNext it with
      | none => pure (.done .next)
      | some v =>
        letOwnedTupleGo t0 it v
        assign t0 env v
        let mut ok := true
        for c in ifs0 do
          if ok then ok ← isTrue c env (eval c env)
        if ok then
          let x ← eval i1 env
          standAt i1.pos
          let x ← foldedSetIterable i1 env x
          let _ ← runOwn (.compStart (.SetComp elt [⟨t0, i0, ifs0, 0⟩, ⟨t1, i1, ifs1, 0⟩] scope pos) 1 (← holding [x] (pyIter x)) acc env) env
        again (.compLoop (.SetComp elt [⟨t0, i0, ifs0, 0⟩, ⟨t1, i1, ifs1, 0⟩] scope pos) 0 it acc env)) := by rfl
theorem compTurnS2_in (elt t0 i0 t1 i1 : Expr) (ifs0 ifs1 : List Expr) (scope : Scope) (pos : Pos) (it acc : Value) (env : Env) :
    compTurn (.SetComp elt [⟨t0, i0, ifs0, 0⟩, ⟨t1, i1, ifs1, 0⟩] scope pos) 1 it acc env = (do
      standAt i1.pos
      match ← pyNext it with
      | none => pure (.done .next)
      | some v =>
        letOwnedTupleGo t1 it v
        assign t1 env v
        let mut ok := true
        for c in ifs1 do
          if ok then ok ← isTrue c env (eval c env)
        if ok then
          (do let v ← eval elt env; standAt elt.pos; let _ ← call (.builtin "set.add") [acc, v])
        again (.compLoop (.SetComp elt [⟨t0, i0, ifs0, 0⟩, ⟨t1, i1, ifs1, 0⟩] scope pos) 1 it acc env)) := by rfl

section
variable {prog : Program} {w : World} {A : Around} {R : Result → Shared → Prop} {s : Shared} {elt t0 i0 t1 i1 : Expr} {ifs0 ifs1 : List Expr} {scope : Scope} {pos : Pos} {it acc : Value} {env : Env}
/-- the loop of the first clause -/
theorem compLoopS2_out (hs : ∀ x, foldedSetIterable i1 env x = pure x) (I : Nat → Shared → Prop)
    (turn : ∀ n s, I n s → wpAny (model prog w) A (pyNext it) (fun r s₁ => match r with
      | none => R (.ok .next) s₁
      | some v => wpAny (model prog w) A (letOwnedTupleGo t0 it v) (fun _ s₁' => wpAny (model prog w) A (assign t0 env v) (fun _ s₂ =>
          wpAny (model prog w) A (forIn ifs0 true fun c r => if r = true then do let ok ← isTrue c env (eval c env); pure (ForInStep.yield ok) else pure (ForInStep.yield r)) (fun ok s₃ =>
            if ok = true then wpAny (model prog w) A (eval i1 env) (fun x s₄ => wpAny (model prog w) A (pyIter x) (fun it1 s₅ =>
              codeAny (model prog w) A (.compStart (.SetComp elt [⟨t0, i0, ifs0, 0⟩, ⟨t1, i1, ifs1, 0⟩] scope pos) 1 it1 acc env) (fun r s' => match r with
                | .ok _ => ∃ m, m < n ∧ I m s'
                | .error _ => False) s₅) (notedBy (model prog w) A env fun e s' => R (.error e) s') s₄) (notedBy (model prog w) A env fun e s' => R (.error e) s') s₃
            else ∃ m, m < n ∧ I m s₃) (notedBy (model prog w) A env fun e s' => R (.error e) s') s₂) (notedBy (model prog w) A env fun e s' => R (.error e) s') s₁') (notedBy (model prog w) A env fun e s' => R (.error e) s') s₁) (notedBy (model prog w) A env fun e s' => R (.error e) s') s)
    (n : Nat) (h : I n s) :
    codeAny (model prog w) A (.compLoop (.SetComp elt [⟨t0, i0, ifs0, 0⟩, ⟨t1, i1, ifs1, 0⟩] scope pos) 0 it acc env) R s := by
  refine codeAny_loop rfl I (fun n s hI => ?_) n h
  show wpAny _ A ((compTurn (.SetComp elt [⟨t0, i0, ifs0, 0⟩, ⟨t1, i1, ifs1, 0⟩] scope pos) 0 it acc env).onRaise (fun x => do noteFrame x env; theTreesLotGoes x)) _ _ s
  refine wpAny_noted ?_
  rw [compTurnS2_out]
  refine wpAny_bind (wpAny_standAt (wpAny_bind (wpAny_mono (turn n s hI) (fun r s₁ h₁ => ?_) fun _ _ h' => h')))
  cases r with
  | none => exact wpAny_pure h₁
  | some v =>
    refine wpAny_bind (wpAny_mono h₁ (fun _ s₁' h₁' => ?_) fun _ _ h' => h')
    refine wpAny_bind (wpAny_mono h₁' (fun _ s₂ h₂ => wpAny_bind (wpAny_mono h₂ (fun ok s₃ h₃ => ?_) fun _ _ h' => h')) fun _ _ h' => h')
    cases ok with
    | false => exact wpAny_pure ⟨rfl, h₃⟩
    | true =>
      refine wpAny_bind (wpAny_mono h₃ (fun x s₄ h₄ => ?_) fun _ _ h' => h')
      refine wpAny_bind (wpAny_standAt (wpAny_bind (wpAny_of_eq (hs x) (wpAny_bind (wpAny_holding (wpAny_mono h₄ (fun it1 s₅ h₅ => ?_) fun _ _ h' => h'))))))
      refine wpAny_bind (wpAny_runOwn ?_)
      rw [Around.mark_none]
      refine codeAny_mono h₅ fun r s' hr => ?_
      cases r with
      | ok f =>
        first
          | exact wpAny_pure ⟨rfl, hr⟩
          | exact wpAny_bind (wpAny_pure (wpAny_pure ⟨rfl, hr⟩))
      | error e => exact hr.elim
/-- the loop of the second -/
theorem compLoopS2_in (I : Nat → Shared → Prop)
    (turn : ∀ n s, I n s → wpAny (model prog w) A (pyNext it) (fun r s₁ => match r with
      | none => R (.ok .next) s₁
      | some v => wpAny (model prog w) A (letOwnedTupleGo t1 it v) (fun _ s₁' => wpAny (model prog w) A (assign t1 env v) (fun _ s₂ =>
          wpAny (model prog w) A (forIn ifs1 true fun c r => if r = true then do let ok ← isTrue c env (eval c env); pure (ForInStep.yield ok) else pure (ForInStep.yield r)) (fun ok s₃ =>
            if ok = true then wpAny (model prog w) A (eval elt env) (fun x s₄ =>
              wpAny (model prog w) A (call (.builtin "set.add") [acc, x]) (fun _ s₅ => ∃ m, m < n ∧ I m s₅) (notedBy (model prog w) A env fun e s' => R (.error e) s') s₄) (notedBy (model prog w) A env fun e s' => R (.error e) s') s₃
            else ∃ m, m < n ∧ I m s₃) (notedBy (model prog w) A env fun e s' => R (.error e) s') s₂) (notedBy (model prog w) A env fun e s' => R (.error e) s') s₁') (notedBy (model prog w) A env fun e s' => R (.error e) s') s₁) (notedBy (model prog w) A env fun e s' => R (.error e) s') s)
    (n : Nat) (h : I n s) :
    codeAny (model prog w) A (.compLoop (.SetComp elt [⟨t0, i0, ifs0, 0⟩, ⟨t1, i1, ifs1, 0⟩] scope pos) 1 it acc env) R s := by
  refine codeAny_loop rfl I (fun n s hI => ?_) n h
  show wpAny _ A ((compTurn (.SetComp elt [⟨t0, i0, ifs0, 0⟩, ⟨t1, i1, ifs1, 0⟩] scope pos) 1 it acc env).onRaise (fun x => do noteFrame x env; theTreesLotGoes x)) _ _ s
  refine wpAny_noted ?_
  rw [compTurnS2_in]
  refine wpAny_bind (wpAny_standAt (wpAny_bind (wpAny_mono (turn n s hI) (fun r s₁ h₁ => ?_) fun _ _ h' => h')))
  cases r with
  | none => exact wpAny_pure h₁
  | some v =>
    refine wpAny_bind (wpAny_mono h₁ (fun _ s₁' h₁' => ?_) fun _ _ h' => h')
    refine wpAny_bind (wpAny_mono h₁' (fun _ s₂ h₂ => wpAny_bind (wpAny_mono h₂ (fun ok s₃ h₃ => ?_) fun _ _ h' => h')) fun _ _ h' => h')
    cases ok with
    | false => exact wpAny_pure ⟨rfl, h₃⟩
    | true =>
      exact wpAny_bind (wpAny_bind (wpAny_mono h₃ (fun x s₄ h₄ => wpAny_bind (wpAny_standAt (wpAny_bind (wpAny_mono h₄ (fun _ s₅ h₅ => wpAny_pure (wpAny_pure ⟨rfl, h₅⟩)) fun _ _ h' => h')))) fun _ _ h' => h'))
/-- the second clause's start -/
theorem compStartS1_ok (h0 : codeAny (model prog w) A (.compLoop (.SetComp elt [⟨t0, i0, ifs0, 0⟩, ⟨t1, i1, ifs1, 0⟩] scope pos) 1 it acc env) R s)
    (h : wpAny (model prog w) A (pyIter it) (fun it' s' => codeAny (model prog w) A (.compLoop (.SetComp elt [⟨t0, i0, ifs0, 0⟩, ⟨t1, i1, ifs1, 0⟩] scope pos) 1 it' acc env) R s')
      (notedBy (model prog w) A env fun x s' => R (.error x) s') s) :
    codeAny (model prog w) A (.compStart (.SetComp elt [⟨t0, i0, ifs0, 0⟩, ⟨t1, i1, ifs1, 0⟩] scope pos) 1 it acc env) R s := by
  refine codeAny_of_tree ?_
  show wpAny _ _ ((compStart (.SetComp elt [⟨t0, i0, ifs0, 0⟩, ⟨t1, i1, ifs1, 0⟩] scope pos) 1 it acc env).onRaise (fun x => do noteFrame x env; standAt theWindowsPlace)) _ _ s
  refine wpAny_notedAt ?_
  unfold compStart
  show wpAny _ _ (ask >>= _) _ _ s
  refine wpAny_bind (wpAny_askSetting (wpAny_ite ?_))
  split
  · first
      | exact wpAny_bind (wpAny_pure (wpAny_pure (And.intro rfl h0)))
      | exact wpAny_pure (And.intro rfl h0)
  · first
      | exact wpAny_bind (wpAny_rule (wpAny_bind (wpAny_standAt (wpAny_bind (wpAny_mono h (fun it' s' h' => wpAny_pure (And.intro rfl h')) fun _ _ x => x)))))
      | (refine wpAny_bind (wpAny_rule ?_); show wpAny _ _ (standAt i1.pos >>= _) _ _ s; exact wpAny_bind (wpAny_standAt (wpAny_bind (wpAny_mono h (fun it' s' h' => wpAny_pure (And.intro rfl h')) fun _ _ x => x))))
end

section
variable {X : Cx}
/-- [elt for tg in iter if .. for tg1 in iter1 if ..]: behind the first clause's store and tests the second source's own loop, from which Nx is reached. vs: the block's names; vs1: those of the second target -/
def tSc2 (w : World) (wi : TI) (g : TG) (tt : TT) (wi1 : TI) (g1 : TG) (tt1 : TT) (te : TE) (vs vs1 : List Nat) : TE := fun σ H Q => wi σ H fun J H1 => ∀ D, H1 D = none → ∃ W : Nat → Nat → Hp → Prop, (∃ m, W 0 m (upd H1 D (SetSO w D (fun _ => false) 0))) ∧ ∀ i m H, W i m H →
  (J.stop i H ∧ Q (.ref D) H) ∨ (J.go i H ∧ ∃ Nx : Hp → Prop, (∀ H', Nx H' → ∃ m', m' < m ∧ W (i + 1) m' H') ∧ ∀ x H', J.yld i H x H' → g x (wipe σ vs) H' fun σ2 H2 => wipe σ2 vs = wipe σ vs ∧ tt σ2 H2 fun b H3 =>
    if b = true then wi1 σ2 H3 fun J1 H4 => ∃ W1 : Nat → Nat → Hp → Prop, (∃ m, W1 0 m H4) ∧ ∀ j k H, W1 j k H →
      (J1.stop j H ∧ Nx H) ∨ (J1.go j H ∧ ∃ Nx1 : Hp → Prop, (∀ H', Nx1 H' → ∃ k', k' < k ∧ W1 (j + 1) k' H') ∧ ∀ x H', J1.yld j H x H' → g1 x (wipe σ2 vs1) H' fun σ3 H5 => wipe σ3 vs1 = wipe σ2 vs1 ∧ tt1 σ3 H5 fun b H6 =>
        if b = true then te σ3 H6 fun y H7 => ∃ (c : Str) (S : Str → Bool) (n : Nat), y = .str c ∧ H7 D = some (SetSO w D S n) ∧ n + 1 < scanBound ∧ Nx1 (upd H7 D (SetSO w D (fun j => S j || decide (j = c)) (if S c = true then n else n + 1))) else Nx1 H6)
    else Nx H3)
theorem sc2_core {pins : List (Addr × Obj)} {s : Shared} {σ : St} {H : Hp} {Q : VK} {elt tg iter tg1 iter1 : Expr} {ifs ifs1 : List Expr} {scope : Scope} {own : List (Str × Nat)} {vs1 : List Nat} {pos pos' : Pos} {wi wi1 : TI} {g g1 : TG} {tt tt1 : TT} {te : TE} {use : Option (Value → Sem Unit)} {Qf : Value → Shared → Prop}
    (hc : X.calm = true) (hN : X.N.Nodup) (I : Inv X pins σ H s) (hi : PI X tg iter wi) (ok : BlkOk X.N X.env.scope scope own) (hv : ∀ i ∈ vs1, i ∈ own.map (·.2))
    (hg : ∀ (s : Shared) (H : Hp) (C : Addr) (cl : List (Str × Addr)) (fp : List Addr), PG (X.blk s H scope (compEnvC scope cl C X.env) fp) tg g) (ht : ∀ (s : Shared) (H : Hp) (C : Addr) (cl : List (Str × Addr)) (fp : List Addr), PTs (X.blk s H scope (compEnvC scope cl C X.env) fp) ifs tt)
    (he : ∀ (s : Shared) (H : Hp) (C : Addr) (cl : List (Str × Addr)) (fp : List Addr), PE (X.blk s H scope (compEnvC scope cl C X.env) fp) elt te) (hs : ∀ x, foldedSetIterable iter X.env x = pure x)
    (hi1 : ∀ (s : Shared) (H : Hp) (C : Addr) (cl : List (Str × Addr)) (fp : List Addr), PI (X.blk s H scope (compEnvC scope cl C X.env) fp) tg1 iter1 wi1)
    (hg1 : ∀ (s : Shared) (H : Hp) (C : Addr) (cl : List (Str × Addr)) (fp : List Addr), PG (X.blk s H scope (compEnvC scope cl C X.env) fp) tg1 g1)
    (ht1 : ∀ (s : Shared) (H : Hp) (C : Addr) (cl : List (Str × Addr)) (fp : List Addr), PTs (X.blk s H scope (compEnvC scope cl C X.env) fp) ifs1 tt1)
    (hs1 : ∀ env x, foldedSetIterable iter1 env x = pure x)
    (h : tSc2 X.w wi g tt wi1 g1 tt1 te (own.map (·.2)) vs1 σ H Q)
    (hRR : ∀ D C s' m H', Inv X pins σ H' s' → Q (.ref D) H' → s'.heap.Ns C m → FpOk X pins H' C → compPost (model X.prog X.w) X.A X.xe use Qf (.ref D) C (.ok .next) s') :
    wpAny (model X.prog X.w) X.A (comprehension (.SetComp elt [⟨tg, iter, ifs, 0⟩, ⟨tg1, iter1, ifs1, 0⟩] scope pos) scope X.env pos' (newSet (.type "set")) false (eval iter X.env) use) Qf X.xe s := by
  have hfree : ∀ y ∈ scope.names, y.2 = .free → ∃ c, X.env.cells.lookup y.1 = some c := fun y hy e => by
    rcases ok.free y hy e with k | k
    · exact I.ok.has _ (.inl k)
    · exact I.ok.has _ (.inr k)
  refine wpAny_comprehension_free (use := use) rfl hs (closure_ok hfree) ok.kind (fun y hy e => by rw [ok.uniq y hy, e])
    (thn (hi.run pins s σ H _ I h) fun xv s1 hx => thn hx fun itv s2 h2 => ?_)
  obtain ⟨it, fp, tn, J, H2, e, I2, T, st2, f2, q⟩ := h2
  subst e
  refine newSet_ok (newEnv_comp ?_)
  generalize hD : s2.heap.objs.size = D
  have hDn : H2 D = none := I2.hok.fresh (Nat.le_of_eq hD)
  obtain ⟨W, ⟨m0, w0⟩, turn⟩ := q D hDn
  -- the new list
  generalize hs3 : ({ s2 with heap := s2.heap.push { cls := .type "set", dict := none, data := .set #[] 0 (.fresh 0 0 (!X.w.params.followText "set-order")) } } : Shared) = s3
  have I3 : Inv X pins σ (upd H2 D (SetSO X.w D (fun _ => false) 0)) s3 := by
    rw [← hs3]
    refine I2.laid (t' := s2.toks) (fun b o e => Heap.get?_push_of_some _ e) (Nat.le_of_eq hD) ?_
    rw [← hD]
    exact setSO_new (setS_fresh X.w)
  have h3 : s3.heap = s2.heap.push { cls := .type "set", dict := none, data := .set #[] 0 (.fresh 0 0 (!X.w.params.followText "set-order")) } := by rw [← hs3]
  have sz : ∀ b ∈ fp, b < s2.heap.objs.size := fun b hb => by
    obtain ⟨o, e, _⟩ := T.obj _ _ st2 b hb
    exact Heap.lt_size e
  have f3 : ∀ b ∈ fp, FpOk X pins (upd H2 D (SetSO X.w D (fun _ => false) 0)) b ∧ b < s3.heap.objs.size := fun b hb => by
    have hlt := sz b hb
    refine ⟨⟨?_, (f2 b hb).2⟩, by rw [h3, Heap.size_push]; exact Nat.lt_succ_of_lt hlt⟩
    rw [upd_ne (by rw [← hD]; exact Nat.ne_of_lt hlt)]
    exact (f2 b hb).1
  have st3 : tn 0 s3.heap := T.keep _ _ _ st2 fun b _ o e => by rw [h3]; exact Heap.get?_push_of_some _ e
  have I4 := block_start I3 ok hN f3
  have pg := hg s3 (upd H2 D (SetSO X.w D (fun _ => false) 0)) s3.heap.objs.size (cellsFrom (s3.heap.objs.size + 1) scope.names (cloFrom X.env.cells scope.names [])) fp
  have pt := ht s3 (upd H2 D (SetSO X.w D (fun _ => false) 0)) s3.heap.objs.size (cellsFrom (s3.heap.objs.size + 1) scope.names (cloFrom X.env.cells scope.names [])) fp
  have pe := he s3 (upd H2 D (SetSO X.w D (fun _ => false) 0)) s3.heap.objs.size (cellsFrom (s3.heap.objs.size + 1) scope.names (cloFrom X.env.cells scope.names [])) fp
  have pi1 := hi1 s3 (upd H2 D (SetSO X.w D (fun _ => false) 0)) s3.heap.objs.size (cellsFrom (s3.heap.objs.size + 1) scope.names (cloFrom X.env.cells scope.names [])) fp
  have pg1 := hg1 s3 (upd H2 D (SetSO X.w D (fun _ => false) 0)) s3.heap.objs.size (cellsFrom (s3.heap.objs.size + 1) scope.names (cloFrom X.env.cells scope.names [])) fp
  have pt1 := ht1 s3 (upd H2 D (SetSO X.w D (fun _ => false) 0)) s3.heap.objs.size (cellsFrom (s3.heap.objs.size + 1) scope.names (cloFrom X.env.cells scope.names [])) fp
  show codeAny _ _ (.compStart (.SetComp elt [⟨tg, iter, ifs, 0⟩, ⟨tg1, iter1, ifs1, 0⟩] scope pos) 0 (.ref it) (.ref D) (compEnvC scope (cellsFrom (s3.heap.objs.size + 1) scope.names (cloFrom X.env.cells scope.names [])) s3.heap.objs.size X.env)) (compPost (model X.prog X.w) X.A X.xe use Qf (.ref D) s3.heap.objs.size) { s3 with heap := pushCells (s3.heap.push { cls := .type "dict", data := .dict #[] }) scope.names }
  have nfp : ∀ b ∈ fp, (upd H2 D (SetSO X.w D (fun _ => false) 0)) b = none := fun b hb => (f3 b hb).1.1
  generalize hce : compEnvC scope (cellsFrom (s3.heap.objs.size + 1) scope.names (cloFrom X.env.cells scope.names [])) s3.heap.objs.size X.env = ce at I4 pg pt pe pi1 pg1 pt1 ⊢
  have cL : ce.locals = s3.heap.objs.size := by subst hce; rfl
  generalize hH3 : upd H2 D (SetSO X.w D (fun _ => false) 0) = H3 at I3 I4 pg pt pe pi1 pg1 pt1 w0 nfp f3
  generalize hs4 : ({ s3 with heap := pushCells (s3.heap.push { cls := .type "dict", data := .dict #[] }) scope.names } : Shared) = s4 at I4 ⊢
  have st4 : tn 0 s4.heap := T.keep _ _ _ st3 fun b _ o e => by rw [← hs4]; exact pushCells_keeps _ _ _ _ (Heap.get?_push_of_some _ e)
  have stat : ∀ {σ' : St} {H' : Hp} {s' : Shared}, Inv (X.blk s3 H3 scope ce fp) [] σ' H' s' → (∀ b ∈ fp, H' b = none) → ∀ b ∈ fp, FpOk (X.blk s3 H3 scope ce fp) [] H' b := fun {σ' H' s'} I' hn b hb =>
    ⟨hn b hb, (I'.ok.exf b hb).1, I'.ok.exfs b hb, .inl hb, fun x c e => (I'.ok.exf b hb).2 x c e, fun p hp => absurd (show p ∈ ([] : List (Addr × Obj)) ++ [] from hp) (by simp)⟩
  have loop : codeAny (model X.prog X.w) X.A (.compLoop (.SetComp elt [⟨tg, iter, ifs, 0⟩, ⟨tg1, iter1, ifs1, 0⟩] scope pos) 0 (.ref it) (.ref D) ce) (compPost (model X.prog X.w) X.A X.xe use Qf (.ref D) s3.heap.objs.size) s4 := by
    refine compLoopS2_out (hs1 ce) (fun n s' => ∃ i H', Inv (X.blk s3 H3 scope ce fp) [] (wipe σ (own.map (·.2))) H' s' ∧ tn i s'.heap ∧ (∀ b ∈ fp, H' b = none) ∧ W i n H') ?_ m0 ⟨0, H3, I4, st4, nfp, w0⟩
    rintro n s5 ⟨i, H5, I5, st5, n5, w5⟩
    rcases turn i n H5 w5 with ⟨stop, qq⟩ | ⟨go, Nx, hNx, step⟩
    · have td := T.done (X.blk s3 H3 scope ce fp) rfl rfl rfl hc i [] s5 _ H5 (fun _ _ => False) I5 (stat I5 n5) st5 stop
      refine thnF td fun r s6 ⟨hr, I6⟩ => ?_
      subst hr
      -- back in the def's context
      have I7 : Inv X pins σ H5 s6 := I3.call' (ch := fp) I6.os I6.base I6.hok I6.bare fun b hb => ⟨(f3 b hb).1.2.2.2.1, (f3 b hb).1.2.1, (f3 b hb).1.2.2.2.2.1, (f3 b hb).1.2.2.2.2.2⟩
      have nC : H5 s3.heap.objs.size = none := by
        have z : H5 ce.locals = none := I6.free
        rw [cL] at z
        exact z
      obtain ⟨m, hn, _⟩ := I6.loc
      have hn : s6.heap.Ns ce.locals m := hn
      rw [cL] at hn
      exact hRR D s3.heap.objs.size s6 m H5 I7 qq hn (I3.fpOk (Nat.le_refl _) nC)
    · have ti := T.item (X.blk s3 H3 scope ce fp) rfl rfl rfl hc i [] s5 _ H5 (fun _ _ => False) I5 (stat I5 n5) st5 go
      refine thnF ti fun r s6 ⟨u, hr, h6⟩ => ?_
      subst hr
      refine thnF h6 fun _ s7 ⟨x, H7, I7, r7, y7, st7, n7⟩ => ?_
      have I7' := I7.pinned (stat I7 n7) (T.obj _ _ st7)
      refine thnF (pg.run _ s7 _ H7 x u _ I7' r7 (step x H7 y7)) fun _ s8 ⟨σ8, H8, I8, hw8, q8⟩ => ?_
      refine thnF (pt.run _ s8 σ8 H8 _ I8 q8) fun b s9 ⟨H9, I9, q9⟩ => ?_
      -- the turn's end, from any slots that know what the block knew at its start
      have fin : ∀ {σ9 : St} {s' : Shared} {H' : Hp}, Inv (X.blk s3 H3 scope ce fp) ([] ++ pinsAt fp s7.heap) σ9 H' s' → (wipe σ (own.map (·.2))).length = σ9.length → (∀ (j : Nat) v, (wipe σ (own.map (·.2)))[j]? = some (some v) → σ9[j]? = some (some v)) → Nx H' →
          ∃ m, m < n ∧ ∃ i H', Inv (X.blk s3 H3 scope ce fp) [] (wipe σ (own.map (·.2))) H' s' ∧ tn i s'.heap ∧ (∀ b ∈ fp, H' b = none) ∧ W i m H' := fun {σ9 s' H'} I' hl hk nx => by
        obtain ⟨m', hm, w'⟩ := hNx H' nx
        have pin' : ∀ b ∈ fp, ∀ o, s7.heap.get? b = some o → s'.heap.get? b = some o ∧ H' b = none := fun b hb o e =>
          let z := I'.pin (b, o) (List.mem_append_right _ (List.mem_append_right _ (mem_pinsAt hb e)))
          ⟨z.1, z.2.1⟩
        refine ⟨m', hm, i + 1, H', (I'.unpinned (pins := [])).weak hl hk, T.keep _ _ _ st7 fun b hb o e => (pin' b hb o e).1, fun b hb => ?_, w'⟩
        obtain ⟨o, e, _⟩ := T.obj _ _ st7 b hb
        exact (pin' b hb o e).2
      have hl8 : (wipe σ (own.map (·.2))).length = σ8.length := by rw [← hw8, wipe_length]
      have hk8 : ∀ (j : Nat) v, (wipe σ (own.map (·.2)))[j]? = some (some v) → σ8[j]? = some (some v) := fun j v e => by
        rw [← hw8] at e
        exact (wipe_some e).1
      have hk9 : ∀ (j : Nat) v, (wipe σ (own.map (·.2)))[j]? = some (some v) → (wipe σ8 vs1)[j]? = some (some v) := fun j v e => by
        rw [← hw8] at e
        obtain ⟨e1, e2⟩ := wipe_some e
        rw [wipe_out fun z => e2 (hv j z)]
        exact e1
      cases b with
      | false =>
        simp only [Bool.false_eq_true, if_false] at q9 ⊢
        exact fin I9 hl8 hk8 q9
      | true =>
        simp only [if_true] at q9 ⊢
        refine thnF (pi1.run _ s9 σ8 H9 _ I9 q9) fun xv s10 hx => thnF hx fun itv s11 h11 => ?_
        obtain ⟨it1, fp1, tn1, J1, H11, e1, I11, T1, st11, f11, W1, ⟨m1, w1⟩, turn1⟩ := h11
        subst e1
        -- the inner loop
        have stat1 : ∀ {H' : Hp}, (∀ b ∈ fp1, H' b = none) → ∀ b ∈ fp1, FpOk (X.blk s3 H3 scope ce fp) ([] ++ pinsAt fp s7.heap) H' b := fun hn b hb => ⟨hn b hb, (f11 b hb).2⟩
        have loop1 : codeAny (model X.prog X.w) X.A (.compLoop (.SetComp elt [⟨tg, iter, ifs, 0⟩, ⟨tg1, iter1, ifs1, 0⟩] scope pos) 1 (.ref it1) (.ref D) ce)
            (fun r s' => match r with
              | .ok _ => ∃ m, m < n ∧ ∃ i H', Inv (X.blk s3 H3 scope ce fp) [] (wipe σ (own.map (·.2))) H' s' ∧ tn i s'.heap ∧ (∀ b ∈ fp, H' b = none) ∧ W i m H'
              | .error _ => False) s11 := by
          refine compLoopS2_in (fun k s' => ∃ j H', Inv (X.blk s3 H3 scope ce fp) ([] ++ pinsAt fp s7.heap) (wipe σ8 vs1) H' s' ∧ tn1 j s'.heap ∧ (∀ b ∈ fp1, H' b = none) ∧ W1 j k H') ?_ m1 ⟨0, H11, I11.weak (wipe_length _ _) (fun j v e => (wipe_some e).1), st11, fun b hb => (f11 b hb).1, w1⟩
          rintro k s12 ⟨j, H12, I12, st12, n12, w12⟩
          rcases turn1 j k H12 w12 with ⟨stop1, nx1⟩ | ⟨go1, Nx1, hNx1, step1⟩
          · refine thnF (T1.done (X.blk s3 H3 scope ce fp) rfl rfl rfl hc j _ s12 (wipe σ8 vs1) H12 (fun _ _ => False) I12 (stat1 n12) st12 stop1) fun r s13 ⟨hr, I13⟩ => ?_
            subst hr
            exact fin I13 (hl8.trans (wipe_length σ8 vs1).symm) hk9 nx1
          · refine thnF (T1.item (X.blk s3 H3 scope ce fp) rfl rfl rfl hc j _ s12 (wipe σ8 vs1) H12 (fun _ _ => False) I12 (stat1 n12) st12 go1) fun r s13 ⟨u1, hr, h13⟩ => ?_
            subst hr
            refine thnF h13 fun _ s14 ⟨x1, H14, I14, r14, y14, st14, n14⟩ => ?_
            have I14' := I14.pinned (stat1 n14) (T1.obj _ _ st14)
            refine thnF (pg1.run _ s14 (wipe σ8 vs1) H14 x1 u1 _ I14' r14 (step1 x1 H14 y14)) fun _ s15 ⟨σ15, H15, I15, hw15, q15⟩ => ?_
            refine thnF (pt1.run _ s15 σ15 H15 _ I15 q15) fun b1 s16 ⟨H16, I16, q16⟩ => ?_
            have fin1 : ∀ {s' : Shared} {H' : Hp}, Inv (X.blk s3 H3 scope ce fp) (([] ++ pinsAt fp s7.heap) ++ pinsAt fp1 s14.heap) σ15 H' s' → Nx1 H' → ∃ m, m < k ∧ ∃ j H', Inv (X.blk s3 H3 scope ce fp) ([] ++ pinsAt fp s7.heap) (wipe σ8 vs1) H' s' ∧ tn1 j s'.heap ∧ (∀ b ∈ fp1, H' b = none) ∧ W1 j m H' := fun {s' H'} I' nx => by
              obtain ⟨m', hm, w'⟩ := hNx1 H' nx
              have pin' : ∀ b ∈ fp1, ∀ o, s14.heap.get? b = some o → s'.heap.get? b = some o ∧ H' b = none := fun b hb o e =>
                let z := I'.pin (b, o) (List.mem_append_right _ (List.mem_append_right _ (mem_pinsAt hb e)))
                ⟨z.1, z.2.1⟩
              refine ⟨m', hm, j + 1, H', I'.unpinned.weak (by rw [← hw15, wipe_length]) (fun j v e => by rw [← hw15] at e; exact (wipe_some e).1), T1.keep _ _ _ st14 fun b hb o e => (pin' b hb o e).1, fun b hb => ?_, w'⟩
              obtain ⟨o, e, _⟩ := T1.obj _ _ st14 b hb
              exact (pin' b hb o e).2
            cases b1 with
            | false =>
              simp only [Bool.false_eq_true, if_false] at q16 ⊢
              exact fin1 I16 q16
            | true =>
              simp only [if_true] at q16 ⊢
              refine thnF (pe.run _ s16 σ15 H16 _ I16 q16) fun z s17 ⟨yv, H17, I17, r17, cS, S0, n0, ey, hD17, hz17, nx⟩ => ?_
              subst ey
              obtain ⟨tz, rfl⟩ : ∃ t, z = Value.str cS t := r17
              exact addS_ok (X := X.blk s3 H3 scope ce fp) I17 hD17 hz17 fun s18 I18 => fin1 I18 nx
        exact compStartS1_ok loop1 (T1.self X.A 0 _ _ _ st11 loop1)
  exact PpSet.codeAny_compStart_set loop (T.self X.A 0 _ _ _ st4 loop)
/-- as a value -/
theorem pe_sc2 {elt tg iter tg1 iter1 : Expr} {ifs ifs1 : List Expr} {scope : Scope} {own : List (Str × Nat)} {vs1 : List Nat} {pos : Pos} {wi wi1 : TI} {g g1 : TG} {tt tt1 : TT} {te : TE} (hc : X.calm = true) (hN : X.N.Nodup) (hi : PI X tg iter wi) (ok : BlkOk X.N X.env.scope scope own) (hv : ∀ i ∈ vs1, i ∈ own.map (·.2))
    (hg : ∀ (s : Shared) (H : Hp) (C : Addr) (cl : List (Str × Addr)) (fp : List Addr), PG (X.blk s H scope (compEnvC scope cl C X.env) fp) tg g) (ht : ∀ (s : Shared) (H : Hp) (C : Addr) (cl : List (Str × Addr)) (fp : List Addr), PTs (X.blk s H scope (compEnvC scope cl C X.env) fp) ifs tt)
    (hi1 : ∀ (s : Shared) (H : Hp) (C : Addr) (cl : List (Str × Addr)) (fp : List Addr), PI (X.blk s H scope (compEnvC scope cl C X.env) fp) tg1 iter1 wi1)
    (hg1 : ∀ (s : Shared) (H : Hp) (C : Addr) (cl : List (Str × Addr)) (fp : List Addr), PG (X.blk s H scope (compEnvC scope cl C X.env) fp) tg1 g1) (ht1 : ∀ (s : Shared) (H : Hp) (C : Addr) (cl : List (Str × Addr)) (fp : List Addr), PTs (X.blk s H scope (compEnvC scope cl C X.env) fp) ifs1 tt1)
    (he : ∀ (s : Shared) (H : Hp) (C : Addr) (cl : List (Str × Addr)) (fp : List Addr), PE (X.blk s H scope (compEnvC scope cl C X.env) fp) elt te) (hs : ∀ x, foldedSetIterable iter X.env x = pure x := by intro _; rfl) (hs1 : ∀ env x, foldedSetIterable iter1 env x = pure x := by intro _ _; rfl) :
    PE X (.SetComp elt [⟨tg, iter, ifs, 0⟩, ⟨tg1, iter1, ifs1, 0⟩] scope pos) (tSc2 X.w wi g tt wi1 g1 tt1 te (own.map (·.2)) vs1) := by
  refine ⟨fun pins s σ H Q I h => ?_⟩
  rw [PpSet.eval_SetComp]
  refine sc2_core hc hN I hi ok hv hg ht he hs hi1 hg1 ht1 hs1 h fun D C s' m H' I' q hn f => ⟨m, hn, fun h'' sb => ?_⟩
  obtain ⟨f0, f1, f2, f3, f4, f5⟩ := f
  exact ⟨.ref D, H', I'.turned (t' := s'.toks) (fun b o hb e => (sb.2 b hb).trans e) f0 f1 f3 f4 f5, rfl, q⟩
end
end PL

set_option Elab.async false
set_option linter.all false
set_option maxRecDepth 100000
set_option maxHeartbeats 1000000
/-! The pure layer, part O: sorted({.. for .. in .. for .. in ..}) of texts. -/
namespace PL
open PySem PySem.Spec PyProof.Rows L2

/-! ### the texts of a set, rising -/
def leS (a b : Str) : Bool := decide (a.cps.toList ≤ b.cps.toList)
def ded : List Str → List Str
  | [] => []
  | x :: l => if x ∈ l then ded l else x :: ded l
theorem mem_ded {y : Str} : ∀ {l : List Str}, y ∈ ded l ↔ y ∈ l
  | [] => Iff.rfl
  | x :: l => by
    unfold ded
    split
    · rename_i h
      rw [mem_ded, List.mem_cons]
      exact ⟨.inr, fun z => z.elim (fun e => e ▸ h) id⟩
    · rw [List.mem_cons, List.mem_cons, mem_ded]
theorem nodup_ded : ∀ l : List Str, (ded l).Nodup
  | [] => List.Pairwise.nil
  | x :: l => by
    unfold ded
    split
    · exact nodup_ded l
    · rename_i h
      exact List.nodup_cons.mpr ⟨fun z => h (mem_ded.mp z), nodup_ded l⟩
def sortS (l : List Str) : List Str := (ded l).mergeSort leS
theorem cps_inj {a b : Str} (h : a.cps.toList = b.cps.toList) : a = b := by
  cases a
  cases b
  congr
  exact Array.toList_inj.mp h
theorem leS_trans (a b c : Str) (h1 : leS a b = true) (h2 : leS b c = true) : leS a c = true := by
  unfold leS at *
  simp only [decide_eq_true_eq] at *
  exact List.le_trans h1 h2
theorem leS_total (a b : Str) : (leS a b || leS b a) = true := by
  unfold leS
  rw [Bool.or_eq_true, decide_eq_true_eq, decide_eq_true_eq]
  exact List.le_total _ _
theorem sortS_perm (l : List Str) : (sortS l).Perm (ded l) := List.mergeSort_perm _ _
theorem sortS_rise (l : List Str) : (sortS l).Pairwise fun a b => leS a b = true := List.pairwise_mergeSort leS_trans leS_total _
/-- one list only rises and has these texts -/
theorem rise_one {l m : List Str} (pm : l.Perm m) (hl : l.Pairwise fun a b => leS a b = true) (hm : m.Pairwise fun a b => leS a b = true) : l = m :=
  List.Perm.eq_of_pairwise (le := fun a b => leS a b = true) (fun a b _ _ h1 h2 => cps_inj (List.le_antisymm (by simpa [leS] using h1) (by simpa [leS] using h2))) hl hm pm
theorem perm_of_mem {l m : List Str} (nl : l.Nodup) (nm : m.Nodup) (h : ∀ x, x ∈ l ↔ x ∈ m) : l.Perm m := (List.perm_ext_iff_of_nodup nl nm).mpr h
theorem sortS_of {acc bs : List Str} (nb : bs.Nodup) (h : ∀ x, x ∈ bs ↔ x ∈ acc) : bs.mergeSort leS = sortS acc :=
  rise_one ((List.mergeSort_perm _ _).trans ((perm_of_mem nb (nodup_ded acc) fun x => (h x).trans mem_ded.symm).trans (sortS_perm acc).symm)) (List.pairwise_mergeSort leS_trans leS_total _) (sortS_rise acc)

/-! ### sorted(set of texts) -/
def rSortS (w : World) : List V → Hp → VK → Prop := fun vs H Q => ∃ (a : Addr) (S : Str → Bool) (n : Nat) (acc : List Str), vs = [V.ref a] ∧ H a = some (SetSO w a S n) ∧ (∀ x, S x = true ↔ x ∈ acc) ∧ n ≤ 5000 ∧
  ∀ p, H p = none → Q (.ref p) (upd H p (.lst ((sortS acc).map V.str)))
theorem each_perm {R : Value → Str → Prop} (f : Value → Str) : ∀ {vs : List Value}, (∀ v ∈ vs, R v (f v)) → W.EachIs R vs (vs.map f)
  | [], _ => .nil
  | v :: vs, h => .cons (h v List.mem_cons_self) (each_perm f fun u hu => h u (List.mem_cons_of_mem _ hu))
def strV : Value → Str
  | .str x _ => x
  | _ => Str.empty
theorem vals_strs : ∀ {us : List Value} {bs : List Str}, W.EachIs (fun v (b : Str) => ∃ t, v = Value.str b t) us bs → Vals (bs.map V.str) us
  | _, _, .nil => .nil
  | _, _, .cons h t => .cons h (vals_strs t)
section
variable {X : Cx}
theorem call_sortS (hc : X.calm = true) (hu : X.A.units + 100 < cLine) : CallR X (.builtin "sorted") (rSortS X.w) := by
  intro pins s σ H vs us Q I r h
  obtain ⟨a, S, n, acc, rfl, ha, hS, hn5, q⟩ := h
  have R := setSO_get I ha
  rw [Vals.ref1 r]
  obtain ⟨o, es, ep, t, ho, hex, hd, g, nd, hm, hb, hf, hn, hr, hl⟩ := R
  refine sorted_col (β := Str) (enc := fun b => .str b) (R := fun v b => ∃ t, v = Value.str b t) (Pv := fun vs => vs.Perm (es.toList.map (·.2)))
    (fun E' Q' k => collect_set (A := X.A.in1) (I.ok.hd hc) ⟨o, ho, hex.1, hd⟩ hf hb hr hl fun s1 vs k1 hz g1 o1 pm => k s1 vs ⟨k1, hz, g1, o1⟩ pm) fun s1 vs kp pm => ?_
  have hv : ∀ v ∈ vs, ∃ t, v = Value.str (strV v) t := fun v hv => by
    obtain ⟨e, he, eq⟩ := List.mem_map.mp (pm.mem_iff.mp hv)
    obtain ⟨k, tk, h1, _⟩ := g e he
    exact ⟨tk, by rw [← eq, h1]; rfl⟩
  have pk : (vs.map strV).Perm (es.toList.map keyS) := by
    have q := pm.map strV
    rw [List.map_map] at q
    refine q.trans (.of_eq (List.map_congr_left fun e he => ?_))
    obtain ⟨k, tk, h1, _⟩ := g e he
    unfold keyS
    show strV e.2 = _
    rw [h1]
    rfl
  have hlen : (vs.map strV).length = n := by rw [pk.length_eq, List.length_map, Array.length_toList]; exact hn
  have ev : W.EachIs (fun v (b : Str) => ∃ t, v = Value.str b t) vs (vs.map strV) := each_perm strV hv
  refine ⟨vs.map strV, ev, ev.mono fun v b ⟨t, e⟩ => ⟨[], by rw [e]; exact .str _ _⟩, W.AllAlike.of fun b b' => by simp [W.alike], W.Sortable.others fun b => ⟨by simp, fun xs => by simp⟩, ?_, fun b _ => ?_, fun p c s' out kp' hp hg eo => ?_⟩
  · rw [hlen]
    exact Nat.le_trans hn5 (by decide)
  · show X.A.units + 2 + PyData.depth (.str b) < cLine
    simp only [PyData.depth]
    omega
  · have e1 : (vs.map strV).mergeSort (W.dataLe false fun b => PyData.str b) = sortS acc := by
      have := W.dataLe_str (β := Str) id
      have e2 : (W.dataLe false fun b : Str => PyData.str b) = leS := by
        funext a b
        exact congrFun (congrFun this a) b
      rw [e2]
      exact sortS_of (pk.nodup_iff.mpr nd) fun x => by rw [pk.mem_iff, ← hm x]; exact hS x
    rw [e1] at eo
    have hv2 := vals_strs eo
    have hz : ((sortS acc).map V.str).length ≤ sizeLine := by
      rw [List.length_map, ← e1, (List.mergeSort_perm _ _).length_eq, hlen]
      exact Nat.le_trans hn5 (by decide)
    obtain ⟨hnn, J⟩ := Kp.toInv I kp' hp hg hv2 hz
    exact ⟨.ref p, _, J, rfl, q p hnn⟩
end

/-! ### a walk by turns, whatever is done in them -/
section
variable {J : It} {n : Nat} {G : Hp → Prop} {Y : Nat → Hp → V → Hp → Prop}
theorem walk_it (w : Walk J n G Y) {B : (Hp → Prop) → V → Hp → Prop} {Qd : Hp → Prop} {H0 : Hp} (Pv : Nat → Hp → Prop) (h0 : Pv 0 H0) (hG : ∀ i H, i ≤ n → Pv i H → G H)
    (hs : ∀ i x H H', i < n → Pv i H → Y i H x H' → B (Pv (i + 1)) x H') (hd : ∀ H, Pv n H → Qd H) :
    ∃ W : Nat → Nat → Hp → Prop, (∃ m, W 0 m H0) ∧ ∀ i m H, W i m H →
      (J.stop i H ∧ Qd H) ∨ (J.go i H ∧ ∃ Nx : Hp → Prop, (∀ H', Nx H' → ∃ m', m' < m ∧ W (i + 1) m' H') ∧ ∀ x H', J.yld i H x H' → B Nx x H') := by
  refine ⟨fun i m H => m = n - i ∧ i ≤ n ∧ Pv i H, ⟨n, by simp, Nat.zero_le _, h0⟩, ?_⟩
  rintro i m H ⟨rfl, hi, p⟩
  have q := hG i H hi p
  by_cases hlt : i < n
  · refine .inr ⟨w.goes i H hlt q, Pv (i + 1), fun H' p' => ⟨n - (i + 1), by omega, rfl, hlt, p'⟩, fun x H' y => hs i x H H' hlt p (w.yields i H x H' hlt q y)⟩
  · have e : i = n := by omega
    subst e
    exact .inl ⟨w.stops H q, hd H p⟩
end

/-! ### the loops -/
def ssIn (vs1 : List Nat) (g1 : DG) (t1 : DT) (f : DE) : List Dt → List Str → Sls → Option (List Str × Sls)
  | [], acc, es => some (acc, es)
  | d :: ds, acc, es => (g1 d es).bind fun es1 => (t1 es1).bind fun p => match p.1 with
    | true => (f p.2).bind fun q => match q.1 with
      | .dat (.str c) => (match bare q.2 vs1, Nat.ble acc.length 4000 with
        | true, true => ssIn vs1 g1 t1 f ds (acc ++ [c]) (wipeS q.2 vs1)
        | _, _ => none)
      | _ => none
    | false => (match bare p.2 vs1 with
      | true => ssIn vs1 g1 t1 f ds acc (wipeS p.2 vs1)
      | false => none)
def ssOut (vs vs1 : List Nat) (g : DG) (t : DT) (it1 : DI) (g1 : DG) (t1 : DT) (f : DE) : List Dt → List Str → Sls → Option (List Str × Sls)
  | [], acc, es => some (acc, es)
  | d :: ds, acc, es => (g d es).bind fun es1 => (t es1).bind fun p => match p.1 with
    | true => (it1 p.2).bind fun z => match bare z.2 vs1 with
      | true => (ssIn vs1 g1 t1 f z.1 acc (wipeS z.2 vs1)).bind fun q => (match bare q.2 vs with
        | true => ssOut vs vs1 g t it1 g1 t1 f ds q.1 (wipeS q.2 vs)
        | false => none)
      | false => none
    | false => (match bare p.2 vs with
      | true => ssOut vs vs1 g t it1 g1 t1 f ds acc (wipeS p.2 vs)
      | false => none)
def ssF (vs vs1 : List Nat) (it : DI) (g : DG) (t : DT) (it1 : DI) (g1 : DG) (t1 : DT) (f : DE) : DE := fun es => (it es).bind fun p => match bare p.2 vs with
  | true => (ssOut vs vs1 g t it1 g1 t1 f p.1 [] (wipeS p.2 vs)).bind fun q => (match Nat.ble q.1.length 5000 with
    | true => some (.new (.lst ((sortS q.1).map .str)), heal p.2 q.2 vs)
    | false => none)
  | false => none
/-- all cases at once -/
def tIU (K : PySem.W.Frag) (f : DI) : TI := fun σ H R => ∃ es items es', f es = some (items, es') ∧ tIP K es items es' σ H R
theorem ixU {X : Cx} {tg iter : Expr} {f : DI} (h : Ix X tg iter f) : PI X tg iter (tIU X.K f) := ⟨fun pins s σ H R I ⟨es, k, es', e, q⟩ => (h es k es' e).run pins s σ H R I q⟩
/-- the set under way -/
def SetW (w : World) (D : Addr) (acc : List Str) (σ : St) (G H : Hp) (es : Sls) : Prop := ∃ (S : Str → Bool) (n : Nat), (∀ x, S x = true ↔ x ∈ acc) ∧ n ≤ acc.length ∧ Scr D (SetSO w D S n) σ G H es
theorem SetW.step {w : World} {K : PySem.W.Frag} {D : Addr} {acc : List Str} {σ σ' : St} {G H G' H' : Hp} {es es' : Sls} (s : SetW w D acc σ G H es) (t : Tr K σ G H es σ' G' H' es') : SetW w D acc σ' G' H' es' := by
  obtain ⟨S, n, h1, h2, h3⟩ := s
  exact ⟨S, n, h1, h2, h3.step t⟩
theorem SetW.wiped {w : World} {D : Addr} {acc : List Str} {σ : St} {G H : Hp} {es : Sls} {vs : List Nat} (s : SetW w D acc σ G H es) (hb : bare es vs = true) : SetW w D acc (wipe σ vs) G H (wipeS es vs) := by
  obtain ⟨S, n, h1, h2, h3, h4, h5⟩ := s
  exact ⟨S, n, h1, h2, h3, h4, fun z => h5 ((owd_wipe hb).mp z)⟩
theorem wipe_wipe {σ : St} {vs vs1 : List Nat} (sub : ∀ k ∈ vs1, k ∈ vs) : wipe (wipe σ vs1) vs = wipe σ vs := by
  apply List.ext_getElem?
  intro k
  rw [wipe_get, wipe_get, wipe_length, wipe_get]
  by_cases hk : k ∈ vs
  · rw [if_pos hk, if_pos hk]
  · rw [if_neg hk, if_neg hk, if_neg fun z => hk (sub k z)]
section
variable {K : PySem.W.Frag} {w : World}
/-- the inner loop -/
theorem ssIn_go {ws1 vs1 : List Nat} (sub : ∀ k ∈ ws1, k ∈ vs1) {σ0 σ : St} {G0 H0 G1 H1 : Hp} {es0 es1 esF : Sls} {g1 : DG} {t1 : DT} {f : DE} {items : List Dt} {accF acc0 : List Str} {J : It} {D : Addr} (hD0 : H0 D = none) (tr0 : Tr K σ0 G0 H0 es0 σ G1 H1 es1) (hb : bare es1 vs1 = true)
    (np0 : ∀ (i : Nat) (o : Ow), i ∈ vs1 → es0[i]? ≠ some (.par o))
    (hl : ssIn vs1 g1 t1 f items acc0 (wipeS es1 vs1) = some (accF, esF)) (wk : IW K G1 J items) (sw : SetW w D acc0 σ G1 H1 es1) {Nx : Hp → Prop}
    (k : ∀ G2 H2, Tr K σ0 G0 H0 es0 (wipe σ vs1) G2 H2 esF → SetW w D accF (wipe σ vs1) G2 H2 esF → Nx H2) :
    ∃ W : Nat → Nat → Hp → Prop, (∃ m, W 0 m H1) ∧ ∀ i m H, W i m H → (J.stop i H ∧ Nx H) ∨ (J.go i H ∧ ∃ Nx1 : Hp → Prop, (∀ H', Nx1 H' → ∃ m', m' < m ∧ W (i + 1) m' H') ∧
      ∀ x H', J.yld i H x H' → tGU K ws1 g1 x (wipe σ vs1) H' fun σ3 H5 => wipe σ3 vs1 = wipe σ vs1 ∧ tTU K t1 σ3 H5 fun b H6 =>
        if b = true then tU K f σ3 H6 fun y H7 => ∃ (c : Str) (S : Str → Bool) (n : Nat), y = .str c ∧ H7 D = some (SetSO w D S n) ∧ n + 1 < scanBound ∧ Nx1 (upd H7 D (SetSO w D (fun j => S j || decide (j = c)) (if S c = true then n else n + 1))) else Nx1 H6) := by
  obtain ⟨GG, Y, wk, hG, hY⟩ := wk
  have trw := tr0.wiped hb np0
  have lenw : ∀ {σ2 : St} {G2 H2 : Hp} {es2 : Sls}, Tr K σ0 G0 H0 es0 σ2 G2 H2 es2 → σ2.length = σ.length := fun t => by
    rw [t.sep.len, t.len, ← tr0.len, tr0.sep.len]
  refine walk_it wk (B := fun Nx1 x H' => tGU K ws1 g1 x (wipe σ vs1) H' fun σ3 H5 => wipe σ3 vs1 = wipe σ vs1 ∧ tTU K t1 σ3 H5 fun b H6 =>
        if b = true then tU K f σ3 H6 fun y H7 => ∃ (c : Str) (S : Str → Bool) (n : Nat), y = .str c ∧ H7 D = some (SetSO w D S n) ∧ n + 1 < scanBound ∧ Nx1 (upd H7 D (SetSO w D (fun j => S j || decide (j = c)) (if S c = true then n else n + 1))) else Nx1 H6)
    (fun i H' => ∃ G' esi acc, Same G1 G' ∧ Tr K σ0 G0 H0 es0 (wipe σ vs1) G' H' esi ∧ SetW w D acc (wipe σ vs1) G' H' esi ∧ ssIn vs1 g1 t1 f (items.drop i) acc esi = some (accF, esF))
    ⟨G1, _, acc0, Same.refl _, trw, sw.wiped hb, by rw [List.drop_zero]; exact hl⟩ (fun i H' _ ⟨G', esi, acc, sm, tr, _⟩ => hG H' (sm.trans tr.sep.le)) (fun i x H' H3 hi ⟨G', esi, acc, sm, tr, sc, hr⟩ y => ?_) (fun H' ⟨G', esi, acc, sm, tr, sc, hr⟩ => ?_)
  · obtain ⟨ro, d, e1, e2, e3, e4⟩ := hY i H' x H3 hi (sm.trans tr.sep.le) y
    obtain ⟨G2, t2, n2⟩ := (e4.mono sm).item tr.sep e3
    rw [e2] at n2
    have hd : items.drop i = d :: items.drop (i + 1) := by
      obtain ⟨h5, h6⟩ := List.getElem?_eq_some_iff.mp e1
      rw [← h6]
      exact List.drop_eq_getElem_cons h5
    rw [hd] at hr
    obtain ⟨es2, q1, hr⟩ := Option.bind_eq_some_iff.mp hr
    obtain ⟨⟨b, es3⟩, q2, hr⟩ := Option.bind_eq_some_iff.mp hr
    refine ⟨d, esi, es2, q1, G2, t2.sep, n2, fun σ2 G3 H4 t3 hw => ?_⟩
    have tA := (tr.trans t2).trans t3
    have we : wipe σ2 vs1 = wipe σ vs1 := wipe_eq (lenw tA) hw sub
    refine ⟨we, es2, b, es3, q2, G3, t3.sep, fun G4 H5 t4 => ?_⟩
    have t5 := tA.trans t4
    have s5 := (sc.step t2).step (t3.trans t4)
    have g5 : Same G1 G4 := sm.trans (t2.g.trans (t3.g.trans t4.g))
    cases b with
    | false =>
      refine iteF ?_
      dsimp only at hr
      split at hr
      · rename_i hb3
        have t6 := t5.wiped hb3 np0
        have s6 := s5.wiped hb3
        rw [we] at t6 s6
        exact ⟨G4, _, acc, g5, t6, s6, hr⟩
      · cases hr
    | true =>
      refine iteT ?_
      obtain ⟨⟨r4, es4⟩, q3, hr⟩ := Option.bind_eq_some_iff.mp hr
      refine ⟨es3, r4, es4, q3, G4, t4.sep, fun y2 G5 H6 t6 n6 => ?_⟩
      dsimp only at hr
      split at hr
      · rename_i c
        have n6' : Rp K G5 y2 (.str c) := n6
        cases n6'
        split at hr
        · rename_i hb4 hz
          have hz := Nat.le_of_ble_eq_true hz
          obtain ⟨S, n, hS, hn, hsc⟩ := s5.step t6
          refine ⟨c, S, n, rfl, hsc.1, by have : scanBound = 4096 := rfl; omega, ?_⟩
          have t9 := (t5.trans t6).scratch (ho := SetSO w D (fun j => S j || decide (j = c)) (if S c = true then n else n + 1)) hD0 hsc.2.1 hsc.2.2
          have s9 : SetW w D (acc ++ [c]) σ2 G5 (upd H6 D (SetSO w D (fun j => S j || decide (j = c)) (if S c = true then n else n + 1))) es4 := by
            refine ⟨_, _, fun x => ?_, ?_, upd_same, hsc.2.1, hsc.2.2⟩
            · rw [Bool.or_eq_true, decide_eq_true_eq, hS x, List.mem_append, List.mem_singleton]
            · rw [List.length_append, List.length_singleton]
              split <;> omega
          have t10 := t9.wiped hb4 np0
          have s10 := s9.wiped hb4
          rw [we] at t10 s10
          exact ⟨G5, _, acc ++ [c], g5.trans t6.g, t10, s10, hr⟩
        · cases hr
      · cases hr
  · rw [List.drop_length] at hr
    cases hr
    exact k G' H' tr sc
/-- the outer loop -/
theorem ssOut_go {ws ws1 vs vs1 : List Nat} (sub : ∀ k ∈ ws, k ∈ vs) (sub1 : ∀ k ∈ ws1, k ∈ vs1) (sub2 : ∀ k ∈ vs1, k ∈ vs) {σ : St} {G1 H1 : Hp} {es1 esF : Sls} {g g1 : DG} {t t1 : DT} {it1 : DI} {f : DE} {items : List Dt} {accF : List Str} {J : It} (S : Sep K σ G1 H1 es1) (hb : bare es1 vs = true)
    (hl : ssOut vs vs1 g t it1 g1 t1 f items [] (wipeS es1 vs) = some (accF, esF)) (wk : IW K G1 J items) {Q : VK}
    (k : ∀ D G2 H2, Tr K σ G1 H1 es1 σ G2 H2 (heal es1 esF vs) → (∃ (S : Str → Bool) (n : Nat), (∀ x, S x = true ↔ x ∈ accF) ∧ n ≤ accF.length ∧ H2 D = some (SetSO w D S n)) → Q (.ref D) H2) : ∀ D, H1 D = none →
    ∃ W : Nat → Nat → Hp → Prop, (∃ m, W 0 m (upd H1 D (SetSO w D (fun _ => false) 0))) ∧ ∀ i m H, W i m H → (J.stop i H ∧ Q (.ref D) H) ∨ (J.go i H ∧ ∃ Nx : Hp → Prop, (∀ H', Nx H' → ∃ m', m' < m ∧ W (i + 1) m' H') ∧
      ∀ x H', J.yld i H x H' → tGU K ws g x (wipe σ vs) H' fun σ2 H2 => wipe σ2 vs = wipe σ vs ∧ tTU K t σ2 H2 fun b H3 => if b = true then tIU K it1 σ2 H3 fun J1 H4 => ∃ W1 : Nat → Nat → Hp → Prop, (∃ m, W1 0 m H4) ∧ ∀ j k H, W1 j k H →
      (J1.stop j H ∧ Nx H) ∨ (J1.go j H ∧ ∃ Nx1 : Hp → Prop, (∀ H', Nx1 H' → ∃ k', k' < k ∧ W1 (j + 1) k' H') ∧ ∀ x H', J1.yld j H x H' → tGU K ws1 g1 x (wipe σ2 vs1) H' fun σ3 H5 => wipe σ3 vs1 = wipe σ2 vs1 ∧ tTU K t1 σ3 H5 fun b H6 =>
        if b = true then tU K f σ3 H6 fun y H7 => ∃ (c : Str) (S : Str → Bool) (n : Nat), y = .str c ∧ H7 D = some (SetSO w D S n) ∧ n + 1 < scanBound ∧ Nx1 (upd H7 D (SetSO w D (fun j => S j || decide (j = c)) (if S c = true then n else n + 1))) else Nx1 H6)
        else Nx H3) := fun D hD => by
  obtain ⟨GG, Y, wk, hG, hY⟩ := wk
  have SW := S.wipe hb
  have npar : ∀ (i : Nat) (o : Ow), i ∈ vs → (wipeS es1 vs)[i]? ≠ some (.par o) := fun i o hi z => by
    rw [wipeS_get, if_pos hi] at z
    split at z <;> cases z
  have gD : G1 D = none := S.fresh_g hD
  refine walk_it wk (B := fun Nx x H' => tGU K ws g x (wipe σ vs) H' fun σ2 H2 => wipe σ2 vs = wipe σ vs ∧ tTU K t σ2 H2 fun b H3 => if b = true then tIU K it1 σ2 H3 fun J1 H4 => ∃ W1 : Nat → Nat → Hp → Prop, (∃ m, W1 0 m H4) ∧ ∀ j k H, W1 j k H →
      (J1.stop j H ∧ Nx H) ∨ (J1.go j H ∧ ∃ Nx1 : Hp → Prop, (∀ H', Nx1 H' → ∃ k', k' < k ∧ W1 (j + 1) k' H') ∧ ∀ x H', J1.yld j H x H' → tGU K ws1 g1 x (wipe σ2 vs1) H' fun σ3 H5 => wipe σ3 vs1 = wipe σ2 vs1 ∧ tTU K t1 σ3 H5 fun b H6 =>
        if b = true then tU K f σ3 H6 fun y H7 => ∃ (c : Str) (S : Str → Bool) (n : Nat), y = .str c ∧ H7 D = some (SetSO w D S n) ∧ n + 1 < scanBound ∧ Nx1 (upd H7 D (SetSO w D (fun j => S j || decide (j = c)) (if S c = true then n else n + 1))) else Nx1 H6)
        else Nx H3)
    (fun i H' => ∃ G' esi acc, Tr K (wipe σ vs) G1 H1 (wipeS es1 vs) (wipe σ vs) G' H' esi ∧ SetW w D acc (wipe σ vs) G' H' esi ∧ ssOut vs vs1 g t it1 g1 t1 f (items.drop i) acc esi = some (accF, esF)) ?_
    (fun i H' _ ⟨G', esi, acc, tr, _⟩ => hG H' (tr.g.trans tr.sep.le)) (fun i x H' H3 hi ⟨G', esi, acc, tr, sc, hr⟩ y => ?_) (fun H' ⟨G', esi, acc, tr, sc, hr⟩ => ?_)
  · refine ⟨G1, _, [], (Tr.refl SW).scratch hD gD (SW.fresh_o hD), ⟨_, 0, fun x => ⟨fun z => absurd z Bool.false_ne_true, fun z => absurd z (by simp)⟩, Nat.le_refl _, upd_same, gD, SW.fresh_o hD⟩, by rw [List.drop_zero]; exact hl⟩
  · obtain ⟨ro, d, e1, e2, e3, e4⟩ := hY i H' x H3 hi (tr.g.trans tr.sep.le) y
    obtain ⟨G2, t2, n2⟩ := (e4.mono tr.g).item tr.sep e3
    rw [e2] at n2
    have hd : items.drop i = d :: items.drop (i + 1) := by
      obtain ⟨h5, h6⟩ := List.getElem?_eq_some_iff.mp e1
      rw [← h6]
      exact List.drop_eq_getElem_cons h5
    rw [hd] at hr
    obtain ⟨es2, q1, hr⟩ := Option.bind_eq_some_iff.mp hr
    obtain ⟨⟨b, es3⟩, q2, hr⟩ := Option.bind_eq_some_iff.mp hr
    refine ⟨d, esi, es2, q1, G2, t2.sep, n2, fun σ2 G3 H4 t3 hw => ?_⟩
    have tA := (tr.trans t2).trans t3
    have we : wipe σ2 vs = wipe σ vs := wipe_eq (by rw [t3.sep.len, t3.len, tr.len, wipeS_len, S.len]) hw sub
    refine ⟨we, es2, b, es3, q2, G3, t3.sep, fun G4 H5 t4 => ?_⟩
    have t5 := tA.trans t4
    have s5 := (sc.step t2).step (t3.trans t4)
    cases b with
    | false =>
      refine iteF ?_
      dsimp only at hr
      split at hr
      · rename_i hb3
        have t6 := t5.wiped hb3 npar
        have s6 := s5.wiped hb3
        rw [we] at t6 s6
        exact ⟨G4, _, acc, t6, s6, hr⟩
      · cases hr
    | true =>
      refine iteT ?_
      obtain ⟨⟨items1, es4⟩, q3, hr⟩ := Option.bind_eq_some_iff.mp hr
      refine ⟨es3, items1, es4, q3, G4, t4.sep, fun J1 G5 H6 t6 wk1 => ?_⟩
      dsimp only at hr
      split at hr
      · rename_i hb1
        obtain ⟨⟨acc1, es5⟩, q4, hr⟩ := Option.bind_eq_some_iff.mp hr
        dsimp only at hr
        split at hr
        · rename_i hb5
          refine ssIn_go sub1 hD (t5.trans t6) hb1 (fun i o hi => npar i o (sub2 i hi)) q4 wk1 (s5.step t6) fun G7 H7 t7 s7 => ?_
          have t8 := t7.wiped hb5 npar
          have s8 := s7.wiped hb5
          rw [wipe_wipe sub2, we] at t8 s8
          exact ⟨G7, _, acc1, t8, s8, hr⟩
        · cases hr
      · cases hr
  · rw [List.drop_length] at hr
    cases hr
    obtain ⟨S', n, h1, h2, h3, _⟩ := sc
    exact k D G' H' (Tr.unwipe S hb tr) ⟨S', n, h1, h2, h3⟩
end
section
variable {X : Cx} {elt tg iter tg1 iter1 : Expr} {ifs ifs1 : List Expr} {scope : Scope} {own : List (Str × Nat)} {ws ws1 vs1 : List Nat} {pos cpos p : Pos} {it it1 : DI} {g g1 : DG} {t t1 : DT} {f : DE}
/-- sorted({elt for tg in iter if .. for tg1 in iter1 if ..}), texts -/
theorem sx_ss (hc : X.calm = true) (hu : X.A.units + 100 < cLine) (hN : X.N.Nodup) (hm : X.mg "sorted" = none) (hi : Ix X tg iter it) (ok : BlkOk X.N X.env.scope scope own) (hv : ∀ i ∈ vs1, i ∈ own.map (·.2)) (hg : InBlk X scope fun Y => Gx Y tg ws g) (ht : InBlk X scope fun Y => Tsx Y ifs t)
    (hi1 : InBlk X scope fun Y => Ix Y tg1 iter1 it1) (hg1 : InBlk X scope fun Y => Gx Y tg1 ws1 g1) (ht1 : InBlk X scope fun Y => Tsx Y ifs1 t1) (he : InBlk X scope fun Y => Sx Y elt f) (sub : ∀ k ∈ ws, k ∈ own.map (·.2) := by decide) (sub1 : ∀ k ∈ ws1, k ∈ vs1 := by decide)
    (hs : ∀ x, foldedSetIterable iter X.env x = pure x := by intro _; rfl) (hs1 : ∀ env x, foldedSetIterable iter1 env x = pure x := by intro _ _; rfl)
    (hgl : Gl X "sorted" := by rfl) (hv0 : bootBuiltins "sorted" = some (.builtin "sorted") := by rfl)
    (hst : starEach [.SetComp elt [⟨tg, iter, ifs, 0⟩, ⟨tg1, iter1, ifs1, 0⟩] scope cpos] X.env = (false, eval (.SetComp elt [⟨tg, iter, ifs, 0⟩, ⟨tg1, iter1, ifs1, 0⟩] scope cpos) X.env) :: starEach [] X.env := by rfl) (hpl : (backTo pos (starEach [] X.env)).any (·.1) = false := by rfl) :
    Sx X (.Call (.Name "sorted" p) [.SetComp elt [⟨tg, iter, ifs, 0⟩, ⟨tg1, iter1, ifs1, 0⟩] scope cpos] [] pos) (ssF (own.map (·.2)) vs1 it g t it1 g1 t1 f) := fun es r es' h => by
  obtain ⟨⟨items, es1⟩, h1, h⟩ := Option.bind_eq_some_iff.mp h
  dsimp only at h
  split at h
  · rename_i hb
    obtain ⟨⟨accF, esF⟩, h2, h⟩ := Option.bind_eq_some_iff.mp h
    dsimp only at h
    split at h
    · rename_i hz
      have hz := Nat.le_of_ble_eq_true hz
      cases h
      refine pe_imp (pe_callB (call_sortS hc hu) hgl hm hv0 (pa_cons (pe_sc2 (wi := tIP X.K es items es1) (g := tGU X.K ws g) (tt := tTU X.K t) (wi1 := tIU X.K it1) (g1 := tGU X.K ws1 g1) (tt1 := tTU X.K t1) (te := tU X.K f) hc hN (hi _ _ _ h1) ok hv (fun s H C cl fp => gxU (hg s H C cl fp)) (fun s H C cl fp => tsxU (ht s H C cl fp)) (fun s H C cl fp => ixU (hi1 s H C cl fp)) (fun s H C cl fp => gxU (hg1 s H C cl fp)) (fun s H C cl fp => tsxU (ht1 s H C cl fp)) (fun s H C cl fp => sxU (he s H C cl fp)) hs hs1) pa_nil hst) (by decide) (by decide) hst hpl) fun σ H Q ⟨G, S, kk⟩ => ⟨G, S, fun J G1 H1 t1' w => ?_⟩
      refine ssOut_go (w := X.w) (Q := fun x H1 => rSortS X.w [x] H1 Q) sub sub1 hv t1'.sep hb h2 w fun D G2 H2 t2 ⟨S2, n, a1, a2, a3⟩ => ?_
      refine ⟨D, S2, n, accF, rfl, a3, a1, Nat.le_trans a2 hz, fun q hq => ?_⟩
      have t3 := t1'.trans t2
      obtain ⟨G4, t4, n4⟩ := RoOk.go (v := .ref q) (H2 := upd H2 q (.lst ((sortS accF).map V.str))) (ro := .nw (.lst ((sortS accF).map .str))) t3 ⟨q, _, rfl, hq, rfl, .lst (RpL.of_strs _)⟩
      exact kk _ G4 _ t4 n4
    · cases h
  · cases h
end
end PL

set_option Elab.async false
set_option linter.all false
set_option maxRecDepth 100000
set_option maxHeartbeats 1000000
/-! The pure layer, part P: enumerate over a tuple, a list. -/
namespace PySem
set_option maxHeartbeats 1000000 in
theorem pl_meets_enumerate_new1 {v : Value} {o : Obj} {H : Heap → Prop} (B : Begins v o H) :
    Meets (Builtin.«enumerate.__new__» ⟨[.type "enumerate", v], []⟩) (fun _ R s => H s.heap ∧
      R (.ok (.ret (.ref (s.heap.push o).objs.size))) { s with heap := (s.heap.push o).push { cls := .type "enumerate", data := .fields #[.none, .bool false, .ref s.heap.objs.size, rawInt 0, .none, .none] } }) :=
  .of_wp fun prog w A R s h => by
    obtain ⟨hp, g, d, tk, os⟩ := s; obtain ⟨h1, h⟩ := h
    have hsub := sub_enumerate
    have q1 : ∀ {A' : Around} {E : Value → Shared → Prop} {Q : Value → Shared → Prop}, Q (.ref hp.objs.size) ⟨hp.push o, g, d, tk, os⟩ → wpAny (model prog w) A' (pyIter v) Q E ⟨hp, g, d, tk, os⟩ :=
      fun q => B.iter prog w _ _ ⟨hp, g, d, tk, os⟩ _ h1 q
    wp_walk using q1
    refine wpAny_stack_any fun st => wpAny_pure ?_
    split
    · rename_i c _ _ _ _ _
      cases (c == Value.type "enumerate")
      · wp_walk using q1
        exact ⟨_, rfl, h⟩
      · wp_walk using q1
        exact ⟨_, rfl, h⟩
    · wp_walk using q1
      exact ⟨_, rfl, h⟩
section
variable {prog : Program} {w : World} {A : Around} {E : Value → Shared → Prop} {s : Shared}
theorem pl_enum_begins1 {v : Value} {o : Obj} {H : Heap → Prop} {Q : Value → Shared → Prop} (B : Begins v o H) (h1 : H s.heap)
    (h : ∀ h', IsEnum h' (s.heap.objs.size + 1) s.heap.objs.size 0 .none → h'.get? s.heap.objs.size = some o → h'.objs.size = s.heap.objs.size + 2 →
      (∀ b o, s.heap.get? b = some o → h'.get? b = some o) → Q (.ref (s.heap.objs.size + 1)) { s with heap := h' }) :
    wpAny (model prog w) A (call (.type "enumerate") [v]) Q E s := by
  refine callType_new F.called_enumerate (by decide) (F.typeCall_enumerate_1 _) (F.newCall_enumerate_1 _) (fun obj => F.args_object_init_2 obj _) F.entry_enumerate_new
    (pl_meets_enumerate_new1 B) ⟨h1, ?_⟩
  have hz : (s.heap.push o).objs.size = s.heap.objs.size + 1 := Heap.size_push ..
  show _ ∧ _
  rw [hz]
  have he : IsEnum ((s.heap.push o).push { cls := .type "enumerate", data := .fields #[.none, .bool false, .ref s.heap.objs.size, rawInt 0, .none, .none] }) (s.heap.objs.size + 1) s.heap.objs.size 0 .none := by
    have := Heap.get?_push_size (s.heap.push o) (o := { cls := .type "enumerate", data := .fields #[.none, .bool false, .ref s.heap.objs.size, rawInt 0, .none, .none] }) rfl
    rw [hz] at this; exact this
  refine ⟨⟨_, he, rfl⟩, h _ he (Heap.get?_push_of_some _ (Heap.get?_push_size _ B.free)) (by rw [Heap.size_push, hz]) fun b o x => Heap.get?_push_of_some _ (Heap.get?_push_of_some _ x)⟩
theorem pl_pyNext_enum_tuple_end {e it t : Addr} {i : Nat} {k : Int} {items : Array Value} {old : Value} {Q : Option Value → Shared → Prop} (hh : A.handled = none)
    (he : IsEnum s.heap e it k old) (h1 : s.heap.IsTupleIter it t i) (h2 : s.heap.IsTuple t items) (hx : items[i]? = none)
    (hQ : ∀ h', Heap.ExtBut it s.heap h' → Q none { s with heap := h' }) : wpAny (model prog w) A (pyNext (.ref e)) Q E s := by
  have hT : s.TypeIs (.ref e) "enumerate" := ⟨_, he, rfl⟩
  unfold pyNext
  refine wpAny_bind (wpAny_attempt (wpAny_callSpecial?_slot (name := Str.ofString "__next__") hT F.slot_enumerate_next
    (wpAny_call_entry F.slot_enumerate_next hT F.entry_enumerate_next ?_ (F.args_enumerate_next_1 _))))
  show wpAny _ _ (field (.ref e) 2 >>= _) _ _ _
  refine wpAny_bind (wpAny_field he rfl (x := .ref it) rfl ?_)
  refine wpAny_bind (wpAny_nextOf_tuple_end (A := A.in1) hh h1 h2 hx fun h' x he' hx' => ?_)
  obtain ⟨o, ho, hc⟩ := hx'
  refine wpAny_bind (wpAny_isInstance (T := "StopIteration") (b := true) ⟨o, ho, hc⟩ isSubtype_stop ?_)
  exact wpAny_pure (hQ _ he')
end
end PySem
namespace PL
open PySem PySem.Spec PyProof.Rows L2
/-- the tuple at a, each item in a new pair -/
def IteT (K : PySem.W.Frag) (a : Addr) : It :=
  ⟨fun i H => ∃ (xs : List V) (x : V), SqT K H a xs ∧ xs[i]? = some x, fun i H v H' => ∃ T x, v = .ref T ∧ H T = none ∧ H' = upd H T (.tup [.int (i : Nat), x]) ∧ ∀ xs, SqT K H a xs → xs[i]? = some x, fun i H => ∃ xs : List V, SqT K H a xs ∧ xs.length ≤ i⟩
theorem turn_enumT {P : Program} {w : World} {K : PySem.W.Frag} {elts : List Expr} {kk : Nat} {tpos : Pos} (a e it : Addr) :
    Turn P w K (.Tuple elts kk tpos) (IteT K a) [e, it] e (fun i h => (∃ old, IsEnum h e it ((i : Nat) : Int) old) ∧ h.IsTupleIter it a i ∧ e ≠ it ∧ e ≠ a ∧ a ≠ it) where
  mem := by simp
  obj := fun i h st b hb => by
    obtain ⟨⟨old, he⟩, ⟨o, ho, hc, hd⟩, _⟩ := st
    have e' : b = e ∨ b = it := by simpa using hb
    rcases e' with z | z
    · rw [z]; exact ⟨_, he, fun v q => nomatch q⟩
    · rw [z]; exact ⟨o, ho, fun v q => by rw [hd] at q; cases q⟩
  keep := fun i h h' st k => let ⟨⟨old, he⟩, hi, hne⟩ := st; ⟨⟨old, k e (by simp) _ he⟩, hi.at fun o q => k it (by simp) o q, hne⟩
  item := by
    intro X hP hw hK hc i pins s σ H E I hf st hg
    subst hP hw hK
    obtain ⟨⟨old, he⟩, hit, hne, hea, hai⟩ := st
    obtain ⟨xs, x, hq, hx⟩ := hg
    obtain ⟨its, rv, p, hz⟩ := I.tuple hq
    obtain ⟨u, hu, ru⟩ := rv.get hx
    have hel : e < s.heap.objs.size := Heap.lt_size he
    have hil : it < s.heap.objs.size := by obtain ⟨_, q, _⟩ := hit; exact Heap.lt_size q
    have hil2 : i < its.toArray.size := by
      have := (List.getElem?_eq_some_iff.mp hu).1
      simpa using this
    refine wpAny_pyNext_enum_itemD (Draws.tuple (A := X.A.in1) (I.ok.hd hc) it a hai its.toArray) he ⟨hit, p⟩ hil2 hne (by simp [hne, hea]) fun u' h' tk hu' ho hit' hT hsz hk => ?_
    have eu : u' = u := by
      rw [show its.toArray[i]? = its[i]? by simp, hu] at hu'
      exact (Option.some.inj hu').symm
    subst eu
    refine ⟨_, rfl, wpAny_letOwnedTupleGo_enum (s := { s with heap := h', toks := tk + 1 }) ho fun h'' he' sb => ?_⟩
    have hT2 : h''.get? s.heap.objs.size = some { cls := .type "tuple", data := .seq #[.int i tk, u'] } := (sb.2 _ (Nat.ne_of_gt hel)).trans hT
    have new : ObjOk X.prog X.w (upd H s.heap.objs.size (.tup [.int (i : Nat), x])) h'' s.heap.objs.size (.tup [.int (i : Nat), x]) :=
      ⟨by show 2 ≤ sizeLine; decide, [.int i tk, u'], .cons ⟨_, rfl⟩ (.cons ru .nil), ⟨_, hT2, rfl, _, rfl⟩⟩
    have I1 : Inv X pins σ (upd H s.heap.objs.size (.tup [.int (i : Nat), x])) { s with heap := h'', toks := tk + 1 } :=
      I.turnedNew (ch := [e, it]) (fun b ob hb q => (sb.2 b (fun z => hb (by simp [z]))).trans (hk b ob (fun z => hb (by simp [z])) (fun z => hb (by simp [z])) q)) hf (Nat.le_refl _) new
    refine ⟨.ref s.heap.objs.size, _, I1, rfl, ⟨_, x, rfl, I.hok.fresh (Nat.le_refl _), rfl, fun ys hy => by rw [I.tuple_inj hy hq]; exact hx⟩, ⟨⟨u', ?_⟩, hit'.1.at fun o q => (sb.2 it (Ne.symm hne)).trans q, hne, hea, hai⟩, fun b hb => ?_⟩
    · have e1 : ((i + 1 : Nat) : Int) = (i : Int) + 1 := by omega
      rw [e1]; exact he'
    · have hb' : b < s.heap.objs.size := by
        have e' : b = e ∨ b = it := by simpa using hb
        rcases e' with z | z
        · rw [z]; exact hel
        · rw [z]; exact hil
      rw [upd_ne (Nat.ne_of_lt hb')]
      exact (hf b hb).1
  done := by
    intro X hP hw hK hc i pins s σ H E I hf st hg
    subst hP hw hK
    obtain ⟨⟨old, he⟩, hit, hne, hea, hai⟩ := st
    obtain ⟨xs, hq, hx⟩ := hg
    obtain ⟨its, rv, p, hz⟩ := I.tuple hq
    obtain ⟨f0, f1, f2, f3, f4, f5⟩ := hf it (by simp)
    have hl := rv.length
    exact pl_pyNext_enum_tuple_end (I.ok.hd hc) he hit p (by simp; omega) fun h' eb => ⟨rfl, I.turned (t' := s.toks) (fun b o hb q => eb b o hb q) f0 f1 f3 f4 f5⟩
  self := fun A i s Q E st h => let ⟨⟨_, he⟩, _⟩ := st; wpAny_pyIter_enum he h

def iEnumT (K : PySem.W.Frag) (ta : TA) : TI := fun σ H R => ta σ H fun vs H1 => ∃ a xs, vs = [.ref a] ∧ SqT K H1 a xs ∧ R (IteT K a) H1
theorem pi_enumT {X : Cx} {e : Expr} {ta : TA} {p pos tpos : Pos} {elts : List Expr} {kk : Nat} (hg : Gl X "enumerate") (hm : X.mg "enumerate" = none) (ha : PA X [e] ta) (hs : starEach [e] X.env = [(false, eval e X.env)] := by rfl) :
    PI X (.Tuple elts kk tpos) (.Call (.Name "enumerate" p) [e] [] pos) (iEnumT X.K ta) := by
  refine ⟨fun pins s σ H R I h => ?_⟩
  refine Call_ (ld_blt I hg hm boot_enumerate (PyProof.Rows.callWith_type1 (thn (ha.run pos pins s σ H _ I h) fun us s1 ⟨vs, H1, I1, r1, q1⟩ => ?_) hs rfl))
  obtain ⟨a, xs, ex, hq, q⟩ := q1
  subst ex
  cases r1 with
  | cons r rr =>
    cases rr
    cases r
    obtain ⟨its, rv, p', hz⟩ := I1.tuple hq
    have hal : a < s1.heap.objs.size := by
      obtain ⟨o, ho, _⟩ := p'
      exact Heap.lt_size ho
    refine pl_enum_begins1 (begins_tuple a its.toArray) p' fun h' he hit hsz hk => wpAny_pyIter_enum he ?_
    have I2 : Inv X pins σ H1 { s1 with heap := h' } := I1.kept (t' := s1.toks) hk
    refine ⟨s1.heap.objs.size + 1, [s1.heap.objs.size + 1, s1.heap.objs.size], _, _, H1, rfl, I2, turn_enumT a (s1.heap.objs.size + 1) s1.heap.objs.size, ⟨⟨.none, he⟩, ⟨_, hit, rfl, rfl⟩, Nat.succ_ne_self _, Nat.ne_of_gt (Nat.lt_succ_of_lt hal), Nat.ne_of_lt hal⟩, fun b hb => ?_, q⟩
    have e' : b = s1.heap.objs.size + 1 ∨ b = s1.heap.objs.size := by simpa using hb
    have hle : s1.heap.objs.size ≤ b := by
      rcases e' with z | z
      · rw [z]; exact Nat.le_add_right _ _
      · rw [z]; exact Nat.le_refl _
    exact I1.fpOk hle (I1.hok.fresh hle)
theorem walk_enumT {K : PySem.W.Frag} {a : Addr} {xs : List V} : Walk (IteT K a) xs.length (fun H => SqT K H a xs) (YPair (fun i => some (.int (i : Nat))) (fun i => xs[i]?)) :=
  ⟨fun i _ hi q => ⟨xs, xs[i], q, by simp [hi]⟩, fun _ q => ⟨xs, q, Nat.le_refl _⟩, fun i H x H' hi q y => by
    obtain ⟨T, x', e1, e2, e3, e4⟩ := y
    exact ⟨T, _, x', e1, e2, e3, rfl, e4 xs q⟩⟩
/-- the pairs of places and items -/
def enumD (l : List Dt) : List Dt := l.mapIdx fun i d => .tup [.int (i : Nat), d]
def enumF (F : DA) : DI := fun es => (F es).bind fun p => match p.1 with
  | [.dat (.tup l)] => some (enumD l, p.2)
  | _ => none
def enumLF (F : DA) : DI := fun es => (F es).bind fun p => match p.1 with
  | [.dat (.lst l)] => some (enumD l, p.2)
  | _ => none
theorem enumD_get {l : List Dt} {i : Nat} {d : Dt} (h : l[i]? = some d) : (enumD l)[i]? = some (.tup [.int (i : Nat), d]) := by
  unfold enumD
  rw [List.getElem?_mapIdx, h]
  rfl
theorem enumD_len (l : List Dt) : (enumD l).length = l.length := by unfold enumD; rw [List.length_mapIdx]
theorem iw_pair {K : PySem.W.Frag} {G : Hp} {J : It} {GG : Hp → Prop} {vs : List V} {l : List Dt} (r : RpL K G vs l) (wk : Walk J vs.length GG (YPair (fun i => some (.int (i : Nat))) (fun i => vs[i]?))) (hG : ∀ H, Same G H → GG H) : IW K G J (enumD l) :=
  ⟨GG, _, (by rw [enumD_len, ← r.length]; exact wk), hG, fun i H x H' hi sm y => by
    obtain ⟨T, x1, y1, rfl, hT, rfl, e1, e2⟩ := y
    cases e1
    obtain ⟨d, e3, e4⟩ := r.get' e2
    exact ⟨.nt [.int (i : Nat), d], _, enumD_get e3, rfl, (fun _ z => nomatch z), T, _, rfl, hT, rfl, .cons (.int _) (.cons e4 .nil)⟩⟩
section
variable {X : Cx} {e : Expr} {pos : Pos}
theorem ix_enum {p tpos : Pos} {elts : List Expr} {kk : Nat} {F : DA} (hm : X.mg "enumerate" = none) (sa : Sa X [e] F) (hg : Gl X "enumerate" := by rfl) (hs : starEach [e] X.env = (false, eval e X.env) :: starEach [] X.env := by rfl) : Ix X (.Tuple elts kk tpos) (.Call (.Name "enumerate" p) [e] [] pos) (enumF F) := fun es items es' q => by
  obtain ⟨⟨rs, es1⟩, q1, q⟩ := Option.bind_eq_some_iff.mp q
  dsimp only at q
  refine pi_imp (pi_enumT hg hm (sa _ _ _ q1) hs) fun σ H R ⟨G, S, k⟩ => ⟨G, S, fun vs G' H' t n => ?_⟩
  split at q
  · rename_i l
    cases q
    cases n with
    | cons n1 n2 =>
      cases n2
      have n1' : Rp X.K G' _ (.tup l) := n1
      obtain ⟨a, ws, rfl, h1, h2⟩ := Rq.tup (K := X.K) (G := G') (H := G') (Or.inl n1') (Same.refl _)
      exact ⟨a, ws, rfl, sqt_same t.sep.le h1, k _ G' H' t (iw_pair h2 walk_enumT fun H2 sm => sqt_same sm h1)⟩
  · cases q
theorem ix_enumL {p tpos : Pos} {elts : List Expr} {kk : Nat} {F : DA} (hm : X.mg "enumerate" = none) (sa : Sa X [e] F) (hg : Gl X "enumerate" := by rfl) (hs : starEach [e] X.env = (false, eval e X.env) :: starEach [] X.env := by rfl) : Ix X (.Tuple elts kk tpos) (.Call (.Name "enumerate" p) [e] [] pos) (enumLF F) := fun es items es' q => by
  obtain ⟨⟨rs, es1⟩, q1, q⟩ := Option.bind_eq_some_iff.mp q
  dsimp only at q
  refine pi_imp (pi_enum hg hm (sa _ _ _ q1) hs) fun σ H R ⟨G, S, k⟩ => ⟨G, S, fun vs G' H' t n => ?_⟩
  split at q
  · rename_i l
    cases q
    cases n with
    | cons n1 n2 =>
      cases n2
      have n1' : Rp X.K G' _ (.lst l) := n1
      obtain ⟨a, ws, rfl, h1, h2⟩ := Rq.lst (K := X.K) (G := G') (H := G') (Or.inl n1') (Same.refl _)
      exact ⟨a, ws, rfl, .inl (.inl (t.sep.le _ _ h1)), k _ G' H' t (iw_pair h2 walk_enum fun H2 sm => (.inl (.inl (sm _ _ h1)) : SqL X.K H2 a ws))⟩
  · cases q
end
end PL

set_option Elab.async false
set_option linter.all false
set_option maxRecDepth 100000
set_option maxHeartbeats 1000000
/-! The pure layer, part Q: calls with keywords, methods, making instances. -/
namespace PL
open PySem PySem.Spec PyProof.Rows L2

section
variable {K : PySem.W.Frag} {σ : St} {G H G' H' : Hp} {es es' : Sls}
/-- some of a list, in some order -/
def pick {α : Type} (ix : List Nat) (l : List α) : List α := ix.filterMap fun i => l[i]?
theorem Vals.pick {vs : List V} {us : List Value} (r : Vals vs us) : ∀ ix : List Nat, Vals (PL.pick ix vs) (PL.pick ix us)
  | [] => .nil
  | i :: ix => by
    have ih := Vals.pick r ix
    unfold PL.pick at ih ⊢
    by_cases h : i < vs.length
    · obtain ⟨u, h1, h2⟩ := r.get (List.getElem?_eq_getElem h)
      rw [List.filterMap_cons, List.filterMap_cons, List.getElem?_eq_getElem h, h1]
      exact .cons h2 ih
    · have hl := r.length
      rw [List.filterMap_cons, List.filterMap_cons, List.getElem?_eq_none (by omega), List.getElem?_eq_none (by omega)]
      exact ih
theorem RNL.pick {H0 : Hp} {vs : List V} {rs : List Rs} (n : RNL K σ H0 es G H vs rs) : ∀ ix : List Nat, RNL K σ H0 es G H (PL.pick ix vs) (PL.pick ix rs)
  | [] => .nil
  | i :: ix => by
    have ih := RNL.pick n ix
    unfold PL.pick at ih ⊢
    by_cases h : i < rs.length
    · obtain ⟨u, h1, h2⟩ := n.get (List.getElem?_eq_getElem h)
      rw [List.filterMap_cons, List.filterMap_cons, List.getElem?_eq_getElem h, h1]
      exact .cons h2 ih
    · have hl := n.length
      rw [List.filterMap_cons, List.filterMap_cons, List.getElem?_eq_none (by omega), List.getElem?_eq_none (by omega)]
      exact ih
theorem RNL.append {H0 : Hp} {vs ws : List V} {rs qs : List Rs} (n : RNL K σ H0 es G H vs rs) (m : RNL K σ H0 es G H ws qs) : RNL K σ H0 es G H (vs ++ ws) (rs ++ qs) := by
  induction n with
  | nil => exact m
  | cons a b ih => exact .cons a ih
/-- results that are frozen stand later too -/
theorem RNL.later {H0 : Hp} {vs : List V} {rs : List Rs} (n : RNL K σ H0 es G H vs (rs.map Rs.fz)) (t : Tr K σ G H es σ G' H' es') : RNL K σ H0 es' G' H' vs (rs.map Rs.fz) := by
  induction rs generalizing vs with
  | nil => cases n; exact .nil
  | cons r rs ih =>
    cases n with
    | cons a b => exact .cons (a.later t) (ih b)
theorem RNL.zero {H0 H1 : Hp} {vs : List V} {rs : List Rs} (n : RNL K σ H0 es G H vs (rs.map Rs.fz)) : RNL K σ H1 es G H vs (rs.map Rs.fz) := by
  induction rs generalizing vs with
  | nil => cases n; exact .nil
  | cons r rs ih =>
    cases n with
    | cons a b =>
      refine .cons ?_ (ih b)
      cases r with
      | dat d => exact a
      | al i => exact a
      | new o => exact a
end
theorem pick_map {α β : Type} (f : α → β) (ix : List Nat) (l : List α) : pick ix (l.map f) = (pick ix l).map f := by
  induction ix with
  | nil => rfl
  | cons i ix ih =>
    unfold pick at ih ⊢
    rw [List.filterMap_cons, List.filterMap_cons, List.getElem?_map]
    cases l[i]? with
    | none => exact ih
    | some a => 
      show f a :: _ = _
      rw [ih]
      rfl
theorem hd_fz : ∀ rs : List Rs, Hd (rs.map Rs.fz)
  | [] => trivial
  | [_] => trivial
  | r :: r2 :: rs => ⟨fz_fz r, hd_fz (r2 :: rs)⟩
theorem map_fz2 (rs : List Rs) : (rs.map Rs.fz).map Rs.fz = rs.map Rs.fz := by
  rw [List.map_map]
  exact List.map_congr_left fun r _ => fz_fz r

/-! ### keywords -/
def Sk (X : Cx) (kws : List Keyword) (f : DA) : Prop := ∀ es rs es', f es = some (rs, es') → PK X kws (tAP X.K es rs es')
theorem pk_imp {X : Cx} {e : List Keyword} {t t' : TA} (h : PK X e t) (i : ∀ σ H Q, t' σ H Q → t σ H Q) : PK X e t' := ⟨fun pos pins s σ H Q I q => h.run pos pins s σ H Q I (i σ H Q q)⟩
section
variable {X : Cx} {a e : Expr} {f F : DE} {kws : List Keyword} {g A KA : DA} {nm : Option Str} {kpos p pos apos : Pos} {j k n : Nat} {x : Str} {ks : List Str} {ix : List Nat} {l : List Expr} {dd : List Dt}
theorem sk_nil : Sk X [] aNil := fun es rs es' h => pk_imp pk_nil fun σ H Q q => by
  cases h
  obtain ⟨G, S, k⟩ := q
  exact k [] G H (Tr.refl S) .nil
theorem sk_cons (sa : Sx X a f) (sb : Sk X kws g) : Sk X (⟨nm, a, kpos⟩ :: kws) (aCons f g) := fun es rs es' h => by
  obtain ⟨⟨r1, es1⟩, h1, h⟩ := Option.bind_eq_some_iff.mp h
  obtain ⟨⟨rs2, es2⟩, h2, h⟩ := Option.map_eq_some_iff.mp h
  cases h
  refine pk_imp (pk_cons (sa _ _ _ h1) (sb _ _ _ h2)) fun σ H Q q => ?_
  obtain ⟨G, S, k⟩ := q
  refine ⟨G, S, fun v G1 H1 t n => ?_⟩
  obtain ⟨G1', t1, n1⟩ := n.fz t
  refine ⟨G1', t1.sep, fun vs G2 H2 t2 n2 => k (v :: vs) G2 H2 (t1.trans t2) (.cons (n1.later t2) (n2.back t1))⟩
/-- a def that may be called with these keywords: ix: where each parameter's value is among those given -/
structure CalK (P : Program) (w : World) (K : PySem.W.Frag) (mg : Str → Option Value) (base : Heap) (k : Nat) (x : Str) (F : DE) (n : Nat) (ks : List Str) (ix : List Nat) : Prop where
  ex : ∃ (f : Addr) (fd : FuncData) (ps : List Str), FnOk P w K mg base CX0 k f fd ps (spF K F) ∧ mg x = some (.ref f) ∧ PySem.W.keepIn K (.ref f) = true ∧ KBn K fd ps n ks (fun us ws => pick ix (us ++ ws)) (fun vs zs => pick ix (vs ++ zs))
def callKF (F : DE) (n m : Nat) (ix : List Nat) (A KA : DA) : DE := fun es => (A es).bind fun p => (KA p.2).bind fun q =>
  if p.1.length = n ∧ q.1.length = m then callG F [] (pick ix (p.1.map Rs.fz ++ q.1.map Rs.fz)) q.2 else none
theorem callK_go {K : PySem.W.Frag} {σ : St} {G H G1 H1 G2 H2 : Hp} {es es1 es2 es' : Sls} {vs ws : List V} {rs qs : List Rs} {F : DE} {r : Rs} {Q : VK} (t1 : Tr K σ G H es σ G1 H1 es1) (n1 : RNL K σ H es1 G1 H1 vs (rs.map Rs.fz)) (t2 : Tr K σ G1 H1 es1 σ G2 H2 es2) (n2 : RNL K σ H1 es2 G2 H2 ws qs) (h2 : Hd qs)
    (h : callG F [] (pick ix (rs.map Rs.fz ++ qs.map Rs.fz)) es2 = some (r, es')) (k : ∀ v G' H', Tr K σ G H es σ G' H' es' → RN K σ H es' G' H' v r → Q v H') (E : XK) : spF K F (pick ix (vs ++ ws)) H2 Q E := by
  obtain ⟨G3, _, t3, n3⟩ := n2.fzl t2 h2
  have t4 := t1.trans t3
  have n4 : RNL K σ H es2 G3 H2 (pick ix (vs ++ ws)) (pick ix (rs.map Rs.fz ++ qs.map Rs.fz)) := RNL.pick (RNL.append (n1.later t3) n3.zero) ix
  have e : pick ix (rs.map Rs.fz ++ qs.map Rs.fz) = (pick ix (rs ++ qs)).map Rs.fz := by rw [← List.map_append, pick_map]
  rw [e] at h n4
  have := spF_go (dvs := []) (dd := []) t4 n4 (hd_fz _) (fun _ => .nil) (by rw [map_fz2]; exact h) k E
  rw [List.append_nil] at this
  exact this
/-- f(k = v, ..) -/
theorem sx_callK0 (c : CalK X.prog X.w X.K X.mg X.base k x F 0 ks ix) (hr : Room j X.A) (hk : k ≤ j) (skw : Sk X kws KA) (hh : HdF KA) (hm : ks.length = n) (hg : Gl X x := by rfl) (hdb : (x == ("__debug__" : Str)) = false := by decide)
    (hall : (backToKw pos (keywordEach kws X.env)).all (·.1.isSome) = true := by rfl) (hks : (backToKw pos (keywordEach kws X.env)).filterMap (·.1) = ks := by rfl)
    (hpl : ((backTo pos (starEach [] X.env)).any (·.1) || (backToKw pos (keywordEach kws X.env)).any (·.1.isNone)) = false := by rfl) : Sx X (.Call (.Name x p) [] kws pos) (callKF F 0 n ix aNil KA) := fun es r es' h => by
  obtain ⟨⟨rs, es1⟩, h1, h⟩ := Option.bind_eq_some_iff.mp h
  cases h1
  obtain ⟨⟨qs, es2⟩, h2, h⟩ := Option.bind_eq_some_iff.mp h
  dsimp only at h
  split at h
  · rename_i hl
    obtain ⟨f, fd, ps, F1, m, kp, b⟩ := c.ex
    refine ⟨fun pins s σ H Q I ⟨G, S, kk⟩ => ?_⟩
    refine wpAny_Call_Name_kw (ld_glob I hg m ?_ hdb)
    refine PySem.W.callWith_KW0 (h₀ := X.base) I.ok.mod.kin kp hall ?_ hpl
    refine thn ((skw _ _ _ h2).run pos pins s σ H (fun vs H' => vs.length = ks.length ∧ spF X.K F (pick ix ([] ++ vs)) H' Q E0) I ⟨G, S, fun vs G1 H1 t n1 => ?_⟩) fun us s2 ⟨zs, H2, I2, rz, l2, q2⟩ => ⟨I2.kIn, ?_⟩
    · exact ⟨n1.length.trans (hl.2.trans hm.symm), callK_go (rs := []) (vs := []) (Tr.refl S) .nil t n1 (hh _ _ _ h2) h kk E0⟩
    · rw [hks]
      exact run_fnN (us := []) (vs := []) F1 (hr.mono hk) b pass0 I2 .nil rz rfl l2 q2
  · cases h
/-- f(e, .., k = v, ..) -/
theorem sx_callK (c : CalK X.prog X.w X.K X.mg X.base k x F n ks ix) (hr : Room j X.A) (hk : k ≤ j) (sa : Sa X (e :: l) A) (ha : HdF A) (skw : Sk X kws KA) (hh : HdF KA) {m : Nat} (hm : ks.length = m) (hg : Gl X x := by rfl) (hdb : (x == ("__debug__" : Str)) = false := by decide)
    (hall : (backToKw pos (keywordEach kws X.env)).all (·.1.isSome) = true := by rfl) (hks : (backToKw pos (keywordEach kws X.env)).filterMap (·.1) = ks := by rfl)
    (he : starEach (e :: l) X.env = (false, eval e X.env) :: starEach l X.env := by rfl)
    (hpl : ((backTo pos (starEach (e :: l) X.env)).any (·.1) || (backToKw pos (keywordEach kws X.env)).any (·.1.isNone)) = false := by rfl) : Sx X (.Call (.Name x p) (e :: l) kws pos) (callKF F n m ix A KA) := fun es r es' h => by
  obtain ⟨⟨rs, es1⟩, h1, h⟩ := Option.bind_eq_some_iff.mp h
  obtain ⟨⟨qs, es2⟩, h2, h⟩ := Option.bind_eq_some_iff.mp h
  dsimp only at h
  split at h
  · rename_i hl
    obtain ⟨f, fd, ps, F1, mf, kp, b⟩ := c.ex
    refine pe_imp (pe_callN F1 (hr.mono hk) hg mf kp b pass0 (sa _ _ _ h1) (skw _ _ _ h2) hall hks hdb he hpl) fun σ H Q ⟨G, S, kk⟩ => ⟨G, S, fun vs G1 H1 t n1 => ?_⟩
    obtain ⟨G2, _, t2, n2⟩ := n1.fzl t (ha _ _ _ h1)
    refine ⟨G2, t2.sep, fun ws G3 H3 t3 n3 => ?_⟩
    exact ⟨n1.length.trans hl.1, n3.length.trans (hl.2.trans hm.symm), callK_go t2 n2 t3 n3 (hh _ _ _ h2) h kk _⟩
  · cases h
/-! ### o.m(e, ..), o an instance that stays -/
structure MetF (P : Program) (w : World) (K : PySem.W.Frag) (mg : Str → Option Value) (base : Heap) (k : Nat) (c m : Str) (F : DE) (dd : List Dt) : Prop where
  ex : ∃ (f : Addr) (fd : FuncData) (ps : List Str) (ds : List Value) (dvs : List V), Cls K (He.ga K c) ∧ Meth K (He.ga K c) m f ∧ FnOk P w K mg base CX0 k f fd ps (spF K F) ∧ Binds K fd ps ds ∧ Vals dvs ds ∧ ∀ G, RpL K G dvs dd
def methF (c m : Str) (F : DE) (dd : List Dt) (f : DE) (A : DA) : DE := fun es => (f es).bind fun p => match p.1.fz with
  | .dat (.ob c' l) => (match decide (c' = c) && (l.lookup m).isNone with
    | true => (A p.2).bind fun q => callG F dd (.dat (.ob c' l) :: q.1.map Rs.fz) q.2
    | false => none)
  | _ => none
theorem RpA.lookup_none {K : PySem.W.Frag} {G : Hp} : ∀ {fs : List (Str × V)} {ds : List (Str × Dt)} {x : Str}, RpA K G Str fs ds → ds.lookup x = none → fs.lookup x = none
  | _, _, _, .nil, _ => rfl
  | _, _, x, .cons (k := k) h r, e => by
    rw [List.lookup_cons] at e ⊢
    cases q : x == k with
    | true => rw [q] at e; cases e
    | false =>
      rw [q] at e
      exact RpA.lookup_none r e
theorem sx_meth {c m : Str} {o : Expr} {pl : Sem Bool} (cm : MetF X.prog X.w X.K X.mg X.base k c m F dd) (hr : Room j X.A) (hk : k ≤ j) (so : Sx X o f) (sa : Sa X (e :: l) A) (hh : HdF A)
    (hst : starEach (e :: l) X.env = (false, eval e X.env) :: starEach l X.env := by rfl) (hpl : (backTo pos (starEach l X.env)).any (·.1) = false := by rfl)
    (ht : eval (.Call (.Attribute o m apos) (e :: l) [] pos) X.env = (do
      let ov ← eval o X.env
      standAt apos.atName
      let (f, first) ← holding [ov] (getMethod ov m pl)
      callWith pos f first (backTo pos (starEach (e :: l) X.env)) (backToKw pos (keywordEach [] X.env))) := by rfl) : Sx X (.Call (.Attribute o m apos) (e :: l) [] pos) (methF c m F dd f A) := fun es r es' h0 => by
  obtain ⟨⟨r1, es1⟩, h1, h⟩ := Option.bind_eq_some_iff.mp h0
  clear h0
  dsimp only at h
  split at h
  · rename_i c' fl hfz
    split at h
    · rename_i hc
      rw [Bool.and_eq_true, decide_eq_true_eq, Option.isNone_iff_eq_none] at hc
      obtain ⟨rfl, hlk⟩ := hc
      obtain ⟨⟨qs, es2⟩, h2, h⟩ := Option.bind_eq_some_iff.mp h
      obtain ⟨f1, fd, ps, ds, dvs, hcls, hme, F1, b, d, dr⟩ := cm.ex
      refine pe_imp (pe_meth (pl := pl) (so _ _ _ h1) hcls hme F1 (hr.mono hk) b d pass0 (sa _ _ _ h2) hst hpl ht) fun σ H Q ⟨G, S, kk⟩ => ⟨G, S, fun v G1 H1 t n1 => ?_⟩
      obtain ⟨G2, t2, n2⟩ := n1.fz t
      rw [hfz] at n2
      have n2' : Rp X.K G2 v (.ob c' fl) := n2
      obtain ⟨a, dx, fs, rfl, q1, q2⟩ := Rq.ob (K := X.K) (G := G2) (H := G2) (Or.inl n2') (Same.refl _)
      refine ⟨a, dx, fs, rfl, t2.sep.le _ _ q1, q2.lookup_none hlk, G2, t2.sep, fun vs G3 H3 t3 n3 => ?_⟩
      have nn : RNL X.K σ H es2 G3 H3 (.ref a :: vs) (.dat (.ob c' fl) :: qs) := .cons (n2'.mono t3.g) (n3.back t2)
      have hd2 : Hd (.dat (.ob c' fl) :: qs) := by
        have := hh _ _ _ h2
        cases qs with
        | nil => trivial
        | cons q qs => exact ⟨rfl, this⟩
      exact spF_go (dd := dd) (t2.trans t3) nn hd2 dr h kk _
    · cases h
  · cases h
end
end PL

set_option Elab.async false
set_option linter.all false
set_option maxRecDepth 100000
set_option maxHeartbeats 1000000
/-! The pure layer, part R: making instances. -/
namespace PL
open PySem PySem.Spec PyProof.Rows L2

section
variable {K : PySem.W.Frag} {σ σ' : St} {G H G' H' H3 : Hp} {es es3 : Sls} {x : Addr} {o o' : Ow}
theorem SlOk.grow (sm : Same H H3) {sv : Option (Option V)} {e : Sl} (h : SlOk K G H sv e) : SlOk K G H3 sv e := by
  cases e with
  | no => trivial
  | dat d => exact h
  | own u =>
    obtain ⟨a, e1, e2, ho, e3, e4⟩ := h
    exact ⟨a, e1, e2, ho, sm _ _ e3, e4⟩
  | par u =>
    obtain ⟨a, e1, e2, ho, e3, e4⟩ := h
    exact ⟨a, e1, e2, ho, sm _ _ e3, e4⟩
theorem get_snoc {α : Type} {l : List α} {a b : α} {i : Nat} (h : (l ++ [a])[i]? = some b) : (i < l.length ∧ l[i]? = some b) ∨ (i = l.length ∧ b = a) := by
  by_cases hi : i < l.length
  · rw [List.getElem?_append_left hi] at h
    exact .inl ⟨hi, h⟩
  · rw [List.getElem?_append_right (by omega)] at h
    have hz : i - l.length = 0 := by
      have := (List.getElem?_eq_some_iff.mp h).1
      rw [List.length_singleton] at this
      omega
    rw [hz] at h
    cases h
    exact .inr ⟨by omega, rfl⟩
theorem get_sn {α : Type} {l : List α} {a : α} {i : Nat} (h : i < l.length) : (l ++ [a])[i]? = l[i]? := List.getElem?_append_left h
theorem get_last {α : Type} {l : List α} {a : α} {i : Nat} (h : i = l.length) : (l ++ [a])[i]? = some a := by
  subst h
  rw [List.getElem?_append_right (Nat.le_refl _), Nat.sub_self]
  rfl
/-- an object of one's own in a slot behind all others -/
theorem Sep.push (S : Sep K σ G H es) (hx : H x = none) (sm : Same H H3) (ok : OwAt K G H3 x o) : Sep K (σ ++ [some (.ref x)]) G H3 (es ++ [.own o]) := by
  have hl := S.len
  refine ⟨S.le.trans sm, by simp [hl], fun i e he => ?_, fun i j e e' u u' a h1 h2 h3 h4 h5 h6 => ?_⟩
  · rcases get_snoc he with ⟨hi, he⟩ | ⟨hi, rfl⟩
    · rw [get_sn (by omega)]
      exact (S.ok i e he).grow sm
    · rw [get_last (by omega)]
      exact ⟨x, rfl, S.fresh_g hx, ok⟩
  · rcases get_snoc h1 with ⟨hi, h1⟩ | ⟨hi, rfl⟩
    · rw [get_sn (by omega)] at h5
      rcases get_snoc h2 with ⟨hj, h2⟩ | ⟨hj, rfl⟩
      · rw [get_sn (by omega)] at h6
        exact S.ne i j e e' u u' a h1 h2 h3 h4 h5 h6
      · rw [get_last (by omega)] at h6
        cases h6
        exact absurd hx (S.owd_h ⟨i, e, u, h1, h3, h5⟩)
    · rw [get_last (by omega)] at h5
      cases h5
      rcases get_snoc h2 with ⟨hj, h2⟩ | ⟨hj, rfl⟩
      · rw [get_sn (by omega)] at h6
        exact absurd hx (S.owd_h ⟨j, e', u', h2, h4, h6⟩)
      · omega
theorem owd_snoc (hl : σ.length = es.length) {e : Sl} {v : Option V} {a : Addr} : Owd (σ ++ [v]) (es ++ [e]) a ↔ Owd σ es a ∨ ((∃ u, e.ow = some u) ∧ v = some (.ref a)) := by
  constructor
  · rintro ⟨i, e', u, h1, h2, h3⟩
    rcases get_snoc h1 with ⟨hi, h1⟩ | ⟨hi, rfl⟩
    · rw [get_sn (by omega)] at h3
      exact .inl ⟨i, e', u, h1, h2, h3⟩
    · rw [get_last (by omega)] at h3
      exact .inr ⟨⟨u, h2⟩, Option.some.inj h3⟩
  · rintro (⟨i, e', u, h1, h2, h3⟩ | ⟨⟨u, h2⟩, rfl⟩)
    · have hi := (List.getElem?_eq_some_iff.mp h1).1
      exact ⟨i, e', u, by rw [get_sn hi]; exact h1, h2, by rw [get_sn (by omega)]; exact h3⟩
    · exact ⟨es.length, e, u, get_last rfl, h2, get_last hl.symm⟩
/-- the slot behind all others is given up -/
theorem Tr.pop (S : Sep K σ G H es) (hx : H x = none) (sm : Same H H3) (t : Tr K (σ ++ [some (.ref x)]) G H3 (es ++ [.own o]) (σ ++ [some (.ref x)]) G' H' (es3 ++ [.own o'])) : Tr K σ G H es σ G' H' es3 ∧ G' x = none ∧ OwAt K G' H' x o' ∧ ¬ Owd σ es3 x := by
  have hl := S.len
  have hl3 : es3.length = es.length := by
    have := t.len
    simp at this
    omega
  have al : ∀ a, H a ≠ none → H3 a ≠ none := fun a h z => by
    cases e : H a with
    | none => exact h e
    | some u =>
      rw [sm a u e] at z
      cases z
  have nx : ∀ a u, H a = some u → a ≠ x := fun a u h z => by rw [z, hx] at h; cases h
  have nO : ∀ a, H a ≠ none → ¬ Owd σ es a → ¬ Owd (σ ++ [some (.ref x)]) (es ++ [.own o]) a := fun a h n z => by
    rcases (owd_snoc hl).mp z with z | ⟨_, z⟩
    · exact n z
    · cases z
      exact h hx
  obtain ⟨b, w1, w2, w3⟩ := t.sep.ow (i := es3.length) (get_last rfl) rfl
  rw [get_last (by omega)] at w1
  cases w1
  have nO3 : ¬ Owd σ es3 x := by
    rintro ⟨i, e, u, h1, h2, h3⟩
    have hi := (List.getElem?_eq_some_iff.mp h1).1
    have := t.sep.ne i es3.length e (.own o') u o' x (by rw [get_sn hi]; exact h1) (get_last rfl) h2 rfl (by rw [get_sn (by omega)]; exact h3) (get_last (by omega))
    omega
  refine ⟨⟨t.g, ⟨t.sep.le, by omega, fun i e he => ?_, fun i j e e' u u' a h1 h2 h3 h4 h5 h6 => ?_⟩, fun a u h n => t.keep a u (sm a u h) (nO a (by rw [h]; exact fun z => nomatch z) n), fun a h g n => t.out a (al a h) g (nO a h n), fun a h => ?_, fun i u h => ?_, fun a h => t.alive a (al a h), hl3⟩, w2, w3, nO3⟩
  · have hi := (List.getElem?_eq_some_iff.mp he).1
    have := t.sep.ok i e (by rw [get_sn hi]; exact he)
    rw [get_sn (by omega)] at this
    exact this
  · have hi := (List.getElem?_eq_some_iff.mp h1).1
    have hj := (List.getElem?_eq_some_iff.mp h2).1
    exact t.sep.ne i j e e' u u' a (by rw [get_sn hi]; exact h1) (by rw [get_sn hj]; exact h2) h3 h4 (by rw [get_sn (by omega)]; exact h5) (by rw [get_sn (by omega)]; exact h6)
  · rcases t.own a ((owd_snoc (by omega)).mpr (.inl h)) with q | q
    · rcases (owd_snoc hl).mp q with q | ⟨_, q⟩
      · exact .inl q
      · cases q
        exact .inr hx
    · right
      cases e : H a with
      | none => rfl
      | some u => exact absurd q (al a (by rw [e]; exact fun z => nomatch z))
  · have hi := (List.getElem?_eq_some_iff.mp h).1
    obtain ⟨e1, u', e2⟩ := t.par i u (by rw [get_sn hi]; exact h)
    exact ⟨rfl, u', by rw [get_sn (by omega)] at e2; exact e2⟩
end
/-- a class that may be made by its name, __init__ F; n positional arguments, keywords ks -/
structure MakF (P : Program) (w : World) (K : PySem.W.Frag) (mg : Str → Option Value) (base : Heap) (k : Nat) (c : Str) (F : DE) (n : Nat) (ks : List Str) (ix : List Nat) : Prop where
  ex : ∃ (f : Addr) (fd : FuncData) (ps : List Str), Mk K (He.ga K c) f ∧ FnOk P w K mg base CX0 k f fd ps (spF K F) ∧ mg c = some (.ref (He.ga K c)) ∧ KBn K fd ps (n + 1) ks (fun us ws => pick ix (us ++ ws)) (fun vs zs => pick ix (vs ++ zs))
/-- the new instance, out of the slots behind its __init__ -/
def madeF (c : Str) (n : Nat) : Rs × Sls → Option (Rs × Sls)
  | (.dat .non, es) => match es[n]? with
    | some (.own (.ob c' l)) => if c' = c ∧ es.length = n + 1 then some (.new (.ob c l), es.take n) else none
    | _ => none
  | _ => none
def makeF (c : Str) (F : DE) (n m : Nat) (ix : List Nat) (A KA : DA) : DE := fun es => (A es).bind fun p => (KA p.2).bind fun q =>
  if p.1.length = n ∧ q.1.length = m then (callG F [] (pick ix (.al q.2.length :: (p.1.map Rs.fz ++ q.1.map Rs.fz))) (q.2 ++ [.own (.ob c [])])).bind (madeF c q.2.length) else none
theorem RN.push {K : PySem.W.Frag} {σ : St} {G H H0 H3 : Hp} {es : Sls} {v : V} {r : Rs} {o : Ow} {x : Addr} (S : Sep K σ G H es) (h : RN K σ H0 es G H v r.fz) : RN K (σ ++ [some (.ref x)]) H3 (es ++ [.own o]) G H3 v r.fz := by
  cases r with
  | dat d => exact h
  | al i =>
    have h' : σ[i]? = some (some v) := h
    show (σ ++ [some (.ref x)])[i]? = some (some v)
    rw [get_sn (List.getElem?_eq_some_iff.mp h').1]
    exact h'
  | new o => exact h
theorem RNL.push {K : PySem.W.Frag} {σ : St} {G H H0 H3 : Hp} {es : Sls} {o : Ow} {x : Addr} (S : Sep K σ G H es) : ∀ {rs : List Rs} {vs : List V}, RNL K σ H0 es G H vs (rs.map Rs.fz) → RNL K (σ ++ [some (.ref x)]) H3 (es ++ [.own o]) G H3 vs (rs.map Rs.fz)
  | [], _, n => by cases n; exact .nil
  | r :: rs, _, n => by
    cases n with
    | cons a b => exact .cons (RN.push S a) (RNL.push S b)
section
variable {X : Cx} {e : Expr} {F : DE} {kws : List Keyword} {A KA : DA} {p pos : Pos} {j k n m : Nat} {c : Str} {ks : List Str} {ix : List Nat} {l : List Expr}
/-- C(e, .., k = v, ..) -/
theorem sx_make (cm : MakF X.prog X.w X.K X.mg X.base k c F n ks ix) (hr : Room j X.A) (hk : k + 1 ≤ j) (sa : Sa X (e :: l) A) (ha : HdF A) (skw : Sk X kws KA) (hh : HdF KA) (hm : ks.length = m) (hg : Gl X c := by rfl) (hdb : (c == ("__debug__" : Str)) = false := by decide)
    (hall : (backToKw pos (keywordEach kws X.env)).all (·.1.isSome) = true := by rfl) (hks : (backToKw pos (keywordEach kws X.env)).filterMap (·.1) = ks := by rfl)
    (he : starEach (e :: l) X.env = (false, eval e X.env) :: starEach l X.env := by rfl)
    (hpl : ((backTo pos (starEach (e :: l) X.env)).any (·.1) || (backToKw pos (keywordEach kws X.env)).any (·.1.isNone)) = false := by rfl) : Sx X (.Call (.Name c p) (e :: l) kws pos) (makeF c F n m ix A KA) := fun es r es' h0 => by
  obtain ⟨⟨rs, es1⟩, h1, h⟩ := Option.bind_eq_some_iff.mp h0
  clear h0
  obtain ⟨⟨qs, es2⟩, h2, h⟩ := Option.bind_eq_some_iff.mp h
  dsimp only at h
  split at h
  · rename_i hl
    obtain ⟨⟨r3, es3⟩, h3, h⟩ := Option.bind_eq_some_iff.mp h
    obtain ⟨f, fd, ps, M, F1, mf, b⟩ := cm.ex
    refine pe_imp (pe_makeK M F1 (hr.mono hk) hg mf b pass0 (sa _ _ _ h1) (skw _ _ _ h2) hall hks hdb he hpl) fun σ H Q ⟨G, S, kk⟩ => ⟨G, S, fun vs G1 H1 t n1 => ?_⟩
    obtain ⟨G2, _, t2, n2⟩ := n1.fzl t (ha _ _ _ h1)
    refine ⟨G2, t2.sep, fun ws G3 H3 t3 n3 => ?_⟩
    obtain ⟨G4, _, t4, n4⟩ := n3.fzl t3 (hh _ _ _ h2)
    have t5 := t2.trans t4
    refine ⟨n1.length.trans hl.1, n3.length.trans (hl.2.trans hm.symm), fun x dx hx hdx hne => ?_⟩
    have sm : Same H3 (upd (upd H3 dx (.own x)) x (.ins (He.ga X.K c) dx [])) := fun a u q => by
      rw [upd_ne (fun z => by rw [z, hx] at q; cases q), upd_ne (fun z => by rw [z, hdx] at q; cases q)]
      exact q
    have SP := t5.sep.push (x := x) (o := .ob c []) (H3 := upd (upd H3 dx (.own x)) x (.ins (He.ga X.K c) dx [])) hx sm ⟨_, upd_same, .ob .nil⟩
    have nn : RNL X.K (σ ++ [some (.ref x)]) (upd (upd H3 dx (.own x)) x (.ins (He.ga X.K c) dx [])) (es2 ++ [.own (.ob c [])]) G4 (upd (upd H3 dx (.own x)) x (.ins (He.ga X.K c) dx [])) (.ref x :: (vs ++ ws)) ((.al es2.length :: (rs ++ qs)).map Rs.fz) := by
      refine .cons ?_ ?_
      · show (σ ++ [some (.ref x)])[es2.length]? = some (some (.ref x))
        exact get_last (by rw [t5.sep.len])
      · rw [List.map_append]
        exact RNL.append (RNL.push t5.sep (H0 := H) (n2.later t4)) (RNL.push t5.sep (H0 := H1) n4)
    have np := RNL.pick nn ix
    rw [pick_map] at np
    have h3' : callG F [] ((pick ix (.al es2.length :: (rs ++ qs))).map Rs.fz) (es2 ++ [.own (.ob c [])]) = some (r3, es3) := by
      have e1 : (Rs.al es2.length :: (rs.map Rs.fz ++ qs.map Rs.fz)) = (Rs.al es2.length :: (rs ++ qs)).map Rs.fz := by
        rw [List.map_cons, List.map_append]
        rfl
      rw [e1, pick_map] at h3
      exact h3
    have e2 : pick ix (V.ref x :: vs ++ ws) = pick ix (V.ref x :: (vs ++ ws)) := rfl
    have go := spF_go (dvs := []) (dd := []) (Tr.refl SP) np (hd_fz _) (fun _ => .nil) (by rw [map_fz2]; exact h3') (Q := fun v H' => v = .non ∧ Q (.ref x) H') (fun v G' H' t6 n6 => ?_) C8.E0
    · rw [List.append_nil] at go
      exact go
    · unfold madeF at h
      split at h
      · rename_i es4 heq
        cases heq
        split at h
        · rename_i c' fl hlast
          split at h
          · rename_i hcl
            obtain ⟨rfl, hlen⟩ := hcl
            cases h
            have n6' : Rp X.K G' v .non := n6
            cases n6'
            have es4e : es3 = es3.take es2.length ++ [.own (.ob c' fl)] := by
              have := List.take_append_drop es2.length es3
              conv => lhs; rw [← this]
              congr 1
              have hd := List.drop_eq_getElem_cons (by omega : es2.length < es3.length)
              rw [hd]
              have : es3[es2.length] = .own (.ob c' fl) := by
                have := List.getElem?_eq_getElem (by omega : es2.length < es3.length)
                rw [hlast] at this
                exact (Option.some.inj this).symm
              rw [this, List.drop_eq_nil_of_le (by omega)]
            rw [es4e] at t6
            obtain ⟨t7, w1, w2, w3⟩ := Tr.pop t5.sep hx sm t6
            exact ⟨rfl, kk _ G' H' (t5.trans t7) ⟨x, rfl, t5.fresh hx, w1, w2, w3⟩⟩
          · cases h
        · cases h
      · cases h
  · cases h
end
end PL

set_option Elab.async false
set_option linter.all false
set_option maxRecDepth 100000
set_option maxHeartbeats 1000000
/-! The pure layer, part S: defs by their bodies. -/
namespace PL
open PySem PySem.Spec PyProof.Rows L2
/-- a def of p parameters, n slots, body b -/
def defF (p n : Nat) (b : DS) : DE := fun as => match Nat.beq as.length p with
  | true => runF n b as
  | false => none
theorem defF_ok {p n : Nat} {b : DS} {as : Sls} {z : Rs × Sls} (h : defF p n b as = some z) : as.length = p ∧ runF n b as = some z := by
  unfold defF at h
  split at h
  · rename_i e
    exact ⟨Nat.eq_of_beq_eq_true e, h⟩
  · cases h
section
variable {P : Program} {w : World} {K : PySem.W.Frag} {mg : Str → Option Value} {base : Heap} {x qual : Str} {params : Arguments} {body : List Stmt} {scope : Scope} {f : Addr} {fd : FuncData} {N ps : List Str} {k : Nat} {b : DS} {kws : List (Str × V)}
theorem fnd_ok (D : FunD K x qual params body scope [] kws f fd) (S : FnScope N ps scope)
    (hb : ∀ (cdv : Value) (A : Around) (outer : List Env) (s : Shared) (H : Hp) (E : XK), Room k (A.deeper (envOfC qual scope s.heap.objs.size f cdv)) → Bx (cxOf CX0 P w K mg base N qual scope f cdv A outer s H E).nox body b) :
    FnOk P w K mg base CX0 (k + 1) f fd ps (spF K (defF ps.length N.length b)) := fn_ok D S hb fun as z h => defF_ok h
theorem cal_ok (D : FunD K x qual params body scope [] kws f fd) (S : FnScope N ps scope) (hm : mg x = some (.ref f))
    (bind : ∀ (kV doc pm : Value) (an : Option Addr) (cdv ct : Value) (us : List Value), us.length = ps.length → bindArgs (PySem.W.fnOf x qual params body scope .none kV doc pm an cdv ct) ⟨us, []⟩ = pure (ps.zip us))
    (hb : ∀ (cdv : Value) (A : Around) (outer : List Env) (s : Shared) (H : Hp) (E : XK), Room k (A.deeper (envOfC qual scope s.heap.objs.size f cdv)) → Bx (cxOf CX0 P w K mg base N qual scope f cdv A outer s H E).nox body b) :
    CalF P w K mg base (k + 1) x (defF ps.length N.length b) [] :=
  ⟨f, fd, ps, [], [], fnd_ok D S hb, hm, D.kp, D.bindsN bind, .nil, fun _ => .nil⟩
/-- f(k = v, ..) of it -/
theorem calk_ok (D : FunD K x qual params body scope [] kws f fd) (S : FnScope N ps scope) (hm : mg x = some (.ref f)) {n : Nat} {ks : List Str} {ix : List Nat}
    (bind : ∀ (kV doc pm : Value) (an : Option Addr) (cdv ct : Value) (us ws : List Value), us.length = n → ws.length = ks.length → bindArgs (PySem.W.fnOf x qual params body scope .none kV doc pm an cdv ct) ⟨us, ks.zip ws⟩ = pure (ps.zip (pick ix (us ++ ws))))
    (hb : ∀ (cdv : Value) (A : Around) (outer : List Env) (s : Shared) (H : Hp) (E : XK), Room k (A.deeper (envOfC qual scope s.heap.objs.size f cdv)) → Bx (cxOf CX0 P w K mg base N qual scope f cdv A outer s H E).nox body b) :
    CalK P w K mg base (k + 1) x (defF ps.length N.length b) n ks ix := by
  refine ⟨f, fd, ps, fnd_ok D S hb, hm, D.kp, fun s us ws X l1 l2 => ?_, fun r1 r2 => Vals.pick (r1.append r2) ix⟩
  obtain ⟨oc, od, dV, kV, doc, pm, an, cdv, ct, osl, rfl, lk, hcd, hD, hK⟩ := D.ex
  rcases hD with ⟨_, rfl⟩ | ⟨e, _⟩
  · exact .of_eq (bind kV doc pm an cdv ct us ws l1 l2)
  · exact absurd rfl e
theorem met_ok {c : Str} (D : FunD K x qual params body scope [] kws f fd) (S : FnScope N ps scope) (hc : Cls K (He.ga K c)) (hm : Meth K (He.ga K c) x f)
    (bind : ∀ (kV doc pm : Value) (an : Option Addr) (cdv ct : Value) (us : List Value), us.length = ps.length → bindArgs (PySem.W.fnOf x qual params body scope .none kV doc pm an cdv ct) ⟨us, []⟩ = pure (ps.zip us))
    (hb : ∀ (cdv : Value) (A : Around) (outer : List Env) (s : Shared) (H : Hp) (E : XK), Room k (A.deeper (envOfC qual scope s.heap.objs.size f cdv)) → Bx (cxOf CX0 P w K mg base N qual scope f cdv A outer s H E).nox body b) :
    MetF P w K mg base (k + 1) c x (defF ps.length N.length b) [] :=
  ⟨f, fd, ps, [], [], hc, hm, fnd_ok D S hb, D.bindsN bind, .nil, fun _ => .nil⟩
/-- __init__ with keyword-only parameters, all of them given -/
theorem mak_ok {c : Str} {n : Nat} {ks : List Str} {ix : List Nat} (D : FunD K x qual params body scope [] kws f fd) (S : FnScope N ps scope) (M : Mk K (He.ga K c) f) (hm : mg c = some (.ref (He.ga K c))) (hk : kws ≠ [])
    (bind : ∀ (D : Addr) (doc pm : Value) (an : Option Addr) (cdv ct : Value) (us ws : List Value), us.length = n + 1 → ws.length = ks.length → KwChain D [] (bindArgs (PySem.W.fnOf x qual params body scope .none (.ref D) doc pm an cdv ct) ⟨us, ks.zip ws⟩) (ps.zip (pick ix (us ++ ws))))
    (hb : ∀ (cdv : Value) (A : Around) (outer : List Env) (s : Shared) (H : Hp) (E : XK), Room k (A.deeper (envOfC qual scope s.heap.objs.size f cdv)) → Bx (cxOf CX0 P w K mg base N qual scope f cdv A outer s H E).nox body b) :
    MakF P w K mg base (k + 1) c (defF ps.length N.length b) n ks ix := by
  obtain ⟨mv, kb⟩ := D.kbinds0 (ps := ps) (n + 1) ks [] (fun us _ ws => pick ix (us ++ ws)) hk (fun _ h => by cases h) (fun r1 _ r3 => Vals.pick (r1.append r3) ix) fun Dd doc pm an cdv ct us mv ws l1 l2 l3 => by
    have : mv = [] := List.length_eq_zero_iff.mp l2
    subst this
    exact bind Dd doc pm an cdv ct us ws l1 l3
  exact ⟨f, fd, ps, M, fnd_ok D S hb, hm, kb⟩
end
end PL

set_option Elab.async false
set_option linter.all false
set_option maxRecDepth 100000
set_option maxHeartbeats 1000000
/-! The pure layer, part T: the terms' values. -/
namespace PL
open PySem PySem.Spec PyProof.Rows L2

/-! ### loops by an invariant -/
theorem loopB_inv {g : DG} {b : DS} (I : Nat → Sls → Prop) : ∀ (items : List Dt) (k : Nat) (es : Sls), I k es → (∀ (i : Nat) (d : Dt) (es : Sls), items[i]? = some d → I (k + i) es → ∃ es1 fl es2, g d es = some es1 ∧ b es1 = some (fl, es2) ∧ (fl = .nx ∨ fl = .ct) ∧ I (k + i + 1) es2) → ∃ es', loopB g b items es = some (.nx, es') ∧ I (k + items.length) es'
  | [], k, es, h, _ => ⟨es, rfl, h⟩
  | d :: ds, k, es, h, st => by
    obtain ⟨es1, fl, es2, h1, h2, h3, h4⟩ := st 0 d es rfl h
    obtain ⟨es', h5, h6⟩ := loopB_inv I ds (k + 1) es2 h4 fun i d' es' hi hI => by
      have := st (i + 1) d' es' (by simpa using hi)
      rw [show k + (i + 1) = k + 1 + i by omega] at this
      exact this hI
    refine ⟨es', ?_, by rw [List.length_cons, show k + (ds.length + 1) = k + 1 + ds.length by omega]; exact h6⟩
    unfold loopB
    rw [h1]
    show (b es1).bind _ = _
    rw [h2]
    rcases h3 with rfl | rfl <;> exact h5
/-- over a list comprehension, one that changes nothing but its accumulator -/
theorem lcLoop_fm {vs : List Nat} {g : DG} {t : DT} {f : DE} {es0 : Sls} (φ : Dt → Option Dt) : ∀ (items acc : List Dt), (∀ d ∈ items, ∃ es1 es2, g d es0 = some es1 ∧ bare es2 vs = true ∧ wipeS es2 vs = es0 ∧
    ((t es1 = some (false, es2) ∧ φ d = none) ∨ ∃ es3 r y, t es1 = some (true, es3) ∧ f es3 = some (r, es2) ∧ r.fz = .dat y ∧ φ d = some y)) → lcLoop vs g t f items acc es0 = some (acc ++ items.filterMap φ, es0)
  | [], acc, _ => by simp [lcLoop]
  | d :: ds, acc, h => by
    obtain ⟨es1, es2, h1, h2, h3, h4⟩ := h d List.mem_cons_self
    have ih := fun acc => lcLoop_fm φ ds acc fun e he => h e (List.mem_cons_of_mem _ he)
    unfold lcLoop
    rw [h1]
    show (t es1).bind _ = _
    rcases h4 with ⟨h4, h5⟩ | ⟨es3, r, y, h4, h5, h6, h7⟩
    · rw [h4]
      show (match bare es2 vs with
        | true => lcLoop vs g t f ds acc (wipeS es2 vs)
        | false => none) = _
      rw [h2, h3, List.filterMap_cons, h5]
      exact ih acc
    · rw [h4]
      show (f es3).bind _ = _
      rw [h5]
      show (match r.fz with
        | .dat y => (match bare es2 vs with
          | true => lcLoop vs g t f ds (acc ++ [y]) (wipeS es2 vs)
          | false => none)
        | _ => none) = _
      rw [h6]
      show (match bare es2 vs with
          | true => lcLoop vs g t f ds (acc ++ [y]) (wipeS es2 vs)
          | false => none) = _
      rw [h2, h3, List.filterMap_cons, h7]
      show lcLoop vs g t f ds (acc ++ [y]) es0 = some (acc ++ y :: ds.filterMap φ, es0)
      rw [ih, List.append_assoc, List.singleton_append]
theorem lcF_fm {vs : List Nat} {it : DI} {g : DG} {t : DT} {f : DE} {es es0 : Sls} {items : List Dt} (φ : Dt → Option Dt) (hi : it es = some (items, es0)) (hb : bare es0 vs = true) (hz : items.length ≤ 100000)
    (h : ∀ d ∈ items, ∃ es1 es2, g d (wipeS es0 vs) = some es1 ∧ bare es2 vs = true ∧ wipeS es2 vs = wipeS es0 vs ∧
    ((t es1 = some (false, es2) ∧ φ d = none) ∨ ∃ es3 r y, t es1 = some (true, es3) ∧ f es3 = some (r, es2) ∧ r.fz = .dat y ∧ φ d = some y)) : lcF vs it g t f es = some (.new (.lst (items.filterMap φ)), heal es0 (wipeS es0 vs) vs) := by
  unfold lcF
  rw [hi]
  show (match bare es0 vs, Nat.ble items.length 100000 with
    | true, true => (lcLoop vs g t f items [] (wipeS es0 vs)).map fun q : List Dt × Sls => ((.new (.lst q.1) : Rs), heal es0 q.2 vs)
    | _, _ => none) = _
  rw [hb, Nat.ble_eq_true_of_le hz]
  show (lcLoop vs g t f items [] (wipeS es0 vs)).map _ = _
  rw [lcLoop_fm φ items [] h]
  rfl
/-- .. by an invariant -/
theorem lcLoop_inv {vs : List Nat} {g : DG} {t : DT} {f : DE} (I : Nat → List Dt → Sls → Prop) : ∀ (items acc : List Dt) (k : Nat) (es : Sls), I k acc es → (∀ (i : Nat) (d : Dt) (acc : List Dt) (es : Sls), items[i]? = some d → I (k + i) acc es → ∃ es1 es2, g d es = some es1 ∧ bare es2 vs = true ∧
    ((t es1 = some (false, es2) ∧ I (k + i + 1) acc (wipeS es2 vs)) ∨ ∃ es3 r y, t es1 = some (true, es3) ∧ f es3 = some (r, es2) ∧ r.fz = .dat y ∧ I (k + i + 1) (acc ++ [y]) (wipeS es2 vs))) → ∃ acc' es', lcLoop vs g t f items acc es = some (acc', es') ∧ I (k + items.length) acc' es'
  | [], acc, k, es, h, _ => ⟨acc, es, rfl, h⟩
  | d :: ds, acc, k, es, h, st => by
    obtain ⟨es1, es2, h1, h2, h4⟩ := st 0 d acc es rfl h
    have next : ∀ acc' es', I (k + 1) acc' es' → ∃ acc2 es3, lcLoop vs g t f ds acc' es' = some (acc2, es3) ∧ I (k + (ds.length + 1)) acc2 es3 := fun acc' es' h' => by
      have := lcLoop_inv I ds acc' (k + 1) es' h' fun i d' acc' es' hi hI => by
        have := st (i + 1) d' acc' es' (by simpa using hi)
        rw [show k + (i + 1) = k + 1 + i by omega] at this
        exact this hI
      rw [show k + (ds.length + 1) = k + 1 + ds.length by omega]
      exact this
    unfold lcLoop
    rw [h1]
    rcases h4 with ⟨h4, h5⟩ | ⟨es3, r, y, h4, h5, h6, h7⟩
    · obtain ⟨acc', es', h8, h9⟩ := next _ _ h5
      refine ⟨acc', es', ?_, h9⟩
      show (t es1).bind _ = _
      rw [h4]
      show (match bare es2 vs with
        | true => lcLoop vs g t f ds acc (wipeS es2 vs)
        | false => none) = _
      rw [h2]
      exact h8
    · obtain ⟨acc', es', h8, h9⟩ := next _ _ h7
      refine ⟨acc', es', ?_, h9⟩
      show (t es1).bind _ = _
      rw [h4]
      show (f es3).bind _ = _
      rw [h5]
      show (match r.fz with
        | .dat y => (match bare es2 vs with
          | true => lcLoop vs g t f ds (acc ++ [y]) (wipeS es2 vs)
          | false => none)
        | _ => none) = _
      rw [h6]
      show (match bare es2 vs with
          | true => lcLoop vs g t f ds (acc ++ [y]) (wipeS es2 vs)
          | false => none) = _
      rw [h2]
      exact h8
theorem lcF_inv {vs : List Nat} {it : DI} {g : DG} {t : DT} {f : DE} {es es0 : Sls} {items : List Dt} (I : Nat → List Dt → Sls → Prop) (hi : it es = some (items, es0)) (hb : bare es0 vs = true) (hz : items.length ≤ 100000) (h0 : I 0 [] (wipeS es0 vs))
    (st : ∀ (i : Nat) (d : Dt) (acc : List Dt) (es : Sls), items[i]? = some d → I i acc es → ∃ es1 es2, g d es = some es1 ∧ bare es2 vs = true ∧
    ((t es1 = some (false, es2) ∧ I (i + 1) acc (wipeS es2 vs)) ∨ ∃ es3 r y, t es1 = some (true, es3) ∧ f es3 = some (r, es2) ∧ r.fz = .dat y ∧ I (i + 1) (acc ++ [y]) (wipeS es2 vs))) :
    ∃ acc' es', lcF vs it g t f es = some (.new (.lst acc'), heal es0 es' vs) ∧ I items.length acc' es' := by
  obtain ⟨acc', es', h1, h2⟩ := lcLoop_inv I items [] 0 (wipeS es0 vs) h0 fun i d acc es hi hI => by
    rw [Nat.zero_add] at hI ⊢
    exact st i d acc es hi hI
  refine ⟨acc', es', ?_, by rw [Nat.zero_add] at h2; exact h2⟩
  unfold lcF
  rw [hi]
  show (match bare es0 vs, Nat.ble items.length 100000 with
    | true, true => (lcLoop vs g t f items [] (wipeS es0 vs)).map fun q : List Dt × Sls => ((.new (.lst q.1) : Rs), heal es0 q.2 vs)
    | _, _ => none) = _
  rw [hb, Nat.ble_eq_true_of_le hz]
  show (lcLoop vs g t f items [] (wipeS es0 vs)).map _ = _
  rw [h1]
  rfl
/-- a dict comprehension that changes nothing else, over unlike keys -/
theorem putD_new {κ : Type} [DecidableEq κ] {l : List (κ × Dt)} {k : κ} {d : Dt} (h : ∀ p ∈ l, p.1 ≠ k) : putD l k d = l ++ [(k, d)] := by
  unfold putD
  rw [if_neg]
  rw [List.any_eq_true]
  rintro ⟨p, hp, e⟩
  exact h p hp (of_decide_eq_true e)
theorem dcLoop_fn {vs : List Nat} {g : DG} {t : DT} {fk f : DE} {es0 : Sls} (κ : Dt → Key) (φ : Dt → Dt) : ∀ (items : List Dt) (acc : List (Key × Dt)), (∀ d ∈ items, ∃ es1 es2 es3 es4 kd r, g d es0 = some es1 ∧ t es1 = some (true, es2) ∧ fk es2 = some (.dat kd, es3) ∧ keyD kd = some (κ d) ∧ f es3 = some (r, es4) ∧ r.fz = .dat (φ d) ∧ bare es4 vs = true ∧ wipeS es4 vs = es0) →
    (items.map κ).Nodup → (∀ p ∈ acc, p.1 ∉ items.map κ) → dcLoop vs g t fk f items acc es0 = some (acc ++ items.map fun d => (κ d, φ d), es0)
  | [], acc, _, _, _ => by simp [dcLoop]
  | d :: ds, acc, h, nd, fr => by
    obtain ⟨es1, es2, es3, es4, kd, r, h1, h2, h3, h4, h5, h6, h7, h8⟩ := h d List.mem_cons_self
    rw [List.map_cons, List.nodup_cons] at nd
    have hp : putD acc (κ d) (φ d) = acc ++ [(κ d, φ d)] := putD_new fun p hp e => fr p hp (by rw [e]; exact List.mem_cons_self)
    have ih := dcLoop_fn κ φ ds (acc ++ [(κ d, φ d)]) (fun e he => h e (List.mem_cons_of_mem _ he)) nd.2 fun p hp => by
      rcases List.mem_append.mp hp with hp | hp
      · exact fun z => fr p hp (List.mem_cons_of_mem _ z)
      · rw [List.mem_singleton.mp hp]
        exact nd.1
    unfold dcLoop
    rw [h1]
    show (t es1).bind _ = _
    rw [h2]
    show (fk es2).bind _ = _
    rw [h3]
    show (keyD kd).bind _ = _
    rw [h4]
    show (f es3).bind _ = _
    rw [h5]
    show (match r.fz with
        | .dat y => (match bare es4 vs with
          | true => dcLoop vs g t fk f ds (putD acc (κ d) y) (wipeS es4 vs)
          | false => none)
        | _ => none) = _
    rw [h6]
    show (match bare es4 vs with
          | true => dcLoop vs g t fk f ds (putD acc (κ d) (φ d)) (wipeS es4 vs)
          | false => none) = _
    rw [h7, h8, hp]
    show dcLoop vs g t fk f ds (acc ++ [(κ d, φ d)]) es0 = _
    rw [ih, List.append_assoc]
    rfl
theorem dcF_fn {vs : List Nat} {it : DI} {g : DG} {t : DT} {fk f : DE} {es es0 : Sls} {items : List Dt} (κ : Dt → Key) (φ : Dt → Dt) (hi : it es = some (items, es0)) (hb : bare es0 vs = true) (hz : items.length ≤ 100000) (nd : (items.map κ).Nodup)
    (h : ∀ d ∈ items, ∃ es1 es2 es3 es4 kd r, g d (wipeS es0 vs) = some es1 ∧ t es1 = some (true, es2) ∧ fk es2 = some (.dat kd, es3) ∧ keyD kd = some (κ d) ∧ f es3 = some (r, es4) ∧ r.fz = .dat (φ d) ∧ bare es4 vs = true ∧ wipeS es4 vs = wipeS es0 vs) :
    dcF vs it g t fk f es = some (.new (.dct (items.map fun d => (κ d, φ d))), heal es0 (wipeS es0 vs) vs) := by
  unfold dcF
  rw [hi]
  show (match bare es0 vs, Nat.ble items.length 100000 with
    | true, true => (dcLoop vs g t fk f items [] (wipeS es0 vs)).map fun q : List (Key × Dt) × Sls => ((.new (.dct q.1) : Rs), heal es0 q.2 vs)
    | _, _ => none) = _
  rw [hb, Nat.ble_eq_true_of_le hz]
  show (dcLoop vs g t fk f items [] (wipeS es0 vs)).map _ = _
  rw [dcLoop_fn κ φ items [] h nd (fun p hp => by cases hp)]
  rfl
/-! ### a call of a def: what it gives, from what is handed in -/
theorem defF_eq {p n : Nat} {b : DS} {as : Sls} {fl : Fl} {es : Sls} (hl : as.length = p) (hg : as.all Sl.given = true) (hb : b (as ++ List.replicate (n - as.length) .no) = some (fl, es)) : defF p n b as = finF as (fl, es) := by
  unfold defF
  rw [show Nat.beq as.length p = true by rw [hl]; exact Nat.beq_refl p]
  show runF n b as = _
  unfold runF
  rw [hg]
  show (b _).bind _ = _
  rw [hb]
  rfl
end PL

set_option Elab.async false
set_option linter.all false
set_option maxRecDepth 100000
set_option maxHeartbeats 1000000
/-! The pure layer, part U: the terms' values, step by step. -/
namespace PL
open PySem PySem.Spec PyProof.Rows L2
section
variable {f g F : DE} {A B : DA} {t u : DT} {b c : DS} {es es1 es2 es3 : Sls} {r r1 r2 : Rs} {d e : Dt} {ro : Ro} {o : Ow} {fl : Fl} {i : Nat} {rs : List Rs}
theorem seq_eq (h1 : b es = some (.nx, es1)) (h2 : c es1 = some (fl, es2)) : seqB b c es = some (fl, es2) := by
  unfold seqB
  rw [h1]
  exact h2
theorem seq_ret (h1 : b es = some (.ret r, es1)) : seqB b c es = some (.ret r, es1) := by
  unfold seqB
  rw [h1]
  rfl
theorem ret_dat (h : F es = some (.dat d, es1)) : retB F es = some (.ret (.dat d), es1) := by
  unfold retB
  rw [h]
  rfl
theorem ret_new (h : F es = some (.new o, es1)) : retB F es = some (.ret (.new o), es1) := by
  unfold retB
  rw [h]
  rfl
theorem ret_own (h : es[i]? = some (.own o)) : retB (vF i) es = some (.ret (.new o), es.set i .no) := by
  unfold retB vF
  rw [h]
  show (match es[i]? with
    | some (.own o) => some (Fl.ret (.new o), es.set i .no)
    | some (.dat d) => some (.ret (.dat d), es)
    | _ => none) = _
  rw [h]
theorem setZ_dat (h : F es = some (r, es1)) (hr : r.fz = .dat d) (np : noPar es1 i = true) : setZ i F es = some (.nx, es1.set i (.dat d)) := by
  unfold setZ
  rw [h]
  show (match noPar es1 i with
  | true => _
  | false => none) = _
  rw [np]
  cases r with
  | dat d' => cases hr; rfl
  | new o => cases hr; rfl
  | al j => cases hr
theorem setB_new (h : F es = some (.new o, es1)) (np : noPar es1 i = true) : setB i F es = some (.nx, es1.set i (.own o)) := by
  unfold setB
  rw [h]
  show (match noPar es1 i with
  | true => _
  | false => none) = _
  rw [np]
  try rfl
theorem expr_eq (h : F es = some (r, es1)) : exprB F es = some (.nx, es1) := by
  unfold exprB
  rw [h]
  try rfl
theorem if_true (h : t es = some (true, es1)) (h2 : b es1 = some (fl, es2)) : ifB t b c es = some (fl, es2) := by
  unfold ifB
  rw [h]
  exact h2
theorem if_false (h : t es = some (false, es1)) (h2 : c es1 = some (fl, es2)) : ifB t b c es = some (fl, es2) := by
  unfold ifB
  rw [h]
  exact h2
theorem aOne_eq (h : f es = some (r, es1)) : aOne f es = some ([r], es1) := by
  unfold aOne
  rw [h]
  rfl
theorem aCons_eq (h : f es = some (r, es1)) (h2 : A es1 = some (rs, es2)) : aCons f A es = some (r.fz :: rs, es2) := by
  unfold aCons
  rw [h]
  show (A es1).map _ = _
  rw [h2]
  rfl
theorem op_eq' {pf : Dt → Dt → Option Ro} (h1 : f es = some (r1, es1)) (h2 : g es1 = some (r2, es2)) (l1 : look es2 r1.fz = some d) (l2 : look es2 r2 = some e) (hp : pf d e = some ro) : opF pf f g es = some (ro.rs, es2) := by
  unfold opF
  rw [h1]
  show (g es1).bind _ = _
  rw [h2]
  show (look es2 r1.fz).bind _ = _
  rw [l1]
  show (look es2 r2).bind _ = _
  rw [l2]
  show (pf d e).map _ = _
  rw [hp]
  rfl
theorem un_eq {pf : Dt → Option Ro} (h1 : f es = some (r1, es1)) (l1 : look es1 r1 = some d) (hp : pf d = some ro) : unF pf f es = some (ro.rs, es1) := by
  unfold unF
  rw [h1]
  show (look es1 r1).bind _ = _
  rw [l1]
  show (pf d).map _ = _
  rw [hp]
  rfl
theorem cb_eq {pf : List Dt → Option Ro} {ds : List Dt} (h1 : A es = some (rs, es1)) (l1 : looks es1 rs = some ds) (hp : pf ds = some ro) : cbF pf A es = some (ro.rs, es1) := by
  unfold cbF
  rw [h1]
  show (looks es1 rs).bind _ = _
  rw [l1]
  show (pf ds).map _ = _
  rw [hp]
  rfl
/-- a call with data alone -/
theorem argsS_dats : ∀ ds : List Dt, argsS es (ds.map .dat) = some (ds.map .dat)
  | [] => rfl
  | d :: ds => by
    show ((argS es (.dat d)).bind fun a => (argsS es (ds.map .dat)).map fun as => a :: as) = _
    rw [argsS_dats ds]
    rfl
theorem alOk_dats : ∀ ds : List Dt, alOk (ds.map .dat) = true
  | [] => rfl
  | d :: ds => by
    show (true && alOk (ds.map .dat)) = true
    rw [alOk_dats ds]
    rfl
theorem backAt_dats (k : Nat) : ∀ (ds : List Dt) (as : Sls), backAt k (ds.map .dat) as = none
  | [], [] => rfl
  | [], _ :: _ => rfl
  | d :: ds, [] => rfl
  | d :: ds, a :: as => backAt_dats k ds as
theorem wr_dats (ds : List Dt) (as : Sls) : wr es (ds.map .dat) as = es := by
  apply List.ext_getElem?
  intro k
  rw [wr_get, backAt_dats]
  cases es[k]? with
  | none => rfl
  | some e => rfl
theorem callG_dats {G : DE} {ds : List Dt} {as : Sls} (hG : G (ds.map .dat) = some (r, as)) (hr : ∀ i, r ≠ .al i) : callG G [] (ds.map .dat) es = some (r, es) := by
  unfold callG
  rw [alOk_dats]
  show (argsS es (ds.map .dat)).bind _ = _
  rw [argsS_dats]
  show (G (ds.map .dat ++ [])).bind _ = _
  rw [List.append_nil, hG]
  cases r with
  | dat d => 
    show some (Rs.dat d, wr es (ds.map .dat) as) = _
    rw [wr_dats]
  | new o =>
    show some (Rs.new o, wr es (ds.map .dat) as) = _
    rw [wr_dats]
  | al i => exact absurd rfl (hr i)
theorem call_dats {G : DE} {ds : List Dt} {as : Sls} (h : A es = some (rs, es1)) (e : rs.map Rs.fz = ds.map .dat) (hG : G (ds.map .dat) = some (r, as)) (hr : ∀ i, r ≠ .al i) : callF G [] A es = some (r, es1) := by
  unfold callF
  rw [h]
  show callG G [] (rs.map Rs.fz) es1 = _
  rw [e]
  exact callG_dats hG hr
theorem for_eq {it : DI} {g : DG} {items : List Dt} (h : it es = some (items, es1)) (h2 : loopB g b items es1 = some (fl, es2)) : forB it g b es = some (fl, es2) := by
  unfold forB
  rw [h]
  exact h2
end
/-! ### texts -/
abbrev tl (x : Str) : List Nat := x.cps.toList
theorem tl_len (x : Str) : x.length = (tl x).length := by simp [Str.length, tl]
theorem tl_app (x y : Str) : tl (x ++ y) = tl x ++ tl y := by
  show (x.cps ++ y.cps).toList = _
  rw [Array.toList_append]
theorem str_ext {x y : Str} (h : tl x = tl y) : x = y := cps_inj h

/-! ### comprehensions with a plain target in a slot of their own -/
theorem heal_wipe (es : Sls) (vs : List Nat) : heal es (wipeS es vs) vs = es := by
  apply List.ext_getElem?
  intro k
  rw [heal_get (by rw [wipeS_len]), wipeS_get]
  by_cases hk : k ∈ vs
  · rw [if_pos hk]
  · rw [if_neg hk, if_neg hk]
theorem wipe_no {es : Sls} {vs : List Nat} (h : ∀ i ∈ vs, es[i]? = some .no) : wipeS es vs = es := by
  apply List.ext_getElem?
  intro k
  rw [wipeS_get]
  by_cases hk : k ∈ vs
  · rw [if_pos hk, h k hk, if_pos (List.getElem?_eq_some_iff.mp (h k hk)).1]
  · rw [if_neg hk]
theorem wipe_set {es : Sls} {vs : List Nat} (h : ∀ i ∈ vs, es[i]? = some .no) {es' : Sls} (hl : es'.length = es.length) (h' : ∀ i, i ∉ vs → es'[i]? = es[i]?) : wipeS es' vs = es := by
  apply List.ext_getElem?
  intro k
  rw [wipeS_get]
  by_cases hk : k ∈ vs
  · rw [if_pos hk, h k hk, if_pos (by rw [hl]; exact (List.getElem?_eq_some_iff.mp (h k hk)).1)]
  · rw [if_neg hk, h' k hk]
theorem bare_no {es : Sls} {vs : List Nat} (h : ∀ i ∈ vs, es[i]? = some .no) : bare es vs = true := by
  unfold bare
  rw [List.all_eq_true]
  intro i hi
  rw [h i hi]
  rfl
theorem gN_no {es : Sls} {j : Nat} {d : Dt} (h : es[j]? = some .no) : gN j d es = some (es.set j (.dat d)) := by
  unfold gN noPar
  rw [h]
theorem set_dat {es : Sls} {j : Nat} {d : Dt} (h : es[j]? = some .no) : bare (es.set j (.dat d)) [j] = true ∧ wipeS (es.set j (.dat d)) [j] = es := by
  have hi := (List.getElem?_eq_some_iff.mp h).1
  constructor
  · unfold bare
    rw [List.all_cons, List.getElem?_set_self hi]
    rfl
  · exact wipe_set (fun i hi => by rw [List.mem_singleton.mp hi]; exact h) (by rw [List.length_set]) fun i hi => List.getElem?_set_ne (fun z => hi (by rw [z]; exact List.mem_singleton.mpr rfl))
theorem lc_items {j : Nat} {it : DI} {t : DT} {f : DE} {es : Sls} {items : List Dt} (φ : Dt → Option Dt) (hi : it es = some (items, es)) (hj : es[j]? = some .no) (hz : items.length ≤ 100000)
    (h : ∀ d ∈ items, (t (es.set j (.dat d)) = some (false, es.set j (.dat d)) ∧ φ d = none) ∨ (t (es.set j (.dat d)) = some (true, es.set j (.dat d)) ∧ ∃ r y, f (es.set j (.dat d)) = some (r, es.set j (.dat d)) ∧ r.fz = .dat y ∧ φ d = some y)) :
    lcF [j] it (gN j) t f es = some (.new (.lst (items.filterMap φ)), es) := by
  have hv : ∀ i ∈ [j], es[i]? = some .no := fun i hi => by rw [List.mem_singleton.mp hi]; exact hj
  have := lcF_fm (vs := [j]) (g := gN j) (t := t) (f := f) φ hi (bare_no hv) hz fun d hd => by
    rw [wipe_no hv]
    obtain ⟨h1, h2⟩ := set_dat (d := d) hj
    refine ⟨_, es.set j (.dat d), gN_no hj, h1, h2, ?_⟩
    rcases h d hd with ⟨h3, h4⟩ | ⟨h3, r, y, h4, h5, h6⟩
    · exact .inl ⟨h3, h4⟩
    · exact .inr ⟨_, r, y, h3, h4, h5, h6⟩
  rw [this, heal_wipe]
theorem lc_map {j : Nat} {it : DI} {f : DE} {es : Sls} {items : List Dt} (φ : Dt → Dt) (hi : it es = some (items, es)) (hj : es[j]? = some .no) (hz : items.length ≤ 100000)
    (h : ∀ d ∈ items, ∃ r, f (es.set j (.dat d)) = some (r, es.set j (.dat d)) ∧ r.fz = .dat (φ d)) :
    lcF [j] it (gN j) tyB f es = some (.new (.lst (items.map φ)), es) := by
  have := lc_items (t := tyB) (f := f) (fun d => some (φ d)) hi hj hz fun d hd => by
    obtain ⟨r, h1, h2⟩ := h d hd
    exact .inr ⟨rfl, r, φ d, h1, h2, rfl⟩
  rw [this]
  congr 3
  rw [← List.filterMap_eq_map]
  rfl
theorem rng1_eq {A : DA} {es es1 : Sls} {n : Int} (h : A es = some ([.dat (.int n)], es1)) (h1 : -(2 ^ 62) ≤ n) (h2 : n < 2 ^ 62) : rng1F A es = some (rangeD 0 n, es1) := by
  unfold rng1F
  rw [h]
  show (if -(2 ^ 62) ≤ n ∧ n < 2 ^ 62 then some (rangeD 0 n, es1) else none) = _
  rw [if_pos ⟨h1, h2⟩]
theorem rangeD_zero (n : Int) : rangeD 0 n = (List.range n.toNat).map fun i => .int (i : Nat) := by
  unfold rangeD
  rw [Int.sub_zero]
  exact List.map_congr_left fun i _ => by rw [Int.zero_add]
theorem lc_rng {j : Nat} {A : DA} {f : DE} {es : Sls} {n : Int} (φ : Nat → Dt) (hA : A es = some ([.dat (.int n)], es)) (hj : es[j]? = some .no) (h0 : 0 ≤ n) (hz : n ≤ 100000)
    (h : ∀ i : Nat, i < n.toNat → ∃ r, f (es.set j (.dat (.int (i : Nat)))) = some (r, es.set j (.dat (.int (i : Nat)))) ∧ r.fz = .dat (φ i)) :
    lcF [j] (rng1F A) (gN j) tyB f es = some (.new (.lst ((List.range n.toNat).map φ)), es) := by
  have hi := rng1_eq hA (by omega) (by omega)
  rw [rangeD_zero] at hi
  have := lc_map (f := f) (fun d => match d with
    | .int i => φ i.toNat
    | _ => .non) hi hj (by rw [List.length_map, List.length_range]; omega) fun d hd => by
      obtain ⟨i, hi, rfl⟩ := List.mem_map.mp hd
      obtain ⟨r, h1, h2⟩ := h i (List.mem_range.mp hi)
      exact ⟨r, h1, h2⟩
  rw [this, List.map_map]
  rfl
/-- target a pair, two slots of their own -/
theorem lc_pairs {i j : Nat} {it : DI} {t : DT} {f : DE} {es : Sls} (ps : List (Dt × Dt)) (φ : Dt × Dt → Option Dt) (hij : i ≠ j) (hi : it es = some (ps.map fun p => .tup [p.1, p.2], es)) (h1 : es[i]? = some .no) (h2 : es[j]? = some .no) (hz : ps.length ≤ 100000)
    (h : ∀ p ∈ ps, (t ((es.set i (.dat p.1)).set j (.dat p.2)) = some (false, (es.set i (.dat p.1)).set j (.dat p.2)) ∧ φ p = none) ∨ (t ((es.set i (.dat p.1)).set j (.dat p.2)) = some (true, (es.set i (.dat p.1)).set j (.dat p.2)) ∧ ∃ r y, f ((es.set i (.dat p.1)).set j (.dat p.2)) = some (r, (es.set i (.dat p.1)).set j (.dat p.2)) ∧ r.fz = .dat y ∧ φ p = some y)) :
    lcF [i, j] it (gT 2 (gsCons (gN i) (gsCons (gN j) gsNil))) t f es = some (.new (.lst (ps.filterMap φ)), es) := by
  have hv : ∀ k ∈ [i, j], es[k]? = some .no := fun k hk => by
    rcases List.mem_cons.mp hk with rfl | hk
    · exact h1
    · rw [List.mem_singleton.mp hk]; exact h2
  have li := (List.getElem?_eq_some_iff.mp h1).1
  have lj := (List.getElem?_eq_some_iff.mp h2).1
  have := lcF_fm (vs := [i, j]) (g := gT 2 (gsCons (gN i) (gsCons (gN j) gsNil))) (t := t) (f := f) (items := ps.map fun p => .tup [p.1, p.2]) (fun d => match d with
    | .tup [a, b] => φ (a, b)
    | _ => none) hi (bare_no hv) (by rw [List.length_map]; exact hz) fun d hd => by
    rw [wipe_no hv]
    obtain ⟨p, hp, rfl⟩ := List.mem_map.mp hd
    have hg : gT 2 (gsCons (gN i) (gsCons (gN j) gsNil)) (.tup [p.1, p.2]) es = some ((es.set i (.dat p.1)).set j (.dat p.2)) := by
      show ((gN i p.1 es).bind fun es1 => (gN j p.2 es1).bind fun es2 => some es2) = _
      rw [gN_no h1]
      show ((gN j p.2 (es.set i (.dat p.1))).bind fun es2 => some es2) = _
      rw [gN_no (by rw [List.getElem?_set_ne hij]; exact h2)]
      rfl
    refine ⟨_, (es.set i (.dat p.1)).set j (.dat p.2), hg, ?_, ?_, ?_⟩
    · unfold bare
      rw [List.all_cons, List.all_cons, List.getElem?_set_ne (Ne.symm hij), List.getElem?_set_self li, List.getElem?_set_self (by rw [List.length_set]; exact lj)]
      rfl
    · exact wipe_set hv (by rw [List.length_set, List.length_set]) fun k hk => by
        rw [List.getElem?_set_ne (fun z => hk (by rw [z]; simp)), List.getElem?_set_ne (fun z => hk (by rw [z]; simp))]
    · rcases h p hp with ⟨h3, h4⟩ | ⟨h3, r, y, h4, h5, h6⟩
      · exact .inl ⟨h3, h4⟩
      · exact .inr ⟨_, r, y, h3, h4, h5, h6⟩
  rw [this, heal_wipe, List.filterMap_map]
  rfl
theorem dc_items {j : Nat} {it : DI} {fk f : DE} {es : Sls} {items : List Dt} (κ : Dt → Key) (φ : Dt → Dt) (hi : it es = some (items, es)) (hj : es[j]? = some .no) (hz : items.length ≤ 100000) (nd : (items.map κ).Nodup)
    (h : ∀ d ∈ items, ∃ kd r, fk (es.set j (.dat d)) = some (.dat kd, es.set j (.dat d)) ∧ keyD kd = some (κ d) ∧ f (es.set j (.dat d)) = some (r, es.set j (.dat d)) ∧ r.fz = .dat (φ d)) :
    dcF [j] it (gN j) tyB fk f es = some (.new (.dct (items.map fun d => (κ d, φ d))), es) := by
  have hv : ∀ i ∈ [j], es[i]? = some .no := fun i hi => by rw [List.mem_singleton.mp hi]; exact hj
  have := dcF_fn (vs := [j]) (g := gN j) (t := tyB) (fk := fk) (f := f) κ φ hi (bare_no hv) hz nd fun d hd => by
    rw [wipe_no hv]
    obtain ⟨h1, h2⟩ := set_dat (d := d) hj
    obtain ⟨kd, r, h3, h4, h5, h6⟩ := h d hd
    exact ⟨_, _, _, _, kd, r, gN_no hj, rfl, h3, h4, h5, h6, h1, h2⟩
  rw [this, heal_wipe]
end PL

set_option Elab.async false
set_option linter.all false
set_option maxRecDepth 100000
set_option maxHeartbeats 4000000
namespace K74
open PySem PySem.Spec PyProof.Rows L2 PL
abbrev St := L2.St
def top (i : Nat) : Stmt := PySem.Challenge.pw_ringfall_k74_walks_between_two_places.main.body.getD i (.Pass ⟨0, 0, 0, 0⟩)
structure Env (K : PySem.W.Frag) (mg : Str → Option Value) : Prop where
  c_Web : Cls K (He.ga K "Web")
  f_all : mg "all" = none
  f_bool : mg "bool" = none
  f_dict : mg "dict" = none
  f_enumerate : mg "enumerate" = none
  f_int : mg "int" = none
  f_isinstance : mg "isinstance" = none
  f_len : mg "len" = none
  f_list : mg "list" = none
  f_max : mg "max" = none
  f_min : mg "min" = none
  f_range : mg "range" = none
  f_sorted : mg "sorted" = none
  f_str : mg "str" = none
  f_sum : mg "sum" = none
  f_tuple : mg "tuple" = none
  g_Web : mg "Web" = some (.ref (He.ga K "Web"))
  i_MOST_IN_WEB : ∃ t, mg "MOST_IN_WEB" = some (.int 16 t)
  i_MOST_LETTERS : ∃ t, mg "MOST_LETTERS" = some (.int 8 t)
  i_MOST_STEPS : ∃ t, mg "MOST_STEPS" = some (.int 400 t)
  i_MOST_WAYS : ∃ t, mg "MOST_WAYS" = some (.int 60 t)
  is_Web : C8.InsC K (He.ga K "Web")
  na_Web_places : NoAttr K (He.ga K "Web") "places"
  na_Web_ways : NoAttr K (He.ga K "Web") "ways"
  s_LETTERS : ∃ t, mg "LETTERS" = some (.str "abcdefghijklmnopqrstuvwxyz" t)

/-! ### is_whole -/
abbrev s_is_whole : Stmt := top 1
abbrev N_is_whole : List Str := ["thing"]
def b_is_whole : DS := (retB (andVF (isiF .int (vF 0)) (notVF (isiF .bl (vF 0)))))
def F_is_whole : DE := defF 1 1 b_is_whole
theorem sc_is_whole : FnScope N_is_whole ["thing"] (defScope s_is_whole) := ⟨rfl, rfl, rfl, by decide +kernel, rfl, by decide +kernel, by decide +kernel⟩
theorem bx_is_whole {P : Program} {w : World} {K : PySem.W.Frag} {mg : Str → Option Value} {base : Heap} (hE : Env K mg) {f : Addr} (cdv : Value) (A : Around) (outer : List PySem.Env) (s : Shared) (H : Hp) (E : XK) (hr : Room 0 (A.deeper (envOfC "is_whole" (defScope s_is_whole) s.heap.objs.size f cdv))) :
    Bx (cxOf CX0 P w K mg base N_is_whole "is_whole" (defScope s_is_whole) f cdv A outer s H E).nox (defBody s_is_whole) b_is_whole := by
  have hN : (cxOf CX0 P w K mg base N_is_whole "is_whole" (defScope s_is_whole) f cdv A outer s H E).nox.N.Nodup := sc_is_whole.nd
  have hu : (cxOf CX0 P w K mg base N_is_whole "is_whole" (defScope s_is_whole) f cdv A outer s H E).nox.A.units + 100 < cLine := by have := hr.un; show (A.deeper _).units + 100 < _; omega
  exact (bx_one (px_ret (sx_and (sx_isi .int hE.f_isinstance hE.f_int (sx_v 0)) (sx_one (sx_not (sx_isi .bl hE.f_isinstance hE.f_bool (sx_v 0)))))))
/-! ### is_within -/
abbrev s_is_within : Stmt := top 2
abbrev N_is_within : List Str := ["thing", "least", "most"]
def b_is_within : DS := (retB (andVF (callF F_is_whole [] (aOne (vF 0))) (chainF (ordP true true) (ordP true true) (vF 1) (vF 0) (vF 2))))
def F_is_within : DE := defF 3 3 b_is_within
theorem sc_is_within : FnScope N_is_within ["thing", "least", "most"] (defScope s_is_within) := ⟨rfl, rfl, rfl, by decide +kernel, rfl, by decide +kernel, by decide +kernel⟩
theorem bx_is_within {P : Program} {w : World} {K : PySem.W.Frag} {mg : Str → Option Value} {base : Heap} (hE : Env K mg) (c_is_whole : CalF P w K mg base 1 "is_whole" F_is_whole []) {f : Addr} (cdv : Value) (A : Around) (outer : List PySem.Env) (s : Shared) (H : Hp) (E : XK) (hr : Room 1 (A.deeper (envOfC "is_within" (defScope s_is_within) s.heap.objs.size f cdv))) :
    Bx (cxOf CX0 P w K mg base N_is_within "is_within" (defScope s_is_within) f cdv A outer s H E).nox (defBody s_is_within) b_is_within := by
  have hN : (cxOf CX0 P w K mg base N_is_within "is_within" (defScope s_is_within) f cdv A outer s H E).nox.N.Nodup := sc_is_within.nd
  have hu : (cxOf CX0 P w K mg base N_is_within "is_within" (defScope s_is_within) f cdv A outer s H E).nox.A.units + 100 < cLine := by have := hr.un; show (A.deeper _).units + 100 < _; omega
  exact (bx_one (px_ret (sx_and (sx_call c_is_whole hr (by decide) (sa_one (sx_v 0)) hd_one) (sx_one (sx_chain (ord_at true true (by exact hu)) (ord_op true true (by exact hu)) (fun _ _ _ h => ordP_ok h) (sx_v 1) (sx_v 0) (sx_v 2))))))
/-! ### is_name -/
abbrev s_is_name : Stmt := top 18
abbrev N_is_name : List Str := ["thing", "sign"]
def b_is_name : DS := (seqB (ifB (orF (notF (truF (isiF .str (vF 0)))) (notF (boolF (chainF (ordP true true) (ordP true true) (cF (.int 1)) (cbF lenP (aOne (vF 0))) (cF (.int 8)))))) (retB (cF (.bl false))) nilB) (retB (cbF allP (aOne (lcF [1] (itF (vF 0)) (gN 1) tyB (opF (inP false) (vF 1) (cF (.str "abcdefghijklmnopqrstuvwxyz"))))))))
def F_is_name : DE := defF 1 2 b_is_name
theorem sc_is_name : FnScope N_is_name ["thing"] (defScope s_is_name) := ⟨rfl, rfl, rfl, by decide +kernel, rfl, by decide +kernel, by decide +kernel⟩
theorem bx_is_name {P : Program} {w : World} {K : PySem.W.Frag} {mg : Str → Option Value} {base : Heap} (hE : Env K mg) {f : Addr} (cdv : Value) (A : Around) (outer : List PySem.Env) (s : Shared) (H : Hp) (E : XK) (hr : Room 0 (A.deeper (envOfC "is_name" (defScope s_is_name) s.heap.objs.size f cdv))) :
    Bx (cxOf CX0 P w K mg base N_is_name "is_name" (defScope s_is_name) f cdv A outer s H E).nox (defBody s_is_name) b_is_name := by
  have hN : (cxOf CX0 P w K mg base N_is_name "is_name" (defScope s_is_name) f cdv A outer s H E).nox.N.Nodup := sc_is_name.nd
  have hu : (cxOf CX0 P w K mg base N_is_name "is_name" (defScope s_is_name) f cdv A outer s H E).nox.A.units + 100 < cLine := by have := hr.un; show (A.deeper _).units + 100 < _; omega
  exact (bx_cons (px_if (tx_w (wx_or (tx_not (tx_val (sx_isi .str hE.f_isinstance hE.f_str (sx_v 0)))) (wx_or1 (tx_not (tx_chain (ord_at true true (by exact hu)) (ord_op true true (by exact hu)) (fun _ _ _ h => ordP_ok h) sx_int (sx_cbA (len_at) hE.f_len rfl (sa_one (sx_v 0))) (sx_gi hE.i_MOST_LETTERS)))))) (bx_one (px_ret sx_bl)) bx_nil) (bx_one (px_ret (sx_cbA (all_at rfl) hE.f_all rfl (sa_one (sx_lc rfl (by exact hN) (ix_e (sx_v 0)) (blkOk_by (own := [("sign", 1)]) (by kernel_rfl)) (fun _ _ _ _ _ => (gx_n (by exact hN))) (fun _ _ _ _ _ => tsx_nil) (fun _ _ _ _ _ => (sx_cmpA (in_at (by exact hu)) (sx_v 1) (sx_gs hE.s_LETTERS)))))))))
/-! ### is_way -/
abbrev s_is_way : Stmt := top 19
abbrev N_is_way : List Str := ["thing"]
def b_is_way : DS := (retB (andVF (isiF .tup (vF 0)) (andVF (opF (eqP false) (cbF lenP (aOne (vF 0))) (cF (.int 2))) (andVF (callF F_is_name [] (aOne (opF ixP (vF 0) (cF (.int 0))))) (callF F_is_name [] (aOne (opF ixP (vF 0) (cF (.int 1)))))))))
def F_is_way : DE := defF 1 1 b_is_way
theorem sc_is_way : FnScope N_is_way ["thing"] (defScope s_is_way) := ⟨rfl, rfl, rfl, by decide +kernel, rfl, by decide +kernel, by decide +kernel⟩
theorem bx_is_way {P : Program} {w : World} {K : PySem.W.Frag} {mg : Str → Option Value} {base : Heap} (hE : Env K mg) (c_is_name : CalF P w K mg base 1 "is_name" F_is_name []) {f : Addr} (cdv : Value) (A : Around) (outer : List PySem.Env) (s : Shared) (H : Hp) (E : XK) (hr : Room 1 (A.deeper (envOfC "is_way" (defScope s_is_way) s.heap.objs.size f cdv))) :
    Bx (cxOf CX0 P w K mg base N_is_way "is_way" (defScope s_is_way) f cdv A outer s H E).nox (defBody s_is_way) b_is_way := by
  have hN : (cxOf CX0 P w K mg base N_is_way "is_way" (defScope s_is_way) f cdv A outer s H E).nox.N.Nodup := sc_is_way.nd
  have hu : (cxOf CX0 P w K mg base N_is_way "is_way" (defScope s_is_way) f cdv A outer s H E).nox.A.units + 100 < cLine := by have := hr.un; show (A.deeper _).units + 100 < _; omega
  exact (bx_one (px_ret (sx_and (sx_isi .tup hE.f_isinstance hE.f_tuple (sx_v 0)) (sx_and (sx_cmpA (eq_at (by exact hu)) (sx_cbA (len_at) hE.f_len rfl (sa_one (sx_v 0))) sx_int) (sx_and (sx_call c_is_name hr (by decide) (sa_one (sx_ixA (ix_at (by exact hu)) (sx_v 0) sx_int)) hd_one) (sx_one (sx_call c_is_name hr (by decide) (sa_one (sx_ixA (ix_at (by exact hu)) (sx_v 0) sx_int)) hd_one)))))))
/-! ### check_ways -/
abbrev s_check_ways : Stmt := top 20
abbrev N_check_ways : List Str := ["ways", "number", "way"]
def b_check_ways : DS := (seqB (ifB (orF (notF (truF (isiF .tup (vF 0)))) (boolF (opF (ordP true false) (cbF lenP (aOne (vF 0))) (cF (.int 60))))) neverB nilB) (forB (enumF (aOne (vF 0))) (gT 2 (gsCons (gN 1) (gsCons (gN 2) gsNil))) (ifB (orF (notF (truF (callF F_is_way [] (aOne (vF 2))))) (boolF (opF (inP false) (vF 2) (slF slP (vF 0) oNone (oSome (vF 1)))))) neverB nilB)))
def F_check_ways : DE := defF 1 3 b_check_ways
theorem sc_check_ways : FnScope N_check_ways ["ways"] (defScope s_check_ways) := ⟨rfl, rfl, rfl, by decide +kernel, rfl, by decide +kernel, by decide +kernel⟩
theorem bx_check_ways {P : Program} {w : World} {K : PySem.W.Frag} {mg : Str → Option Value} {base : Heap} (hE : Env K mg) (c_is_way : CalF P w K mg base 2 "is_way" F_is_way []) {f : Addr} (cdv : Value) (A : Around) (outer : List PySem.Env) (s : Shared) (H : Hp) (E : XK) (hr : Room 2 (A.deeper (envOfC "check_ways" (defScope s_check_ways) s.heap.objs.size f cdv))) :
    Bx (cxOf CX0 P w K mg base N_check_ways "check_ways" (defScope s_check_ways) f cdv A outer s H E).nox (defBody s_check_ways) b_check_ways := by
  have hN : (cxOf CX0 P w K mg base N_check_ways "check_ways" (defScope s_check_ways) f cdv A outer s H E).nox.N.Nodup := sc_check_ways.nd
  have hu : (cxOf CX0 P w K mg base N_check_ways "check_ways" (defScope s_check_ways) f cdv A outer s H E).nox.A.units + 100 < cLine := by have := hr.un; show (A.deeper _).units + 100 < _; omega
  exact (bx_cons (px_if (tx_w (wx_or (tx_not (tx_val (sx_isi .tup hE.f_isinstance hE.f_tuple (sx_v 0)))) (wx_or1 (tx_cmpA (ord_at true false (by exact hu)) (sx_cbA (len_at) hE.f_len rfl (sa_one (sx_v 0))) (sx_gi hE.i_MOST_WAYS))))) (bx_one px_never) bx_nil) (bx_one (px_for PassesOwn.never rfl (ix_enum hE.f_enumerate (sa_one (sx_v 0))) (gx_t rfl (gsx_cons (gx_n (by exact hN)) (gsx_cons (gx_n (by exact hN)) gsx_nil))) (bx_one (px_if (tx_w (wx_or (tx_not (tx_val (sx_call c_is_way hr (by decide) (sa_one (sx_v 2)) hd_one))) (wx_or1 (tx_cmpA (in_at (by exact hu)) (sx_v 2) (sx_slA sl_at (sx_v 0) ox_none (ox_some (sx_v 1))))))) (bx_one px_never) bx_nil)))))
/-! ### check_alone -/
abbrev s_check_alone : Stmt := top 21
abbrev N_check_alone : List Str := ["alone", "joined", "number", "name"]
def b_check_alone : DS := (seqB (ifB (notF (truF (isiF .tup (vF 0)))) neverB nilB) (forB (enumF (aOne (vF 0))) (gT 2 (gsCons (gN 2) (gsCons (gN 3) gsNil))) (ifB (orF (notF (truF (callF F_is_name [] (aOne (vF 3))))) (orF (boolF (opF (inP false) (vF 3) (vF 1))) (boolF (opF (inP false) (vF 3) (slF slP (vF 0) oNone (oSome (vF 2))))))) neverB nilB)))
def F_check_alone : DE := defF 2 4 b_check_alone
theorem sc_check_alone : FnScope N_check_alone ["alone", "joined"] (defScope s_check_alone) := ⟨rfl, rfl, rfl, by decide +kernel, rfl, by decide +kernel, by decide +kernel⟩
theorem bx_check_alone {P : Program} {w : World} {K : PySem.W.Frag} {mg : Str → Option Value} {base : Heap} (hE : Env K mg) (c_is_name : CalF P w K mg base 1 "is_name" F_is_name []) {f : Addr} (cdv : Value) (A : Around) (outer : List PySem.Env) (s : Shared) (H : Hp) (E : XK) (hr : Room 1 (A.deeper (envOfC "check_alone" (defScope s_check_alone) s.heap.objs.size f cdv))) :
    Bx (cxOf CX0 P w K mg base N_check_alone "check_alone" (defScope s_check_alone) f cdv A outer s H E).nox (defBody s_check_alone) b_check_alone := by
  have hN : (cxOf CX0 P w K mg base N_check_alone "check_alone" (defScope s_check_alone) f cdv A outer s H E).nox.N.Nodup := sc_check_alone.nd
  have hu : (cxOf CX0 P w K mg base N_check_alone "check_alone" (defScope s_check_alone) f cdv A outer s H E).nox.A.units + 100 < cLine := by have := hr.un; show (A.deeper _).units + 100 < _; omega
  exact (bx_cons (px_if (tx_not (tx_val (sx_isi .tup hE.f_isinstance hE.f_tuple (sx_v 0)))) (bx_one px_never) bx_nil) (bx_one (px_for PassesOwn.never rfl (ix_enum hE.f_enumerate (sa_one (sx_v 0))) (gx_t rfl (gsx_cons (gx_n (by exact hN)) (gsx_cons (gx_n (by exact hN)) gsx_nil))) (bx_one (px_if (tx_w (wx_or (tx_not (tx_val (sx_call c_is_name hr (by decide) (sa_one (sx_v 3)) hd_one))) (wx_or (tx_cmpA (in_at (by exact hu)) (sx_v 3) (sx_v 1)) (wx_or1 (tx_cmpA (in_at (by exact hu)) (sx_v 3) (sx_slA sl_at (sx_v 0) ox_none (ox_some (sx_v 2)))))))) (bx_one px_never) bx_nil)))))
/-! ### Web.__init__ -/
abbrev s_Web___init__ : Stmt := (C8.clsBody (top 22)).getD 0 (.Pass ⟨0, 0, 0, 0⟩)
abbrev N_Web___init__ : List Str := ["self", "ways", "alone", "joined", "way", "place", "many"]
def b_Web___init__ : DS := (seqB (exprB (callF F_check_ways [] (aOne (vF 1)))) (seqB (setZ 3 (ssF [4, 5] [5] (itF (vF 1)) (gN 4) tyB (itF (vF 4)) (gN 5) tyB (vF 5))) (seqB (exprB (callF F_check_alone [] (aCons (vF 2) (aOne (vF 3))))) (seqB (setZ 6 (opF addP (cbF lenP (aOne (vF 3))) (cbF lenP (aOne (vF 2))))) (seqB (ifB (notF (boolF (chainF (ordP true true) (ordP true true) (cF (.int 1)) (vF 6) (cF (.int 16))))) neverB nilB) (seqB (fldB "Web" "ways" (cbF tuplP (aOne (cbF sortP (aOne (vF 1))))) 0) (fldB "Web" "places" (cbF tuplP (aOne (cbF sortP (aOne (opF addP (vF 3) (cbF listP (aOne (vF 2)))))))) 0)))))))
def F_Web___init__ : DE := defF 3 7 b_Web___init__
theorem sc_Web___init__ : FnScope N_Web___init__ ["self", "ways", "alone"] (defScope s_Web___init__) := ⟨rfl, rfl, rfl, by decide +kernel, rfl, by decide +kernel, by decide +kernel⟩
theorem bx_Web___init__ {P : Program} {w : World} {K : PySem.W.Frag} {mg : Str → Option Value} {base : Heap} (hE : Env K mg) (c_check_ways : CalF P w K mg base 3 "check_ways" F_check_ways []) (c_check_alone : CalF P w K mg base 2 "check_alone" F_check_alone []) {f : Addr} (cdv : Value) (A : Around) (outer : List PySem.Env) (s : Shared) (H : Hp) (E : XK) (hr : Room 3 (A.deeper (envOfC "Web.__init__" (defScope s_Web___init__) s.heap.objs.size f cdv))) :
    Bx (cxOf CX0 P w K mg base N_Web___init__ "Web.__init__" (defScope s_Web___init__) f cdv A outer s H E).nox (defBody s_Web___init__) b_Web___init__ := by
  have hN : (cxOf CX0 P w K mg base N_Web___init__ "Web.__init__" (defScope s_Web___init__) f cdv A outer s H E).nox.N.Nodup := sc_Web___init__.nd
  have hu : (cxOf CX0 P w K mg base N_Web___init__ "Web.__init__" (defScope s_Web___init__) f cdv A outer s H E).nox.A.units + 100 < cLine := by have := hr.un; show (A.deeper _).units + 100 < _; omega
  exact (bx_cons (px_expr (sx_call c_check_ways hr (by decide) (sa_one (sx_v 1)) hd_one)) (bx_cons (px_setZ (i := 3) hN (sx_ss (vs1 := [5]) rfl (by exact hu) (by exact hN) hE.f_sorted (ix_e (sx_v 1)) (blkOk_by (own := [("way", 4), ("place", 5)]) (by kernel_rfl)) (by decide) (fun _ _ _ _ _ => (gx_n (by exact hN))) (fun _ _ _ _ _ => tsx_nil) (fun _ _ _ _ _ => (ix_e (sx_v 4))) (fun _ _ _ _ _ => (gx_n (by exact hN))) (fun _ _ _ _ _ => tsx_nil) (fun _ _ _ _ _ => (sx_v 5)))) (bx_cons (px_expr (sx_call c_check_alone hr (by decide) (sa_cons (sx_v 2) (sa_one (sx_v 3))) (hd_cons hd_one))) (bx_cons (px_setZ (i := 6) hN (sx_opA add_at (sx_cbA (len_at) hE.f_len rfl (sa_one (sx_v 3))) (sx_cbA (len_at) hE.f_len rfl (sa_one (sx_v 2))))) (bx_cons (px_if (tx_not (tx_chain (ord_at true true (by exact hu)) (ord_op true true (by exact hu)) (fun _ _ _ h => ordP_ok h) sx_int (sx_v 6) (sx_gi hE.i_MOST_IN_WEB))) (bx_one px_never) bx_nil) (bx_cons (px_fld (k := 0) "Web" hE.c_Web hE.na_Web_ways (sx_tyA (tuple_at) hE.f_tuple rfl (sa_one (sx_cbA (sort_at (by exact hu)) hE.f_sorted rfl (sa_one (sx_v 1)))))) (bx_one (px_fld (k := 0) "Web" hE.c_Web hE.na_Web_places (sx_tyA (tuple_at) hE.f_tuple rfl (sa_one (sx_cbA (sort_at (by exact hu)) hE.f_sorted rfl (sa_one (sx_opA add_at (sx_v 3) (sx_tyA (list_at) hE.f_list rfl (sa_one (sx_v 2))))))))))))))))
/-! ### check_place -/
abbrev s_check_place : Stmt := top 24
abbrev N_check_place : List Str := ["web", "place"]
def b_check_place : DS := (ifB (orF (notF (truF (isiF .str (vF 1)))) (boolF (opF (inP true) (vF 1) (unF (attP "Web" "places") (vF 0))))) neverB nilB)
def F_check_place : DE := defF 2 2 b_check_place
theorem sc_check_place : FnScope N_check_place ["web", "place"] (defScope s_check_place) := ⟨rfl, rfl, rfl, by decide +kernel, rfl, by decide +kernel, by decide +kernel⟩
theorem bx_check_place {P : Program} {w : World} {K : PySem.W.Frag} {mg : Str → Option Value} {base : Heap} (hE : Env K mg) {f : Addr} (cdv : Value) (A : Around) (outer : List PySem.Env) (s : Shared) (H : Hp) (E : XK) (hr : Room 0 (A.deeper (envOfC "check_place" (defScope s_check_place) s.heap.objs.size f cdv))) :
    Bx (cxOf CX0 P w K mg base N_check_place "check_place" (defScope s_check_place) f cdv A outer s H E).nox (defBody s_check_place) b_check_place := by
  have hN : (cxOf CX0 P w K mg base N_check_place "check_place" (defScope s_check_place) f cdv A outer s H E).nox.N.Nodup := sc_check_place.nd
  have hu : (cxOf CX0 P w K mg base N_check_place "check_place" (defScope s_check_place) f cdv A outer s H E).nox.A.units + 100 < cLine := by have := hr.un; show (A.deeper _).units + 100 < _; omega
  exact (bx_one (px_if (tx_w (wx_or (tx_not (tx_val (sx_isi .str hE.f_isinstance hE.f_str (sx_v 1)))) (wx_or1 (tx_cmpA (notIn_at (by exact hu)) (sx_v 1) (sx_att "Web" hE.c_Web hE.na_Web_places (sx_v 0)))))) (bx_one px_never) bx_nil))
/-! ### Web.onward -/
abbrev s_Web_onward : Stmt := (C8.clsBody (top 22)).getD 1 (.Pass ⟨0, 0, 0, 0⟩)
abbrev N_Web_onward : List Str := ["self", "place", "one", "other"]
def b_Web_onward : DS := (seqB (exprB (callF F_check_place [] (aCons (vF 0) (aOne (vF 1))))) (retB (cbF tuplP (aOne (lcF [2, 3] (itF (unF (attP "Web" "ways") (vF 0))) (gT 2 (gsCons (gN 2) (gsCons (gN 3) gsNil))) (boolF (opF (eqP false) (vF 2) (vF 1))) (vF 3))))))
def F_Web_onward : DE := defF 2 4 b_Web_onward
theorem sc_Web_onward : FnScope N_Web_onward ["self", "place"] (defScope s_Web_onward) := ⟨rfl, rfl, rfl, by decide +kernel, rfl, by decide +kernel, by decide +kernel⟩
theorem bx_Web_onward {P : Program} {w : World} {K : PySem.W.Frag} {mg : Str → Option Value} {base : Heap} (hE : Env K mg) (c_check_place : CalF P w K mg base 1 "check_place" F_check_place []) {f : Addr} (cdv : Value) (A : Around) (outer : List PySem.Env) (s : Shared) (H : Hp) (E : XK) (hr : Room 1 (A.deeper (envOfC "Web.onward" (defScope s_Web_onward) s.heap.objs.size f cdv))) :
    Bx (cxOf CX0 P w K mg base N_Web_onward "Web.onward" (defScope s_Web_onward) f cdv A outer s H E).nox (defBody s_Web_onward) b_Web_onward := by
  have hN : (cxOf CX0 P w K mg base N_Web_onward "Web.onward" (defScope s_Web_onward) f cdv A outer s H E).nox.N.Nodup := sc_Web_onward.nd
  have hu : (cxOf CX0 P w K mg base N_Web_onward "Web.onward" (defScope s_Web_onward) f cdv A outer s H E).nox.A.units + 100 < cLine := by have := hr.un; show (A.deeper _).units + 100 < _; omega
  exact (bx_cons (px_expr (sx_call c_check_place hr (by decide) (sa_cons (sx_v 0) (sa_one (sx_v 1))) (hd_cons hd_one))) (bx_one (px_ret (sx_tyA (tuple_at) hE.f_tuple rfl (sa_one (sx_lc rfl (by exact hN) (ix_e (sx_att "Web" hE.c_Web hE.na_Web_ways (sx_v 0))) (blkOk_by (own := [("one", 2), ("other", 3)]) (by kernel_rfl)) (fun _ _ _ _ _ => (gx_t rfl (gsx_cons (gx_n (by exact hN)) (gsx_cons (gx_n (by exact hN)) gsx_nil)))) (fun _ _ _ _ _ => (tsx_one (tx_cmpA (eq_at (by exact hu)) (sx_v 2) (sx_v 1)))) (fun _ _ _ _ _ => (sx_v 3))))))))
/-! ### check_web -/
abbrev s_check_web : Stmt := top 23
abbrev N_check_web : List Str := ["thing"]
def b_check_web : DS := (ifB (notF (truF (isoF "Web" (vF 0)))) neverB nilB)
def F_check_web : DE := defF 1 1 b_check_web
theorem sc_check_web : FnScope N_check_web ["thing"] (defScope s_check_web) := ⟨rfl, rfl, rfl, by decide +kernel, rfl, by decide +kernel, by decide +kernel⟩
theorem bx_check_web {P : Program} {w : World} {K : PySem.W.Frag} {mg : Str → Option Value} {base : Heap} (hE : Env K mg) {f : Addr} (cdv : Value) (A : Around) (outer : List PySem.Env) (s : Shared) (H : Hp) (E : XK) (hr : Room 0 (A.deeper (envOfC "check_web" (defScope s_check_web) s.heap.objs.size f cdv))) :
    Bx (cxOf CX0 P w K mg base N_check_web "check_web" (defScope s_check_web) f cdv A outer s H E).nox (defBody s_check_web) b_check_web := by
  have hN : (cxOf CX0 P w K mg base N_check_web "check_web" (defScope s_check_web) f cdv A outer s H E).nox.N.Nodup := sc_check_web.nd
  have hu : (cxOf CX0 P w K mg base N_check_web "check_web" (defScope s_check_web) f cdv A outer s H E).nox.A.units + 100 < cLine := by have := hr.un; show (A.deeper _).units + 100 < _; omega
  exact (bx_one (px_if (tx_not (tx_val (sx_iso "Web" hE.f_isinstance hE.g_Web hE.is_Web (sx_v 0)))) (bx_one px_never) bx_nil))
/-! ### check_steps -/
abbrev s_check_steps : Stmt := top 27
abbrev N_check_steps : List Str := ["thing", "most"]
def b_check_steps : DS := (ifB (notF (truF (callF F_is_within [] (aCons (vF 0) (aCons (cF (.int 0)) (aOne (vF 1))))))) neverB nilB)
def F_check_steps : DE := defF 2 2 b_check_steps
theorem sc_check_steps : FnScope N_check_steps ["thing", "most"] (defScope s_check_steps) := ⟨rfl, rfl, rfl, by decide +kernel, rfl, by decide +kernel, by decide +kernel⟩
theorem bx_check_steps {P : Program} {w : World} {K : PySem.W.Frag} {mg : Str → Option Value} {base : Heap} (hE : Env K mg) (c_is_within : CalF P w K mg base 2 "is_within" F_is_within []) {f : Addr} (cdv : Value) (A : Around) (outer : List PySem.Env) (s : Shared) (H : Hp) (E : XK) (hr : Room 2 (A.deeper (envOfC "check_steps" (defScope s_check_steps) s.heap.objs.size f cdv))) :
    Bx (cxOf CX0 P w K mg base N_check_steps "check_steps" (defScope s_check_steps) f cdv A outer s H E).nox (defBody s_check_steps) b_check_steps := by
  have hN : (cxOf CX0 P w K mg base N_check_steps "check_steps" (defScope s_check_steps) f cdv A outer s H E).nox.N.Nodup := sc_check_steps.nd
  have hu : (cxOf CX0 P w K mg base N_check_steps "check_steps" (defScope s_check_steps) f cdv A outer s H E).nox.A.units + 100 < cLine := by have := hr.un; show (A.deeper _).units + 100 < _; omega
  exact (bx_one (px_if (tx_not (tx_val (sx_call c_is_within hr (by decide) (sa_cons (sx_v 0) (sa_cons sx_int (sa_one (sx_v 1)))) (hd_cons (hd_cons hd_one))))) (bx_one px_never) bx_nil))
/-! ### check_ends -/
abbrev s_check_ends : Stmt := top 28
abbrev N_check_ends : List Str := ["web", "start", "end"]
def b_check_ends : DS := (seqB (exprB (callF F_check_web [] (aOne (vF 0)))) (seqB (exprB (callF F_check_place [] (aCons (vF 0) (aOne (vF 1))))) (exprB (callF F_check_place [] (aCons (vF 0) (aOne (vF 2)))))))
def F_check_ends : DE := defF 3 3 b_check_ends
theorem sc_check_ends : FnScope N_check_ends ["web", "start", "end"] (defScope s_check_ends) := ⟨rfl, rfl, rfl, by decide +kernel, rfl, by decide +kernel, by decide +kernel⟩
theorem bx_check_ends {P : Program} {w : World} {K : PySem.W.Frag} {mg : Str → Option Value} {base : Heap} (hE : Env K mg) (c_check_web : CalF P w K mg base 1 "check_web" F_check_web []) (c_check_place : CalF P w K mg base 1 "check_place" F_check_place []) {f : Addr} (cdv : Value) (A : Around) (outer : List PySem.Env) (s : Shared) (H : Hp) (E : XK) (hr : Room 1 (A.deeper (envOfC "check_ends" (defScope s_check_ends) s.heap.objs.size f cdv))) :
    Bx (cxOf CX0 P w K mg base N_check_ends "check_ends" (defScope s_check_ends) f cdv A outer s H E).nox (defBody s_check_ends) b_check_ends := by
  have hN : (cxOf CX0 P w K mg base N_check_ends "check_ends" (defScope s_check_ends) f cdv A outer s H E).nox.N.Nodup := sc_check_ends.nd
  have hu : (cxOf CX0 P w K mg base N_check_ends "check_ends" (defScope s_check_ends) f cdv A outer s H E).nox.A.units + 100 < cLine := by have := hr.un; show (A.deeper _).units + 100 < _; omega
  exact (bx_cons (px_expr (sx_call c_check_web hr (by decide) (sa_one (sx_v 0)) hd_one)) (bx_cons (px_expr (sx_call c_check_place hr (by decide) (sa_cons (sx_v 0) (sa_one (sx_v 1))) (hd_cons hd_one))) (bx_one (px_expr (sx_call c_check_place hr (by decide) (sa_cons (sx_v 0) (sa_one (sx_v 2))) (hd_cons hd_one))))))
/-! ### many_from -/
abbrev s_many_from : Stmt := top 29
abbrev N_many_from : List Str := ["web", "end", "steps", "onward", "place", "ahead", "turn", "other"]
def b_many_from : DS := (seqB (setZ 3 (dcF [4] (itF (unF (attP "Web" "places") (vF 0))) (gN 4) tyB (vF 4) (methF "Web" "onward" F_Web_onward [] (vF 0) (aOne (vF 4))))) (seqB (setZ 5 (dcF [4] (itF (unF (attP "Web" "places") (vF 0))) (gN 4) tyB (vF 4) (cbF intP (aOne (opF (eqP false) (vF 4) (vF 1)))))) (seqB (forB (rng1F (aOne (vF 2))) (gN 6) (setZ 5 (dcF [4] (itF (unF (attP "Web" "places") (vF 0))) (gN 4) tyB (vF 4) (cbF sumP (aOne (lcF [7] (itF (opF ixP (vF 3) (vF 4))) (gN 7) tyB (opF ixP (vF 5) (vF 7)))))))) (retB (vF 5)))))
def F_many_from : DE := defF 3 8 b_many_from
theorem sc_many_from : FnScope N_many_from ["web", "end", "steps"] (defScope s_many_from) := ⟨rfl, rfl, rfl, by decide +kernel, rfl, by decide +kernel, by decide +kernel⟩
theorem bx_many_from {P : Program} {w : World} {K : PySem.W.Frag} {mg : Str → Option Value} {base : Heap} (hE : Env K mg) (cm_Web_onward : MetF P w K mg base 2 "Web" "onward" F_Web_onward []) {f : Addr} (cdv : Value) (A : Around) (outer : List PySem.Env) (s : Shared) (H : Hp) (E : XK) (hr : Room 2 (A.deeper (envOfC "many_from" (defScope s_many_from) s.heap.objs.size f cdv))) :
    Bx (cxOf CX0 P w K mg base N_many_from "many_from" (defScope s_many_from) f cdv A outer s H E).nox (defBody s_many_from) b_many_from := by
  have hN : (cxOf CX0 P w K mg base N_many_from "many_from" (defScope s_many_from) f cdv A outer s H E).nox.N.Nodup := sc_many_from.nd
  have hu : (cxOf CX0 P w K mg base N_many_from "many_from" (defScope s_many_from) f cdv A outer s H E).nox.A.units + 100 < cLine := by have := hr.un; show (A.deeper _).units + 100 < _; omega
  exact (bx_cons (px_setZ (i := 3) hN (sx_dc rfl (by exact hN) (ix_e (sx_att "Web" hE.c_Web hE.na_Web_places (sx_v 0))) (blkOk_by (own := [("place", 4)]) (by kernel_rfl)) (fun _ _ _ _ _ => (gx_n (by exact hN))) (fun _ _ _ _ _ => tsx_nil) (fun _ _ _ _ _ => (sx_v 4)) (fun _ _ _ _ _ => (sx_meth cm_Web_onward hr (by decide) (sx_v 0) (sa_one (sx_v 4)) hd_one)))) (bx_cons (px_setZ (i := 5) hN (sx_dc rfl (by exact hN) (ix_e (sx_att "Web" hE.c_Web hE.na_Web_places (sx_v 0))) (blkOk_by (own := [("place", 4)]) (by kernel_rfl)) (fun _ _ _ _ _ => (gx_n (by exact hN))) (fun _ _ _ _ _ => tsx_nil) (fun _ _ _ _ _ => (sx_v 4)) (fun _ _ _ _ _ => (sx_tyA (int_at) hE.f_int rfl (sa_one (sx_cmpA (eq_at (by exact hu)) (sx_v 4) (sx_v 1))))))) (bx_cons (px_for PassesOwn.never rfl (ix_r1 hE.f_range (sa_one (sx_v 2))) (gx_n (by exact hN)) (bx_one (px_setZ (i := 5) hN (sx_dc rfl (by exact hN) (ix_e (sx_att "Web" hE.c_Web hE.na_Web_places (sx_v 0))) (blkOk_by (own := [("place", 4)]) (by kernel_rfl)) (fun _ _ _ _ _ => (gx_n (by exact hN))) (fun _ _ _ _ _ => tsx_nil) (fun _ _ _ _ _ => (sx_v 4)) (fun _ _ _ _ _ => (sx_cbA (sum_at rfl) hE.f_sum rfl (sa_one (sx_lc rfl (by exact hN) (ix_e (sx_ixA (ix_at (by exact hu)) (sx_v 3) (sx_v 4))) (blkOk_by (own := [("other", 7)]) (by kernel_rfl)) (fun _ _ _ _ _ => (gx_n (by exact hN))) (fun _ _ _ _ _ => tsx_nil) (fun _ _ _ _ _ => (sx_ixA (ix_at (by exact hu)) (sx_v 5) (sx_v 7))))))))))) (bx_one (px_ret (sx_v 5))))))
/-! ### walks_many -/
abbrev s_walks_many : Stmt := top 30
abbrev N_walks_many : List Str := ["web", "start", "end", "steps"]
def b_walks_many : DS := (seqB (exprB (callF F_check_ends [] (aCons (vF 0) (aCons (vF 1) (aOne (vF 2)))))) (seqB (exprB (callF F_check_steps [] (aCons (vF 3) (aOne (cF (.int 400)))))) (retB (opF ixP (callF F_many_from [] (aCons (vF 0) (aCons (vF 2) (aOne (vF 3))))) (vF 1)))))
def F_walks_many : DE := defF 4 4 b_walks_many
theorem sc_walks_many : FnScope N_walks_many ["web", "start", "end", "steps"] (defScope s_walks_many) := ⟨rfl, rfl, rfl, by decide +kernel, rfl, by decide +kernel, by decide +kernel⟩
theorem bx_walks_many {P : Program} {w : World} {K : PySem.W.Frag} {mg : Str → Option Value} {base : Heap} (hE : Env K mg) (c_check_ends : CalF P w K mg base 2 "check_ends" F_check_ends []) (c_check_steps : CalF P w K mg base 3 "check_steps" F_check_steps []) (c_many_from : CalF P w K mg base 3 "many_from" F_many_from []) {f : Addr} (cdv : Value) (A : Around) (outer : List PySem.Env) (s : Shared) (H : Hp) (E : XK) (hr : Room 3 (A.deeper (envOfC "walks_many" (defScope s_walks_many) s.heap.objs.size f cdv))) :
    Bx (cxOf CX0 P w K mg base N_walks_many "walks_many" (defScope s_walks_many) f cdv A outer s H E).nox (defBody s_walks_many) b_walks_many := by
  have hN : (cxOf CX0 P w K mg base N_walks_many "walks_many" (defScope s_walks_many) f cdv A outer s H E).nox.N.Nodup := sc_walks_many.nd
  have hu : (cxOf CX0 P w K mg base N_walks_many "walks_many" (defScope s_walks_many) f cdv A outer s H E).nox.A.units + 100 < cLine := by have := hr.un; show (A.deeper _).units + 100 < _; omega
  exact (bx_cons (px_expr (sx_call c_check_ends hr (by decide) (sa_cons (sx_v 0) (sa_cons (sx_v 1) (sa_one (sx_v 2)))) (hd_cons (hd_cons hd_one)))) (bx_cons (px_expr (sx_call c_check_steps hr (by decide) (sa_cons (sx_v 3) (sa_one (sx_gi hE.i_MOST_STEPS))) (hd_cons hd_one))) (bx_one (px_ret (sx_ixA (ix_at (by exact hu)) (sx_call c_many_from hr (by decide) (sa_cons (sx_v 0) (sa_cons (sx_v 2) (sa_one (sx_v 3)))) (hd_cons (hd_cons hd_one))) (sx_v 1))))))
/-! ### _law_purse -/
abbrev s__law_purse : Stmt := top 32
abbrev N__law_purse : List Str := ["_law_script", "_law_k", "_law_cell"]
def b__law_purse : DS := (seqB (setZ 2 (opF ixP (opF addP (slF slP (vF 0) (oSome (vF 1)) (oSome (opF addP (vF 1) (cF (.int 1))))) (lstF (aOne (cF (.int 0))))) (cF (.int 0)))) (seqB (ifB (orF (boolF (opF (ordP false true) (vF 2) (opF powP (cF (.int 10)) (cF (.int 18))))) (boolF (opF (ordP false false) (vF 2) (cF (.int 0))))) (retB (lstF (aCons (cbF maxP (aCons (vF 2) (aOne (opF subP (unF negP (cF (.int 1))) (vF 2))))) (aOne (cF (.int 0)))))) nilB) (retB (lstF (aCons (cF (.int 0)) (aOne (opF addP (cF (.int 1)) (opF modP (opF addP (opF mulP (vF 2) (cF (.int 48271))) (opF mulP (opF mulP (opF addP (vF 1) (cF (.int 1))) (cF (.int 69621))) (opF addP (vF 1) (cF (.int 7))))) (cF (.int 2147483629))))))))))
def F__law_purse : DE := defF 2 3 b__law_purse
theorem sc__law_purse : FnScope N__law_purse ["_law_script", "_law_k"] (defScope s__law_purse) := ⟨rfl, rfl, rfl, by decide +kernel, rfl, by decide +kernel, by decide +kernel⟩
theorem bx__law_purse {P : Program} {w : World} {K : PySem.W.Frag} {mg : Str → Option Value} {base : Heap} (hE : Env K mg) {f : Addr} (cdv : Value) (A : Around) (outer : List PySem.Env) (s : Shared) (H : Hp) (E : XK) (hr : Room 0 (A.deeper (envOfC "_law_purse" (defScope s__law_purse) s.heap.objs.size f cdv))) :
    Bx (cxOf CX0 P w K mg base N__law_purse "_law_purse" (defScope s__law_purse) f cdv A outer s H E).nox (defBody s__law_purse) b__law_purse := by
  have hN : (cxOf CX0 P w K mg base N__law_purse "_law_purse" (defScope s__law_purse) f cdv A outer s H E).nox.N.Nodup := sc__law_purse.nd
  have hu : (cxOf CX0 P w K mg base N__law_purse "_law_purse" (defScope s__law_purse) f cdv A outer s H E).nox.A.units + 100 < cLine := by have := hr.un; show (A.deeper _).units + 100 < _; omega
  exact (bx_cons (px_setZ (i := 2) hN (sx_ixA (ix_at (by exact hu)) (sx_opA add_at (sx_slA sl_at (sx_v 0) (ox_some (sx_v 1)) (ox_some (sx_opA add_at (sx_v 1) sx_int))) (sx_lst (sa_one sx_int) hd_one)) sx_int)) (bx_cons (px_if (tx_w (wx_or (tx_cmpA (ord_at false true (by exact hu)) (sx_v 2) (sx_opA pow_at sx_int sx_int)) (wx_or1 (tx_cmpA (ord_at false false (by exact hu)) (sx_v 2) sx_int)))) (bx_one (px_ret (sx_lst (sa_cons (sx_cbA (max_at rfl) hE.f_max rfl (sa_cons (sx_v 2) (sa_one (sx_opA sub_at (sx_neg sx_int) (sx_v 2))))) (sa_one sx_int)) (hd_cons hd_one)))) bx_nil) (bx_one (px_ret (sx_lst (sa_cons sx_int (sa_one (sx_opA add_at sx_int (sx_opA mod_at (sx_opA add_at (sx_opA mul_at (sx_v 2) sx_int) (sx_opA mul_at (sx_opA mul_at (sx_opA add_at (sx_v 1) sx_int) sx_int) (sx_opA add_at (sx_v 1) sx_int))) sx_int)))) (hd_cons hd_one))))))
/-! ### _law_take -/
abbrev s__law_take : Stmt := top 33
abbrev N__law_take : List Str := ["_law_purse_here", "_law_many", "_law_found"]
def b__law_take : DS := (seqB (ifB (boolF (opF (eqP false) (opF ixP (vF 0) (cF (.int 1))) (cF (.int 0)))) (seqB (setZ 2 (opF modP (opF ixP (vF 0) (cF (.int 0))) (vF 1))) (seqB (stoB (opF divP (opF ixP (vF 0) (cF (.int 0))) (vF 1)) 0 (cF (.int 0))) (retB (vF 2)))) nilB) (seqB (stoB (opF addP (cF (.int 1)) (opF modP (opF addP (opF mulP (opF ixP (vF 0) (cF (.int 1))) (cF (.int 39373))) (cF (.int 7919))) (cF (.int 2147483587)))) 0 (cF (.int 1))) (retB (opF modP (opF divP (opF modP (opF mulP (opF ixP (vF 0) (cF (.int 1))) (cF (.int 30269))) (cF (.int 2147483563))) (cF (.int 11))) (vF 1)))))
def F__law_take : DE := defF 2 3 b__law_take
theorem sc__law_take : FnScope N__law_take ["_law_purse_here", "_law_many"] (defScope s__law_take) := ⟨rfl, rfl, rfl, by decide +kernel, rfl, by decide +kernel, by decide +kernel⟩
theorem bx__law_take {P : Program} {w : World} {K : PySem.W.Frag} {mg : Str → Option Value} {base : Heap} (hE : Env K mg) {f : Addr} (cdv : Value) (A : Around) (outer : List PySem.Env) (s : Shared) (H : Hp) (E : XK) (hr : Room 0 (A.deeper (envOfC "_law_take" (defScope s__law_take) s.heap.objs.size f cdv))) :
    Bx (cxOf CX0 P w K mg base N__law_take "_law_take" (defScope s__law_take) f cdv A outer s H E).nox (defBody s__law_take) b__law_take := by
  have hN : (cxOf CX0 P w K mg base N__law_take "_law_take" (defScope s__law_take) f cdv A outer s H E).nox.N.Nodup := sc__law_take.nd
  have hu : (cxOf CX0 P w K mg base N__law_take "_law_take" (defScope s__law_take) f cdv A outer s H E).nox.A.units + 100 < cLine := by have := hr.un; show (A.deeper _).units + 100 < _; omega
  exact (bx_cons (px_if (tx_cmpA (eq_at (by exact hu)) (sx_ixA (ix_at (by exact hu)) (sx_v 0) sx_int) sx_int) (bx_cons (px_setZ (i := 2) hN (sx_opA mod_at (sx_ixA (ix_at (by exact hu)) (sx_v 0) sx_int) (sx_v 1))) (bx_cons (px_sto (k := 0) (by exact hu) (sx_opA div_at (sx_ixA (ix_at (by exact hu)) (sx_v 0) sx_int) (sx_v 1)) sx_int) (bx_one (px_ret (sx_v 2))))) bx_nil) (bx_cons (px_sto (k := 0) (by exact hu) (sx_opA add_at sx_int (sx_opA mod_at (sx_opA add_at (sx_opA mul_at (sx_ixA (ix_at (by exact hu)) (sx_v 0) sx_int) sx_int) sx_int) sx_int)) sx_int) (bx_one (px_ret (sx_opA mod_at (sx_opA div_at (sx_opA mod_at (sx_opA mul_at (sx_ixA (ix_at (by exact hu)) (sx_v 0) sx_int) sx_int) sx_int) sx_int) (sx_v 1))))))
/-! ### _law_names -/
abbrev s__law_names : Stmt := top 34
abbrev N__law_names : List Str := ["_law_purse_here", "_law_many", "_law_letters", "_law_menu", "_law_first", "_law_way", "_law_k", "_law_stem", "_law_at", "_law_begin"]
def b__law_names : DS := (seqB (setZ 2 (cF (.str "abcdefghijklmnopqrstuvwxyz"))) (seqB (setZ 3 (lstF (aCons (cF (.str "set")) (aCons (cF (.str "step")) (aCons (cF (.str "walk")) (aCons (cF (.str "back")) (aCons (cF (.str "thread")) (aCons (cF (.str "steps")) (aCons (cF (.str "layers")) (aCons (cF (.str "bare")) (aCons (cF (.str "log")) (aCons (cF (.str "orders")) (aCons (cF (.str "told")) (aCons (cF (.str "far")) (aCons (cF (.str "many")) (aCons (cF (.str "by")) (aCons (cF (.str "paper")) (aCons (cF (.str "none")) (aCons (cF (.str "w")) (aCons (cF (.str "x")) (aCons (cF (.str "a")) (aOne (cF (.str "b")))))))))))))))))))))))) (seqB (asgB (gT 2 (gsCons (gN 4) (gsCons (gN 5) gsNil))) (tupF (aCons (callF F__law_take [] (aCons (vF 0) (aOne (cF (.int 20))))) (aOne (callF F__law_take [] (aCons (vF 0) (aOne (cF (.int 4))))))))) (seqB (ifB (boolF (opF (eqP false) (vF 5) (cF (.int 0)))) (retB (lcF [6] (rng1F (aOne (vF 1))) (gN 6) tyB (opF ixP (vF 3) (opF modP (opF addP (vF 4) (opF mulP (cF (.int 3)) (vF 6))) (cF (.int 20)))))) nilB) (seqB (setZ 7 (txF joinP (cF (.str "")) (lcF [6] (rng1F (aOne (callF F__law_take [] (aCons (vF 0) (aOne (cF (.int 8))))))) (gN 6) tyB (opF ixP (vF 2) (callF F__law_take [] (aCons (vF 0) (aOne (cF (.int 26))))))))) (seqB (asgB (gT 2 (gsCons (gN 8) (gsCons (gN 9) gsNil))) (tupF (aCons (callF F__law_take [] (aCons (vF 0) (aOne (opF addP (cbF lenP (aOne (vF 7))) (cF (.int 1)))))) (aOne (callF F__law_take [] (aCons (vF 0) (aOne (cF (.int 26))))))))) (retB (lcF [6] (rng1F (aOne (vF 1))) (gN 6) tyB (opF addP (opF addP (slF slP (vF 7) oNone (oSome (vF 8))) (opF ixP (vF 2) (opF modP (opF addP (vF 9) (opF mulP (cF (.int 5)) (vF 6))) (cF (.int 26))))) (slF slP (vF 7) (oSome (vF 8)) oNone))))))))))
def F__law_names : DE := defF 2 10 b__law_names
theorem sc__law_names : FnScope N__law_names ["_law_purse_here", "_law_many"] (defScope s__law_names) := ⟨rfl, rfl, rfl, by decide +kernel, rfl, by decide +kernel, by decide +kernel⟩
theorem bx__law_names {P : Program} {w : World} {K : PySem.W.Frag} {mg : Str → Option Value} {base : Heap} (hE : Env K mg) (c__law_take : CalF P w K mg base 1 "_law_take" F__law_take []) {f : Addr} (cdv : Value) (A : Around) (outer : List PySem.Env) (s : Shared) (H : Hp) (E : XK) (hr : Room 1 (A.deeper (envOfC "_law_names" (defScope s__law_names) s.heap.objs.size f cdv))) :
    Bx (cxOf CX0 P w K mg base N__law_names "_law_names" (defScope s__law_names) f cdv A outer s H E).nox (defBody s__law_names) b__law_names := by
  have hN : (cxOf CX0 P w K mg base N__law_names "_law_names" (defScope s__law_names) f cdv A outer s H E).nox.N.Nodup := sc__law_names.nd
  have hu : (cxOf CX0 P w K mg base N__law_names "_law_names" (defScope s__law_names) f cdv A outer s H E).nox.A.units + 100 < cLine := by have := hr.un; show (A.deeper _).units + 100 < _; omega
  exact (bx_cons (px_setZ (i := 2) hN sx_str) (bx_cons (px_setZ (i := 3) hN (sx_lst (sa_cons sx_str (sa_cons sx_str (sa_cons sx_str (sa_cons sx_str (sa_cons sx_str (sa_cons sx_str (sa_cons sx_str (sa_cons sx_str (sa_cons sx_str (sa_cons sx_str (sa_cons sx_str (sa_cons sx_str (sa_cons sx_str (sa_cons sx_str (sa_cons sx_str (sa_cons sx_str (sa_cons sx_str (sa_cons sx_str (sa_cons sx_str (sa_one sx_str)))))))))))))))))))) (hd_cons (hd_cons (hd_cons (hd_cons (hd_cons (hd_cons (hd_cons (hd_cons (hd_cons (hd_cons (hd_cons (hd_cons (hd_cons (hd_cons (hd_cons (hd_cons (hd_cons (hd_cons (hd_cons hd_one))))))))))))))))))))) (bx_cons (px_asg (sx_tup (sa_cons (sx_call c__law_take hr (by decide) (sa_cons (sx_v 0) (sa_one sx_int)) (hd_cons hd_one)) (sa_one (sx_call c__law_take hr (by decide) (sa_cons (sx_v 0) (sa_one sx_int)) (hd_cons hd_one)))) (hd_cons hd_one)) (gx_t rfl (gsx_cons (gx_n (by exact hN)) (gsx_cons (gx_n (by exact hN)) gsx_nil)))) (bx_cons (px_if (tx_cmpA (eq_at (by exact hu)) (sx_v 5) sx_int) (bx_one (px_ret (sx_lc rfl (by exact hN) (ix_r1 hE.f_range (sa_one (sx_v 1))) (blkOk_by (own := [("_law_k", 6)]) (by kernel_rfl)) (fun _ _ _ _ _ => (gx_n (by exact hN))) (fun _ _ _ _ _ => tsx_nil) (fun _ _ _ _ _ => (sx_ixA (ix_at (by exact hu)) (sx_v 3) (sx_opA mod_at (sx_opA add_at (sx_v 4) (sx_opA mul_at sx_int (sx_v 6))) sx_int)))))) bx_nil) (bx_cons (px_setZ (i := 7) hN (sx_join sx_str (sx_lc rfl (by exact hN) (ix_r1 hE.f_range (sa_one (sx_call c__law_take hr (by decide) (sa_cons (sx_v 0) (sa_one sx_int)) (hd_cons hd_one)))) (blkOk_by (own := [("_law_k", 6)]) (by kernel_rfl)) (fun _ _ _ _ _ => (gx_n (by exact hN))) (fun _ _ _ _ _ => tsx_nil) (fun _ _ _ _ _ => (sx_ixA (ix_at (by exact hu)) (sx_v 2) (sx_call c__law_take hr (by decide) (sa_cons (sx_v 0) (sa_one sx_int)) (hd_cons hd_one))))))) (bx_cons (px_asg (sx_tup (sa_cons (sx_call c__law_take hr (by decide) (sa_cons (sx_v 0) (sa_one (sx_opA add_at (sx_cbA (len_at) hE.f_len rfl (sa_one (sx_v 7))) sx_int))) (hd_cons hd_one)) (sa_one (sx_call c__law_take hr (by decide) (sa_cons (sx_v 0) (sa_one sx_int)) (hd_cons hd_one)))) (hd_cons hd_one)) (gx_t rfl (gsx_cons (gx_n (by exact hN)) (gsx_cons (gx_n (by exact hN)) gsx_nil)))) (bx_one (px_ret (sx_lc rfl (by exact hN) (ix_r1 hE.f_range (sa_one (sx_v 1))) (blkOk_by (own := [("_law_k", 6)]) (by kernel_rfl)) (fun _ _ _ _ _ => (gx_n (by exact hN))) (fun _ _ _ _ _ => tsx_nil) (fun _ _ _ _ _ => (sx_opA add_at (sx_opA add_at (sx_slA sl_at (sx_v 7) ox_none (ox_some (sx_v 8))) (sx_ixA (ix_at (by exact hu)) (sx_v 2) (sx_opA mod_at (sx_opA add_at (sx_v 9) (sx_opA mul_at sx_int (sx_v 6))) sx_int))) (sx_slA sl_at (sx_v 7) (ox_some (sx_v 8)) ox_none))))))))))))
/-! ### _law_ways -/
abbrev s__law_ways : Stmt := top 35
abbrev N__law_ways : List Str := ["_law_purse_here", "_law_names_here", "_law_thick", "_law_ways_here", "_law_one", "_law_other", "_law_at"]
def b__law_ways : DS := (seqB (setB 3 (lstF aNil)) (seqB (forB (itF (vF 1)) (gN 4) (exprB (mtF extP 3 (aOne (lcF [5] (itF (vF 1)) (gN 5) (boolF (opF (ordP false false) (callF F__law_take [] (aCons (vF 0) (aOne (cF (.int 4))))) (vF 2))) (tupF (aCons (vF 4) (aOne (vF 5))))))))) (seqB (setZ 6 (callF F__law_take [] (aCons (vF 0) (aOne (opF addP (cbF lenP (aOne (vF 3))) (cF (.int 1))))))) (retB (cbF tuplP (aOne (slF slP (opF addP (slF slP (vF 3) (oSome (vF 6)) oNone) (slF slP (vF 3) oNone (oSome (vF 6)))) oNone (oSome (cF (.int 60))))))))))
def F__law_ways : DE := defF 3 7 b__law_ways
theorem sc__law_ways : FnScope N__law_ways ["_law_purse_here", "_law_names_here", "_law_thick"] (defScope s__law_ways) := ⟨rfl, rfl, rfl, by decide +kernel, rfl, by decide +kernel, by decide +kernel⟩
theorem bx__law_ways {P : Program} {w : World} {K : PySem.W.Frag} {mg : Str → Option Value} {base : Heap} (hE : Env K mg) (c__law_take : CalF P w K mg base 1 "_law_take" F__law_take []) {f : Addr} (cdv : Value) (A : Around) (outer : List PySem.Env) (s : Shared) (H : Hp) (E : XK) (hr : Room 1 (A.deeper (envOfC "_law_ways" (defScope s__law_ways) s.heap.objs.size f cdv))) :
    Bx (cxOf CX0 P w K mg base N__law_ways "_law_ways" (defScope s__law_ways) f cdv A outer s H E).nox (defBody s__law_ways) b__law_ways := by
  have hN : (cxOf CX0 P w K mg base N__law_ways "_law_ways" (defScope s__law_ways) f cdv A outer s H E).nox.N.Nodup := sc__law_ways.nd
  have hu : (cxOf CX0 P w K mg base N__law_ways "_law_ways" (defScope s__law_ways) f cdv A outer s H E).nox.A.units + 100 < cLine := by have := hr.un; show (A.deeper _).units + 100 < _; omega
  exact (bx_cons (px_set (i := 3) hN (sx_lst sa_nil hd_nil)) (bx_cons (px_for PassesOwn.never rfl (ix_e (sx_v 1)) (gx_n (by exact hN)) (bx_one (px_expr (sx_mt (k := 3) ext_ok (sa_one (sx_lc rfl (by exact hN) (ix_e (sx_v 1)) (blkOk_by (own := [("_law_other", 5)]) (by kernel_rfl)) (fun _ _ _ _ _ => (gx_n (by exact hN))) (fun _ _ _ _ _ => (tsx_one (tx_cmpA (ord_at false false (by exact hu)) (sx_call c__law_take hr (by decide) (sa_cons (sx_v 0) (sa_one sx_int)) (hd_cons hd_one)) (sx_v 2)))) (fun _ _ _ _ _ => (sx_tup (sa_cons (sx_v 4) (sa_one (sx_v 5))) (hd_cons hd_one))))) hd_one)))) (bx_cons (px_setZ (i := 6) hN (sx_call c__law_take hr (by decide) (sa_cons (sx_v 0) (sa_one (sx_opA add_at (sx_cbA (len_at) hE.f_len rfl (sa_one (sx_v 3))) sx_int))) (hd_cons hd_one))) (bx_one (px_ret (sx_tyA (tuple_at) hE.f_tuple rfl (sa_one (sx_slA sl_at (sx_opA add_at (sx_slA sl_at (sx_v 3) (ox_some (sx_v 6)) ox_none) (sx_slA sl_at (sx_v 3) ox_none (ox_some (sx_v 6)))) ox_none (ox_some sx_int)))))))))
/-! ### _law_lonely -/
abbrev s__law_lonely : Stmt := top 36
abbrev N__law_lonely : List Str := ["_law_names_here", "_law_ways_here", "_law_stood", "_law_way", "_law_name"]
def b__law_lonely : DS := (seqB (setZ 2 (opF addP (lcF [3] (itF (vF 1)) (gN 3) tyB (opF ixP (vF 3) (cF (.int 0)))) (lcF [3] (itF (vF 1)) (gN 3) tyB (opF ixP (vF 3) (cF (.int 1)))))) (retB (cbF tuplP (aOne (lcF [4] (itF (vF 0)) (gN 4) (boolF (opF (inP true) (vF 4) (vF 2))) (vF 4))))))
def F__law_lonely : DE := defF 2 5 b__law_lonely
theorem sc__law_lonely : FnScope N__law_lonely ["_law_names_here", "_law_ways_here"] (defScope s__law_lonely) := ⟨rfl, rfl, rfl, by decide +kernel, rfl, by decide +kernel, by decide +kernel⟩
theorem bx__law_lonely {P : Program} {w : World} {K : PySem.W.Frag} {mg : Str → Option Value} {base : Heap} (hE : Env K mg) {f : Addr} (cdv : Value) (A : Around) (outer : List PySem.Env) (s : Shared) (H : Hp) (E : XK) (hr : Room 0 (A.deeper (envOfC "_law_lonely" (defScope s__law_lonely) s.heap.objs.size f cdv))) :
    Bx (cxOf CX0 P w K mg base N__law_lonely "_law_lonely" (defScope s__law_lonely) f cdv A outer s H E).nox (defBody s__law_lonely) b__law_lonely := by
  have hN : (cxOf CX0 P w K mg base N__law_lonely "_law_lonely" (defScope s__law_lonely) f cdv A outer s H E).nox.N.Nodup := sc__law_lonely.nd
  have hu : (cxOf CX0 P w K mg base N__law_lonely "_law_lonely" (defScope s__law_lonely) f cdv A outer s H E).nox.A.units + 100 < cLine := by have := hr.un; show (A.deeper _).units + 100 < _; omega
  exact (bx_cons (px_setZ (i := 2) hN (sx_opA add_at (sx_lc rfl (by exact hN) (ix_e (sx_v 1)) (blkOk_by (own := [("_law_way", 3)]) (by kernel_rfl)) (fun _ _ _ _ _ => (gx_n (by exact hN))) (fun _ _ _ _ _ => tsx_nil) (fun _ _ _ _ _ => (sx_ixA (ix_at (by exact hu)) (sx_v 3) sx_int))) (sx_lc rfl (by exact hN) (ix_e (sx_v 1)) (blkOk_by (own := [("_law_way", 3)]) (by kernel_rfl)) (fun _ _ _ _ _ => (gx_n (by exact hN))) (fun _ _ _ _ _ => tsx_nil) (fun _ _ _ _ _ => (sx_ixA (ix_at (by exact hu)) (sx_v 3) sx_int))))) (bx_one (px_ret (sx_tyA (tuple_at) hE.f_tuple rfl (sa_one (sx_lc rfl (by exact hN) (ix_e (sx_v 0)) (blkOk_by (own := [("_law_name", 4)]) (by kernel_rfl)) (fun _ _ _ _ _ => (gx_n (by exact hN))) (fun _ _ _ _ _ => (tsx_one (tx_cmpA (notIn_at (by exact hu)) (sx_v 4) (sx_v 2)))) (fun _ _ _ _ _ => (sx_v 4))))))))
/-! ### _law_net -/
abbrev s__law_net : Stmt := top 37
abbrev N__law_net : List Str := ["_law_purse_here", "_law_most", "_law_thick", "_law_names_here", "_law_ways_here"]
def b__law_net : DS := (seqB (setZ 3 (callF F__law_names [] (aCons (vF 0) (aOne (opF addP (cF (.int 1)) (callF F__law_take [] (aCons (vF 0) (aOne (vF 1))))))))) (seqB (setZ 4 (callF F__law_ways [] (aCons (vF 0) (aCons (vF 3) (aOne (vF 2)))))) (retB (tupF (aCons (vF 3) (aCons (vF 4) (aOne (makeF "Web" F_Web___init__ 1 1 [0, 1, 2] (aOne (vF 4)) (aCons (callF F__law_lonely [] (aCons (vF 3) (aOne (vF 4)))) aNil)))))))))
def F__law_net : DE := defF 3 5 b__law_net
theorem sc__law_net : FnScope N__law_net ["_law_purse_here", "_law_most", "_law_thick"] (defScope s__law_net) := ⟨rfl, rfl, rfl, by decide +kernel, rfl, by decide +kernel, by decide +kernel⟩
theorem bx__law_net {P : Program} {w : World} {K : PySem.W.Frag} {mg : Str → Option Value} {base : Heap} (hE : Env K mg) (c__law_take : CalF P w K mg base 1 "_law_take" F__law_take []) (c__law_names : CalF P w K mg base 2 "_law_names" F__law_names []) (c__law_ways : CalF P w K mg base 2 "_law_ways" F__law_ways []) (c__law_lonely : CalF P w K mg base 1 "_law_lonely" F__law_lonely []) (mk_Web : MakF P w K mg base 4 "Web" F_Web___init__ 1 ["alone"] [0, 1, 2]) {f : Addr} (cdv : Value) (A : Around) (outer : List PySem.Env) (s : Shared) (H : Hp) (E : XK) (hr : Room 5 (A.deeper (envOfC "_law_net" (defScope s__law_net) s.heap.objs.size f cdv))) :
    Bx (cxOf CX0 P w K mg base N__law_net "_law_net" (defScope s__law_net) f cdv A outer s H E).nox (defBody s__law_net) b__law_net := by
  have hN : (cxOf CX0 P w K mg base N__law_net "_law_net" (defScope s__law_net) f cdv A outer s H E).nox.N.Nodup := sc__law_net.nd
  have hu : (cxOf CX0 P w K mg base N__law_net "_law_net" (defScope s__law_net) f cdv A outer s H E).nox.A.units + 100 < cLine := by have := hr.un; show (A.deeper _).units + 100 < _; omega
  exact (bx_cons (px_setZ (i := 3) hN (sx_call c__law_names hr (by decide) (sa_cons (sx_v 0) (sa_one (sx_opA add_at sx_int (sx_call c__law_take hr (by decide) (sa_cons (sx_v 0) (sa_one (sx_v 1))) (hd_cons hd_one))))) (hd_cons hd_one))) (bx_cons (px_setZ (i := 4) hN (sx_call c__law_ways hr (by decide) (sa_cons (sx_v 0) (sa_cons (sx_v 3) (sa_one (sx_v 2)))) (hd_cons (hd_cons hd_one)))) (bx_one (px_ret (sx_tup (sa_cons (sx_v 3) (sa_cons (sx_v 4) (sa_one (sx_make mk_Web hr (by decide) (sa_one (sx_v 4)) hd_one (sk_cons (sx_call c__law_lonely hr (by decide) (sa_cons (sx_v 3) (sa_one (sx_v 4))) (hd_cons hd_one)) sk_nil) (hd_cons hd_nil) (m := 1) rfl)))) (hd_cons (hd_cons hd_one)))))))
/-! ### _law_whole -/
abbrev s__law_whole : Stmt := top 38
abbrev N__law_whole : List Str := ["_law_thing"]
def b__law_whole : DS := (retB (andVF (isiF .int (vF 0)) (notVF (isiF .bl (vF 0)))))
def F__law_whole : DE := defF 1 1 b__law_whole
theorem sc__law_whole : FnScope N__law_whole ["_law_thing"] (defScope s__law_whole) := ⟨rfl, rfl, rfl, by decide +kernel, rfl, by decide +kernel, by decide +kernel⟩
theorem bx__law_whole {P : Program} {w : World} {K : PySem.W.Frag} {mg : Str → Option Value} {base : Heap} (hE : Env K mg) {f : Addr} (cdv : Value) (A : Around) (outer : List PySem.Env) (s : Shared) (H : Hp) (E : XK) (hr : Room 0 (A.deeper (envOfC "_law_whole" (defScope s__law_whole) s.heap.objs.size f cdv))) :
    Bx (cxOf CX0 P w K mg base N__law_whole "_law_whole" (defScope s__law_whole) f cdv A outer s H E).nox (defBody s__law_whole) b__law_whole := by
  have hN : (cxOf CX0 P w K mg base N__law_whole "_law_whole" (defScope s__law_whole) f cdv A outer s H E).nox.N.Nodup := sc__law_whole.nd
  have hu : (cxOf CX0 P w K mg base N__law_whole "_law_whole" (defScope s__law_whole) f cdv A outer s H E).nox.A.units + 100 < cLine := by have := hr.un; show (A.deeper _).units + 100 < _; omega
  exact (bx_one (px_ret (sx_and (sx_isi .int hE.f_isinstance hE.f_int (sx_v 0)) (sx_one (sx_not (sx_isi .bl hE.f_isinstance hE.f_bool (sx_v 0)))))))
/-! ### _law_longer -/
abbrev s__law_longer : Stmt := top 39
abbrev N__law_longer : List Str := ["_law_rows", "_law_ways_here", "_law_found", "_law_row", "_law_one", "_law_other"]
def b__law_longer : DS := (seqB (setB 2 (lstF aNil)) (seqB (forB (itF (vF 0)) (gN 3) (exprB (mtF extP 2 (aOne (lcF [4, 5] (itF (vF 1)) (gT 2 (gsCons (gN 4) (gsCons (gN 5) gsNil))) (boolF (opF (eqP false) (vF 4) (opF ixP (vF 3) (unF negP (cF (.int 1)))))) (opF addP (vF 3) (tupF (aOne (vF 5))))))))) (retB (vF 2))))
def F__law_longer : DE := defF 2 6 b__law_longer
theorem sc__law_longer : FnScope N__law_longer ["_law_rows", "_law_ways_here"] (defScope s__law_longer) := ⟨rfl, rfl, rfl, by decide +kernel, rfl, by decide +kernel, by decide +kernel⟩
theorem bx__law_longer {P : Program} {w : World} {K : PySem.W.Frag} {mg : Str → Option Value} {base : Heap} (hE : Env K mg) {f : Addr} (cdv : Value) (A : Around) (outer : List PySem.Env) (s : Shared) (H : Hp) (E : XK) (hr : Room 0 (A.deeper (envOfC "_law_longer" (defScope s__law_longer) s.heap.objs.size f cdv))) :
    Bx (cxOf CX0 P w K mg base N__law_longer "_law_longer" (defScope s__law_longer) f cdv A outer s H E).nox (defBody s__law_longer) b__law_longer := by
  have hN : (cxOf CX0 P w K mg base N__law_longer "_law_longer" (defScope s__law_longer) f cdv A outer s H E).nox.N.Nodup := sc__law_longer.nd
  have hu : (cxOf CX0 P w K mg base N__law_longer "_law_longer" (defScope s__law_longer) f cdv A outer s H E).nox.A.units + 100 < cLine := by have := hr.un; show (A.deeper _).units + 100 < _; omega
  exact (bx_cons (px_set (i := 2) hN (sx_lst sa_nil hd_nil)) (bx_cons (px_for PassesOwn.never rfl (ix_e (sx_v 0)) (gx_n (by exact hN)) (bx_one (px_expr (sx_mt (k := 2) ext_ok (sa_one (sx_lc rfl (by exact hN) (ix_e (sx_v 1)) (blkOk_by (own := [("_law_one", 4), ("_law_other", 5)]) (by kernel_rfl)) (fun _ _ _ _ _ => (gx_t rfl (gsx_cons (gx_n (by exact hN)) (gsx_cons (gx_n (by exact hN)) gsx_nil)))) (fun _ _ _ _ _ => (tsx_one (tx_cmpA (eq_at (by exact hu)) (sx_v 4) (sx_ixA (ix_at (by exact hu)) (sx_v 3) (sx_neg sx_int))))) (fun _ _ _ _ _ => (sx_opA add_at (sx_v 3) (sx_tup (sa_one (sx_v 5)) hd_one))))) hd_one)))) (bx_one (px_ret (sx_v 2)))))
/-! ### _law_small_right -/
abbrev s__law_small_right : Stmt := top 40
abbrev N__law_small_right : List Str := ["_law_purse_here", "_law_names_here", "_law_ways_here", "_law_net_here", "_law_begun", "_law_rows", "_law_paces", "_law_goal", "_law_due", "_law_row", "_law_told", "_law_number"]
def b__law_small_right : DS := (seqB (asgB (gT 3 (gsCons (gN 1) (gsCons (gN 2) (gsCons (gN 3) gsNil)))) (callF F__law_net [] (aCons (vF 0) (aCons (cF (.int 4)) (aOne (opF addP (cF (.int 1)) (callF F__law_take [] (aCons (vF 0) (aOne (cF (.int 4))))))))))) (seqB (setZ 4 (opF ixP (vF 1) (callF F__law_take [] (aCons (vF 0) (aOne (cbF lenP (aOne (vF 1)))))))) (seqB (setZ 5 (lstF (aOne (tupF (aOne (vF 4)))))) (seqB (forB (rng1F (aOne (cF (.int 7)))) (gN 6) (seqB (forB (itF (vF 1)) (gN 7) (seqB (setZ 8 (cbF lenP (aOne (lcF [9] (itF (vF 5)) (gN 9) (boolF (opF (eqP false) (opF ixP (vF 9) (unF negP (cF (.int 1)))) (vF 7))) (vF 9))))) (seqB (setZ 10 (lstF (aCons (callF F_walks_many [] (aCons (vF 3) (aCons (vF 4) (aCons (vF 7) (aOne (vF 6)))))) (aOne (callKF F_walks_many 0 4 [2, 3, 1, 0] aNil (aCons (vF 6) (aCons (vF 7) (aCons (vF 3) (aCons (vF 4) aNil))))))))) (ifB (orF (boolF (opF (eqP true) (vF 10) (lstF (aCons (vF 8) (aOne (vF 8)))))) (notF (truF (cbF allP (aOne (lcF [11] (itF (vF 10)) (gN 11) tyB (callF F__law_whole [] (aOne (vF 11))))))))) (retB (cF (.bl false))) nilB)))) (setZ 5 (callF F__law_longer [] (aCons (vF 5) (aOne (vF 2))))))) (retB (cF (.bl true)))))))
def F__law_small_right : DE := defF 1 12 b__law_small_right
theorem sc__law_small_right : FnScope N__law_small_right ["_law_purse_here"] (defScope s__law_small_right) := ⟨rfl, rfl, rfl, by decide +kernel, rfl, by decide +kernel, by decide +kernel⟩
theorem bx__law_small_right {P : Program} {w : World} {K : PySem.W.Frag} {mg : Str → Option Value} {base : Heap} (hE : Env K mg) (c__law_take : CalF P w K mg base 1 "_law_take" F__law_take []) (c__law_net : CalF P w K mg base 6 "_law_net" F__law_net []) (c_walks_many : CalF P w K mg base 4 "walks_many" F_walks_many []) (ck_walks_many : CalK P w K mg base 4 "walks_many" F_walks_many 0 ["steps", "end", "web", "start"] [2, 3, 1, 0]) (c__law_whole : CalF P w K mg base 1 "_law_whole" F__law_whole []) (c__law_longer : CalF P w K mg base 1 "_law_longer" F__law_longer []) {f : Addr} (cdv : Value) (A : Around) (outer : List PySem.Env) (s : Shared) (H : Hp) (E : XK) (hr : Room 6 (A.deeper (envOfC "_law_small_right" (defScope s__law_small_right) s.heap.objs.size f cdv))) :
    Bx (cxOf CX0 P w K mg base N__law_small_right "_law_small_right" (defScope s__law_small_right) f cdv A outer s H E).nox (defBody s__law_small_right) b__law_small_right := by
  have hN : (cxOf CX0 P w K mg base N__law_small_right "_law_small_right" (defScope s__law_small_right) f cdv A outer s H E).nox.N.Nodup := sc__law_small_right.nd
  have hu : (cxOf CX0 P w K mg base N__law_small_right "_law_small_right" (defScope s__law_small_right) f cdv A outer s H E).nox.A.units + 100 < cLine := by have := hr.un; show (A.deeper _).units + 100 < _; omega
  exact (bx_cons (px_asg (sx_call c__law_net hr (by decide) (sa_cons (sx_v 0) (sa_cons sx_int (sa_one (sx_opA add_at sx_int (sx_call c__law_take hr (by decide) (sa_cons (sx_v 0) (sa_one sx_int)) (hd_cons hd_one)))))) (hd_cons (hd_cons hd_one))) (gx_t rfl (gsx_cons (gx_n (by exact hN)) (gsx_cons (gx_n (by exact hN)) (gsx_cons (gx_n (by exact hN)) gsx_nil))))) (bx_cons (px_setZ (i := 4) hN (sx_ixA (ix_at (by exact hu)) (sx_v 1) (sx_call c__law_take hr (by decide) (sa_cons (sx_v 0) (sa_one (sx_cbA (len_at) hE.f_len rfl (sa_one (sx_v 1))))) (hd_cons hd_one)))) (bx_cons (px_setZ (i := 5) hN (sx_lst (sa_one (sx_tup (sa_one (sx_v 4)) hd_one)) hd_one)) (bx_cons (px_for PassesOwn.never rfl (ix_r1 hE.f_range (sa_one sx_int)) (gx_n (by exact hN)) (bx_cons (px_for PassesOwn.never rfl (ix_e (sx_v 1)) (gx_n (by exact hN)) (bx_cons (px_setZ (i := 8) hN (sx_cbA (len_at) hE.f_len rfl (sa_one (sx_lc rfl (by exact hN) (ix_e (sx_v 5)) (blkOk_by (own := [("_law_row", 9)]) (by kernel_rfl)) (fun _ _ _ _ _ => (gx_n (by exact hN))) (fun _ _ _ _ _ => (tsx_one (tx_cmpA (eq_at (by exact hu)) (sx_ixA (ix_at (by exact hu)) (sx_v 9) (sx_neg sx_int)) (sx_v 7)))) (fun _ _ _ _ _ => (sx_v 9)))))) (bx_cons (px_setZ (i := 10) hN (sx_lst (sa_cons (sx_call c_walks_many hr (by decide) (sa_cons (sx_v 3) (sa_cons (sx_v 4) (sa_cons (sx_v 7) (sa_one (sx_v 6))))) (hd_cons (hd_cons (hd_cons hd_one)))) (sa_one (sx_callK0 ck_walks_many hr (by decide) (sk_cons (sx_v 6) (sk_cons (sx_v 7) (sk_cons (sx_v 3) (sk_cons (sx_v 4) sk_nil)))) (hd_cons (hd_cons (hd_cons (hd_cons hd_nil)))) (n := 4) rfl))) (hd_cons hd_one))) (bx_one (px_if (tx_w (wx_or (tx_cmpA (ne_at (by exact hu)) (sx_v 10) (sx_lst (sa_cons (sx_v 8) (sa_one (sx_v 8))) (hd_cons hd_one))) (wx_or1 (tx_not (tx_val (sx_cbA (all_at rfl) hE.f_all rfl (sa_one (sx_lc rfl (by exact hN) (ix_e (sx_v 10)) (blkOk_by (own := [("_law_number", 11)]) (by kernel_rfl)) (fun _ _ _ _ _ => (gx_n (by exact hN))) (fun _ _ _ _ _ => tsx_nil) (fun _ _ _ _ _ => (sx_call c__law_whole hr (by decide) (sa_one (sx_v 11)) hd_one)))))))))) (bx_one (px_ret sx_bl)) bx_nil))))) (bx_one (px_setZ (i := 5) hN (sx_call c__law_longer hr (by decide) (sa_cons (sx_v 5) (sa_one (sx_v 2))) (hd_cons hd_one)))))) (bx_one (px_ret sx_bl))))))
/-! ### _law_counted -/
abbrev s__law_counted : Stmt := top 41
abbrev N__law_counted : List Str := ["_law_names_here", "_law_ways_here", "_law_begun", "_law_paces", "_law_here", "_law_name", "_law_turn", "_law_ahead", "_law_one", "_law_other"]
def b__law_counted : DS := (seqB (setZ 4 (cbF dictP (aOne (lcF [5] (itF (vF 0)) (gN 5) tyB (tupF (aCons (vF 5) (aOne (cbF intP (aOne (opF (eqP false) (vF 5) (vF 2))))))))))) (seqB (forB (rng1F (aOne (vF 3))) (gN 6) (seqB (setB 7 (cbF dictP (aOne (lcF [5] (itF (vF 0)) (gN 5) tyB (tupF (aCons (vF 5) (aOne (cF (.int 0))))))))) (seqB (forB (itF (vF 1)) (gT 2 (gsCons (gN 8) (gsCons (gN 9) gsNil))) (stoB (opF addP (opF ixP (vF 7) (vF 9)) (opF ixP (vF 4) (vF 8))) 7 (vF 9))) (setZ 4 (vzF 7))))) (retB (vF 4))))
def F__law_counted : DE := defF 4 10 b__law_counted
theorem sc__law_counted : FnScope N__law_counted ["_law_names_here", "_law_ways_here", "_law_begun", "_law_paces"] (defScope s__law_counted) := ⟨rfl, rfl, rfl, by decide +kernel, rfl, by decide +kernel, by decide +kernel⟩
theorem bx__law_counted {P : Program} {w : World} {K : PySem.W.Frag} {mg : Str → Option Value} {base : Heap} (hE : Env K mg) {f : Addr} (cdv : Value) (A : Around) (outer : List PySem.Env) (s : Shared) (H : Hp) (E : XK) (hr : Room 0 (A.deeper (envOfC "_law_counted" (defScope s__law_counted) s.heap.objs.size f cdv))) :
    Bx (cxOf CX0 P w K mg base N__law_counted "_law_counted" (defScope s__law_counted) f cdv A outer s H E).nox (defBody s__law_counted) b__law_counted := by
  have hN : (cxOf CX0 P w K mg base N__law_counted "_law_counted" (defScope s__law_counted) f cdv A outer s H E).nox.N.Nodup := sc__law_counted.nd
  have hu : (cxOf CX0 P w K mg base N__law_counted "_law_counted" (defScope s__law_counted) f cdv A outer s H E).nox.A.units + 100 < cLine := by have := hr.un; show (A.deeper _).units + 100 < _; omega
  exact (bx_cons (px_setZ (i := 4) hN (sx_tyA (dict_at rfl) hE.f_dict rfl (sa_one (sx_lc rfl (by exact hN) (ix_e (sx_v 0)) (blkOk_by (own := [("_law_name", 5)]) (by kernel_rfl)) (fun _ _ _ _ _ => (gx_n (by exact hN))) (fun _ _ _ _ _ => tsx_nil) (fun _ _ _ _ _ => (sx_tup (sa_cons (sx_v 5) (sa_one (sx_tyA (int_at) hE.f_int rfl (sa_one (sx_cmpA (eq_at (by exact hu)) (sx_v 5) (sx_v 2)))))) (hd_cons hd_one))))))) (bx_cons (px_for PassesOwn.never rfl (ix_r1 hE.f_range (sa_one (sx_v 3))) (gx_n (by exact hN)) (bx_cons (px_set (i := 7) hN (sx_tyA (dict_at rfl) hE.f_dict rfl (sa_one (sx_lc rfl (by exact hN) (ix_e (sx_v 0)) (blkOk_by (own := [("_law_name", 5)]) (by kernel_rfl)) (fun _ _ _ _ _ => (gx_n (by exact hN))) (fun _ _ _ _ _ => tsx_nil) (fun _ _ _ _ _ => (sx_tup (sa_cons (sx_v 5) (sa_one sx_int)) (hd_cons hd_one))))))) (bx_cons (px_for PassesOwn.never rfl (ix_e (sx_v 1)) (gx_t rfl (gsx_cons (gx_n (by exact hN)) (gsx_cons (gx_n (by exact hN)) gsx_nil))) (bx_one (px_sto (k := 7) (by exact hu) (sx_opA add_at (sx_ixA (ix_at (by exact hu)) (sx_v 7) (sx_v 9)) (sx_ixA (ix_at (by exact hu)) (sx_v 4) (sx_v 8))) (sx_v 9)))) (bx_one (px_setZ (i := 4) hN (sx_vz 7)))))) (bx_one (px_ret (sx_v 4)))))
/-! ### _law_great_right -/
abbrev s__law_great_right : Stmt := top 42
abbrev N__law_great_right : List Str := ["_law_purse_here", "_law_names_here", "_law_ways_here", "_law_net_here", "_law_begun", "_law_goal", "_law_paces", "_law_first", "_law_due", "_law_turn", "_law_told", "_law_through", "_law_place"]
def b__law_great_right : DS := (seqB (asgB (gT 3 (gsCons (gN 1) (gsCons (gN 2) (gsCons (gN 3) gsNil)))) (callF F__law_net [] (aCons (vF 0) (aCons (cF (.int 16)) (aOne (opF addP (cF (.int 1)) (callF F__law_take [] (aCons (vF 0) (aOne (cF (.int 2))))))))))) (seqB (asgB (gT 2 (gsCons (gN 4) (gsCons (gN 5) gsNil))) (tupF (aCons (opF ixP (vF 1) (callF F__law_take [] (aCons (vF 0) (aOne (cbF lenP (aOne (vF 1))))))) (aOne (opF ixP (vF 1) (callF F__law_take [] (aCons (vF 0) (aOne (cbF lenP (aOne (vF 1))))))))))) (seqB (setZ 6 (opF ixP (lstF (aCons (callF F__law_take [] (aCons (vF 0) (aOne (cF (.int 30))))) (aCons (callF F__law_take [] (aCons (vF 0) (aOne (cF (.int 401))))) (aOne (cF (.int 400)))))) (callF F__law_take [] (aCons (vF 0) (aOne (cF (.int 3))))))) (seqB (setZ 7 (callF F__law_take [] (aCons (vF 0) (aOne (opF addP (vF 6) (cF (.int 1))))))) (seqB (setZ 8 (opF ixP (callF F__law_counted [] (aCons (vF 1) (aCons (vF 2) (aCons (vF 4) (aOne (vF 6)))))) (vF 5))) (seqB (forB (rng1F (aOne (cF (.int 2)))) (gN 9) (seqB (setZ 10 (callF F_walks_many [] (aCons (vF 3) (aCons (vF 4) (aCons (vF 5) (aOne (vF 6))))))) (ifB (orF (notF (truF (callF F__law_whole [] (aOne (vF 10))))) (boolF (opF (eqP true) (vF 10) (vF 8)))) (retB (cF (.bl false))) nilB))) (seqB (setZ 11 (lcF [12] (itF (vF 1)) (gN 12) tyB (opF mulP (callF F_walks_many [] (aCons (vF 3) (aCons (vF 4) (aCons (vF 12) (aOne (vF 7)))))) (callF F_walks_many [] (aCons (vF 3) (aCons (vF 12) (aCons (vF 5) (aOne (opF subP (vF 6) (vF 7)))))))))) (retB (andVF (opF (eqP false) (cbF sumP (aOne (vF 11))) (vF 8)) (opF (eqP false) (callF F_walks_many [] (aCons (vF 3) (aCons (vF 4) (aCons (vF 4) (aOne (cF (.int 0))))))) (cF (.int 1))))))))))))
def F__law_great_right : DE := defF 1 13 b__law_great_right
theorem sc__law_great_right : FnScope N__law_great_right ["_law_purse_here"] (defScope s__law_great_right) := ⟨rfl, rfl, rfl, by decide +kernel, rfl, by decide +kernel, by decide +kernel⟩
theorem bx__law_great_right {P : Program} {w : World} {K : PySem.W.Frag} {mg : Str → Option Value} {base : Heap} (hE : Env K mg) (c__law_take : CalF P w K mg base 1 "_law_take" F__law_take []) (c__law_net : CalF P w K mg base 6 "_law_net" F__law_net []) (c__law_counted : CalF P w K mg base 1 "_law_counted" F__law_counted []) (c_walks_many : CalF P w K mg base 4 "walks_many" F_walks_many []) (c__law_whole : CalF P w K mg base 1 "_law_whole" F__law_whole []) {f : Addr} (cdv : Value) (A : Around) (outer : List PySem.Env) (s : Shared) (H : Hp) (E : XK) (hr : Room 6 (A.deeper (envOfC "_law_great_right" (defScope s__law_great_right) s.heap.objs.size f cdv))) :
    Bx (cxOf CX0 P w K mg base N__law_great_right "_law_great_right" (defScope s__law_great_right) f cdv A outer s H E).nox (defBody s__law_great_right) b__law_great_right := by
  have hN : (cxOf CX0 P w K mg base N__law_great_right "_law_great_right" (defScope s__law_great_right) f cdv A outer s H E).nox.N.Nodup := sc__law_great_right.nd
  have hu : (cxOf CX0 P w K mg base N__law_great_right "_law_great_right" (defScope s__law_great_right) f cdv A outer s H E).nox.A.units + 100 < cLine := by have := hr.un; show (A.deeper _).units + 100 < _; omega
  exact (bx_cons (px_asg (sx_call c__law_net hr (by decide) (sa_cons (sx_v 0) (sa_cons sx_int (sa_one (sx_opA add_at sx_int (sx_call c__law_take hr (by decide) (sa_cons (sx_v 0) (sa_one sx_int)) (hd_cons hd_one)))))) (hd_cons (hd_cons hd_one))) (gx_t rfl (gsx_cons (gx_n (by exact hN)) (gsx_cons (gx_n (by exact hN)) (gsx_cons (gx_n (by exact hN)) gsx_nil))))) (bx_cons (px_asg (sx_tup (sa_cons (sx_ixA (ix_at (by exact hu)) (sx_v 1) (sx_call c__law_take hr (by decide) (sa_cons (sx_v 0) (sa_one (sx_cbA (len_at) hE.f_len rfl (sa_one (sx_v 1))))) (hd_cons hd_one))) (sa_one (sx_ixA (ix_at (by exact hu)) (sx_v 1) (sx_call c__law_take hr (by decide) (sa_cons (sx_v 0) (sa_one (sx_cbA (len_at) hE.f_len rfl (sa_one (sx_v 1))))) (hd_cons hd_one))))) (hd_cons hd_one)) (gx_t rfl (gsx_cons (gx_n (by exact hN)) (gsx_cons (gx_n (by exact hN)) gsx_nil)))) (bx_cons (px_setZ (i := 6) hN (sx_ixA (ix_at (by exact hu)) (sx_lst (sa_cons (sx_call c__law_take hr (by decide) (sa_cons (sx_v 0) (sa_one sx_int)) (hd_cons hd_one)) (sa_cons (sx_call c__law_take hr (by decide) (sa_cons (sx_v 0) (sa_one sx_int)) (hd_cons hd_one)) (sa_one sx_int))) (hd_cons (hd_cons hd_one))) (sx_call c__law_take hr (by decide) (sa_cons (sx_v 0) (sa_one sx_int)) (hd_cons hd_one)))) (bx_cons (px_setZ (i := 7) hN (sx_call c__law_take hr (by decide) (sa_cons (sx_v 0) (sa_one (sx_opA add_at (sx_v 6) sx_int))) (hd_cons hd_one))) (bx_cons (px_setZ (i := 8) hN (sx_ixA (ix_at (by exact hu)) (sx_call c__law_counted hr (by decide) (sa_cons (sx_v 1) (sa_cons (sx_v 2) (sa_cons (sx_v 4) (sa_one (sx_v 6))))) (hd_cons (hd_cons (hd_cons hd_one)))) (sx_v 5))) (bx_cons (px_for PassesOwn.never rfl (ix_r1 hE.f_range (sa_one sx_int)) (gx_n (by exact hN)) (bx_cons (px_setZ (i := 10) hN (sx_call c_walks_many hr (by decide) (sa_cons (sx_v 3) (sa_cons (sx_v 4) (sa_cons (sx_v 5) (sa_one (sx_v 6))))) (hd_cons (hd_cons (hd_cons hd_one))))) (bx_one (px_if (tx_w (wx_or (tx_not (tx_val (sx_call c__law_whole hr (by decide) (sa_one (sx_v 10)) hd_one))) (wx_or1 (tx_cmpA (ne_at (by exact hu)) (sx_v 10) (sx_v 8))))) (bx_one (px_ret sx_bl)) bx_nil)))) (bx_cons (px_setLcZ (i := 11) rfl (by exact hN) (ix_e (sx_v 1)) (blkOk_by (own := [("_law_place", 12)]) (by kernel_rfl)) (fun _ _ _ _ _ => (gx_n (by exact hN))) (fun _ _ _ _ _ => tsx_nil) (fun _ _ _ _ _ => (sx_opA mul_at (sx_call c_walks_many hr (by decide) (sa_cons (sx_v 3) (sa_cons (sx_v 4) (sa_cons (sx_v 12) (sa_one (sx_v 7))))) (hd_cons (hd_cons (hd_cons hd_one)))) (sx_call c_walks_many hr (by decide) (sa_cons (sx_v 3) (sa_cons (sx_v 12) (sa_cons (sx_v 5) (sa_one (sx_opA sub_at (sx_v 6) (sx_v 7)))))) (hd_cons (hd_cons (hd_cons hd_one)))))) (hsw := (sw_true rfl rfl rfl (by decide +kernel)))) (bx_one (px_ret (sx_and (sx_cmpA (eq_at (by exact hu)) (sx_cbA (sum_at rfl) hE.f_sum rfl (sa_one (sx_v 11))) (sx_v 8)) (sx_one (sx_cmpA (eq_at (by exact hu)) (sx_call c_walks_many hr (by decide) (sa_cons (sx_v 3) (sa_cons (sx_v 4) (sa_cons (sx_v 4) (sa_one sx_int)))) (hd_cons (hd_cons (hd_cons hd_one)))) sx_int))))))))))))
/-! ### law -/
abbrev s_law : Stmt := top 43
abbrev N_law : List Str := ["_law_script", "_law_k", "_law_purse_here"]
def b_law : DS := (seqB (forB (rng1F (aOne (cbF maxP (aCons (cF (.int 2)) (aOne (cbF minP (aCons (cbF lenP (aOne (vF 0))) (aOne (cF (.int 4)))))))))) (gN 1) (seqB (setB 2 (callF F__law_purse [] (aCons (vF 0) (aOne (vF 1))))) (ifB (orF (notF (truF (callF F__law_small_right [] (aOne (vF 2))))) (notF (truF (callF F__law_great_right [] (aOne (vF 2)))))) (retB (cF (.bl false))) nilB))) (retB (cF (.bl true))))
def F_law : DE := defF 1 3 b_law
theorem sc_law : FnScope N_law ["_law_script"] (defScope s_law) := ⟨rfl, rfl, rfl, by decide +kernel, rfl, by decide +kernel, by decide +kernel⟩
theorem bx_law {P : Program} {w : World} {K : PySem.W.Frag} {mg : Str → Option Value} {base : Heap} (hE : Env K mg) (c__law_purse : CalF P w K mg base 1 "_law_purse" F__law_purse []) (c__law_small_right : CalF P w K mg base 7 "_law_small_right" F__law_small_right []) (c__law_great_right : CalF P w K mg base 7 "_law_great_right" F__law_great_right []) {f : Addr} (cdv : Value) (A : Around) (outer : List PySem.Env) (s : Shared) (H : Hp) (E : XK) (hr : Room 7 (A.deeper (envOfC "law" (defScope s_law) s.heap.objs.size f cdv))) :
    Bx (cxOf CX0 P w K mg base N_law "law" (defScope s_law) f cdv A outer s H E).nox (defBody s_law) b_law := by
  have hN : (cxOf CX0 P w K mg base N_law "law" (defScope s_law) f cdv A outer s H E).nox.N.Nodup := sc_law.nd
  have hu : (cxOf CX0 P w K mg base N_law "law" (defScope s_law) f cdv A outer s H E).nox.A.units + 100 < cLine := by have := hr.un; show (A.deeper _).units + 100 < _; omega
  exact (bx_cons (px_for PassesOwn.never rfl (ix_r1 hE.f_range (sa_one (sx_cbA (max_at rfl) hE.f_max rfl (sa_cons sx_int (sa_one (sx_cbA (min_at rfl) hE.f_min rfl (sa_cons (sx_cbA (len_at) hE.f_len rfl (sa_one (sx_v 0))) (sa_one sx_int)))))))) (gx_n (by exact hN)) (bx_cons (px_set (i := 2) hN (sx_call c__law_purse hr (by decide) (sa_cons (sx_v 0) (sa_one (sx_v 1))) (hd_cons hd_one))) (bx_one (px_if (tx_w (wx_or (tx_not (tx_val (sx_call c__law_small_right hr (by decide) (sa_one (sx_v 2)) hd_one))) (wx_or1 (tx_not (tx_val (sx_call c__law_great_right hr (by decide) (sa_one (sx_v 2)) hd_one)))))) (bx_one (px_ret sx_bl)) bx_nil)))) (bx_one (px_ret sx_bl)))
-- levels: {"is_whole": 1, "is_within": 2, "is_name": 1, "is_way": 2, "check_ways": 3, "check_alone": 2, "Web.__init__": 4, "Web": 4, "check_place": 1, "Web.onward": 2, "check_web": 1, "check_steps": 3, "check_ends": 2, "many_from": 3, "walks_many": 4, "_law_purse": 1, "_law_take": 1, "_law_names": 2, "_law_ways": 2, "_law_lonely": 1, "_law_net": 6, "_law_whole": 1, "_law_longer": 1, "_law_small_right": 7, "_law_counted": 1, "_law_great_right": 7, "law": 8}

end K74

set_option Elab.async false
set_option linter.all false
set_option maxRecDepth 100000
set_option maxHeartbeats 4000000
namespace K74
open PySem PySem.Spec PyProof.Rows L2 PL
theorem is_whole_int (i : Int) : F_is_whole [.dat (.int i)] = some (.dat (.bl true), [.dat (.int i)]) := rfl
theorem law_whole_int (i : Int) : F__law_whole [.dat (.int i)] = some (.dat (.bl true), [.dat (.int i)]) := rfl
theorem log2_small {m : Int} (h1 : 0 < m) (h2 : m < 2 ^ 60) : m.natAbs.log2 < 9000 := by
  have h3 : m.natAbs ≠ 0 := by omega
  have h4 : m.natAbs < 2 ^ 60 := by omega
  have := (Nat.log2_lt h3).mpr h4
  omega
theorem take_spec (a b m : Int) (hm : 0 < m) (hm2 : m < 2 ^ 60) : ∃ v a' b', F__law_take [.par (.lst [.int a, .int b]), .dat (.int m)] = some (.dat (.int v), [.par (.lst [.int a', .int b']), .dat (.int m)]) ∧ 0 ≤ v ∧ v < m := by
  have hl := log2_small hm hm2
  have h11 : Nat.log2 11 < 9000 := by decide
  by_cases hb : b = 0
  · subst hb
    refine ⟨a % m, a / m, 0, ?_, Int.emod_nonneg _ (by omega), Int.emod_lt_of_pos _ hm⟩
    have h : b__law_take [.par (.lst [.int a, .int 0]), .dat (.int m), .no] = some (.ret (.dat (.int (a % m))), [.par (.lst [.int (a / m), .int 0]), .dat (.int m), .dat (.int (a % m))]) := by
      unfold b__law_take
      simp [seqB, ifB, retB, setB, setZ, asgB, parB, exprB, stoB, fldB, forB, vF, vzF, cF, opF, unF, cbF, aNil, aOne, aCons, tupF, lstF, slF, oNone, oSome, txF, isiF, isoF, andVF, orVF, notVF, ifF, boolF, truF, notF, andF, orF, chainF, gN, gT, gsNil, gsCons, noPar, nilB, tyB, look, looks, datas, Rs.fz, Ro.rs, truth, callF, callG, alOk, Rs.ix, argsS, argS, wr, backAt, Sl.put, Sl.ow, Ow.dt, finF, outs, itF, rng1F, rng2F, enumF, ixP, lenP, lenD, intP, maxP, minP, sumP, allP, anyP, tuplP, listP, kdD, isK, addP, subP, mulP, divP, modP, powP, negP, eqP, ordP, swapI, atD, setO, mtF, Sl.given, L2.atI, L2.ixN, hm, hl]
    exact defF_eq (p := 2) (n := 3) (as := [.par (.lst [.int a, .int 0]), .dat (.int m)]) rfl rfl h
  · have h : b__law_take [.par (.lst [.int a, .int b]), .dat (.int m), .no] = some (.ret (.dat (.int ((1 + (b * 39373 + 7919) % 2147483587) * 30269 % 2147483563 / 11 % m))), [.par (.lst [.int a, .int (1 + (b * 39373 + 7919) % 2147483587)]), .dat (.int m), .no]) := by
      unfold b__law_take
      simp [seqB, ifB, retB, setB, setZ, asgB, parB, exprB, stoB, fldB, forB, vF, vzF, cF, opF, unF, cbF, aNil, aOne, aCons, tupF, lstF, slF, oNone, oSome, txF, isiF, isoF, andVF, orVF, notVF, ifF, boolF, truF, notF, andF, orF, chainF, gN, gT, gsNil, gsCons, noPar, nilB, tyB, look, looks, datas, Rs.fz, Ro.rs, truth, callF, callG, alOk, Rs.ix, argsS, argS, wr, backAt, Sl.put, Sl.ow, Ow.dt, finF, outs, itF, rng1F, rng2F, enumF, ixP, lenP, lenD, intP, maxP, minP, sumP, allP, anyP, tuplP, listP, kdD, isK, addP, subP, mulP, divP, modP, powP, negP, eqP, ordP, swapI, atD, setO, mtF, Sl.given, L2.atI, L2.ixN, hm, hl, hb, mulOk, h11]
    exact ⟨_, _, _, defF_eq (p := 2) (n := 3) (as := [.par (.lst [.int a, .int b]), .dat (.int m)]) rfl rfl h, Int.emod_nonneg _ (by omega), Int.emod_lt_of_pos _ hm⟩
theorem first_int (ns : List Int) (lo hi : Option Int) : ∃ c, L2.atI (PL.cutD (ns.map Dt.int) lo hi ++ [Dt.int 0]) 0 = some (.int c) := by
  have hm : ∃ ms : List Int, PL.cutD (ns.map Dt.int) lo hi = ms.map Dt.int := by
    unfold PL.cutD
    rw [← List.map_drop, ← List.map_take]
    exact ⟨_, rfl⟩
  obtain ⟨ms, e⟩ := hm
  rw [e]
  cases ms with
  | nil => exact ⟨0, by simp [L2.atI, L2.ixN]⟩
  | cons c cs =>
    refine ⟨c, ?_⟩
    have : (0 : Int) < (cs.length : Int) + 1 + 1 := by omega
    simp [L2.atI, L2.ixN, this]
theorem cutD_len {α : Type} (l : List α) (lo hi : Option Int) : (PL.cutD l lo hi).length ≤ l.length := by
  unfold PL.cutD
  rw [List.length_take, List.length_drop]
  omega
theorem purse_spec (ns : List Int) (k : Int) (hn : ns.length ≤ 63) (hk : 0 ≤ k ∧ k ≤ 10) : ∃ a b, F__law_purse [.dat (.frl (ns.map .int)), .dat (.int k)] = some (.new (.lst [.int a, .int b]), [.dat (.frl (ns.map .int)), .dat (.int k)]) := by
  obtain ⟨c, hc⟩ := first_int ns (some k) (some (k + 1))
  have hlen : (PL.cutD (ns.map Dt.int) (some k) (some (k + 1))).length + 1 ≤ 100000 := by
    have := cutD_len (ns.map Dt.int) (some k) (some (k + 1))
    rw [List.length_map] at this
    omega
  by_cases h1 : ¬ (c < 1000000000000000000)
  · have h : b__law_purse [.dat (.frl (ns.map .int)), .dat (.int k), .no] = some (.ret (.new (.lst [.int (if -1 - c > c then -1 - c else c), .int 0])), [.dat (.frl (ns.map .int)), .dat (.int k), .dat (.int c)]) := by
      unfold b__law_purse
      simp [seqB, ifB, retB, setB, setZ, asgB, parB, exprB, stoB, fldB, forB, vF, vzF, cF, opF, unF, cbF, aNil, aOne, aCons, tupF, lstF, slF, oNone, oSome, txF, isiF, isoF, andVF, orVF, notVF, ifF, boolF, truF, notF, andF, orF, chainF, gN, gT, gsNil, gsCons, noPar, nilB, tyB, look, looks, datas, Rs.fz, Ro.rs, truth, callF, callG, alOk, Rs.ix, argsS, argS, wr, backAt, Sl.put, Sl.ow, Ow.dt, finF, outs, itF, rng1F, rng2F, enumF, ixP, lenP, lenD, intP, maxP, minP, sumP, allP, anyP, tuplP, listP, kdD, isK, addP, subP, mulP, divP, modP, powP, negP, eqP, ordP, swapI, atD, setO, mtF, Sl.given, slP, hc, hlen, h1]
    exact ⟨_, _, defF_eq (p := 2) (n := 3) (as := [.dat (.frl (ns.map .int)), .dat (.int k)]) rfl rfl h⟩
  · have h1 := Classical.not_not.mp h1
    by_cases h2 : c < 0
    · have h : b__law_purse [.dat (.frl (ns.map .int)), .dat (.int k), .no] = some (.ret (.new (.lst [.int (if -1 - c > c then -1 - c else c), .int 0])), [.dat (.frl (ns.map .int)), .dat (.int k), .dat (.int c)]) := by
        unfold b__law_purse
        simp [seqB, ifB, retB, setB, setZ, asgB, parB, exprB, stoB, fldB, forB, vF, vzF, cF, opF, unF, cbF, aNil, aOne, aCons, tupF, lstF, slF, oNone, oSome, txF, isiF, isoF, andVF, orVF, notVF, ifF, boolF, truF, notF, andF, orF, chainF, gN, gT, gsNil, gsCons, noPar, nilB, tyB, look, looks, datas, Rs.fz, Ro.rs, truth, callF, callG, alOk, Rs.ix, argsS, argS, wr, backAt, Sl.put, Sl.ow, Ow.dt, finF, outs, itF, rng1F, rng2F, enumF, ixP, lenP, lenD, intP, maxP, minP, sumP, allP, anyP, tuplP, listP, kdD, isK, addP, subP, mulP, divP, modP, powP, negP, eqP, ordP, swapI, atD, setO, mtF, Sl.given, slP, hc, hlen, h1, h2]
      exact ⟨_, _, defF_eq (p := 2) (n := 3) (as := [.dat (.frl (ns.map .int)), .dat (.int k)]) rfl rfl h⟩
    · have hm1 : mulOk ((k + 1) * 69621) (k + 7) := .inl ⟨by omega, by omega⟩
      have h : b__law_purse [.dat (.frl (ns.map .int)), .dat (.int k), .no] = some (.ret (.new (.lst [.int 0, .int (1 + (c * 48271 + (k + 1) * 69621 * (k + 7)) % 2147483629)])), [.dat (.frl (ns.map .int)), .dat (.int k), .dat (.int c)]) := by
        unfold b__law_purse
        simp [seqB, ifB, retB, setB, setZ, asgB, parB, exprB, stoB, fldB, forB, vF, vzF, cF, opF, unF, cbF, aNil, aOne, aCons, tupF, lstF, slF, oNone, oSome, txF, isiF, isoF, andVF, orVF, notVF, ifF, boolF, truF, notF, andF, orF, chainF, gN, gT, gsNil, gsCons, noPar, nilB, tyB, look, looks, datas, Rs.fz, Ro.rs, truth, callF, callG, alOk, Rs.ix, argsS, argS, wr, backAt, Sl.put, Sl.ow, Ow.dt, finF, outs, itF, rng1F, rng2F, enumF, ixP, lenP, lenD, intP, maxP, minP, sumP, allP, anyP, tuplP, listP, kdD, isK, addP, subP, mulP, divP, modP, powP, negP, eqP, ordP, swapI, atD, setO, mtF, Sl.given, slP, hc, hlen, h1, h2, hm1, show mulOk c 48271 from .inr (.inl ⟨by omega, by omega⟩), show mulOk (k + 1) 69621 from .inr (.inl ⟨by omega, by omega⟩)]
      exact ⟨_, _, defF_eq (p := 2) (n := 3) (as := [.dat (.frl (ns.map .int)), .dat (.int k)]) rfl rfl h⟩
end K74

set_option Elab.async false
set_option linter.all false
set_option maxRecDepth 100000
set_option maxHeartbeats 4000000
namespace K74
open PySem PySem.Spec PyProof.Rows L2 PL
abbrev pu (a b : Int) : Sl := .par (.lst [.int a, .int b])
/-- a call with an object handed in first, data behind -/
theorem call_par {G : DE} {A : DA} {es es1 : Sls} {rs : List Rs} {i : Nat} {o o' : Ow} {ds : List Dt} {r : Rs} {as : Sls} (h : A es = some (rs, es1)) (e : rs.map Rs.fz = .al i :: ds.map .dat) (hi : es1[i]? = some (.par o) ∨ es1[i]? = some (.own o)) (hG : G (.par o :: ds.map .dat) = some (r, .par o' :: as)) (hr : ∀ i, r ≠ .al i) :
    callF G [] A es = some (r, es1.modify i fun e => e.put o') := by
  unfold callF
  rw [h]
  show callG G [] (rs.map Rs.fz) es1 = _
  rw [e]
  unfold callG
  have al : alOk (.al i :: ds.map .dat) = true := by
    show (((ds.map Rs.dat).all fun q => decide (q.ix ≠ some i)) && alOk (ds.map .dat)) = true
    rw [alOk_dats, Bool.and_true, List.all_eq_true]
    intro q hq
    obtain ⟨d, _, rfl⟩ := List.mem_map.mp hq
    rfl
  rw [al]
  have ar : argsS es1 (.al i :: ds.map .dat) = some (.par o :: ds.map .dat) := by
    show ((argS es1 (.al i)).bind fun a => (argsS es1 (ds.map .dat)).map fun as => a :: as) = _
    rw [argsS_dats]
    have : argS es1 (.al i) = some (.par o) := by
      show (match es1[i]? with
        | some (.own o) => some (Sl.par o)
        | some (.par o) => some (.par o)
        | some (.dat d) => some (.dat d)
        | _ => none) = _
      rcases hi with hi | hi <;> rw [hi]
    rw [this]
    rfl
  show (argsS es1 (.al i :: ds.map .dat)).bind _ = _
  rw [ar]
  show (G ((.par o :: ds.map .dat) ++ [])).bind _ = _
  rw [List.append_nil, hG]
  have w : wr es1 (.al i :: ds.map .dat) (.par o' :: as) = es1.modify i fun e => e.put o' := by
    apply List.ext_getElem?
    intro k
    rw [wr_get, List.getElem?_modify]
    have : backAt k (.al i :: ds.map .dat) (.par o' :: as) = if i = k then some o' else none := by
      show (if i = k then some o' else backAt k (ds.map .dat) as) = _
      rw [backAt_dats]
    rw [this]
    by_cases hk : i = k
    · rw [if_pos hk]
      simp [hk]
    · rw [if_neg hk]
      simp [hk]
  cases r with
  | dat d => show some (Rs.dat d, wr es1 (.al i :: ds.map .dat) (.par o' :: as)) = _; rw [w]
  | new u => show some (Rs.new u, wr es1 (.al i :: ds.map .dat) (.par o' :: as)) = _; rw [w]
  | al j => exact absurd rfl (hr j)
/-- _law_take(purse, E), the purse in slot 0 -/
theorem take_call {E : DE} {a b m : Int} {es : Sls} (hE : E (pu a b :: es) = some (.dat (.int m), pu a b :: es)) (hm : 0 < m) (hm2 : m < 2 ^ 60) : ∃ v a' b', callF F__law_take [] (aCons (vF 0) (aOne E)) (pu a b :: es) = some (.dat (.int v), pu a' b' :: es) ∧ 0 ≤ v ∧ v < m := by
  obtain ⟨v, a', b', h, h1, h2⟩ := take_spec a b m hm hm2
  refine ⟨v, a', b', ?_, h1, h2⟩
  have hA : aCons (vF 0) (aOne E) (pu a b :: es) = some ([.al 0, .dat (.int m)], pu a b :: es) := aCons_eq (r := .al 0) (es1 := pu a b :: es) rfl (aOne_eq hE)
  exact call_par (i := 0) (o := .lst [.int a, .int b]) (o' := .lst [.int a', .int b']) (ds := [.int m]) hA rfl (.inl rfl) h (fun _ z => nomatch z)
/-! ### names -/
def GoodName (x : Str) : Prop := 1 ≤ (PL.tl x).length ∧ (PL.tl x).length ≤ 8 ∧ ∀ c ∈ PL.tl x, 97 ≤ c ∧ c < 123
instance (x : Str) : Decidable (GoodName x) := by unfold GoodName; infer_instance
def menu : List Str := ["set", "step", "walk", "back", "thread", "steps", "layers", "bare", "log", "orders", "told", "far", "many", "by", "paper", "none", "w", "x", "a", "b"]
theorem menu_good : ∀ x ∈ menu, GoodName x := by decide +kernel
theorem menu_nodup : menu.Nodup := by decide +kernel
abbrev L26 : Str := "abcdefghijklmnopqrstuvwxyz"
theorem l26 : PL.tl L26 = (List.range 26).map (97 + ·) := by decide +kernel
theorem l26_at {v : Int} (h0 : 0 ≤ v) (h1 : v < 26) : L2.atI (PL.tl L26) v = some (97 + v.toNat) := by
  rw [l26]
  have h3 : v.toNat < 26 := by omega
  simp [L2.atI, L2.ixN, h0, h1, h3]
theorem menu_at {v : Int} (h0 : 0 ≤ v) (h1 : v < 20) : L2.atI (menu.map Dt.str) v = some (.str (menu.getD v.toNat "")) := by
  have h3 : v.toNat < menu.length := by have : menu.length = 20 := rfl; omega
  have h4 : v < ((menu.map Dt.str).length : Int) := by rw [List.length_map]; have : menu.length = 20 := rfl; omega
  unfold L2.atI L2.ixN
  rw [if_pos h0, if_pos h4]
  show (menu.map Dt.str)[v.toNat]? = _
  rw [List.getElem?_map, List.getElem?_eq_getElem h3, List.getD_eq_getElem?_getD, List.getElem?_eq_getElem h3]
  rfl
/-- unlike names by the menu -/
def menuN (f : Int) (i : Nat) : Str := menu.getD ((f + 3 * (i : Int)) % 20).toNat ""
theorem menuN_nodup (f : Int) (n : Nat) (hn : n ≤ 20) : ((List.range n).map (menuN f)).Nodup := by
  rw [List.Nodup, List.pairwise_map]
  refine List.Pairwise.imp_of_mem ?_ (List.pairwise_lt_range (n := n))
  intro i j hi hj hij e
  have hi := List.mem_range.mp hi
  have hj := List.mem_range.mp hj
  unfold menuN at e
  have hl : menu.length = 20 := rfl
  have h1 : ((f + 3 * (i : Int)) % 20).toNat < menu.length := by omega
  have h2 : ((f + 3 * (j : Int)) % 20).toNat < menu.length := by omega
  rw [List.getD_eq_getElem?_getD, List.getD_eq_getElem?_getD, List.getElem?_eq_getElem h1, List.getElem?_eq_getElem h2] at e
  have := (List.getElem_inj (h₀ := h1) (h₁ := h2) menu_nodup).mp e
  omega
theorem menuN_good (f : Int) (i : Nat) : GoodName (menuN f i) := by
  have hl : menu.length = 20 := rfl
  have h1 : ((f + 3 * (i : Int)) % 20).toNat < menu.length := by omega
  unfold menuN
  rw [List.getD_eq_getElem?_getD, List.getElem?_eq_getElem h1]
  exact menu_good _ (List.getElem_mem h1)

/-- the names by a stem -/
def stemN (st : Str) (at_ b : Int) (i : Nat) : Str := (⟨(PL.cutD (PL.tl st) none (some at_)).toArray⟩ : Str) ++ ⟨#[97 + ((b + 5 * (i : Int)) % 26).toNat]⟩ ++ ⟨(PL.cutD (PL.tl st) (some at_) none).toArray⟩
theorem sIx_k {n d : Nat} {k : Int} (h : 0 ≤ k ∧ k ≤ n) : HT.sIx n d (some k) = k.toNat := by
  show (if k < 0 then (k + (n : Int)).toNat else min k.toNat n) = _
  rw [if_neg (by omega), Nat.min_eq_left (by omega)]
theorem cut_lo {α : Type} {l : List α} {k : Int} (h : 0 ≤ k ∧ k ≤ l.length) : PL.cutD l none (some k) = l.take k.toNat := by
  unfold PL.cutD
  rw [sIx_k h, HT.sIx_none, List.drop_zero, Nat.sub_zero]
theorem cut_hi {α : Type} {l : List α} {k : Int} (h : 0 ≤ k ∧ k ≤ l.length) : PL.cutD l (some k) none = l.drop k.toNat := by
  unfold PL.cutD
  rw [sIx_k h, HT.sIx_none, List.take_of_length_le]
  rw [List.length_drop]
  exact Nat.le_refl _
theorem stemN_tl {st : Str} {k b : Int} (h : 0 ≤ k ∧ k ≤ (PL.tl st).length) (i : Nat) : PL.tl (stemN st k b i) = (PL.tl st).take k.toNat ++ ((97 + ((b + 5 * (i : Int)) % 26).toNat) :: (PL.tl st).drop k.toNat) := by
  unfold stemN
  rw [tl_app, tl_app, cut_lo h, cut_hi h, List.append_assoc]
  rfl
theorem stemN_nodup {st : Str} {k b : Int} (h : 0 ≤ k ∧ k ≤ (PL.tl st).length) (n : Nat) (hn : n ≤ 26) : ((List.range n).map (stemN st k b)).Nodup := by
  rw [List.Nodup, List.pairwise_map]
  refine List.Pairwise.imp_of_mem ?_ (List.pairwise_lt_range (n := n))
  intro i j hi hj hij e
  have hi := List.mem_range.mp hi
  have hj := List.mem_range.mp hj
  have e2 := congrArg PL.tl e
  rw [stemN_tl h, stemN_tl h] at e2
  have e3 := List.append_cancel_left e2
  have e4 := (List.cons.inj e3).1
  omega
theorem stemN_good {st : Str} {k b : Int} (h : 0 ≤ k ∧ k ≤ (PL.tl st).length) (hl : (PL.tl st).length ≤ 7) (hs : ∀ c ∈ PL.tl st, 97 ≤ c ∧ c < 123) (i : Nat) : GoodName (stemN st k b i) := by
  have hlen : (PL.tl (stemN st k b i)).length = (PL.tl st).length + 1 := by
    rw [stemN_tl h, List.length_append, List.length_cons, List.length_take, List.length_drop]
    omega
  refine ⟨by omega, by omega, fun c hc => ?_⟩
  rw [stemN_tl h] at hc
  rcases List.mem_append.mp hc with hc | hc
  · exact hs c (List.mem_of_mem_take hc)
  · rcases List.mem_cons.mp hc with rfl | hc
    · omega
    · exact hs c (List.mem_of_mem_drop hc)

/-! ### _law_names -/
def GoodNames (l : List Str) (n : Int) : Prop := (l.length : Int) = n ∧ l.Nodup ∧ ∀ x ∈ l, GoodName x
def OneC (x : Str) : Prop := ∃ c, 97 ≤ c ∧ c < 123 ∧ x = ⟨#[c]⟩
theorem join0 : ∀ xs : List Str, (∀ x ∈ xs, OneC x) → (PL.tl (Txt.join "" xs)).length = xs.length ∧ ∀ c ∈ PL.tl (Txt.join "" xs), 97 ≤ c ∧ c < 123 := by
  intro xs h
  have e : PL.tl (Txt.join "" xs) = TL.joinL [] (xs.map PL.tl) := by
    have := TL.tl_join "" xs
    rw [← TL.join_eq] at this
    exact this
  rw [e]
  clear e
  induction xs with
  | nil => exact ⟨rfl, fun c hc => by cases hc⟩
  | cons x xs ih =>
    obtain ⟨c, h1, h2, rfl⟩ := h x List.mem_cons_self
    obtain ⟨ih1, ih2⟩ := ih fun y hy => h y (List.mem_cons_of_mem _ hy)
    cases xs with
    | nil =>
      refine ⟨rfl, fun d hd => ?_⟩
      have : d = c := List.mem_singleton.mp hd
      subst this
      exact ⟨h1, h2⟩
    | cons y ys =>
      have e2 : TL.joinL [] ((⟨#[c]⟩ :: y :: ys : List Str).map PL.tl) = c :: TL.joinL [] ((y :: ys).map PL.tl) := rfl
      rw [e2]
      refine ⟨by rw [List.length_cons, ih1]; rfl, fun d hd => ?_⟩
      rcases List.mem_cons.mp hd with rfl | hd
      · exact ⟨h1, h2⟩
      · exact ih2 d hd
theorem join_val {xs : List Str} (hx1 : ∀ x ∈ xs, OneC x) (hl : xs.length ≤ 1000) : joinP "" (.lst (xs.map .str)) = some (.val (.str (Txt.join "" xs))) := by
  unfold joinP
  show (strsD (xs.map .str)).bind _ = _
  rw [strsD_map]
  have hsum : (xs.map (·.length)).sum + xs.length * (("" : Str).length) ≤ 100000 := by
    have e0 : ("" : Str).length = 0 := rfl
    have : ∀ ys : List Str, (∀ x ∈ ys, OneC x) → (ys.map (·.length)).sum = ys.length := by
      intro ys hy
      induction ys with
      | nil => rfl
      | cons y ys ih =>
        obtain ⟨c, _, _, rfl⟩ := hy y List.mem_cons_self
        rw [List.map_cons, List.sum_cons, ih fun z hz => hy z (List.mem_cons_of_mem _ hz), List.length_cons]
        show 1 + ys.length = _
        omega
    rw [this xs hx1, e0]
    omega
  show (if (xs.map (·.length)).sum + xs.length * (("" : Str).length) ≤ 100000 then some (Ro.val (.str (Txt.join "" xs))) else none) = _
  rw [if_pos hsum]
abbrev nE (n : Int) (f w s k g : Sl) : Sls := [.dat (.int n), .dat (.str L26), .dat (.lst (menu.map .str)), f, w, .no, s, k, g]
theorem names_spec (a b n : Int) (h1 : 1 ≤ n) (h2 : n ≤ 16) : ∃ (l : List Str) (a' b' : Int), F__law_names [pu a b, .dat (.int n)] = some (.new (.lst (l.map .str)), [pu a' b', .dat (.int n)]) ∧ GoodNames l n := by
  obtain ⟨v1, a1, b1, t1, r1, r2⟩ := take_call (E := cF (.int 20)) (a := a) (b := b) (es := nE n .no .no .no .no .no) rfl (by omega) (by omega)
  obtain ⟨v2, a2, b2, t2, r3, r4⟩ := take_call (E := cF (.int 4)) (a := a1) (b := b1) (es := nE n .no .no .no .no .no) rfl (by omega) (by omega)
  have s3 : (asgB (gT 2 (gsCons (gN 4) (gsCons (gN 5) gsNil))) (tupF (aCons (callF F__law_take [] (aCons (vF 0) (aOne (cF (.int 20))))) (aOne (callF F__law_take [] (aCons (vF 0) (aOne (cF (.int 4))))))))) (pu a b :: nE n .no .no .no .no .no) = some (.nx, pu a2 b2 :: nE n (.dat (.int v1)) (.dat (.int v2)) .no .no .no) := by
    have h := aCons_eq t1 (aOne_eq t2)
    unfold asgB tupF
    rw [h]
    rfl
  have hn : n.toNat ≤ 20 := by omega
  have main : ∃ (l : List Str) (a' b' : Int) (es : Sls), b__law_names [pu a b, .dat (.int n), .no, .no, .no, .no, .no, .no, .no, .no] = some (.ret (.new (.lst (l.map .str))), pu a' b' :: .dat (.int n) :: es) ∧ GoodNames l n := by
    by_cases hv : v2 = 0
    · refine ⟨(List.range n.toNat).map (menuN v1), a2, b2, [.dat (.str L26), .dat (.lst (menu.map .str)), .dat (.int v1), .dat (.int v2), .no, .no, .no, .no], ?_, ?_, menuN_nodup _ _ hn, fun x hx => ?_⟩
      · refine seq_eq (es1 := [pu a b, .dat (.int n), .dat (.str L26), .no, .no, .no, .no, .no, .no, .no]) rfl (seq_eq (es1 := pu a b :: nE n .no .no .no .no .no) rfl (seq_eq s3 (seq_ret (if_true (es1 := pu a2 b2 :: nE n (.dat (.int v1)) (.dat (.int v2)) .no .no .no) ?_ ?_))))
        · show some (xor false (decide (v2 = 0)), _) = _
          rw [decide_eq_true hv]
          rfl
        · rw [List.map_map]
          refine ret_new (lc_rng (j := 6) (n := n) (fun i => .str (menuN v1 i)) rfl rfl (by omega) (by omega) fun i hi => ⟨.dat (.str (menuN v1 i)), ?_, rfl⟩)
          have hm : mulOk 3 (i : Int) := .inl ⟨by omega, by omega⟩
          have hx := menu_at (v := (v1 + 3 * (i : Int)) % 20) (by omega) (by omega)
          simp [seqB, ifB, retB, setB, setZ, asgB, parB, exprB, stoB, fldB, forB, vF, vzF, cF, opF, unF, cbF, aNil, aOne, aCons, tupF, lstF, slF, oNone, oSome, txF, isiF, isoF, andVF, orVF, notVF, ifF, boolF, truF, notF, andF, orF, chainF, gN, gT, gsNil, gsCons, noPar, nilB, tyB, look, looks, datas, Rs.fz, Ro.rs, truth, callF, callG, alOk, Rs.ix, argsS, argS, wr, backAt, Sl.put, Sl.ow, Ow.dt, finF, outs, itF, rng1F, rng2F, enumF, ixP, lenP, lenD, intP, maxP, minP, sumP, allP, anyP, tuplP, listP, kdD, isK, addP, subP, mulP, divP, modP, powP, negP, eqP, ordP, swapI, atD, setO, mtF, Sl.given, hm, hx, menuN]
      · rw [List.length_map, List.length_range]
        omega
      · obtain ⟨i, _, rfl⟩ := List.mem_map.mp hx
        exact menuN_good _ _
    · have hs : ifB (boolF (opF (eqP false) (vF 5) (cF (.int 0)))) (retB (lcF [6] (rng1F (aOne (vF 1))) (gN 6) tyB (opF ixP (vF 3) (opF modP (opF addP (vF 4) (opF mulP (cF (.int 3)) (vF 6))) (cF (.int 20)))))) nilB (pu a2 b2 :: nE n (.dat (.int v1)) (.dat (.int v2)) .no .no .no) = some (.nx, pu a2 b2 :: nE n (.dat (.int v1)) (.dat (.int v2)) .no .no .no) := by
        refine if_false (es1 := pu a2 b2 :: nE n (.dat (.int v1)) (.dat (.int v2)) .no .no .no) ?_ rfl
        show some (xor false (decide (v2 = 0)), _) = _
        rw [decide_eq_false hv]
        rfl
      obtain ⟨v3, a3, b3, t3, r5, r6⟩ := take_call (E := cF (.int 8)) (a := a2) (b := b2) (es := nE n (.dat (.int v1)) (.dat (.int v2)) .no .no .no) rfl (by omega) (by omega)
      have hr := rng1_eq (aOne_eq t3) (by omega) (by omega)
      rw [rangeD_zero] at hr
      obtain ⟨acc, es', hl, a4, b4, xs, rfl, rfl, hxl, hx1⟩ := lcF_inv (vs := [6]) (g := gN 6) (t := tyB) (f := opF ixP (vF 2) (callF F__law_take [] (aCons (vF 0) (aOne (cF (.int 26))))))
        (fun k acc es => ∃ (a b : Int) (xs : List Str), es = pu a b :: nE n (.dat (.int v1)) (.dat (.int v2)) .no .no .no ∧ acc = xs.map .str ∧ xs.length = k ∧ ∀ x ∈ xs, OneC x) hr rfl (by rw [List.length_map, List.length_range]; omega) ⟨a3, b3, [], rfl, rfl, rfl, fun x hx => by cases hx⟩ fun i d acc es hi hI => by
          obtain ⟨a, b, xs, rfl, rfl, hk, hx⟩ := hI
          obtain ⟨w, a', b', t4, w1, w2⟩ := take_call (E := cF (.int 26)) (a := a) (b := b) (es := [.dat (.int n), .dat (.str L26), .dat (.lst (menu.map .str)), .dat (.int v1), .dat (.int v2), .dat d, .no, .no, .no]) rfl (by omega) (by omega)
          have hat := l26_at w1 w2
          refine ⟨_, pu a' b' :: [.dat (.int n), .dat (.str L26), .dat (.lst (menu.map .str)), .dat (.int v1), .dat (.int v2), .dat d, .no, .no, .no], rfl, rfl, .inr ⟨_, .dat (.str ⟨#[97 + w.toNat]⟩), .str ⟨#[97 + w.toNat]⟩, rfl, op_eq' (r1 := .dat (.str L26)) (d := .str L26) (ro := .val (.str ⟨#[97 + w.toNat]⟩)) rfl t4 rfl rfl ?_, rfl, a', b', xs ++ [⟨#[97 + w.toNat]⟩], rfl, by rw [List.map_append]; rfl, by rw [List.length_append, hk]; rfl, fun x hx' => ?_⟩⟩
          · show (if L26.length ≤ 100000 then (L2.atI L26.cps.toList w).map fun c => Ro.val (.str ⟨#[c]⟩) else none) = _
            rw [if_pos (by decide +kernel)]
            show (L2.atI (PL.tl L26) w).map _ = _
            rw [hat]
            rfl
          · rcases List.mem_append.mp hx' with h | h
            · exact hx x h
            · rw [List.mem_singleton.mp h]
              exact ⟨97 + w.toNat, by omega, by omega, rfl⟩
      rw [List.length_map, List.length_range] at hxl
      obtain ⟨j1, j2⟩ := join0 xs hx1
      generalize hst : Txt.join "" xs = st at j1 j2
      have hstl : st.length ≤ 7 := by rw [tl_len, j1, hxl]; omega
      have s7 : setZ 7 (txF joinP (cF (.str "")) (lcF [6] (rng1F (aOne (callF F__law_take [] (aCons (vF 0) (aOne (cF (.int 8))))))) (gN 6) tyB (opF ixP (vF 2) (callF F__law_take [] (aCons (vF 0) (aOne (cF (.int 26)))))))) (pu a2 b2 :: nE n (.dat (.int v1)) (.dat (.int v2)) .no .no .no) = some (.nx, pu a4 b4 :: nE n (.dat (.int v1)) (.dat (.int v2)) (.dat (.str st)) .no .no) := by
        refine setZ_dat (r := .dat (.str st)) (d := .str st) (es1 := pu a4 b4 :: nE n (.dat (.int v1)) (.dat (.int v2)) .no .no .no) ?_ rfl rfl
        unfold txF
        show ((lcF [6] (rng1F (aOne (callF F__law_take [] (aCons (vF 0) (aOne (cF (.int 8))))))) (gN 6) tyB (opF ixP (vF 2) (callF F__law_take [] (aCons (vF 0) (aOne (cF (.int 26)))))) (pu a2 b2 :: nE n (.dat (.int v1)) (.dat (.int v2)) .no .no .no)).bind _) = _
        rw [hl]
        show ((joinP "" (.lst (xs.map .str))).map fun ro => (ro.rs, _)) = _
        rw [join_val hx1 (by omega), hst]
        rfl
      have hE : (opF addP (cbF lenP (aOne (vF 7))) (cF (.int 1))) (pu a4 b4 :: nE n (.dat (.int v1)) (.dat (.int v2)) (.dat (.str st)) .no .no) = some (.dat (.int ((st.length : Int) + 1)), pu a4 b4 :: nE n (.dat (.int v1)) (.dat (.int v2)) (.dat (.str st)) .no .no) := by
        simp [seqB, ifB, retB, setB, setZ, asgB, parB, exprB, stoB, fldB, forB, vF, vzF, cF, opF, unF, cbF, aNil, aOne, aCons, tupF, lstF, slF, oNone, oSome, txF, isiF, isoF, andVF, orVF, notVF, ifF, boolF, truF, notF, andF, orF, chainF, gN, gT, gsNil, gsCons, noPar, nilB, tyB, look, looks, datas, Rs.fz, Ro.rs, truth, callF, callG, alOk, Rs.ix, argsS, argS, wr, backAt, Sl.put, Sl.ow, Ow.dt, finF, outs, itF, rng1F, rng2F, enumF, ixP, lenP, lenD, intP, maxP, minP, sumP, allP, anyP, tuplP, listP, kdD, isK, addP, subP, mulP, divP, modP, powP, negP, eqP, ordP, swapI, atD, setO, mtF, Sl.given, show st.length ≤ 100000 by omega]
      obtain ⟨v5, a5, b5, t5, r7, r8⟩ := take_call hE (by omega) (by omega)
      obtain ⟨v6, a6, b6, t6, r9, r10⟩ := take_call (E := cF (.int 26)) (a := a5) (b := b5) (es := nE n (.dat (.int v1)) (.dat (.int v2)) (.dat (.str st)) .no .no) rfl (by omega) (by omega)
      have s8 : (asgB (gT 2 (gsCons (gN 8) (gsCons (gN 9) gsNil))) (tupF (aCons (callF F__law_take [] (aCons (vF 0) (aOne (opF addP (cbF lenP (aOne (vF 7))) (cF (.int 1)))))) (aOne (callF F__law_take [] (aCons (vF 0) (aOne (cF (.int 26))))))))) (pu a4 b4 :: nE n (.dat (.int v1)) (.dat (.int v2)) (.dat (.str st)) .no .no) = some (.nx, pu a6 b6 :: nE n (.dat (.int v1)) (.dat (.int v2)) (.dat (.str st)) (.dat (.int v5)) (.dat (.int v6))) := by
        have h := aCons_eq t5 (aOne_eq t6)
        unfold asgB tupF
        rw [h]
        rfl
      have hk : 0 ≤ v5 ∧ v5 ≤ (PL.tl st).length := by rw [← tl_len]; omega
      refine ⟨(List.range n.toNat).map (stemN st v5 v6), a6, b6, [.dat (.str L26), .dat (.lst (menu.map .str)), .dat (.int v1), .dat (.int v2), .no, .dat (.str st), .dat (.int v5), .dat (.int v6)], ?_, ?_, stemN_nodup hk _ (by omega), fun x hx => ?_⟩
      · refine seq_eq (es1 := [pu a b, .dat (.int n), .dat (.str L26), .no, .no, .no, .no, .no, .no, .no]) rfl (seq_eq (es1 := pu a b :: nE n .no .no .no .no .no) rfl (seq_eq s3 (seq_eq hs (seq_eq s7 (seq_eq s8 ?_)))))
        rw [List.map_map]
        refine ret_new (lc_rng (j := 6) (n := n) (fun i => .str (stemN st v5 v6 i)) rfl rfl (by omega) (by omega) fun i hi => ⟨.dat (.str (stemN st v5 v6 i)), ?_, rfl⟩)
        have hm : mulOk 5 (i : Int) := .inl ⟨by omega, by omega⟩
        have hx := l26_at (v := (v6 + 5 * (i : Int)) % 26) (by omega) (by omega)
        have q1 : (⟨(PL.cutD st.cps.toList none (some v5)).toArray⟩ : Str).length ≤ 7 := by
          have := cutD_len st.cps.toList none (some v5)
          rw [tl_len]
          show (PL.cutD st.cps.toList none (some v5)).length ≤ 7
          have h2 := tl_len st
          show _ ≤ 7
          have h3 : st.cps.toList.length = st.length := h2.symm
          omega
        have q2 : (⟨(PL.cutD st.cps.toList (some v5) none).toArray⟩ : Str).length ≤ 7 := by
          have := cutD_len st.cps.toList (some v5) none
          rw [tl_len]
          show (PL.cutD st.cps.toList (some v5) none).length ≤ 7
          have h2 := tl_len st
          have h3 : st.cps.toList.length = st.length := h2.symm
          omega
        have hsx : st.length ≤ 100000 := by omega
        have q0 : ∀ c : Nat, (⟨#[c]⟩ : Str).length = 1 := fun c => rfl
        have q3 : ∀ x y : Str, (x ++ y).length = x.length + y.length := fun x y => by rw [tl_len, tl_app, List.length_append, ← tl_len, ← tl_len]
        have p1 : ∀ c : Nat, (⟨(PL.cutD st.cps.toList none (some v5)).toArray⟩ : Str).length + (⟨#[c]⟩ : Str).length ≤ 100000 := fun c => by rw [q0]; omega
        have p2 : ∀ c : Nat, ((⟨(PL.cutD st.cps.toList none (some v5)).toArray⟩ : Str) ++ (⟨#[c]⟩ : Str)).length + (⟨(PL.cutD st.cps.toList (some v5) none).toArray⟩ : Str).length ≤ 100000 := fun c => by rw [q3, q0]; omega
        have e1 : slF slP (vF 7) oNone (oSome (vF 8)) (pu a6 b6 :: [.dat (.int n), .dat (.str L26), .dat (.lst (menu.map .str)), .dat (.int v1), .dat (.int v2), .dat (.int (i : Nat)), .dat (.str st), .dat (.int v5), .dat (.int v6)]) = some (.dat (.str ⟨(PL.cutD st.cps.toList none (some v5)).toArray⟩), pu a6 b6 :: [.dat (.int n), .dat (.str L26), .dat (.lst (menu.map .str)), .dat (.int v1), .dat (.int v2), .dat (.int (i : Nat)), .dat (.str st), .dat (.int v5), .dat (.int v6)]) := by
          simp [seqB, ifB, retB, setB, setZ, asgB, parB, exprB, stoB, fldB, forB, vF, vzF, cF, opF, unF, cbF, aNil, aOne, aCons, tupF, lstF, slF, oNone, oSome, txF, isiF, isoF, andVF, orVF, notVF, ifF, boolF, truF, notF, andF, orF, chainF, gN, gT, gsNil, gsCons, noPar, nilB, tyB, look, looks, datas, Rs.fz, Ro.rs, truth, callF, callG, alOk, Rs.ix, argsS, argS, wr, backAt, Sl.put, Sl.ow, Ow.dt, finF, outs, itF, rng1F, rng2F, enumF, ixP, lenP, lenD, intP, maxP, minP, sumP, allP, anyP, tuplP, listP, kdD, isK, addP, subP, mulP, divP, modP, powP, negP, eqP, ordP, swapI, atD, setO, mtF, Sl.given, slP, hsx]
        have e2 : slF slP (vF 7) (oSome (vF 8)) oNone (pu a6 b6 :: [.dat (.int n), .dat (.str L26), .dat (.lst (menu.map .str)), .dat (.int v1), .dat (.int v2), .dat (.int (i : Nat)), .dat (.str st), .dat (.int v5), .dat (.int v6)]) = some (.dat (.str ⟨(PL.cutD st.cps.toList (some v5) none).toArray⟩), pu a6 b6 :: [.dat (.int n), .dat (.str L26), .dat (.lst (menu.map .str)), .dat (.int v1), .dat (.int v2), .dat (.int (i : Nat)), .dat (.str st), .dat (.int v5), .dat (.int v6)]) := by
          simp [seqB, ifB, retB, setB, setZ, asgB, parB, exprB, stoB, fldB, forB, vF, vzF, cF, opF, unF, cbF, aNil, aOne, aCons, tupF, lstF, slF, oNone, oSome, txF, isiF, isoF, andVF, orVF, notVF, ifF, boolF, truF, notF, andF, orF, chainF, gN, gT, gsNil, gsCons, noPar, nilB, tyB, look, looks, datas, Rs.fz, Ro.rs, truth, callF, callG, alOk, Rs.ix, argsS, argS, wr, backAt, Sl.put, Sl.ow, Ow.dt, finF, outs, itF, rng1F, rng2F, enumF, ixP, lenP, lenD, intP, maxP, minP, sumP, allP, anyP, tuplP, listP, kdD, isK, addP, subP, mulP, divP, modP, powP, negP, eqP, ordP, swapI, atD, setO, mtF, Sl.given, slP, hsx]
        have e3 : opF ixP (vF 2) (opF modP (opF addP (vF 9) (opF mulP (cF (.int 5)) (vF 6))) (cF (.int 26))) (pu a6 b6 :: [.dat (.int n), .dat (.str L26), .dat (.lst (menu.map .str)), .dat (.int v1), .dat (.int v2), .dat (.int (i : Nat)), .dat (.str st), .dat (.int v5), .dat (.int v6)]) = some (.dat (.str ⟨#[97 + ((v6 + 5 * (i : Int)) % 26).toNat]⟩), pu a6 b6 :: [.dat (.int n), .dat (.str L26), .dat (.lst (menu.map .str)), .dat (.int v1), .dat (.int v2), .dat (.int (i : Nat)), .dat (.str st), .dat (.int v5), .dat (.int v6)]) := by
          refine op_eq' (r1 := .dat (.str L26)) (r2 := .dat (.int ((v6 + 5 * (i : Int)) % 26))) (d := .str L26) (ro := .val (.str ⟨#[97 + ((v6 + 5 * (i : Int)) % 26).toNat]⟩)) rfl ?_ rfl rfl ?_
          · simp [seqB, ifB, retB, setB, setZ, asgB, parB, exprB, stoB, fldB, forB, vF, vzF, cF, opF, unF, cbF, aNil, aOne, aCons, tupF, lstF, slF, oNone, oSome, txF, isiF, isoF, andVF, orVF, notVF, ifF, boolF, truF, notF, andF, orF, chainF, gN, gT, gsNil, gsCons, noPar, nilB, tyB, look, looks, datas, Rs.fz, Ro.rs, truth, callF, callG, alOk, Rs.ix, argsS, argS, wr, backAt, Sl.put, Sl.ow, Ow.dt, finF, outs, itF, rng1F, rng2F, enumF, ixP, lenP, lenD, intP, maxP, minP, sumP, allP, anyP, tuplP, listP, kdD, isK, addP, subP, mulP, divP, modP, powP, negP, eqP, ordP, swapI, atD, setO, mtF, Sl.given, hm]
          · show (if L26.length ≤ 100000 then (L2.atI L26.cps.toList _).map fun c => Ro.val (.str ⟨#[c]⟩) else none) = _
            rw [if_pos (by decide +kernel)]
            show (L2.atI (PL.tl L26) _).map _ = _
            rw [hx]
            rfl
        refine op_eq' (ro := .val (.str (stemN st v5 v6 i))) (op_eq' (ro := .val (.str (⟨(PL.cutD st.cps.toList none (some v5)).toArray⟩ ++ ⟨#[97 + ((v6 + 5 * (i : Int)) % 26).toNat]⟩))) e1 e3 rfl rfl ?_) e2 rfl rfl ?_
        · exact if_pos (p1 _)
        · exact if_pos (p2 _)
      · rw [List.length_map, List.length_range]
        omega
      · obtain ⟨i, _, rfl⟩ := List.mem_map.mp hx
        refine stemN_good hk ?_ j2 _
        rw [← tl_len]
        exact hstl
  obtain ⟨l, a', b', es, h, hg⟩ := main
  exact ⟨l, a', b', defF_eq (p := 2) (n := 10) (as := [pu a b, .dat (.int n)]) rfl rfl h, hg⟩
end K74

set_option Elab.async false
set_option linter.all false
set_option maxRecDepth 100000
set_option maxHeartbeats 4000000
namespace K74
open PySem PySem.Spec PyProof.Rows L2 PL
/-- a way as data -/
abbrev wd (p : Str × Str) : Dt := .tup [.str p.1, .str p.2]
theorem mt_eq {pf : DM} {k : Nat} {A : DA} {es es1 : Sls} {rs : List Rs} {ds l l0 l' : List Dt} {d : Dt} (h0 : es[k]? = some (.own (.lst l0))) (hA : A es = some (rs, es1)) (hd : datas rs = some ds) (h1 : es1[k]? = some (.own (.lst l))) (hp : pf l ds = some (d, l')) : mtF pf k A es = some (.dat d, es1.set k (.own (.lst l'))) := by
  unfold mtF
  rw [h0]
  show (A es).bind _ = _
  rw [hA]
  show (datas rs).bind _ = _
  rw [hd]
  show (match es1[k]? with
      | some sl => (match sl.ow with
        | some (.lst l) => (pf l ds).map fun z : Dt × List Dt => (Rs.dat z.1, es1.set k (sl.put (.lst z.2)))
        | _ => none)
      | none => none) = _
  rw [h1]
  show ((pf l ds).map fun z : Dt × List Dt => (Rs.dat z.1, es1.set k ((Sl.own (.lst l)).put (.lst z.2)))) = _
  rw [hp]
  rfl
theorem sl_eq {pf : Dt → Option Int → Option Int → Option Ro} {f : DE} {l u : DO} {es es1 es2 es3 : Sls} {r : Rs} {lo hi : Option Int} {d : Dt} {ro : Ro} (h1 : f es = some (r, es1)) (h2 : l es1 = some (lo, es2)) (h3 : u es2 = some (hi, es3)) (l1 : look es3 r.fz = some d) (hp : pf d lo hi = some ro) : slF pf f l u es = some (ro.rs, es3) := by
  unfold slF
  rw [h1]
  show (l es1).bind _ = _
  rw [h2]
  show (u es2).bind _ = _
  rw [h3]
  show (look es3 r.fz).bind _ = _
  rw [l1]
  show (pf d lo hi).map _ = _
  rw [hp]
  rfl
theorem sub_step {l : List Str} {j : Nat} {x : Str} {qs : List Str} (h : qs.Sublist (l.take j)) (hx : l[j]? = some x) : (qs ++ [x]).Sublist (l.take (j + 1)) ∧ qs.Sublist (l.take (j + 1)) := by
  rw [List.take_add_one, hx]
  exact ⟨h.append (List.Sublist.refl _), h.trans (List.sublist_append_left _ _)⟩
theorem strs_get {l : List Str} {i : Nat} {d : Dt} (h : (l.map Dt.str)[i]? = some d) : ∃ x, l[i]? = some x ∧ d = .str x := by
  rw [List.getElem?_map] at h
  obtain ⟨x, h1, h2⟩ := Option.map_eq_some_iff.mp h
  exact ⟨x, h1, h2.symm⟩
def GoodWays (ps : List (Str × Str)) (names : List Str) : Prop := ps.Nodup ∧ (∀ p ∈ ps, p.1 ∈ names ∧ p.2 ∈ names) ∧ ps.length ≤ 60
theorem ways_row (names : List Str) (hn : names.length ≤ 16) (t : Int) (one : Str) (a b : Int) (o : Sl) : ∃ (qs : List Str) (a' b' : Int), lcF [5] (itF (vF 1)) (gN 5) (boolF (opF (ordP false false) (callF F__law_take [] (aCons (vF 0) (aOne (cF (.int 4))))) (vF 2))) (tupF (aCons (vF 4) (aOne (vF 5)))) (pu a b :: [.dat (.lst (names.map .str)), .dat (.int t), o, .dat (.str one), .no, .no]) =
    some (.new (.lst (qs.map fun q => wd (one, q))), pu a' b' :: [.dat (.lst (names.map .str)), .dat (.int t), o, .dat (.str one), .no, .no]) ∧ qs.Sublist names := by
  obtain ⟨acc, es', hl, a', b', qs, rfl, rfl, hs⟩ := lcF_inv (vs := [5]) (it := itF (vF 1)) (g := gN 5) (t := boolF (opF (ordP false false) (callF F__law_take [] (aCons (vF 0) (aOne (cF (.int 4))))) (vF 2))) (f := tupF (aCons (vF 4) (aOne (vF 5)))) (es := pu a b :: [.dat (.lst (names.map .str)), .dat (.int t), o, .dat (.str one), .no, .no]) (es0 := pu a b :: [.dat (.lst (names.map .str)), .dat (.int t), o, .dat (.str one), .no, .no]) (items := names.map .str)
    (fun k acc es => ∃ (a b : Int) (qs : List Str), es = pu a b :: [.dat (.lst (names.map .str)), .dat (.int t), o, .dat (.str one), .no, .no] ∧ acc = (qs.map fun q => wd (one, q)) ∧ qs.Sublist (names.take k)) rfl rfl (by rw [List.length_map]; omega) ⟨a, b, [], rfl, rfl, List.nil_sublist _⟩ fun i d acc es hi hI => by
      obtain ⟨a, b, qs, rfl, rfl, hs⟩ := hI
      obtain ⟨x, hx, rfl⟩ := strs_get hi
      obtain ⟨v, a', b', t1, r1, r2⟩ := take_call (E := cF (.int 4)) (a := a) (b := b) (es := [.dat (.lst (names.map .str)), .dat (.int t), o, .dat (.str one), .dat (.str x), .no]) rfl (by omega) (by omega)
      obtain ⟨s1, s2⟩ := sub_step hs hx
      refine ⟨_, pu a' b' :: [.dat (.lst (names.map .str)), .dat (.int t), o, .dat (.str one), .dat (.str x), .no], rfl, rfl, ?_⟩
      have ht : (boolF (opF (ordP false false) (callF F__law_take [] (aCons (vF 0) (aOne (cF (.int 4))))) (vF 2))) (pu a b :: [.dat (.lst (names.map .str)), .dat (.int t), o, .dat (.str one), .dat (.str x), .no]) = some (decide (v < t), pu a' b' :: [.dat (.lst (names.map .str)), .dat (.int t), o, .dat (.str one), .dat (.str x), .no]) := by
        unfold boolF
        rw [op_eq' (r1 := .dat (.int v)) (r2 := .dat (.int t)) (d := .int v) (e := .int t) (ro := .val (.bl (xor false (swapI false v t)))) t1 rfl rfl rfl rfl]
        show some (xor false (decide (v < t)), _) = _
        rw [Bool.false_xor]
      by_cases hv : v < t
      · refine .inr ⟨_, .dat (wd (one, x)), wd (one, x), by rw [decide_eq_true hv] at ht; exact ht, rfl, rfl, a', b', qs ++ [x], rfl, by rw [List.map_append]; rfl, s1⟩
      · exact .inl ⟨by rw [decide_eq_false hv] at ht; exact ht, a', b', qs, rfl, rfl, s2⟩
  refine ⟨qs, a', b', hl.trans rfl, ?_⟩
  rw [List.length_map, List.take_of_length_le (Nat.le_refl _)] at hs
  exact hs
theorem nodup_map_pair (x : Str) {l : List Str} (h : l.Nodup) : (l.map fun q => (x, q)).Nodup := by
  rw [List.Nodup, List.pairwise_map]
  exact h.imp fun hne e => hne (Prod.mk.inj e).2
theorem ways_spec (names : List Str) (hn : names.length ≤ 16) (nd : names.Nodup) (t a b : Int) : ∃ (ps : List (Str × Str)) (a' b' : Int), F__law_ways [pu a b, .dat (.lst (names.map .str)), .dat (.int t)] = some (.dat (.tup (ps.map wd)), [pu a' b', .dat (.lst (names.map .str)), .dat (.int t)]) ∧ GoodWays ps names := by
  have loop : ∃ es', loopB (gN 4) (exprB (mtF extP 3 (aOne (lcF [5] (itF (vF 1)) (gN 5) (boolF (opF (ordP false false) (callF F__law_take [] (aCons (vF 0) (aOne (cF (.int 4))))) (vF 2))) (tupF (aCons (vF 4) (aOne (vF 5)))))))) (names.map .str) (pu a b :: [.dat (.lst (names.map .str)), .dat (.int t), .own (.lst []), .no, .no, .no]) = some (.nx, es') ∧
      ∃ (a b : Int) (ps : List (Str × Str)) (x4 : Sl), es' = pu a b :: [.dat (.lst (names.map .str)), .dat (.int t), .own (.lst (ps.map wd)), x4, .no, .no] ∧ ps.Nodup ∧ (∀ p ∈ ps, p.1 ∈ names ∧ p.2 ∈ names) ∧ ps.length ≤ 16 * 16 := by
    obtain ⟨es', h1, a', b', ps, x4, rfl, h2, h3, h4⟩ := loopB_inv (g := gN 4) (b := exprB (mtF extP 3 (aOne (lcF [5] (itF (vF 1)) (gN 5) (boolF (opF (ordP false false) (callF F__law_take [] (aCons (vF 0) (aOne (cF (.int 4))))) (vF 2))) (tupF (aCons (vF 4) (aOne (vF 5))))))))
      (fun k es => ∃ (a b : Int) (ps : List (Str × Str)) (x4 : Sl), es = pu a b :: [.dat (.lst (names.map .str)), .dat (.int t), .own (.lst (ps.map wd)), x4, .no, .no] ∧ (ps.Nodup ∧ (∃ d, x4 = .dat d ∨ x4 = .no)) ∧ (∀ p ∈ ps, p.1 ∈ names.take k ∧ p.2 ∈ names) ∧ ps.length ≤ k * 16) (names.map .str) 0 _ ⟨a, b, [], .no, rfl, ⟨List.Pairwise.nil, .non, .inr rfl⟩, (fun p hp => by cases hp), Nat.zero_le _⟩ fun i d es hi hI => by
        rw [Nat.zero_add] at hI ⊢
        obtain ⟨a, b, ps, x4, rfl, ⟨hp, d4, hx4⟩, hm, hlen⟩ := hI
        obtain ⟨x, hx, rfl⟩ := strs_get hi
        obtain ⟨qs, a', b', hr, hs⟩ := ways_row names hn t x a b (.own (.lst (ps.map wd)))
        have hil := (List.getElem?_eq_some_iff.mp hx).1
        have hql : qs.length ≤ 16 := Nat.le_trans hs.length_le hn
        have hg : gN 4 (.str x) (pu a b :: [.dat (.lst (names.map .str)), .dat (.int t), .own (.lst (ps.map wd)), x4, .no, .no]) = some (pu a b :: [.dat (.lst (names.map .str)), .dat (.int t), .own (.lst (ps.map wd)), .dat (.str x), .no, .no]) := by
          rcases hx4 with rfl | rfl <;> rfl
        have hmt := mt_eq (pf := extP) (k := 3) (l0 := ps.map wd) (l := ps.map wd) (l' := ps.map wd ++ qs.map fun q => wd (x, q)) (d := .non) (ds := [.lst (qs.map fun q => wd (x, q))]) rfl (aOne_eq hr) rfl rfl (by
          unfold extP
          exact if_pos (by rw [List.length_map, List.length_map]; omega))
        refine ⟨_, .nx, pu a' b' :: [.dat (.lst (names.map .str)), .dat (.int t), .own (.lst (ps.map wd ++ qs.map fun q => wd (x, q))), .dat (.str x), .no, .no], hg, expr_eq hmt, .inl rfl, a', b', ps ++ qs.map (fun q => (x, q)), .dat (.str x), by rw [List.map_append, List.map_map]; rfl, ⟨?_, .str x, .inl rfl⟩, fun p hp' => ?_, by rw [List.length_append, List.length_map]; omega⟩
        · refine List.nodup_append.mpr ⟨hp, nodup_map_pair x (hs.nodup nd), fun p hp1 q hq1 e => ?_⟩
          obtain ⟨o, _, rfl⟩ := List.mem_map.mp hq1
          have h1 := (hm p hp1).1
          rw [e] at h1
          obtain ⟨j, hj, ej⟩ := List.getElem_of_mem h1
          rw [List.length_take] at hj
          rw [List.getElem_take] at ej
          have e2 : names[i]? = some x := hx
          have := (List.getElem_inj (h₀ := by omega) (h₁ := hil) nd).mp (ej.trans (by rw [List.getElem?_eq_getElem hil] at e2; exact (Option.some.inj e2).symm))
          omega
        · rw [List.take_add_one, hx]
          rcases List.mem_append.mp hp' with h | h
          · exact ⟨List.mem_append_left _ (hm p h).1, (hm p h).2⟩
          · obtain ⟨o, ho, rfl⟩ := List.mem_map.mp h
            exact ⟨List.mem_append_right _ (by simp), hs.subset ho⟩
    refine ⟨_, h1, a', b', ps, x4, rfl, h2.1, fun p hp => ⟨List.mem_of_mem_take (h3 p hp).1, (h3 p hp).2⟩, ?_⟩
    rw [Nat.zero_add, List.length_map] at h4
    exact Nat.le_trans h4 (Nat.mul_le_mul_right _ hn)
  obtain ⟨_, hloop, a1, b1, ps, x4, rfl, hnd, hmem, hlen⟩ := loop
  have hE : (opF addP (cbF lenP (aOne (vF 3))) (cF (.int 1))) (pu a1 b1 :: [.dat (.lst (names.map .str)), .dat (.int t), .own (.lst (ps.map wd)), x4, .no, .no]) = some (.dat (.int ((ps.length : Int) + 1)), pu a1 b1 :: [.dat (.lst (names.map .str)), .dat (.int t), .own (.lst (ps.map wd)), x4, .no, .no]) := by
    simp [seqB, ifB, retB, setB, setZ, asgB, parB, exprB, stoB, fldB, forB, vF, vzF, cF, opF, unF, cbF, aNil, aOne, aCons, tupF, lstF, slF, oNone, oSome, txF, isiF, isoF, andVF, orVF, notVF, ifF, boolF, truF, notF, andF, orF, chainF, gN, gT, gsNil, gsCons, noPar, nilB, tyB, look, looks, datas, Rs.fz, Ro.rs, truth, callF, callG, alOk, Rs.ix, argsS, argS, wr, backAt, Sl.put, Sl.ow, Ow.dt, finF, outs, itF, rng1F, rng2F, enumF, ixP, lenP, lenD, intP, maxP, minP, sumP, allP, anyP, tuplP, listP, kdD, isK, addP, subP, mulP, divP, modP, powP, negP, eqP, ordP, swapI, atD, setO, mtF, Sl.given]
  obtain ⟨v, a2, b2, t2, r1, r2⟩ := take_call hE (by omega) (by omega)
  have hv : 0 ≤ v ∧ v ≤ ((ps.map wd).length : Int) := by rw [List.length_map]; omega
  let m : List (Str × Str) := ps.drop v.toNat ++ ps.take v.toNat
  have hml : m.length = ps.length := by
    show (ps.drop v.toNat ++ ps.take v.toNat).length = _
    rw [List.length_append, List.length_drop, List.length_take]
    omega
  have pm : m.Perm ps := by
    have := List.perm_append_comm (l₁ := ps.drop v.toNat) (l₂ := ps.take v.toNat)
    rw [List.take_append_drop] at this
    exact this
  let k : Nat := HT.sIx ((ps.map wd).drop v.toNat ++ (ps.map wd).take v.toNat).length ((ps.map wd).drop v.toNat ++ (ps.map wd).take v.toNat).length (some 60) - 0
  have hk : k ≤ 60 := by
    have := HT.sIx_nat ((ps.map wd).drop v.toNat ++ (ps.map wd).take v.toNat).length ((ps.map wd).drop v.toNat ++ (ps.map wd).take v.toNat).length 60
    show HT.sIx _ _ (some ((60 : Nat) : Int)) - 0 ≤ 60
    rw [this]
    exact Nat.le_trans (Nat.sub_le _ _) (Nat.min_le_left _ _)
  have hret : cbF tuplP (aOne (slF slP (opF addP (slF slP (vF 3) (oSome (vF 6)) oNone) (slF slP (vF 3) oNone (oSome (vF 6)))) oNone (oSome (cF (.int 60))))) (pu a2 b2 :: [.dat (.lst (names.map .str)), .dat (.int t), .own (.lst (ps.map wd)), x4, .no, .dat (.int v)]) = some (.dat (.tup ((m.take k).map wd)), pu a2 b2 :: [.dat (.lst (names.map .str)), .dat (.int t), .own (.lst (ps.map wd)), x4, .no, .dat (.int v)]) := by
    have e1 : PL.cutD (ps.map wd) (some v) none = (ps.map wd).drop v.toNat := cut_hi hv
    have e2 : PL.cutD (ps.map wd) none (some v) = (ps.map wd).take v.toNat := cut_lo hv
    have e3 : ((ps.map wd).drop v.toNat).length + ((ps.map wd).take v.toNat).length ≤ 100000 := by
      rw [List.length_drop, List.length_take, List.length_map]
      omega
    have e4 : PL.cutD ((ps.map wd).drop v.toNat ++ (ps.map wd).take v.toNat) none (some 60) = (m.take k).map wd := by
      unfold PL.cutD
      rw [HT.sIx_none, List.drop_zero, List.map_take, List.map_append, List.map_drop, List.map_take]
    have f1 : slF slP (vF 3) (oSome (vF 6)) oNone (pu a2 b2 :: [.dat (.lst (names.map .str)), .dat (.int t), .own (.lst (ps.map wd)), x4, .no, .dat (.int v)]) = some (.new (.lst ((ps.map wd).drop v.toNat)), pu a2 b2 :: [.dat (.lst (names.map .str)), .dat (.int t), .own (.lst (ps.map wd)), x4, .no, .dat (.int v)]) := by
      rw [← e1]
      rfl
    have f2 : slF slP (vF 3) oNone (oSome (vF 6)) (pu a2 b2 :: [.dat (.lst (names.map .str)), .dat (.int t), .own (.lst (ps.map wd)), x4, .no, .dat (.int v)]) = some (.new (.lst ((ps.map wd).take v.toNat)), pu a2 b2 :: [.dat (.lst (names.map .str)), .dat (.int t), .own (.lst (ps.map wd)), x4, .no, .dat (.int v)]) := by
      rw [← e2]
      rfl
    have f3 := op_eq' (pf := addP) (ro := .nw (.lst ((ps.map wd).drop v.toNat ++ (ps.map wd).take v.toNat))) f1 f2 rfl rfl (if_pos e3)
    have f4 : slF slP (opF addP (slF slP (vF 3) (oSome (vF 6)) oNone) (slF slP (vF 3) oNone (oSome (vF 6)))) oNone (oSome (cF (.int 60))) (pu a2 b2 :: [.dat (.lst (names.map .str)), .dat (.int t), .own (.lst (ps.map wd)), x4, .no, .dat (.int v)]) = some (.new (.lst ((m.take k).map wd)), pu a2 b2 :: [.dat (.lst (names.map .str)), .dat (.int t), .own (.lst (ps.map wd)), x4, .no, .dat (.int v)]) := by
      rw [← e4]
      exact sl_eq (ro := .nw (.lst _)) f3 rfl rfl rfl rfl
    exact cb_eq (ds := [.lst ((m.take k).map wd)]) (ro := .nt ((m.take k).map wd)) (aOne_eq f4) rfl rfl
  refine ⟨m.take k, a2, b2, ?_, ?_, fun p hp => hmem p (pm.mem_iff.mp (List.mem_of_mem_take hp)), ?_⟩
  · refine defF_eq (p := 3) (n := 7) (as := [pu a b, .dat (.lst (names.map .str)), .dat (.int t)]) (fl := .ret (.dat (.tup ((m.take k).map wd)))) (es := pu a2 b2 :: [.dat (.lst (names.map .str)), .dat (.int t), .own (.lst (ps.map wd)), x4, .no, .dat (.int v)]) rfl rfl ?_
    exact seq_eq (es1 := pu a b :: [.dat (.lst (names.map .str)), .dat (.int t), .own (.lst []), .no, .no, .no]) rfl (seq_eq (for_eq (es1 := pu a b :: [.dat (.lst (names.map .str)), .dat (.int t), .own (.lst []), .no, .no, .no]) rfl hloop) (seq_eq (setZ_dat t2 rfl rfl) (ret_dat hret)))
  · exact (pm.nodup_iff.mpr hnd).sublist (List.take_sublist _ _)
  · rw [List.length_take]
    omega
end K74

set_option Elab.async false
set_option linter.all false
set_option maxRecDepth 100000
set_option maxHeartbeats 4000000
namespace K74
open PySem PySem.Spec PyProof.Rows L2 PL
theorem tru_eq {f : DE} {es es1 : Sls} {b : Bool} (h : f es = some (.dat (.bl b), es1)) : truF f es = some (b, es1) := by
  unfold truF
  rw [h]
  rfl
theorem bool_eq {f : DE} {es es1 : Sls} {b : Bool} (h : f es = some (.dat (.bl b), es1)) : boolF f es = some (b, es1) := by
  unfold boolF
  rw [h]
  rfl
theorem not_eq {t : DT} {es es1 : Sls} {b : Bool} (h : t es = some (b, es1)) : notF t es = some (!b, es1) := by
  unfold notF
  rw [h]
  rfl
theorem or_f {t u : DT} {es es1 : Sls} {r : Option (Bool × Sls)} (h : t es = some (false, es1)) (h2 : u es1 = r) : orF t u es = r := by
  unfold orF
  rw [h]
  exact h2
theorem or_t {t u : DT} {es es1 : Sls} (h : t es = some (true, es1)) : orF t u es = some (true, es1) := by
  unfold orF
  rw [h]
  rfl
theorem blsD_true : ∀ l : List Dt, blsD (l.map fun _ => Dt.bl true) = some (l.map fun _ => true)
  | [] => rfl
  | d :: l => by
    show (blsD (l.map fun _ => Dt.bl true)).map _ = _
    rw [blsD_true l]
    rfl
theorem is_name_spec {x : Str} (h : GoodName x) : F_is_name [.dat (.str x)] = some (.dat (.bl true), [.dat (.str x)]) := by
  obtain ⟨h1, h2, h3⟩ := h
  rw [← tl_len] at h1 h2
  refine defF_eq (p := 1) (n := 2) (as := [.dat (.str x)]) (fl := .ret (.dat (.bl true))) (es := [.dat (.str x), .no]) rfl rfl ?_
  refine seq_eq (es1 := [.dat (.str x), .no]) (if_false (es1 := [.dat (.str x), .no]) ?_ rfl) (ret_dat ?_)
  · have g1 : ¬ ((x.length : Int) < 1) := by omega
    have g2 : ¬ ((8 : Int) < (x.length : Int)) := by omega
    have g3 : x.length ≤ 100000 := by omega
    simp [seqB, ifB, retB, setB, setZ, asgB, parB, exprB, stoB, fldB, forB, vF, vzF, cF, opF, unF, cbF, aNil, aOne, aCons, tupF, lstF, slF, oNone, oSome, txF, isiF, isoF, andVF, orVF, notVF, ifF, boolF, truF, notF, andF, orF, chainF, gN, gT, gsNil, gsCons, noPar, nilB, tyB, look, looks, datas, Rs.fz, Ro.rs, truth, callF, callG, alOk, Rs.ix, argsS, argS, wr, backAt, Sl.put, Sl.ow, Ow.dt, finF, outs, itF, rng1F, rng2F, enumF, ixP, lenP, lenD, intP, maxP, minP, sumP, allP, anyP, tuplP, listP, kdD, isK, addP, subP, mulP, divP, modP, powP, negP, eqP, ordP, swapI, atD, setO, mtF, Sl.given, g1, g2, g3]
  · have hl := lc_map (j := 1) (it := itF (vF 0)) (f := opF (inP false) (vF 1) (cF (.str L26))) (es := [.dat (.str x), .no]) (items := PL.signs x) (fun _ => .bl true) rfl rfl (by
      have : (PL.signs x).length = x.length := by unfold PL.signs; rw [List.length_map, tl_len]
      omega) fun d hd => by
        unfold PL.signs at hd
        obtain ⟨c, hc, rfl⟩ := List.mem_map.mp hd
        refine ⟨.dat (.bl true), op_eq' (r1 := .dat (.str ⟨#[c]⟩)) (r2 := .dat (.str L26)) (d := .str ⟨#[c]⟩) (ro := .val (.bl true)) rfl rfl rfl rfl ?_, rfl⟩
        have : c ∈ PL.tl L26 := by
          rw [l26]
          obtain ⟨q1, q2⟩ := h3 c hc
          exact List.mem_map.mpr ⟨c - 97, List.mem_range.mpr (by omega), by omega⟩
        show some (Ro.val (.bl (xor false (decide (c ∈ L26.cps.toList))))) = _
        rw [decide_eq_true this]
        rfl
    refine cb_eq (ds := [.lst ((PL.signs x).map fun _ => .bl true)]) (ro := .val (.bl true)) (aOne_eq hl) rfl ?_
    show (blsD ((PL.signs x).map fun _ => Dt.bl true)).map (fun ns => Ro.val (.bl (ns.all id))) = _
    rw [blsD_true]
    show some (Ro.val (.bl (((PL.signs x).map fun _ => true).all id))) = _
    have : ((PL.signs x).map fun _ => true).all id = true := by
      rw [List.all_eq_true]
      intro b hb
      obtain ⟨_, _, rfl⟩ := List.mem_map.mp hb
      rfl
    rw [this]
theorem eqP_len2 {l : List Dt} : eqP false (.int ((2 : Nat) : Int)) (.int 2) = some (.val (.bl true)) := rfl
theorem is_way_spec {p : Str × Str} (h1 : GoodName p.1) (h2 : GoodName p.2) : F_is_way [.dat (wd p)] = some (.dat (.bl true), [.dat (wd p)]) := by
  refine defF_eq (p := 1) (n := 1) (as := [.dat (wd p)]) (fl := .ret (.dat (.bl true))) (es := [.dat (wd p)]) rfl rfl ?_
  refine ret_dat ?_
  have c1 := call_dats (A := aOne (opF ixP (vF 0) (cF (.int 0)))) (es := [.dat (wd p)]) (rs := [.dat (.str p.1)]) (ds := [.str p.1]) rfl rfl (is_name_spec h1) (fun _ z => nomatch z)
  have c2 := call_dats (A := aOne (opF ixP (vF 0) (cF (.int 1)))) (es := [.dat (wd p)]) (rs := [.dat (.str p.2)]) (ds := [.str p.2]) rfl rfl (is_name_spec h2) (fun _ z => nomatch z)
  have e1 : andVF (callF F_is_name [] (aOne (opF ixP (vF 0) (cF (.int 0))))) (callF F_is_name [] (aOne (opF ixP (vF 0) (cF (.int 1))))) [.dat (wd p)] = some (.dat (.bl true), [.dat (wd p)]) := by
    unfold andVF
    rw [c1]
    exact c2
  show andVF (isiF .tup (vF 0)) (andVF (opF (eqP false) (cbF lenP (aOne (vF 0))) (cF (.int 2))) (andVF (callF F_is_name [] (aOne (opF ixP (vF 0) (cF (.int 0))))) (callF F_is_name [] (aOne (opF ixP (vF 0) (cF (.int 1))))))) [.dat (wd p)] = _
  exact e1
theorem eqD_str (x y : Str) : eqD (.str x) (.str y) = decide (x = y) := by
  unfold eqD
  rw [py, py, PyData.eqv]
  by_cases h : x = y
  · subst h
    rw [beq_self_eq_true, decide_eq_true rfl]
  · rw [beq_eq_false_iff_ne.mpr h, decide_eq_false h]
theorem eqD_wd (p q : Str × Str) : eqD (wd p) (wd q) = decide (p = q) := by
  obtain ⟨a, b⟩ := p
  obtain ⟨c, d⟩ := q
  have e1 := eqD_str a c
  have e2 := eqD_str b d
  unfold eqD at *
  simp only [py, pys] at *
  simp only [PyData.eqv, PyData.eqvAll] at *
  rw [e1, e2]
  by_cases h1 : a = c <;> by_cases h2 : b = d <;> simp [h1, h2]
theorem flats_strs : ∀ l : List Str, flats (l.map .str) = true
  | [] => by simp [flats]
  | x :: l => by
    rw [List.map_cons, flats, flats_strs l]
    simp [flat]
theorem flats_wds : ∀ l : List (Str × Str), flats (l.map wd) = true
  | [] => by simp [flats]
  | x :: l => by
    rw [List.map_cons, flats, flats_wds l]
    simp [flat, flats]
theorem deps_strs : ∀ l : List Str, deps (l.map .str) = 0
  | [] => by simp [deps]
  | x :: l => by
    rw [List.map_cons, deps, deps_strs l]
    simp [dep]
theorem deps_wds : ∀ l : List (Str × Str), deps (l.map wd) ≤ 1
  | [] => by simp [deps]
  | x :: l => by
    rw [List.map_cons, deps]
    have := deps_wds l
    simp [dep, deps]
    omega
theorem inAny_str (x : Str) (l : List Str) : inAny (.str x) (l.map .str) = decide (x ∈ l) := by
  unfold inAny
  rw [List.any_map]
  rw [Bool.eq_iff_iff, List.any_eq_true, decide_eq_true_eq]
  constructor
  · rintro ⟨y, hy, e⟩
    have : eqD (.str y) (.str x) = true := e
    rw [eqD_str, decide_eq_true_eq] at this
    rw [← this]
    exact hy
  · intro h
    exact ⟨x, h, by show eqD (.str x) (.str x) = true; rw [eqD_str, decide_eq_true rfl]⟩
theorem inAny_wd (p : Str × Str) (l : List (Str × Str)) : inAny (wd p) (l.map wd) = decide (p ∈ l) := by
  unfold inAny
  rw [List.any_map]
  rw [Bool.eq_iff_iff, List.any_eq_true, decide_eq_true_eq]
  constructor
  · rintro ⟨y, hy, e⟩
    have : eqD (wd y) (wd p) = true := e
    rw [eqD_wd, decide_eq_true_eq] at this
    rw [← this]
    exact hy
  · intro h
    exact ⟨p, h, by show eqD (wd p) (wd p) = true; rw [eqD_wd, decide_eq_true rfl]⟩
theorem seqIn_strs (neg : Bool) (x : Str) (l : List Str) : seqIn neg (.str x) (l.map .str) = some (.val (.bl (xor neg (decide (x ∈ l))))) := by
  unfold seqIn
  rw [flats_strs, deps_strs, inAny_str]
  simp [flat, dep]
theorem seqIn_wds (neg : Bool) (p : Str × Str) (l : List (Str × Str)) : seqIn neg (wd p) (l.map wd) = some (.val (.bl (xor neg (decide (p ∈ l))))) := by
  unfold seqIn
  have : Nat.ble (min (deps (l.map wd)) (dep (wd p))) 64 = true := Nat.ble_eq_true_of_le (by have := deps_wds l; omega)
  rw [flats_wds, inAny_wd, this]
  simp [flat, flats]
/-- a slice of a tuple up to a place within -/
theorem slP_tup {l : List Dt} {i : Nat} (h : i < l.length) : slP (.tup l) none (some (i : Int)) = some (.nt (l.take i)) := by
  show (if HT.sIx l.length 0 none = 0 ∧ HT.sIx l.length l.length (some (i : Int)) = l.length then some (Ro.val (.tup l)) else some (Ro.nt (PL.cutD l none (some (i : Int))))) = _
  rw [if_neg]
  · rw [cut_lo ⟨by omega, by omega⟩]
    rfl
  · rw [HT.sIx_nat]
    omega
def AllGood (ps : List (Str × Str)) : Prop := ∀ p ∈ ps, GoodName p.1 ∧ GoodName p.2
theorem check_ways_spec {ps : List (Str × Str)} (h : AllGood ps) (nd : ps.Nodup) (hl : ps.length ≤ 60) : F_check_ways [.dat (.tup (ps.map wd))] = some (.dat .non, [.dat (.tup (ps.map wd))]) := by
  have e0 : (ifB (orF (notF (truF (isiF .tup (vF 0)))) (boolF (opF (ordP true false) (cbF lenP (aOne (vF 0))) (cF (.int 60))))) neverB nilB) [.dat (.tup (ps.map wd)), .no, .no] = some (.nx, [.dat (.tup (ps.map wd)), .no, .no]) := by
    refine if_false (es1 := [.dat (.tup (ps.map wd)), .no, .no]) ?_ rfl
    have g1 : ¬ ((60 : Int) < (ps.length : Int)) := by omega
    simp [seqB, ifB, retB, setB, setZ, asgB, parB, exprB, stoB, fldB, forB, vF, vzF, cF, opF, unF, cbF, aNil, aOne, aCons, tupF, lstF, slF, oNone, oSome, txF, isiF, isoF, andVF, orVF, notVF, ifF, boolF, truF, notF, andF, orF, chainF, gN, gT, gsNil, gsCons, noPar, nilB, tyB, look, looks, datas, Rs.fz, Ro.rs, truth, callF, callG, alOk, Rs.ix, argsS, argS, wr, backAt, Sl.put, Sl.ow, Ow.dt, finF, outs, itF, rng1F, rng2F, enumF, ixP, lenP, lenD, intP, maxP, minP, sumP, allP, anyP, tuplP, listP, kdD, isK, addP, subP, mulP, divP, modP, powP, negP, eqP, ordP, swapI, atD, setO, mtF, Sl.given, g1]
  obtain ⟨es', h1, x, y, rfl, _⟩ := loopB_inv (g := gT 2 (gsCons (gN 1) (gsCons (gN 2) gsNil))) (b := ifB (orF (notF (truF (callF F_is_way [] (aOne (vF 2))))) (boolF (opF (inP false) (vF 2) (slF slP (vF 0) oNone (oSome (vF 1)))))) neverB nilB)
    (fun k es => ∃ x y : Sl, es = [.dat (.tup (ps.map wd)), x, y] ∧ (∀ o, x ≠ .par o) ∧ (∀ o, y ≠ .par o)) (enumD (ps.map wd)) 0 [.dat (.tup (ps.map wd)), .no, .no] ⟨.no, .no, rfl, (fun _ z => nomatch z), fun _ z => nomatch z⟩ fun i d es hi hI => by
      obtain ⟨x, y, rfl, nx, ny⟩ := hI
      have hil := (List.getElem?_eq_some_iff.mp hi).1
      rw [enumD_len, List.length_map] at hil
      have hd : d = .tup [.int (i : Nat), wd ps[i]] := by
        rw [enumD_get (d := wd ps[i]) (by rw [List.getElem?_map, List.getElem?_eq_getElem hil]; rfl)] at hi
        exact (Option.some.inj hi).symm
      subst hd
      have hg : gT 2 (gsCons (gN 1) (gsCons (gN 2) gsNil)) (.tup [.int (i : Nat), wd ps[i]]) [.dat (.tup (ps.map wd)), x, y] = some [.dat (.tup (ps.map wd)), .dat (.int (i : Nat)), .dat (wd ps[i])] := by
        cases x with
        | par o => exact absurd rfl (nx o)
        | no => cases y with
          | par o => exact absurd rfl (ny o)
          | _ => rfl
        | dat _ => cases y with
          | par o => exact absurd rfl (ny o)
          | _ => rfl
        | own _ => cases y with
          | par o => exact absurd rfl (ny o)
          | _ => rfl
      refine ⟨_, .nx, [.dat (.tup (ps.map wd)), .dat (.int (i : Nat)), .dat (wd ps[i])], hg, if_false (es1 := [.dat (.tup (ps.map wd)), .dat (.int (i : Nat)), .dat (wd ps[i])]) ?_ rfl, .inl rfl, _, _, rfl, (fun _ z => nomatch z), fun _ z => nomatch z⟩
      obtain ⟨q1, q2⟩ := h ps[i] (List.getElem_mem hil)
      have c1 := call_dats (A := aOne (vF 2)) (es := [.dat (.tup (ps.map wd)), .dat (.int (i : Nat)), .dat (wd ps[i])]) (rs := [.dat (wd ps[i])]) (ds := [wd ps[i]]) rfl rfl (is_way_spec q1 q2) (fun _ z => nomatch z)
      have s1 : slF slP (vF 0) oNone (oSome (vF 1)) [.dat (.tup (ps.map wd)), .dat (.int (i : Nat)), .dat (wd ps[i])] = some (.dat (.tup ((ps.take i).map wd)), [.dat (.tup (ps.map wd)), .dat (.int (i : Nat)), .dat (wd ps[i])]) := by
        rw [List.map_take]
        exact sl_eq (r := .dat (.tup (ps.map wd))) (lo := none) (hi := some (i : Int)) (d := .tup (ps.map wd)) (ro := .nt ((ps.map wd).take i)) rfl rfl rfl rfl (slP_tup (by rw [List.length_map]; exact hil))
      have hni : ps[i] ∉ ps.take i := fun z => by
        obtain ⟨j, hj, ej⟩ := List.getElem_of_mem z
        rw [List.length_take] at hj
        rw [List.getElem_take] at ej
        have := (List.getElem_inj (h₀ := by omega) (h₁ := hil) nd).mp ej
        omega
      have o1 : opF (inP false) (vF 2) (slF slP (vF 0) oNone (oSome (vF 1))) [.dat (.tup (ps.map wd)), .dat (.int (i : Nat)), .dat (wd ps[i])] = some (.dat (.bl false), [.dat (.tup (ps.map wd)), .dat (.int (i : Nat)), .dat (wd ps[i])]) :=
        op_eq' (r1 := .dat (wd ps[i])) (d := wd ps[i]) (ro := .val (.bl false)) rfl s1 rfl rfl (by
          show seqIn false (wd ps[i]) ((ps.take i).map wd) = _
          rw [seqIn_wds, decide_eq_false hni]
          rfl)
      exact or_f (not_eq (tru_eq c1)) (bool_eq o1)
  exact defF_eq (p := 1) (n := 3) (as := [.dat (.tup (ps.map wd))]) (fl := .nx) (es := [.dat (.tup (ps.map wd)), x, y]) rfl rfl (seq_eq e0 (for_eq (items := enumD (ps.map wd)) rfl h1))
end K74

set_option Elab.async false
set_option linter.all false
set_option maxRecDepth 100000
set_option maxHeartbeats 4000000
namespace K74
open PySem PySem.Spec PyProof.Rows L2 PL
theorem not_mem_take {α : Type} {l : List α} (nd : l.Nodup) {i : Nat} (h : i < l.length) : l[i] ∉ l.take i := fun z => by
  obtain ⟨j, hj, ej⟩ := List.getElem_of_mem z
  rw [List.length_take] at hj
  rw [List.getElem_take] at ej
  have := (List.getElem_inj (h₀ := by omega) (h₁ := h) nd).mp ej
  omega
theorem check_alone_spec {al jn : List Str} (h : ∀ x ∈ al, GoodName x) (nd : al.Nodup) (dj : ∀ x ∈ al, x ∉ jn) : F_check_alone [.dat (.tup (al.map .str)), .dat (.lst (jn.map .str))] = some (.dat .non, [.dat (.tup (al.map .str)), .dat (.lst (jn.map .str))]) := by
  obtain ⟨es', h1, x, y, rfl, _⟩ := loopB_inv (g := gT 2 (gsCons (gN 2) (gsCons (gN 3) gsNil))) (b := ifB (orF (notF (truF (callF F_is_name [] (aOne (vF 3))))) (orF (boolF (opF (inP false) (vF 3) (vF 1))) (boolF (opF (inP false) (vF 3) (slF slP (vF 0) oNone (oSome (vF 2))))))) neverB nilB)
    (fun k es => ∃ x y : Sl, es = [.dat (.tup (al.map .str)), .dat (.lst (jn.map .str)), x, y] ∧ (∀ o, x ≠ .par o) ∧ (∀ o, y ≠ .par o)) (enumD (al.map .str)) 0 [.dat (.tup (al.map .str)), .dat (.lst (jn.map .str)), .no, .no] ⟨.no, .no, rfl, (fun _ z => nomatch z), fun _ z => nomatch z⟩ fun i d es hi hI => by
      obtain ⟨x, y, rfl, nx, ny⟩ := hI
      have hil := (List.getElem?_eq_some_iff.mp hi).1
      rw [enumD_len, List.length_map] at hil
      have hd : d = .tup [.int (i : Nat), .str al[i]] := by
        rw [enumD_get (d := .str al[i]) (by rw [List.getElem?_map, List.getElem?_eq_getElem hil]; rfl)] at hi
        exact (Option.some.inj hi).symm
      subst hd
      have hg : gT 2 (gsCons (gN 2) (gsCons (gN 3) gsNil)) (.tup [.int (i : Nat), .str al[i]]) [.dat (.tup (al.map .str)), .dat (.lst (jn.map .str)), x, y] = some [.dat (.tup (al.map .str)), .dat (.lst (jn.map .str)), .dat (.int (i : Nat)), .dat (.str al[i])] := by
        cases x with
        | par o => exact absurd rfl (nx o)
        | no => cases y with
          | par o => exact absurd rfl (ny o)
          | _ => rfl
        | dat _ => cases y with
          | par o => exact absurd rfl (ny o)
          | _ => rfl
        | own _ => cases y with
          | par o => exact absurd rfl (ny o)
          | _ => rfl
      refine ⟨_, .nx, [.dat (.tup (al.map .str)), .dat (.lst (jn.map .str)), .dat (.int (i : Nat)), .dat (.str al[i])], hg, if_false (es1 := [.dat (.tup (al.map .str)), .dat (.lst (jn.map .str)), .dat (.int (i : Nat)), .dat (.str al[i])]) ?_ rfl, .inl rfl, _, _, rfl, (fun _ z => nomatch z), fun _ z => nomatch z⟩
      have c1 := call_dats (A := aOne (vF 3)) (es := [.dat (.tup (al.map .str)), .dat (.lst (jn.map .str)), .dat (.int (i : Nat)), .dat (.str al[i])]) (rs := [.dat (.str al[i])]) (ds := [.str al[i]]) rfl rfl (is_name_spec (h _ (List.getElem_mem hil))) (fun _ z => nomatch z)
      have s1 : slF slP (vF 0) oNone (oSome (vF 2)) [.dat (.tup (al.map .str)), .dat (.lst (jn.map .str)), .dat (.int (i : Nat)), .dat (.str al[i])] = some (.dat (.tup ((al.take i).map .str)), [.dat (.tup (al.map .str)), .dat (.lst (jn.map .str)), .dat (.int (i : Nat)), .dat (.str al[i])]) := by
        rw [List.map_take]
        exact sl_eq (pf := slP) (f := vF 0) (l := oNone) (u := oSome (vF 2)) (es := [.dat (.tup (al.map .str)), .dat (.lst (jn.map .str)), .dat (.int (i : Nat)), .dat (.str al[i])]) (es1 := [.dat (.tup (al.map .str)), .dat (.lst (jn.map .str)), .dat (.int (i : Nat)), .dat (.str al[i])]) (es2 := [.dat (.tup (al.map .str)), .dat (.lst (jn.map .str)), .dat (.int (i : Nat)), .dat (.str al[i])]) (es3 := [.dat (.tup (al.map .str)), .dat (.lst (jn.map .str)), .dat (.int (i : Nat)), .dat (.str al[i])]) (r := .dat (.tup (al.map .str))) (lo := none) (hi := some (i : Int)) (d := .tup (al.map .str)) (ro := .nt ((al.map .str).take i)) rfl rfl rfl rfl (slP_tup (by rw [List.length_map]; exact hil))
      have o1 : opF (inP false) (vF 3) (slF slP (vF 0) oNone (oSome (vF 2))) [.dat (.tup (al.map .str)), .dat (.lst (jn.map .str)), .dat (.int (i : Nat)), .dat (.str al[i])] = some (.dat (.bl false), [.dat (.tup (al.map .str)), .dat (.lst (jn.map .str)), .dat (.int (i : Nat)), .dat (.str al[i])]) :=
        op_eq' (r1 := .dat (.str al[i])) (d := .str al[i]) (ro := .val (.bl false)) rfl s1 rfl rfl (by
          show seqIn false (.str al[i]) ((al.take i).map .str) = _
          rw [seqIn_strs, decide_eq_false (not_mem_take nd hil)]
          rfl)
      have o2 : opF (inP false) (vF 3) (vF 1) [.dat (.tup (al.map .str)), .dat (.lst (jn.map .str)), .dat (.int (i : Nat)), .dat (.str al[i])] = some (.dat (.bl false), [.dat (.tup (al.map .str)), .dat (.lst (jn.map .str)), .dat (.int (i : Nat)), .dat (.str al[i])]) :=
        op_eq' (r1 := .dat (.str al[i])) (r2 := .dat (.lst (jn.map .str))) (d := .str al[i]) (ro := .val (.bl false)) rfl rfl rfl rfl (by
          show seqIn false (.str al[i]) (jn.map .str) = _
          rw [seqIn_strs, decide_eq_false (dj _ (List.getElem_mem hil))]
          rfl)
      exact or_f (not_eq (tru_eq c1)) (or_f (bool_eq o2) (bool_eq o1))
  exact defF_eq (p := 2) (n := 4) (as := [.dat (.tup (al.map .str)), .dat (.lst (jn.map .str))]) (fl := .nx) (es := [.dat (.tup (al.map .str)), .dat (.lst (jn.map .str)), x, y]) rfl rfl (seq_eq (es1 := [.dat (.tup (al.map .str)), .dat (.lst (jn.map .str)), .no, .no]) rfl (for_eq (items := enumD (al.map .str)) rfl h1))
/-! ### _law_lonely -/
def stood (ps : List (Str × Str)) : List Str := ps.map (·.1) ++ ps.map (·.2)
def lonely (names : List Str) (ps : List (Str × Str)) : List Str := names.filter fun x => decide (x ∉ stood ps)
def fstD : Dt → Dt
  | .tup (a :: _) => a
  | _ => .non
def sndD : Dt → Dt
  | .tup [_, a] => a
  | _ => .non
def lonD (st : List Str) : Dt → Option Dt
  | .str x => if x ∈ st then none else some (.str x)
  | _ => none
theorem lonD_map (st : List Str) : ∀ ys : List Str, (ys.map Dt.str).filterMap (lonD st) = (ys.filter fun x => decide (x ∉ st)).map .str
  | [] => rfl
  | y :: ys => by
    have e : lonD st (.str y) = if y ∈ st then none else some (.str y) := rfl
    rw [List.map_cons, List.filterMap_cons, List.filter_cons, lonD_map st ys, e]
    by_cases hy : y ∈ st <;> simp [hy]
theorem lonely_spec (names : List Str) (ps : List (Str × Str)) (hn : names.length ≤ 1000) (hp : ps.length ≤ 1000) : F__law_lonely [.dat (.lst (names.map .str)), .dat (.tup (ps.map wd))] = some (.dat (.tup ((lonely names ps).map .str)), [.dat (.lst (names.map .str)), .dat (.tup (ps.map wd))]) := by
  have l1 := lc_map (j := 3) (it := itF (vF 1)) (f := opF ixP (vF 3) (cF (.int 0))) (es := [.dat (.lst (names.map .str)), .dat (.tup (ps.map wd)), .no, .no, .no]) (items := ps.map wd) fstD rfl rfl (by rw [List.length_map]; omega) fun d hd => by
      obtain ⟨p, _, rfl⟩ := List.mem_map.mp hd
      exact ⟨.dat (.str p.1), rfl, rfl⟩
  have l2 := lc_map (j := 3) (it := itF (vF 1)) (f := opF ixP (vF 3) (cF (.int 1))) (es := [.dat (.lst (names.map .str)), .dat (.tup (ps.map wd)), .no, .no, .no]) (items := ps.map wd) sndD rfl rfl (by rw [List.length_map]; omega) fun d hd => by
      obtain ⟨p, _, rfl⟩ := List.mem_map.mp hd
      exact ⟨.dat (.str p.2), rfl, rfl⟩
  have e1 : (ps.map wd).map fstD ++ (ps.map wd).map sndD = (stood ps).map Dt.str := by
    unfold stood
    rw [List.map_append, List.map_map, List.map_map, List.map_map, List.map_map]
    rfl
  have s1 := op_eq' (pf := addP) (ro := .nw (.lst ((ps.map wd).map fstD ++ (ps.map wd).map sndD))) l1 l2 rfl rfl (if_pos (by rw [List.length_map, List.length_map, List.length_map, List.length_map]; omega))
  have s2 := setZ_dat (i := 2) s1 rfl rfl
  have l3 := lc_items (j := 4) (it := itF (vF 0)) (t := boolF (opF (inP true) (vF 4) (vF 2))) (f := vF 4) (es := [.dat (.lst (names.map .str)), .dat (.tup (ps.map wd)), .dat (.lst ((stood ps).map .str)), .no, .no]) (items := names.map .str) (lonD (stood ps)) rfl rfl (by rw [List.length_map]; omega) fun d hd => by
      obtain ⟨x, _, rfl⟩ := List.mem_map.mp hd
      have o1 : opF (inP true) (vF 4) (vF 2) [.dat (.lst (names.map .str)), .dat (.tup (ps.map wd)), .dat (.lst ((stood ps).map .str)), .no, .dat (.str x)] = some (.dat (.bl (xor true (decide (x ∈ stood ps)))), [.dat (.lst (names.map .str)), .dat (.tup (ps.map wd)), .dat (.lst ((stood ps).map .str)), .no, .dat (.str x)]) :=
        op_eq' (r1 := .dat (.str x)) (r2 := .dat (.lst ((stood ps).map .str))) (d := .str x) (ro := .val (.bl (xor true (decide (x ∈ stood ps))))) rfl rfl rfl rfl (seqIn_strs true x (stood ps))
      by_cases hx : x ∈ stood ps
      · left
        rw [decide_eq_true hx] at o1
        exact ⟨bool_eq o1, if_pos hx⟩
      · right
        rw [decide_eq_false hx] at o1
        exact ⟨bool_eq o1, .dat (.str x), .str x, rfl, rfl, if_neg hx⟩
  rw [lonD_map] at l3
  have r1 := cb_eq (pf := tuplP) (ds := [.lst ((lonely names ps).map .str)]) (ro := .nt ((lonely names ps).map .str)) (aOne_eq l3) rfl rfl
  have s2' : setZ 2 (opF addP (lcF [3] (itF (vF 1)) (gN 3) tyB (opF ixP (vF 3) (cF (.int 0)))) (lcF [3] (itF (vF 1)) (gN 3) tyB (opF ixP (vF 3) (cF (.int 1))))) [.dat (.lst (names.map .str)), .dat (.tup (ps.map wd)), .no, .no, .no] = some (.nx, [.dat (.lst (names.map .str)), .dat (.tup (ps.map wd)), .dat (.lst ((stood ps).map .str)), .no, .no]) := by
    rw [s2, ← e1]
    rfl
  exact defF_eq (p := 2) (n := 5) (as := [.dat (.lst (names.map .str)), .dat (.tup (ps.map wd))]) (fl := .ret (.dat (.tup ((lonely names ps).map .str)))) rfl rfl (seq_eq s2' (ret_dat r1))
end K74

set_option Elab.async false
set_option linter.all false
set_option maxRecDepth 100000
set_option maxHeartbeats 4000000
namespace K74
open PySem PySem.Spec PyProof.Rows L2 PL
def wayR (p q : Str × Str) : Bool := leD (wd p) (wd q)
def strR (p q : Str) : Bool := leD (.str p) (.str q)
theorem sort_wd (ps : List (Str × Str)) : (ps.map wd).mergeSort leD = (ps.mergeSort wayR).map wd := (W.sort_maps (r := wayR) (s := leD) wd fun _ _ _ _ => rfl).symm
theorem sort_str (l : List Str) : (l.map Dt.str).mergeSort leD = (l.mergeSort strR).map .str := (W.sort_maps (r := strR) (s := leD) Dt.str fun _ _ _ _ => rfl).symm
theorem sortOk_wd {ps : List (Str × Str)} (h : ps.length ≤ 100000) : sortOk (ps.map wd) = true := by
  unfold sortOk
  have h1 : ((ps.map wd).all fun d => (ps.map wd).all fun e => W.alike (py d) (py e)) = true := by
    rw [List.all_eq_true]
    intro d hd
    rw [List.all_eq_true]
    intro e he
    obtain ⟨p, _, rfl⟩ := List.mem_map.mp hd
    obtain ⟨q, _, rfl⟩ := List.mem_map.mp he
    simp [py, pys, W.alike, W.alikeAll]
  have h2 : (ps.map wd).all tupB = true := by
    rw [List.all_eq_true]
    intro d hd
    obtain ⟨p, _, rfl⟩ := List.mem_map.mp hd
    rfl
  have h3 : Nat.ble (deps (ps.map wd)) 60 = true := Nat.ble_eq_true_of_le (Nat.le_trans (deps_wds ps) (by omega))
  have h4 : Nat.ble (ps.map wd).length 100000 = true := Nat.ble_eq_true_of_le (by rw [List.length_map]; exact h)
  rw [flats_wds, h1, h2, h3, h4]
  rfl
theorem sortOk_str {l : List Str} (h : l.length ≤ 100000) : sortOk (l.map .str) = true := by
  unfold sortOk
  have h1 : ((l.map Dt.str).all fun d => (l.map Dt.str).all fun e => W.alike (py d) (py e)) = true := by
    rw [List.all_eq_true]
    intro d hd
    rw [List.all_eq_true]
    intro e he
    obtain ⟨p, _, rfl⟩ := List.mem_map.mp hd
    obtain ⟨q, _, rfl⟩ := List.mem_map.mp he
    simp [py, W.alike]
  have h2 : (l.map Dt.str).all PL.plainB = true := by
    rw [List.all_eq_true]
    intro d hd
    obtain ⟨p, _, rfl⟩ := List.mem_map.mp hd
    rfl
  have h3 : Nat.ble (deps (l.map .str)) 60 = true := Nat.ble_eq_true_of_le (by rw [deps_strs]; omega)
  have h4 : Nat.ble (l.map Dt.str).length 100000 = true := Nat.ble_eq_true_of_le (by rw [List.length_map]; exact h)
  rw [flats_strs, h1, h2, h3, h4, Bool.or_true]
  rfl
theorem fld_eq {c fl : Str} {F : DE} {k : Nat} {es es1 : Sls} {r : Rs} {d : Dt} {l : List (Str × Dt)} (h : F es = some (r, es1)) (hr : r.fz = .dat d) (h0 : es1[k]? = some (.par (.ob c l))) (hl : l.length < 900) : fldB c fl F k es = some (.nx, es1.set k (.par (.ob c (putFD fl d l)))) := by
  unfold fldB
  rw [h]
  show (match r.fz with
  | .dat d => (match es1[k]? with
    | some sl => (match sl.ow with
      | some (.ob c' l) => if c' = c ∧ l.length < 900 then some (Fl.nx, es1.set k (sl.put (.ob c (putFD fl d l)))) else none
      | _ => none)
    | none => none)
  | _ => none) = _
  rw [hr]
  show (match es1[k]? with
    | some sl => (match sl.ow with
      | some (.ob c' l) => if c' = c ∧ l.length < 900 then some (Fl.nx, es1.set k (sl.put (.ob c (putFD fl d l)))) else none
      | _ => none)
    | none => none) = _
  rw [h0]
  exact if_pos ⟨rfl, hl⟩
/-- both ends of all ways -/
def ends (ps : List (Str × Str)) : List Str := ps.flatMap fun p => [p.1, p.2]
theorem ends_len : ∀ ps : List (Str × Str), (ends ps).length = 2 * ps.length
  | [] => rfl
  | p :: ps => by
    show ([p.1, p.2] ++ ends ps).length = _
    have e : (p :: ps).length = ps.length + 1 := rfl
    have e2 : [p.1, p.2].length = 2 := rfl
    rw [List.length_append, ends_len ps, e, e2]
    omega
theorem ssIn2 {s0 s1 s2 x : Sl} (a b : Str) (acc : List Str) (h : acc.length ≤ 3000) : ssIn [5] (gN 5) tyB (vF 5) [.str a, .str b] acc [s0, s1, s2, .no, x, .no, .no] = some (acc ++ [a, b], [s0, s1, s2, .no, x, .no, .no]) := by
  have h1 : Nat.ble acc.length 4000 = true := Nat.ble_eq_true_of_le (by omega)
  have h2 : Nat.ble (acc ++ [a]).length 4000 = true := Nat.ble_eq_true_of_le (by rw [List.length_append]; show acc.length + 1 ≤ 4000; omega)
  show (match true, Nat.ble acc.length 4000 with
        | true, true => ssIn [5] (gN 5) tyB (vF 5) [.str b] (acc ++ [a]) [s0, s1, s2, .no, x, .no, .no]
        | _, _ => none) = _
  rw [h1]
  show (match true, Nat.ble (acc ++ [a]).length 4000 with
        | true, true => ssIn [5] (gN 5) tyB (vF 5) [] (acc ++ [a] ++ [b]) [s0, s1, s2, .no, x, .no, .no]
        | _, _ => none) = _
  rw [h2]
  show some (acc ++ [a] ++ [b], [s0, s1, s2, .no, x, .no, .no]) = _
  rw [List.append_assoc]
  rfl
theorem ssOut_ends {s0 s1 s2 : Sl} : ∀ (ps : List (Str × Str)) (acc : List Str), acc.length + 2 * ps.length ≤ 3000 → ssOut [4, 5] [5] (gN 4) tyB (itF (vF 4)) (gN 5) tyB (vF 5) (ps.map wd) acc [s0, s1, s2, .no, .no, .no, .no] = some (acc ++ ends ps, [s0, s1, s2, .no, .no, .no, .no])
  | [], acc, _ => by
    show some (acc, _) = _
    unfold ends
    simp
  | p :: ps, acc, h => by
    rw [List.length_cons] at h
    have ih := ssOut_ends (s0 := s0) (s1 := s1) (s2 := s2) ps (acc ++ [p.1, p.2]) (by rw [List.length_append]; show acc.length + 2 + 2 * ps.length ≤ 3000; omega)
    show ((ssIn [5] (gN 5) tyB (vF 5) [.str p.1, .str p.2] acc [s0, s1, s2, .no, .dat (wd p), .no, .no]).bind fun q => (match bare q.2 [4, 5] with
        | true => ssOut [4, 5] [5] (gN 4) tyB (itF (vF 4)) (gN 5) tyB (vF 5) (ps.map wd) q.1 (wipeS q.2 [4, 5])
        | false => none)) = _
    rw [ssIn2 _ _ _ (by omega)]
    show ssOut [4, 5] [5] (gN 4) tyB (itF (vF 4)) (gN 5) tyB (vF 5) (ps.map wd) (acc ++ [p.1, p.2]) [s0, s1, s2, .no, .no, .no, .no] = _
    rw [ih, List.append_assoc]
    rfl
abbrev webF (ws : List (Str × Str)) (pl : List Str) : List (Str × Dt) := [("ways", .tup (ws.map wd)), ("places", .tup (pl.map .str))]
theorem init_spec {ps : List (Str × Str)} {al : List Str} (hg : AllGood ps) (nd : ps.Nodup) (hl : ps.length ≤ 60) (ha : ∀ x ∈ al, GoodName x) (na : al.Nodup) (dj : ∀ x ∈ al, x ∉ ends ps) (h1 : 1 ≤ (sortS (ends ps)).length + al.length) (h16 : (sortS (ends ps)).length + al.length ≤ 16) :
    F_Web___init__ [.par (.ob "Web" []), .dat (.tup (ps.map wd)), .dat (.tup (al.map .str))] = some (.dat .non, [.par (.ob "Web" (webF (ps.mergeSort wayR) ((sortS (ends ps) ++ al).mergeSort strR))), .dat (.tup (ps.map wd)), .dat (.tup (al.map .str))]) := by
  let J := sortS (ends ps)
  have mj : ∀ x, x ∈ J ↔ x ∈ ends ps := fun x => (sortS_perm _).mem_iff.trans mem_ded
  have a1 := expr_eq (call_dats (A := aOne (vF 1)) (es := [.par (.ob "Web" []), .dat (.tup (ps.map wd)), .dat (.tup (al.map .str)), .no, .no, .no, .no]) (rs := [.dat (.tup (ps.map wd))]) (ds := [.tup (ps.map wd)]) rfl rfl (check_ways_spec hg nd hl) (fun _ z => nomatch z))
  have a2 : setZ 3 (ssF [4, 5] [5] (itF (vF 1)) (gN 4) tyB (itF (vF 4)) (gN 5) tyB (vF 5)) [.par (.ob "Web" []), .dat (.tup (ps.map wd)), .dat (.tup (al.map .str)), .no, .no, .no, .no] = some (.nx, [.par (.ob "Web" []), .dat (.tup (ps.map wd)), .dat (.tup (al.map .str)), .dat (.lst (J.map .str)), .no, .no, .no]) := by
    refine setZ_dat (r := .new (.lst (J.map .str))) (d := .lst (J.map .str)) (es1 := [.par (.ob "Web" []), .dat (.tup (ps.map wd)), .dat (.tup (al.map .str)), .no, .no, .no, .no]) ?_ rfl rfl
    unfold ssF
    show ((ssOut [4, 5] [5] (gN 4) tyB (itF (vF 4)) (gN 5) tyB (vF 5) (ps.map wd) [] [.par (.ob "Web" []), .dat (.tup (ps.map wd)), .dat (.tup (al.map .str)), .no, .no, .no, .no]).bind _) = _
    rw [ssOut_ends ps [] (by show 0 + 2 * ps.length ≤ 3000; omega), List.nil_append]
    have hb : Nat.ble (ends ps).length 5000 = true := by
      refine Nat.ble_eq_true_of_le ?_
      rw [ends_len]
      omega
    show (match Nat.ble (ends ps).length 5000 with
    | true => some (Rs.new (.lst ((sortS (ends ps)).map .str)), heal _ _ [4, 5])
    | false => none) = _
    rw [hb]
    rfl
  have a3 := expr_eq (call_dats (A := aCons (vF 2) (aOne (vF 3))) (es := [.par (.ob "Web" []), .dat (.tup (ps.map wd)), .dat (.tup (al.map .str)), .dat (.lst (J.map .str)), .no, .no, .no]) (rs := [.dat (.tup (al.map .str)), .dat (.lst (J.map .str))]) (ds := [.tup (al.map .str), .lst (J.map .str)]) rfl rfl (check_alone_spec ha na fun x hx z => dj x hx ((mj x).mp z)) (fun _ z => nomatch z))
  have a4 : setZ 6 (opF addP (cbF lenP (aOne (vF 3))) (cbF lenP (aOne (vF 2)))) [.par (.ob "Web" []), .dat (.tup (ps.map wd)), .dat (.tup (al.map .str)), .dat (.lst (J.map .str)), .no, .no, .no] = some (.nx, [.par (.ob "Web" []), .dat (.tup (ps.map wd)), .dat (.tup (al.map .str)), .dat (.lst (J.map .str)), .no, .no, .dat (.int ((J.length : Int) + (al.length : Int)))]) := by
    simp [seqB, ifB, retB, setB, setZ, asgB, parB, exprB, stoB, fldB, forB, vF, vzF, cF, opF, unF, cbF, aNil, aOne, aCons, tupF, lstF, slF, oNone, oSome, txF, isiF, isoF, andVF, orVF, notVF, ifF, boolF, truF, notF, andF, orF, chainF, gN, gT, gsNil, gsCons, noPar, nilB, tyB, look, looks, datas, Rs.fz, Ro.rs, truth, callF, callG, alOk, Rs.ix, argsS, argS, wr, backAt, Sl.put, Sl.ow, Ow.dt, finF, outs, itF, rng1F, rng2F, enumF, ixP, lenP, lenD, intP, maxP, minP, sumP, allP, anyP, tuplP, listP, kdD, isK, addP, subP, mulP, divP, modP, powP, negP, eqP, ordP, swapI, atD, setO, mtF, Sl.given]
  have a5 : (ifB (notF (boolF (chainF (ordP true true) (ordP true true) (cF (.int 1)) (vF 6) (cF (.int 16))))) neverB nilB) [.par (.ob "Web" []), .dat (.tup (ps.map wd)), .dat (.tup (al.map .str)), .dat (.lst (J.map .str)), .no, .no, .dat (.int ((J.length : Int) + (al.length : Int)))] = some (.nx, [.par (.ob "Web" []), .dat (.tup (ps.map wd)), .dat (.tup (al.map .str)), .dat (.lst (J.map .str)), .no, .no, .dat (.int ((J.length : Int) + (al.length : Int)))]) := by
    have g1 : ¬ ((J.length : Int) + (al.length : Int) < 1) := by show ¬ (((sortS (ends ps)).length : Int) + (al.length : Int) < 1); omega
    have g2 : ¬ ((16 : Int) < (J.length : Int) + (al.length : Int)) := by show ¬ ((16 : Int) < ((sortS (ends ps)).length : Int) + (al.length : Int)); omega
    simp [seqB, ifB, retB, setB, setZ, asgB, parB, exprB, stoB, fldB, forB, vF, vzF, cF, opF, unF, cbF, aNil, aOne, aCons, tupF, lstF, slF, oNone, oSome, txF, isiF, isoF, andVF, orVF, notVF, ifF, boolF, truF, notF, andF, orF, chainF, gN, gT, gsNil, gsCons, noPar, nilB, tyB, look, looks, datas, Rs.fz, Ro.rs, truth, callF, callG, alOk, Rs.ix, argsS, argS, wr, backAt, Sl.put, Sl.ow, Ow.dt, finF, outs, itF, rng1F, rng2F, enumF, ixP, lenP, lenD, intP, maxP, minP, sumP, allP, anyP, tuplP, listP, kdD, isK, addP, subP, mulP, divP, modP, powP, negP, eqP, ordP, swapI, atD, setO, mtF, Sl.given, g1, g2]
  have a6 := fld_eq (c := "Web") (fl := "ways") (k := 0) (F := cbF tuplP (aOne (cbF sortP (aOne (vF 1))))) (es := [.par (.ob "Web" []), .dat (.tup (ps.map wd)), .dat (.tup (al.map .str)), .dat (.lst (J.map .str)), .no, .no, .dat (.int ((J.length : Int) + (al.length : Int)))]) (d := .tup ((ps.mergeSort wayR).map wd)) (l := [])
    (cb_eq (ds := [.lst ((ps.mergeSort wayR).map wd)]) (ro := .nt ((ps.mergeSort wayR).map wd)) (aOne_eq (cb_eq (pf := sortP) (A := aOne (vF 1)) (rs := [.dat (.tup (ps.map wd))]) (ds := [.tup (ps.map wd)]) (ro := .nw (.lst ((ps.mergeSort wayR).map wd))) rfl rfl (by rw [← sort_wd]; exact if_pos (sortOk_wd (by omega))))) rfl rfl) rfl rfl (by decide)
  have a7 : fldB "Web" "places" (cbF tuplP (aOne (cbF sortP (aOne (opF addP (vF 3) (cbF listP (aOne (vF 2)))))))) 0 [.par (.ob "Web" [("ways", .tup ((ps.mergeSort wayR).map wd))]), .dat (.tup (ps.map wd)), .dat (.tup (al.map .str)), .dat (.lst (J.map .str)), .no, .no, .dat (.int ((J.length : Int) + (al.length : Int)))] = some (.nx, [.par (.ob "Web" (webF (ps.mergeSort wayR) ((J ++ al).mergeSort strR))), .dat (.tup (ps.map wd)), .dat (.tup (al.map .str)), .dat (.lst (J.map .str)), .no, .no, .dat (.int ((J.length : Int) + (al.length : Int)))]) := by
    have hJ : J.length + al.length ≤ 16 := h16
    have e1 := op_eq' (pf := addP) (f := vF 3) (g := cbF listP (aOne (vF 2))) (es := [.par (.ob "Web" [("ways", .tup ((ps.mergeSort wayR).map wd))]), .dat (.tup (ps.map wd)), .dat (.tup (al.map .str)), .dat (.lst (J.map .str)), .no, .no, .dat (.int ((J.length : Int) + (al.length : Int)))]) (r1 := .dat (.lst (J.map .str))) (d := .lst (J.map .str)) (ro := .nw (.lst ((J ++ al).map .str))) rfl rfl rfl rfl (by rw [List.map_append]; exact if_pos (by rw [List.length_map, List.length_map]; omega))
    exact fld_eq (d := .tup (((J ++ al).mergeSort strR).map .str)) (l := [("ways", .tup ((ps.mergeSort wayR).map wd))]) (cb_eq (ds := [.lst (((J ++ al).mergeSort strR).map .str)]) (ro := .nt (((J ++ al).mergeSort strR).map .str)) (aOne_eq (cb_eq (pf := sortP) (ds := [.lst ((J ++ al).map .str)]) (ro := .nw (.lst (((J ++ al).mergeSort strR).map .str))) (aOne_eq e1) rfl (by rw [← sort_str]; exact if_pos (sortOk_str (by rw [List.length_append]; omega))))) rfl rfl) rfl rfl (by show 1 < 900; decide)
  exact defF_eq (p := 3) (n := 7) (as := [.par (.ob "Web" []), .dat (.tup (ps.map wd)), .dat (.tup (al.map .str))]) (fl := .nx) rfl rfl (seq_eq a1 (seq_eq a2 (seq_eq a3 (seq_eq a4 (seq_eq a5 (seq_eq a6 a7))))))
end K74

set_option Elab.async false
set_option linter.all false
set_option maxRecDepth 100000
set_option maxHeartbeats 4000000
namespace K74
open PySem PySem.Spec PyProof.Rows L2 PL
theorem modify_last {es : Sls} {x : Sl} {f : Sl → Sl} : (es ++ [x]).modify es.length f = es ++ [f x] := by
  apply List.ext_getElem?
  intro k
  rw [List.getElem?_modify]
  by_cases hk : k < es.length
  · rw [List.getElem?_append_left hk, List.getElem?_append_left hk]
    have : es.length ≠ k := by omega
    simp [this]
  · rw [List.getElem?_append_right (by omega), List.getElem?_append_right (by omega)]
    by_cases h : es.length = k
    · subst h
      simp
    · have : ∃ m, k - es.length = m + 1 := ⟨k - es.length - 1, by omega⟩
      obtain ⟨m, hm⟩ := this
      rw [hm]
      simp
theorem make_eq {G : DE} {A KA : DA} {es es1 es2 : Sls} {W L : Dt} {l : List (Str × Dt)} {as : Sls} (hA : A es = some ([.dat W], es1)) (hK : KA es1 = some ([.dat L], es2)) (hG : G [.par (.ob "Web" []), .dat W, .dat L] = some (.dat .non, .par (.ob "Web" l) :: as)) :
    makeF "Web" G 1 1 [0, 1, 2] A KA es = some (.new (.ob "Web" l), es2) := by
  unfold makeF
  rw [hA]
  show (KA es1).bind _ = _
  rw [hK]
  show (callG G [] [.al es2.length, .dat W, .dat L] (es2 ++ [.own (.ob "Web" [])])).bind (madeF "Web" es2.length) = _
  have c := call_par (G := G) (A := fun _ => some ([.al es2.length, .dat W, .dat L], es2 ++ [.own (.ob "Web" [])])) (es := []) (rs := [.al es2.length, .dat W, .dat L]) (i := es2.length) (o := .ob "Web" []) (o' := .ob "Web" l) (ds := [W, L]) rfl rfl (.inr (get_last rfl)) hG (fun _ z => nomatch z)
  have c' : callG G [] [.al es2.length, .dat W, .dat L] (es2 ++ [.own (.ob "Web" [])]) = some (.dat .non, es2 ++ [.own (.ob "Web" l)]) := by
    rw [modify_last] at c
    exact c
  rw [c']
  have hl : ∀ x : Sl, (es2 ++ [x]).length = es2.length + 1 := fun x => by rw [List.length_append]; rfl
  show madeF "Web" es2.length (.dat .non, es2 ++ [Sl.own (.ob "Web" l)]) = _
  unfold madeF
  dsimp only
  rw [get_last rfl]
  dsimp only
  rw [if_pos ⟨rfl, hl _⟩, List.take_left' rfl]
structure Net (names : List Str) (ps sw : List (Str × Str)) (sp : List Str) : Prop where
  nd : names.Nodup
  gn : ∀ x ∈ names, GoodName x
  l1 : 1 ≤ names.length
  l2 : names.length ≤ 16
  gw : GoodWays ps names
  sw : sw.Perm ps
  sp : sp.Perm names
theorem mem_ends {x : Str} {ps : List (Str × Str)} : x ∈ ends ps ↔ x ∈ stood ps := by
  unfold ends stood
  rw [List.mem_flatMap, List.mem_append, List.mem_map, List.mem_map]
  constructor
  · rintro ⟨p, hp, h⟩
    rcases List.mem_cons.mp h with rfl | h
    · exact .inl ⟨p, hp, rfl⟩
    · exact .inr ⟨p, hp, (List.mem_singleton.mp h).symm⟩
  · rintro (⟨p, hp, rfl⟩ | ⟨p, hp, rfl⟩)
    · exact ⟨p, hp, by simp⟩
    · exact ⟨p, hp, by simp⟩
theorem places_perm {names : List Str} {ps : List (Str × Str)} (nd : names.Nodup) (hm : ∀ p ∈ ps, p.1 ∈ names ∧ p.2 ∈ names) : (sortS (ends ps) ++ lonely names ps).Perm names := by
  have mj : ∀ x, x ∈ sortS (ends ps) ↔ x ∈ stood ps := fun x => ((sortS_perm _).mem_iff.trans mem_ded).trans mem_ends
  have ml : ∀ x, x ∈ lonely names ps ↔ x ∈ names ∧ x ∉ stood ps := fun x => by
    unfold lonely
    rw [List.mem_filter, decide_eq_true_eq]
  refine perm_of_mem (List.nodup_append.mpr ⟨(sortS_perm _).nodup_iff.mpr (nodup_ded _), nd.filter _, fun x hx y hy e => ?_⟩) nd fun x => ?_
  · subst e
    exact ((ml x).mp hy).2 ((mj x).mp hx)
  · rw [List.mem_append, mj, ml]
    constructor
    · rintro (h | h)
      · rcases List.mem_append.mp h with h | h
        · obtain ⟨p, hp, rfl⟩ := List.mem_map.mp h
          exact (hm p hp).1
        · obtain ⟨p, hp, rfl⟩ := List.mem_map.mp h
          exact (hm p hp).2
      · exact h.1
    · intro h
      by_cases hx : x ∈ stood ps
      · exact .inl hx
      · exact .inr ⟨h, hx⟩
abbrev netD (names : List Str) (ps sw : List (Str × Str)) (sp : List Str) : Dt := .tup [.lst (names.map .str), .tup (ps.map wd), .ob "Web" (webF sw sp)]
theorem net_spec (a b most thick : Int) (h1 : 1 ≤ most) (h2 : most ≤ 16) : ∃ (names : List Str) (ps sw : List (Str × Str)) (sp : List Str) (a' b' : Int), F__law_net [pu a b, .dat (.int most), .dat (.int thick)] = some (.dat (netD names ps sw sp), [pu a' b', .dat (.int most), .dat (.int thick)]) ∧ Net names ps sw sp ∧ (names.length : Int) ≤ most := by
  obtain ⟨v, a1, b1, t1, r1, r2⟩ := take_call (E := vF 1) (a := a) (b := b) (es := [.dat (.int most), .dat (.int thick), .no, .no]) rfl (by omega) (by omega)
  obtain ⟨names, a2, b2, f1, gl, nd, gn⟩ := names_spec a1 b1 (1 + v) (by omega) (by omega)
  have hl2 : names.length ≤ 16 := by omega
  obtain ⟨ps, a3, b3, f2, pnd, pm, pl⟩ := ways_spec names hl2 nd thick a2 b2
  have c1 : callF F__law_names [] (aCons (vF 0) (aOne (opF addP (cF (.int 1)) (callF F__law_take [] (aCons (vF 0) (aOne (vF 1))))))) [pu a b, .dat (.int most), .dat (.int thick), .no, .no] = some (.new (.lst (names.map .str)), [pu a2 b2, .dat (.int most), .dat (.int thick), .no, .no]) := by
    have o1 := op_eq' (pf := addP) (f := cF (.int 1)) (r1 := .dat (.int 1)) (d := .int 1) (ro := .val (.int (1 + v))) rfl t1 rfl rfl rfl
    exact call_par (i := 0) (o := .lst [.int a1, .int b1]) (o' := .lst [.int a2, .int b2]) (ds := [.int (1 + v)]) (aCons_eq (r := .al 0) (es1 := [pu a b, .dat (.int most), .dat (.int thick), .no, .no]) rfl (aOne_eq o1)) rfl (.inl rfl) f1 (fun _ z => nomatch z)
  have c2 : callF F__law_ways [] (aCons (vF 0) (aCons (vF 3) (aOne (vF 2)))) [pu a2 b2, .dat (.int most), .dat (.int thick), .dat (.lst (names.map .str)), .no] = some (.dat (.tup (ps.map wd)), [pu a3 b3, .dat (.int most), .dat (.int thick), .dat (.lst (names.map .str)), .no]) :=
    call_par (i := 0) (o := .lst [.int a2, .int b2]) (o' := .lst [.int a3, .int b3]) (ds := [.lst (names.map .str), .int thick]) (A := aCons (vF 0) (aCons (vF 3) (aOne (vF 2)))) (es := [pu a2 b2, .dat (.int most), .dat (.int thick), .dat (.lst (names.map .str)), .no]) (rs := [.al 0, .dat (.lst (names.map .str)), .dat (.int thick)]) rfl rfl (.inl rfl) f2 (fun _ z => nomatch z)
  have pg : AllGood ps := fun p hp => ⟨gn _ (pm p hp).1, gn _ (pm p hp).2⟩
  have pp := places_perm nd pm
  have hlen : (sortS (ends ps)).length + (lonely names ps).length = names.length := by rw [← List.length_append]; exact pp.length_eq
  have ini := init_spec (al := lonely names ps) pg pnd pl (fun x hx => gn x (List.mem_filter.mp hx).1) (nd.filter _) (fun x hx z => by
    have := (List.mem_filter.mp hx).2
    rw [decide_eq_true_eq] at this
    exact this (mem_ends.mp z)) (by omega) (by omega)
  have ln := lonely_spec names ps (by omega) (by omega)
  have c3 := call_dats (A := aCons (vF 3) (aOne (vF 4))) (es := [pu a3 b3, .dat (.int most), .dat (.int thick), .dat (.lst (names.map .str)), .dat (.tup (ps.map wd))]) (rs := [.dat (.lst (names.map .str)), .dat (.tup (ps.map wd))]) (ds := [.lst (names.map .str), .tup (ps.map wd)]) rfl rfl ln (fun _ z => nomatch z)
  have m1 := make_eq (A := aOne (vF 4)) (es := [pu a3 b3, .dat (.int most), .dat (.int thick), .dat (.lst (names.map .str)), .dat (.tup (ps.map wd))]) (KA := aCons (callF F__law_lonely [] (aCons (vF 3) (aOne (vF 4)))) aNil) rfl (aCons_eq c3 rfl) ini
  have R1 : tupF (aCons (vF 3) (aCons (vF 4) (aOne (makeF "Web" F_Web___init__ 1 1 [0, 1, 2] (aOne (vF 4)) (aCons (callF F__law_lonely [] (aCons (vF 3) (aOne (vF 4)))) aNil))))) [pu a3 b3, .dat (.int most), .dat (.int thick), .dat (.lst (names.map .str)), .dat (.tup (ps.map wd))] = some (.dat (netD names ps (ps.mergeSort wayR) ((sortS (ends ps) ++ lonely names ps).mergeSort strR)), [pu a3 b3, .dat (.int most), .dat (.int thick), .dat (.lst (names.map .str)), .dat (.tup (ps.map wd))]) := by
    unfold tupF
    rw [aCons_eq (r := .dat (.lst (names.map .str))) (es1 := [pu a3 b3, .dat (.int most), .dat (.int thick), .dat (.lst (names.map .str)), .dat (.tup (ps.map wd))]) rfl (aCons_eq (r := .dat (.tup (ps.map wd))) (es1 := [pu a3 b3, .dat (.int most), .dat (.int thick), .dat (.lst (names.map .str)), .dat (.tup (ps.map wd))]) rfl (aOne_eq m1))]
    rfl
  refine ⟨names, ps, ps.mergeSort wayR, (sortS (ends ps) ++ lonely names ps).mergeSort strR, a3, b3, ?_, ⟨nd, gn, by omega, hl2, ⟨pnd, pm, pl⟩, List.mergeSort_perm _ _, (List.mergeSort_perm _ _).trans pp⟩, by omega⟩
  have hb : b__law_net [pu a b, .dat (.int most), .dat (.int thick), .no, .no] = some (.ret (.dat (netD names ps (ps.mergeSort wayR) ((sortS (ends ps) ++ lonely names ps).mergeSort strR))), [pu a3 b3, .dat (.int most), .dat (.int thick), .dat (.lst (names.map .str)), .dat (.tup (ps.map wd))]) :=
    seq_eq (setZ_dat c1 rfl rfl) (seq_eq (setZ_dat c2 rfl rfl) (ret_dat R1))
  exact defF_eq (p := 3) (n := 5) (as := [pu a b, .dat (.int most), .dat (.int thick)]) rfl rfl hb
end K74

set_option Elab.async false
set_option linter.all false
set_option maxRecDepth 100000
set_option maxHeartbeats 4000000
namespace K74
open PySem PySem.Spec PyProof.Rows L2 PL
abbrev wb (sw : List (Str × Str)) (sp : List Str) : Dt := .ob "Web" (webF sw sp)
def nexts (sw : List (Str × Str)) (x : Str) : List Str := (sw.filter fun w => decide (w.1 = x)).map (·.2)
def Wk (sw : List (Str × Str)) (g : Str) : Nat → Str → Int
  | 0, p => if p = g then 1 else 0
  | n + 1, p => ((nexts sw p).map (Wk sw g n)).sum
theorem check_place_spec {sw : List (Str × Str)} {sp : List Str} {x : Str} (hx : x ∈ sp) : F_check_place [.dat (wb sw sp), .dat (.str x)] = some (.dat .non, [.dat (wb sw sp), .dat (.str x)]) := by
  have u1 : unF (attP "Web" "places") (vF 0) [.dat (wb sw sp), .dat (.str x)] = some (.dat (.tup (sp.map .str)), [.dat (wb sw sp), .dat (.str x)]) := rfl
  have o1 : opF (inP true) (vF 1) (unF (attP "Web" "places") (vF 0)) [.dat (wb sw sp), .dat (.str x)] = some (.dat (.bl false), [.dat (wb sw sp), .dat (.str x)]) :=
    op_eq' (r1 := .dat (.str x)) (d := .str x) (e := .tup (sp.map .str)) (ro := .val (.bl false)) rfl u1 rfl rfl (by
      show seqIn true (.str x) (sp.map .str) = _
      rw [seqIn_strs, decide_eq_true hx]
      rfl)
  have t1 : truF (isiF .str (vF 1)) [.dat (wb sw sp), .dat (.str x)] = some (true, [.dat (wb sw sp), .dat (.str x)]) := rfl
  exact defF_eq (p := 2) (n := 2) (as := [.dat (wb sw sp), .dat (.str x)]) (fl := .nx) (es := [.dat (wb sw sp), .dat (.str x)]) rfl rfl (if_false (or_f (not_eq t1) (bool_eq o1)) rfl)
def stD : Dt → Str
  | .str x => x
  | _ => ""
theorem onward_filter (x : Str) : ∀ sw : List (Str × Str), (sw.map fun w => (Dt.str w.1, Dt.str w.2)).filterMap (fun p => if stD p.1 = x then some p.2 else none) = (nexts sw x).map .str
  | [] => rfl
  | w :: sw => by
    have ih := onward_filter x sw
    unfold nexts at ih ⊢
    rw [List.map_cons, List.filterMap_cons, List.filter_cons, ih]
    by_cases h : w.1 = x
    · simp [stD, h]
    · simp [stD, h]
theorem onward_spec {sw : List (Str × Str)} {sp : List Str} {x : Str} (hx : x ∈ sp) (hl : sw.length ≤ 60) : F_Web_onward [.dat (wb sw sp), .dat (.str x)] = some (.dat (.tup ((nexts sw x).map .str)), [.dat (wb sw sp), .dat (.str x)]) := by
  have a1 := expr_eq (call_dats (A := aCons (vF 0) (aOne (vF 1))) (es := [.dat (wb sw sp), .dat (.str x), .no, .no]) (rs := [.dat (wb sw sp), .dat (.str x)]) (ds := [wb sw sp, .str x]) rfl rfl (check_place_spec hx) (fun _ z => nomatch z))
  have l1 := lc_pairs (i := 2) (j := 3) (it := itF (unF (attP "Web" "ways") (vF 0))) (t := boolF (opF (eqP false) (vF 2) (vF 1))) (f := vF 3) (es := [.dat (wb sw sp), .dat (.str x), .no, .no]) (sw.map fun w => (Dt.str w.1, Dt.str w.2)) (fun p => if stD p.1 = x then some p.2 else none) (by decide) (by
      rw [List.map_map]; rfl) rfl rfl (by rw [List.length_map]; omega) fun p hp => by
    obtain ⟨w, _, rfl⟩ := List.mem_map.mp hp
    have o1 : opF (eqP false) (vF 2) (vF 1) [.dat (wb sw sp), .dat (.str x), .dat (.str w.1), .dat (.str w.2)] = some (.dat (.bl (xor false (decide (w.1 = x)))), [.dat (wb sw sp), .dat (.str x), .dat (.str w.1), .dat (.str w.2)]) := rfl
    by_cases h : w.1 = x
    · right
      rw [decide_eq_true h] at o1
      exact ⟨bool_eq o1, .dat (.str w.2), .str w.2, rfl, rfl, if_pos h⟩
    · left
      rw [decide_eq_false h] at o1
      exact ⟨bool_eq o1, if_neg h⟩
  rw [onward_filter] at l1
  have r1 := cb_eq (pf := tuplP) (ds := [.lst ((nexts sw x).map .str)]) (ro := .nt ((nexts sw x).map .str)) (aOne_eq l1) rfl rfl
  exact defF_eq (p := 2) (n := 4) (as := [.dat (wb sw sp), .dat (.str x)]) (fl := .ret (.dat (.tup ((nexts sw x).map .str)))) rfl rfl (seq_eq a1 (ret_dat r1))
theorem meth_eq {F : DE} {c m : Str} {f : DE} {A : DA} {es es1 es2 : Sls} {l : List (Str × Dt)} {rs : List Rs} {ds : List Dt} {r : Rs} {as : Sls} (hf : f es = some (.dat (.ob c l), es1)) (hm : (l.lookup m).isNone = true) (hA : A es1 = some (rs, es2)) (e : rs.map Rs.fz = ds.map .dat) (hG : F (.dat (.ob c l) :: ds.map .dat) = some (r, as)) (hr : ∀ i, r ≠ .al i) : methF c m F [] f A es = some (r, es2) := by
  unfold methF
  rw [hf]
  show (match decide (c = c) && (l.lookup m).isNone with
    | true => (A es1).bind fun q => callG F [] (.dat (.ob c l) :: q.1.map Rs.fz) q.2
    | false => none) = _
  rw [hm, decide_eq_true rfl]
  show (A es1).bind _ = _
  rw [hA]
  show callG F [] (.dat (.ob c l) :: rs.map Rs.fz) es2 = _
  rw [e]
  exact callG_dats (ds := .ob c l :: ds) hG hr
theorem valD_map {f : Str → Dt} {y : Str} : ∀ {l : List Str}, y ∈ l → valD (l.map fun x => ((.inr x : Key), f x)) (.inr y) = some (f y)
  | x :: l, h => by
    by_cases e : x = y
    · subst e
      exact valD_pos rfl
    · rw [List.map_cons, valD_neg (fun z => e (Sum.inr.inj z))]
      exact valD_map ((List.mem_cons.mp h).resolve_left fun z => e z.symm)
theorem ixP_map {f : Str → Dt} {y : Str} {l : List Str} (h : y ∈ l) : ixP (.dct (l.map fun x => ((.inr x : Key), f x))) (.str y) = some (.val (f y)) := by
  show ((keyD (.str y)).bind fun k => (valD (l.map fun x => ((.inr x : Key), f x)) k).map Ro.val) = _
  show (valD (l.map fun x => ((.inr x : Key), f x)) (.inr y)).map Ro.val = _
  rw [valD_map h]
  rfl
theorem within_spec {n a b : Int} (h1 : a ≤ n) (h2 : n ≤ b) : F_is_within [.dat (.int n), .dat (.int a), .dat (.int b)] = some (.dat (.bl true), [.dat (.int n), .dat (.int a), .dat (.int b)]) := by
  have c1 := call_dats (A := aOne (vF 0)) (es := [.dat (.int n), .dat (.int a), .dat (.int b)]) (rs := [.dat (.int n)]) (ds := [.int n]) rfl rfl (is_whole_int n) (fun _ z => nomatch z)
  have g1 : ¬ (n < a) := by omega
  have g2 : ¬ (b < n) := by omega
  refine defF_eq (p := 3) (n := 3) (as := [.dat (.int n), .dat (.int a), .dat (.int b)]) (fl := .ret (.dat (.bl true))) (es := [.dat (.int n), .dat (.int a), .dat (.int b)]) rfl rfl (ret_dat (F := andVF (callF F_is_whole [] (aOne (vF 0))) (chainF (ordP true true) (ordP true true) (vF 1) (vF 0) (vF 2))) ?_)
  show andVF (callF F_is_whole [] (aOne (vF 0))) (chainF (ordP true true) (ordP true true) (vF 1) (vF 0) (vF 2)) [.dat (.int n), .dat (.int a), .dat (.int b)] = _
  have e2 : chainF (ordP true true) (ordP true true) (vF 1) (vF 0) (vF 2) [.dat (.int n), .dat (.int a), .dat (.int b)] = some (.dat (.bl true), [.dat (.int n), .dat (.int a), .dat (.int b)]) := by
    simp [seqB, ifB, retB, setB, setZ, asgB, parB, exprB, stoB, fldB, forB, vF, vzF, cF, opF, unF, cbF, aNil, aOne, aCons, tupF, lstF, slF, oNone, oSome, txF, isiF, isoF, andVF, orVF, notVF, ifF, boolF, truF, notF, andF, orF, chainF, gN, gT, gsNil, gsCons, noPar, nilB, tyB, look, looks, datas, Rs.fz, Ro.rs, truth, callF, callG, alOk, Rs.ix, argsS, argS, wr, backAt, Sl.put, Sl.ow, Ow.dt, finF, outs, itF, rng1F, rng2F, enumF, ixP, lenP, lenD, intP, maxP, minP, sumP, allP, anyP, tuplP, listP, kdD, isK, addP, subP, mulP, divP, modP, powP, negP, eqP, ordP, swapI, atD, setO, mtF, Sl.given, g1, g2]
  unfold andVF
  rw [c1]
  exact e2
theorem nexts_mem {sw : List (Str × Str)} {sp : List Str} (h : ∀ w ∈ sw, w.2 ∈ sp) {x y : Str} (hy : y ∈ nexts sw x) : y ∈ sp := by
  unfold nexts at hy
  obtain ⟨w, hw, rfl⟩ := List.mem_map.mp hy
  exact h w (List.mem_filter.mp hw).1
def wkD (sw : List (Str × Str)) (g : Str) (n : Nat) (sp : List Str) : Dt := .dct (sp.map fun x => (.inr x, .int (Wk sw g n x)))
def onD (sw : List (Str × Str)) (sp : List Str) : Dt := .dct (sp.map fun x => (.inr x, .tup ((nexts sw x).map .str)))
theorem map_stD {β : Type} (f : Str → β) (l : List Str) : (l.map Dt.str).map (fun d => f (stD d)) = l.map f := by
  rw [List.map_map]; rfl
theorem nd_inr {l : List Str} (nd : l.Nodup) : ((l.map Dt.str).map fun d => (.inr (stD d) : Key)).Nodup := by
  rw [map_stD (fun x => (.inr x : Key))]
  exact List.Pairwise.map _ (fun a b h z => h (Sum.inr.inj z)) nd
theorem dc_strs {it : DI} {f : DE} {es : Sls} {l : List Str} {φ : Str → Dt} {j : Nat} (hi : it es = some (l.map .str, es)) (hj : es[j]? = some .no) (hz : l.length ≤ 100000) (nd : l.Nodup) (h : ∀ x ∈ l, ∃ r, f (es.set j (.dat (.str x))) = some (r, es.set j (.dat (.str x))) ∧ r.fz = .dat (φ x)) : dcF [j] it (gN j) tyB (vF j) f es = some (.new (.dct (l.map fun x => (.inr x, φ x))), es) := by
  have := dc_items (fk := vF j) (f := f) (fun d => (.inr (stD d) : Key)) (fun d => φ (stD d)) hi hj (by rw [List.length_map]; exact hz) (nd_inr nd) fun d hd => by
    obtain ⟨x, hx, rfl⟩ := List.mem_map.mp hd
    obtain ⟨r, h1, h2⟩ := h x hx
    refine ⟨.str x, r, ?_, rfl, h1, h2⟩
    unfold vF
    rw [List.getElem?_set_self (List.getElem?_eq_some_iff.mp hj).1]
  rw [this, List.map_map]
  rfl
theorem many_from_spec {sw : List (Str × Str)} {sp : List Str} {g : Str} {n : Nat} (nd : sp.Nodup) (hs : ∀ w ∈ sw, w.2 ∈ sp) (h1 : sw.length ≤ 60) (h2 : sp.length ≤ 16) (hn : n ≤ 400) : F_many_from [.dat (wb sw sp), .dat (.str g), .dat (.int n)] = some (.dat (wkD sw g n sp), [.dat (wb sw sp), .dat (.str g), .dat (.int n)]) := by
  have d1 := dc_strs (it := itF (unF (attP "Web" "places") (vF 0))) (f := methF "Web" "onward" F_Web_onward [] (vF 0) (aOne (vF 4))) (es := [.dat (wb sw sp), .dat (.str g), .dat (.int n), .no, .no, .no, .no, .no]) (j := 4) (l := sp) (φ := fun x => .tup ((nexts sw x).map .str)) rfl rfl (by omega) nd fun x hx =>
    ⟨.dat (.tup ((nexts sw x).map .str)), meth_eq (es1 := [.dat (wb sw sp), .dat (.str g), .dat (.int n), .no, .dat (.str x), .no, .no, .no]) (rs := [.dat (.str x)]) (ds := [.str x]) rfl rfl rfl rfl (onward_spec hx h1) (fun _ z => nomatch z), rfl⟩
  have s1 := setZ_dat (i := 3) d1 rfl rfl
  have d2 := dc_strs (it := itF (unF (attP "Web" "places") (vF 0))) (f := cbF intP (aOne (opF (eqP false) (vF 4) (vF 1)))) (es := [.dat (wb sw sp), .dat (.str g), .dat (.int n), .dat (onD sw sp), .no, .no, .no, .no]) (j := 4) (l := sp) (φ := fun x => .int (Wk sw g 0 x)) rfl rfl (by omega) nd fun x hx => by
    refine ⟨.dat (.int (if xor false (decide (x = g)) = true then 1 else 0)), rfl, ?_⟩
    show Rs.dat _ = Rs.dat (.int (if x = g then 1 else 0))
    by_cases h : x = g <;> simp [h]
  have s2 := setZ_dat (i := 5) d2 rfl rfl
  obtain ⟨es', f1, y, rfl, ny⟩ := loopB_inv (g := gN 6) (b := setZ 5 (dcF [4] (itF (unF (attP "Web" "places") (vF 0))) (gN 4) tyB (vF 4) (cbF sumP (aOne (lcF [7] (itF (opF ixP (vF 3) (vF 4))) (gN 7) tyB (opF ixP (vF 5) (vF 7)))))))
    (fun k es => ∃ y : Sl, es = [.dat (wb sw sp), .dat (.str g), .dat (.int n), .dat (onD sw sp), .no, .dat (wkD sw g k sp), y, .no] ∧ ∀ o, y ≠ .par o) (rangeD 0 n) 0 [.dat (wb sw sp), .dat (.str g), .dat (.int n), .dat (onD sw sp), .no, .dat (wkD sw g 0 sp), .no, .no] ⟨.no, rfl, fun _ z => nomatch z⟩ fun i d es hi hI => by
      obtain ⟨y, rfl, ny⟩ := hI
      have hg : gN 6 d [.dat (wb sw sp), .dat (.str g), .dat (.int n), .dat (onD sw sp), .no, .dat (wkD sw g (0 + i) sp), y, .no] = some [.dat (wb sw sp), .dat (.str g), .dat (.int n), .dat (onD sw sp), .no, .dat (wkD sw g (0 + i) sp), .dat d, .no] := by
        cases y with
        | par o => exact absurd rfl (ny o)
        | _ => rfl
      have d3 := dc_strs (it := itF (unF (attP "Web" "places") (vF 0))) (f := cbF sumP (aOne (lcF [7] (itF (opF ixP (vF 3) (vF 4))) (gN 7) tyB (opF ixP (vF 5) (vF 7))))) (es := [.dat (wb sw sp), .dat (.str g), .dat (.int n), .dat (onD sw sp), .no, .dat (wkD sw g (0 + i) sp), .dat d, .no]) (j := 4) (l := sp) (φ := fun x => .int (Wk sw g (0 + i + 1) x)) rfl rfl (by omega) nd fun x hx => by
        have i1 : itF (opF ixP (vF 3) (vF 4)) [.dat (wb sw sp), .dat (.str g), .dat (.int n), .dat (onD sw sp), .dat (.str x), .dat (wkD sw g (0 + i) sp), .dat d, .no] = some ((nexts sw x).map .str, [.dat (wb sw sp), .dat (.str g), .dat (.int n), .dat (onD sw sp), .dat (.str x), .dat (wkD sw g (0 + i) sp), .dat d, .no]) := by
          have o1 := op_eq' (pf := ixP) (f := vF 3) (g := vF 4) (es := [.dat (wb sw sp), .dat (.str g), .dat (.int n), .dat (onD sw sp), .dat (.str x), .dat (wkD sw g (0 + i) sp), .dat d, .no]) (r1 := .dat (onD sw sp)) (d := onD sw sp) (e := .str x) (ro := .val (.tup ((nexts sw x).map .str))) rfl rfl rfl rfl (ixP_map (f := fun x => .tup ((nexts sw x).map .str)) hx)
          unfold itF
          rw [o1]
          rfl
        have hln : (nexts sw x).length ≤ 60 := by
          unfold nexts
          rw [List.length_map]
          exact Nat.le_trans (List.length_filter_le _ _) h1
        have l1 := lc_map (j := 7) (it := itF (opF ixP (vF 3) (vF 4))) (f := opF ixP (vF 5) (vF 7)) (fun d => .int (Wk sw g (0 + i) (stD d))) i1 rfl (by rw [List.length_map]; omega) fun d' hd => by
          obtain ⟨y, hy, rfl⟩ := List.mem_map.mp hd
          refine ⟨.dat (.int (Wk sw g (0 + i) y)), ?_, rfl⟩
          exact op_eq' (pf := ixP) (f := vF 5) (g := vF 7) (r1 := .dat (wkD sw g (0 + i) sp)) (d := wkD sw g (0 + i) sp) (e := .str y) (ro := .val (.int (Wk sw g (0 + i) y))) rfl rfl rfl rfl (ixP_map (f := fun x => .int (Wk sw g (0 + i) x)) (nexts_mem hs hy))
        rw [map_stD (fun x => Dt.int (Wk sw g (0 + i) x))] at l1
        refine ⟨.dat (.int (Wk sw g (0 + i + 1) x)), cb_eq (ds := [.lst ((nexts sw x).map fun x => .int (Wk sw g (0 + i) x))]) (ro := .val (.int (Wk sw g (0 + i + 1) x))) (aOne_eq l1) rfl ?_, rfl⟩
        show (intsD ((nexts sw x).map fun x => Dt.int (Wk sw g (0 + i) x))).map _ = _
        have : ((nexts sw x).map fun x => Dt.int (Wk sw g (0 + i) x)) = ((nexts sw x).map (Wk sw g (0 + i))).map .int := by rw [List.map_map]; rfl
        rw [this, intsD_map]
        rfl
      exact ⟨_, .nx, _, hg, setZ_dat (i := 5) d3 rfl rfl, .inl rfl, .dat d, rfl, fun _ z => nomatch z⟩
  rw [rangeD_zero, List.length_map, List.length_range, Int.toNat_natCast, Nat.zero_add] at f1
  have hf := for_eq (it := rng1F (aOne (vF 2))) (g := gN 6) (es := [.dat (wb sw sp), .dat (.str g), .dat (.int n), .dat (onD sw sp), .no, .dat (wkD sw g 0 sp), .no, .no]) (rng1_eq (n := n) rfl (by omega) (by omega)) (by rw [rangeD_zero]; exact f1)
  exact defF_eq (p := 3) (n := 8) (as := [.dat (wb sw sp), .dat (.str g), .dat (.int n)]) (fl := .ret (.dat (wkD sw g n sp))) rfl rfl (seq_eq s1 (seq_eq s2 (seq_eq hf (ret_dat (F := vF 5) (d := wkD sw g n sp) rfl))))
theorem check_steps_spec {n m : Int} (h1 : 0 ≤ n) (h2 : n ≤ m) : F_check_steps [.dat (.int n), .dat (.int m)] = some (.dat .non, [.dat (.int n), .dat (.int m)]) := by
  have c1 := call_dats (A := aCons (vF 0) (aCons (cF (.int 0)) (aOne (vF 1)))) (es := [.dat (.int n), .dat (.int m)]) (rs := [.dat (.int n), .dat (.int 0), .dat (.int m)]) (ds := [.int n, .int 0, .int m]) rfl rfl (within_spec h1 h2) (fun _ z => nomatch z)
  exact defF_eq (p := 2) (n := 2) (as := [.dat (.int n), .dat (.int m)]) (fl := .nx) (es := [.dat (.int n), .dat (.int m)]) rfl rfl (if_false (not_eq (tru_eq c1)) rfl)
theorem check_ends_spec {sw : List (Str × Str)} {sp : List Str} {x y : Str} (hx : x ∈ sp) (hy : y ∈ sp) : F_check_ends [.dat (wb sw sp), .dat (.str x), .dat (.str y)] = some (.dat .non, [.dat (wb sw sp), .dat (.str x), .dat (.str y)]) := by
  have c0 := expr_eq (call_dats (G := F_check_web) (A := aOne (vF 0)) (es := [.dat (wb sw sp), .dat (.str x), .dat (.str y)]) (rs := [.dat (wb sw sp)]) (ds := [wb sw sp]) (r := .dat .non) (as := [.dat (wb sw sp)]) rfl rfl rfl (fun _ z => nomatch z))
  have c1 := expr_eq (call_dats (A := aCons (vF 0) (aOne (vF 1))) (es := [.dat (wb sw sp), .dat (.str x), .dat (.str y)]) (rs := [.dat (wb sw sp), .dat (.str x)]) (ds := [wb sw sp, .str x]) rfl rfl (check_place_spec hx) (fun _ z => nomatch z))
  have c2 := expr_eq (call_dats (A := aCons (vF 0) (aOne (vF 2))) (es := [.dat (wb sw sp), .dat (.str x), .dat (.str y)]) (rs := [.dat (wb sw sp), .dat (.str y)]) (ds := [wb sw sp, .str y]) rfl rfl (check_place_spec hy) (fun _ z => nomatch z))
  exact defF_eq (p := 3) (n := 3) (as := [.dat (wb sw sp), .dat (.str x), .dat (.str y)]) (fl := .nx) rfl rfl (seq_eq c0 (seq_eq c1 c2))
theorem walks_many_spec {sw : List (Str × Str)} {sp : List Str} {x g : Str} {n : Nat} (nd : sp.Nodup) (hs : ∀ w ∈ sw, w.2 ∈ sp) (h1 : sw.length ≤ 60) (h2 : sp.length ≤ 16) (hn : n ≤ 400) (hx : x ∈ sp) (hg : g ∈ sp) : F_walks_many [.dat (wb sw sp), .dat (.str x), .dat (.str g), .dat (.int n)] = some (.dat (.int (Wk sw g n x)), [.dat (wb sw sp), .dat (.str x), .dat (.str g), .dat (.int n)]) := by
  have c0 := expr_eq (call_dats (A := aCons (vF 0) (aCons (vF 1) (aOne (vF 2)))) (es := [.dat (wb sw sp), .dat (.str x), .dat (.str g), .dat (.int n)]) (rs := [.dat (wb sw sp), .dat (.str x), .dat (.str g)]) (ds := [wb sw sp, .str x, .str g]) rfl rfl (check_ends_spec hx hg) (fun _ z => nomatch z))
  have c1 := expr_eq (call_dats (A := aCons (vF 3) (aOne (cF (.int 400)))) (es := [.dat (wb sw sp), .dat (.str x), .dat (.str g), .dat (.int n)]) (rs := [.dat (.int n), .dat (.int 400)]) (ds := [.int n, .int 400]) rfl rfl (check_steps_spec (n := n) (by omega) (by omega)) (fun _ z => nomatch z))
  have c2 := call_dats (A := aCons (vF 0) (aCons (vF 2) (aOne (vF 3)))) (es := [.dat (wb sw sp), .dat (.str x), .dat (.str g), .dat (.int n)]) (rs := [.dat (wb sw sp), .dat (.str g), .dat (.int n)]) (ds := [wb sw sp, .str g, .int n]) rfl rfl (many_from_spec nd hs h1 h2 hn) (fun _ z => nomatch z)
  have o1 := op_eq' (pf := ixP) (g := vF 1) (d := wkD sw g n sp) (e := .str x) (ro := .val (.int (Wk sw g n x))) c2 rfl rfl rfl (ixP_map (f := fun x => .int (Wk sw g n x)) hx)
  exact defF_eq (p := 4) (n := 4) (as := [.dat (wb sw sp), .dat (.str x), .dat (.str g), .dat (.int n)]) (fl := .ret (.dat (.int (Wk sw g n x)))) rfl rfl (seq_eq c0 (seq_eq c1 (ret_dat o1)))
end K74

set_option Elab.async false
set_option linter.all false
set_option maxRecDepth 100000
set_option maxHeartbeats 4000000
namespace K74
open PySem PySem.Spec PyProof.Rows L2 PL
abbrev Row := List Str × Str
abbrev rd (r : Row) : Dt := .tup ((r.1 ++ [r.2]).map .str)
def lg (ps : List (Str × Str)) (r : Row) : List Row := (nexts ps r.2).map fun y => (r.1 ++ [r.2], y)
theorem at_nat {α : Type} {l : List α} {i : Nat} (h : i < l.length) : L2.atI l (i : Int) = some l[i] := by
  simp [L2.atI, L2.ixN, h]
theorem at_last {α : Type} (l : List α) (x : α) : L2.atI (l ++ [x]) (-1) = some x := by
  have : ¬ ((l.length : Int) + 1 < 1) := by omega
  have h2 : ((-1 : Int) + ((l.length : Int) + 1)).toNat = l.length := by omega
  unfold L2.atI L2.ixN
  simp
  rw [if_pos (by omega)]
  show (l ++ [x])[((-1 : Int) + ((l.length : Int) + 1)).toNat]? = some x
  rw [h2]
  simp
theorem last_op {r : Row} {f : DE} {es : Sls} (h : f es = some (.dat (rd r), es)) : opF ixP f (unF negP (cF (.int 1))) es = some (.dat (.str r.2), es) := by
  refine op_eq' (r1 := .dat (rd r)) (r2 := .dat (.int (-1))) (d := rd r) (e := .int (-1)) (ro := .val (.str r.2)) h rfl rfl rfl ?_
  show (L2.atI ((r.1 ++ [r.2]).map Dt.str) (-1)).map Ro.val = _
  rw [List.map_append]
  show (L2.atI (r.1.map Dt.str ++ [Dt.str r.2]) (-1)).map Ro.val = _
  rw [at_last]
  rfl
theorem longer_filter (r : Row) : ∀ ps : List (Str × Str), (ps.map fun w => (Dt.str w.1, Dt.str w.2)).filterMap (fun p => if stD p.1 = r.2 then some (rd (r.1 ++ [r.2], stD p.2)) else none) = (lg ps r).map rd
  | [] => rfl
  | w :: ps => by
    have ih := longer_filter r ps
    unfold lg nexts at ih ⊢
    rw [List.map_cons, List.filterMap_cons, List.filter_cons, ih]
    by_cases h : w.1 = r.2
    · simp [stD, h]
    · simp [stD, h]
theorem lg_len {ps : List (Str × Str)} {r : Row} {c : Nat} (h : ∀ x, (nexts ps x).length ≤ c) : (lg ps r).length ≤ c := by
  unfold lg
  rw [List.length_map]
  exact h _
theorem longer_spec {ps : List (Str × Str)} {rows : List Row} {c : Nat} (hc : ∀ x, (nexts ps x).length ≤ c) (hp : ps.length ≤ 60) (hr : ∀ r ∈ rows, r.1.length ≤ 1000) (hl : rows.length * c ≤ 100000) :
    F__law_longer [.dat (.lst (rows.map rd)), .dat (.tup (ps.map wd))] = some (.new (.lst ((rows.flatMap (lg ps)).map rd)), [.dat (.lst (rows.map rd)), .dat (.tup (ps.map wd))]) := by
  obtain ⟨es', h1, x, rfl, nx, _⟩ := loopB_inv (g := gN 3) (b := exprB (mtF extP 2 (aOne (lcF [4, 5] (itF (vF 1)) (gT 2 (gsCons (gN 4) (gsCons (gN 5) gsNil))) (boolF (opF (eqP false) (vF 4) (opF ixP (vF 3) (unF negP (cF (.int 1)))))) (opF addP (vF 3) (tupF (aOne (vF 5))))))))
    (fun k es => ∃ x : Sl, es = [.dat (.lst (rows.map rd)), .dat (.tup (ps.map wd)), .own (.lst (((rows.take k).flatMap (lg ps)).map rd)), x, .no, .no] ∧ (∀ o, x ≠ .par o) ∧ ((rows.take k).flatMap (lg ps)).length ≤ k * c) (rows.map rd) 0 [.dat (.lst (rows.map rd)), .dat (.tup (ps.map wd)), .own (.lst []), .no, .no, .no] ⟨.no, rfl, (fun _ z => nomatch z), Nat.zero_le _⟩ fun i d es hi hI => by
      rw [Nat.zero_add] at hI ⊢
      obtain ⟨x, rfl, nx, hle⟩ := hI
      have hil := (List.getElem?_eq_some_iff.mp hi).1
      rw [List.length_map] at hil
      rw [List.getElem?_map, List.getElem?_eq_getElem hil] at hi
      have hd : d = rd rows[i] := (Option.some.inj hi).symm
      subst hd
      generalize hri : rows[i] = r at *
      have hrm : r ∈ rows := by rw [← hri]; exact List.getElem_mem hil
      have htk : rows.take (i + 1) = rows.take i ++ [r] := by rw [List.take_add_one, List.getElem?_eq_getElem hil, hri]; rfl
      generalize hA : ((rows.take i).flatMap (lg ps)) = acc at *
      have hg : gN 3 (rd r) [.dat (.lst (rows.map rd)), .dat (.tup (ps.map wd)), .own (.lst (acc.map rd)), x, .no, .no] = some [.dat (.lst (rows.map rd)), .dat (.tup (ps.map wd)), .own (.lst (acc.map rd)), .dat (rd r), .no, .no] := by
        cases x with
        | par o => exact absurd rfl (nx o)
        | _ => rfl
      have l1 := lc_pairs (i := 4) (j := 5) (it := itF (vF 1)) (t := boolF (opF (eqP false) (vF 4) (opF ixP (vF 3) (unF negP (cF (.int 1)))))) (f := opF addP (vF 3) (tupF (aOne (vF 5)))) (es := [.dat (.lst (rows.map rd)), .dat (.tup (ps.map wd)), .own (.lst (acc.map rd)), .dat (rd r), .no, .no]) (ps.map fun w => (Dt.str w.1, Dt.str w.2)) (fun p => if stD p.1 = r.2 then some (rd (r.1 ++ [r.2], stD p.2)) else none) (by decide) (by
        rw [List.map_map]; rfl) rfl rfl (by rw [List.length_map]; omega) fun p hp => by
          obtain ⟨w, _, rfl⟩ := List.mem_map.mp hp
          have i1 := last_op (r := r) (f := vF 3) (es := [.dat (.lst (rows.map rd)), .dat (.tup (ps.map wd)), .own (.lst (acc.map rd)), .dat (rd r), .dat (.str w.1), .dat (.str w.2)]) rfl
          have o1 := op_eq' (pf := eqP false) (f := vF 4) (es := [.dat (.lst (rows.map rd)), .dat (.tup (ps.map wd)), .own (.lst (acc.map rd)), .dat (rd r), .dat (.str w.1), .dat (.str w.2)]) (r1 := .dat (.str w.1)) (d := .str w.1) (ro := .val (.bl (xor false (decide (w.1 = r.2))))) rfl i1 rfl rfl rfl
          by_cases h : w.1 = r.2
          · right
            rw [decide_eq_true h] at o1
            refine ⟨bool_eq o1, .dat (.tup ((r.1.map .str ++ [.str r.2]) ++ [.str w.2])), rd (r.1 ++ [r.2], w.2), ?_, ?_, if_pos h⟩
            · refine op_eq' (pf := addP) (f := vF 3) (g := tupF (aOne (vF 5))) (es := [.dat (.lst (rows.map rd)), .dat (.tup (ps.map wd)), .own (.lst (acc.map rd)), .dat (rd r), .dat (.str w.1), .dat (.str w.2)]) (es1 := [.dat (.lst (rows.map rd)), .dat (.tup (ps.map wd)), .own (.lst (acc.map rd)), .dat (rd r), .dat (.str w.1), .dat (.str w.2)]) (es2 := [.dat (.lst (rows.map rd)), .dat (.tup (ps.map wd)), .own (.lst (acc.map rd)), .dat (rd r), .dat (.str w.1), .dat (.str w.2)]) (r1 := .dat (rd r)) (r2 := .dat (.tup [.str w.2])) (d := rd r) (e := .tup [.str w.2]) (ro := .nt ((r.1.map .str ++ [.str r.2]) ++ [.str w.2])) rfl rfl rfl rfl ?_
              have e1 : (r.1 ++ [r.2]).map Dt.str = r.1.map .str ++ [.str r.2] := by rw [List.map_append]; rfl
              have e2 : (r.1.map Dt.str ++ [Dt.str r.2]).isEmpty = false := by cases r.1 <;> rfl
              have hlr := hr r hrm
              show addP (.tup ((r.1 ++ [r.2]).map .str)) (.tup [.str w.2]) = _
              rw [e1]
              show (if (r.1.map Dt.str ++ [Dt.str r.2]).length + 1 ≤ 100000 then (if (r.1.map Dt.str ++ [Dt.str r.2]).isEmpty = true then _ else if false = true then _ else some (Ro.nt ((r.1.map Dt.str ++ [Dt.str r.2]) ++ [Dt.str w.2]))) else none) = _
              rw [if_pos (by rw [List.length_append, List.length_map]; show r.1.length + 1 + 1 ≤ 100000; omega), e2]
              rfl
            · show Rs.dat (.tup ((r.1.map .str ++ [.str r.2]) ++ [.str w.2])) = Rs.dat (.tup (((r.1 ++ [r.2]) ++ [w.2]).map .str))
              rw [List.map_append, List.map_append]
              rfl
          · left
            rw [decide_eq_false h] at o1
            exact ⟨bool_eq o1, if_neg h⟩
      rw [longer_filter] at l1
      have hlg := lg_len (r := r) hc
      have hb : acc.length + (lg ps r).length ≤ 100000 := by
        have : (i + 1) * c ≤ rows.length * c := Nat.mul_le_mul_right _ hil
        rw [Nat.add_mul] at this
        omega
      have hmt := mt_eq (pf := extP) (k := 2) (l0 := acc.map rd) (l := acc.map rd) (l' := acc.map rd ++ (lg ps r).map rd) (d := .non) (ds := [.lst ((lg ps r).map rd)]) rfl (aOne_eq l1) rfl rfl (by
          unfold extP
          exact if_pos (by rw [List.length_map, List.length_map]; exact hb))
      refine ⟨_, .nx, [.dat (.lst (rows.map rd)), .dat (.tup (ps.map wd)), .own (.lst (acc.map rd ++ (lg ps r).map rd)), .dat (rd r), .no, .no], hg, expr_eq hmt, .inl rfl, .dat (rd r), ?_, (fun _ z => nomatch z), ?_⟩
      · rw [htk, List.flatMap_append, hA, List.map_append]
        show _ = [_, _, Sl.own (.lst (acc.map rd ++ (([r] : List Row).flatMap (lg ps)).map rd)), _, _, _]
        rw [List.flatMap_singleton]
      · rw [htk, List.flatMap_append, hA, List.flatMap_singleton, List.length_append, Nat.add_mul]
        omega
  rw [Nat.zero_add, List.length_map, List.take_length] at h1
  have hf := for_eq (it := itF (vF 0)) (g := gN 3) (es := [.dat (.lst (rows.map rd)), .dat (.tup (ps.map wd)), .own (.lst []), .no, .no, .no]) (items := rows.map rd) rfl h1
  have s1 : setB 2 (lstF aNil) [.dat (.lst (rows.map rd)), .dat (.tup (ps.map wd)), .no, .no, .no, .no] = some (.nx, [.dat (.lst (rows.map rd)), .dat (.tup (ps.map wd)), .own (.lst []), .no, .no, .no]) := rfl
  have r1 := ret_own (i := 2) (es := [.dat (.lst (rows.map rd)), .dat (.tup (ps.map wd)), .own (.lst ((rows.flatMap (lg ps)).map rd)), x, .no, .no]) (o := .lst ((rows.flatMap (lg ps)).map rd)) rfl
  exact defF_eq (p := 2) (n := 6) (as := [.dat (.lst (rows.map rd)), .dat (.tup (ps.map wd))]) (fl := .ret (.new (.lst ((rows.flatMap (lg ps)).map rd)))) rfl rfl (seq_eq s1 (seq_eq hf r1))
/-! ### the count -/
def rws (ps : List (Str × Str)) (b : Str) : Nat → List Row
  | 0 => [([], b)]
  | k + 1 => (rws ps b k).flatMap (lg ps)
theorem sum_perm {l m : List Int} (h : l.Perm m) : l.sum = m.sum := by
  induction h with
  | nil => rfl
  | cons x _ ih => rw [List.sum_cons, List.sum_cons, ih]
  | swap x y l => rw [List.sum_cons, List.sum_cons, List.sum_cons, List.sum_cons]; omega
  | trans _ _ h1 h2 => exact h1.trans h2
theorem nexts_perm {sw ps : List (Str × Str)} (h : sw.Perm ps) (x : Str) : (nexts sw x).Perm (nexts ps x) := (h.filter _).map _
theorem Wk_perm {sw ps : List (Str × Str)} (h : sw.Perm ps) (g : Str) : ∀ (n : Nat) (x : Str), Wk sw g n x = Wk ps g n x
  | 0, x => rfl
  | n + 1, x => by
    have ih : Wk sw g n = Wk ps g n := funext (Wk_perm h g n)
    show ((nexts sw x).map (Wk sw g n)).sum = ((nexts ps x).map (Wk ps g n)).sum
    rw [ih]
    exact sum_perm ((nexts_perm h x).map _)
theorem sum_flat {α β : Type} (f : α → List β) (g : β → Int) : ∀ l : List α, ((l.flatMap f).map g).sum = (l.map fun a => ((f a).map g).sum).sum
  | [] => rfl
  | a :: l => by
    rw [List.flatMap_cons, List.map_append, List.sum_append, sum_flat f g l]
    rfl
theorem rws_sum (ps : List (Str × Str)) (g b : Str) : ∀ k m : Nat, ((rws ps b k).map fun r => Wk ps g m r.2).sum = Wk ps g (m + k) b
  | 0, m => by
    show Wk ps g m b + 0 = _
    rw [Int.add_zero]
    rfl
  | k + 1, m => by
    show (((rws ps b k).flatMap (lg ps)).map _).sum = _
    rw [sum_flat]
    have : (fun r : Row => ((lg ps r).map fun r => Wk ps g m r.2).sum) = fun r => Wk ps g (m + 1) r.2 := by
      funext r
      unfold lg
      rw [List.map_map]
      rfl
    rw [this, rws_sum ps g b k (m + 1)]
    rw [show m + 1 + k = m + (k + 1) by omega]
theorem count_sum {α : Type} (p : α → Bool) : ∀ l : List α, ((l.filter p).length : Int) = (l.map fun a => if p a = true then (1 : Int) else 0).sum
  | [] => rfl
  | a :: l => by
    rw [List.filter_cons, List.map_cons, List.sum_cons, ← count_sum p l]
    cases p a with
    | true => rw [if_pos rfl, if_pos rfl, List.length_cons]; omega
    | false => rw [if_neg (by decide), if_neg (by decide)]; omega
theorem due_eq (ps : List (Str × Str)) (g b : Str) (k : Nat) : (((rws ps b k).filter fun r => decide (r.2 = g)).length : Int) = Wk ps g k b := by
  have := rws_sum ps g b k 0
  rw [Nat.zero_add] at this
  rw [count_sum, ← this]
  congr 1
  refine List.map_congr_left fun r _ => ?_
  show (if decide (r.2 = g) = true then (1 : Int) else 0) = if r.2 = g then 1 else 0
  by_cases h : r.2 = g <;> simp [h]
theorem flat_len {α β : Type} {f : α → List β} {c : Nat} (h : ∀ a, (f a).length ≤ c) : ∀ l : List α, (l.flatMap f).length ≤ l.length * c
  | [] => Nat.zero_le _
  | a :: l => by
    rw [List.flatMap_cons, List.length_append, List.length_cons, Nat.add_mul]
    have := flat_len h l
    have := h a
    omega
theorem rws_len {ps : List (Str × Str)} {b : Str} {c : Nat} (h : ∀ x, (nexts ps x).length ≤ c) : ∀ k, (rws ps b k).length ≤ c ^ k
  | 0 => Nat.le_refl 1
  | k + 1 => Nat.le_trans (flat_len (fun r => lg_len h) _) (Nat.mul_le_mul_right _ (rws_len h k))
theorem rws_one {ps : List (Str × Str)} {b : Str} : ∀ k, ∀ r ∈ rws ps b k, r.1.length = k
  | 0, r, h => by
    rw [List.mem_singleton.mp h]
    rfl
  | k + 1, r, h => by
    obtain ⟨q, hq, h⟩ := List.mem_flatMap.mp h
    obtain ⟨y, _, rfl⟩ := List.mem_map.mp h
    show (q.1 ++ [q.2]).length = _
    rw [List.length_append, rws_one k q hq]
    rfl
theorem nodup_len : ∀ {l m : List Str}, l.Nodup → (∀ x ∈ l, x ∈ m) → l.length ≤ m.length
  | [], _, _, _ => Nat.zero_le _
  | x :: l, m, h, s => by
    obtain ⟨h1, h2⟩ := List.nodup_cons.mp h
    have hx := s x List.mem_cons_self
    have := nodup_len (m := m.erase x) h2 fun y hy => (List.mem_erase_of_ne fun e => h1 (by rw [← e]; exact hy)).mpr (s y (List.mem_cons_of_mem _ hy))
    rw [List.length_erase_of_mem hx] at this
    have : 0 < m.length := List.length_pos_of_mem hx
    rw [List.length_cons]
    omega
theorem nexts_len {ps : List (Str × Str)} {names : List Str} (h : GoodWays ps names) (x : Str) : (nexts ps x).length ≤ names.length := by
  refine nodup_len (m := names) ?_ fun y hy => ?_
  · unfold nexts
    rw [List.Nodup, List.pairwise_map]
    refine List.Pairwise.imp_of_mem (fun {p q} hp hq hne e => ?_) (h.1.filter _)
    have e1 := of_decide_eq_true (List.mem_filter.mp hp).2
    have e2 := of_decide_eq_true (List.mem_filter.mp hq).2
    exact hne (Prod.ext (e1.trans e2.symm) e)
  · unfold nexts at hy
    obtain ⟨w, hw, rfl⟩ := List.mem_map.mp hy
    exact (h.2.1 w (List.mem_filter.mp hw).1).2
end K74

set_option Elab.async false
set_option linter.all false
set_option maxRecDepth 100000
set_option maxHeartbeats 4000000
namespace K74
open PySem PySem.Spec PyProof.Rows L2 PL
def NP (x : Sl) : Prop := ∀ o, x ≠ .par o
theorem np_no : NP .no := fun _ z => nomatch z
theorem np_dat (d : Dt) : NP (.dat d) := fun _ z => nomatch z
theorem np_get {es : Sls} {i : Nat} {x : Sl} (h : es[i]? = some x) (n : NP x) : noPar es i = true := by
  unfold noPar
  rw [h]
  cases x with
  | par o => exact absurd rfl (n o)
  | _ => rfl
theorem gN_np {es : Sls} {j : Nat} {d : Dt} {x : Sl} (h : es[j]? = some x) (n : NP x) : gN j d es = some (es.set j (.dat d)) := by
  unfold gN
  rw [np_get h n]
theorem asg_eq {g : DG} {F : DE} {es es1 es2 : Sls} {r : Rs} {d : Dt} (h : F es = some (r, es1)) (hr : r.fz = .dat d) (hg : g d es1 = some es2) : asgB g F es = some (.nx, es2) := by
  unfold asgB
  rw [h]
  show (match r.fz with
  | .dat d => (g d es1).map fun es2 => (Fl.nx, es2)
  | _ => none) = _
  rw [hr]
  show (g d es1).map _ = _
  rw [hg]
  rfl
theorem callK_dats {G : DE} {m : Nat} {ix : List Nat} {KA : DA} {es es1 : Sls} {rs : List Rs} {ds : List Dt} {r : Rs} {as : Sls} (h : KA es = some (rs, es1)) (hl : rs.length = m) (e : pick ix (rs.map Rs.fz) = ds.map .dat) (hG : G (ds.map .dat) = some (r, as)) (hr : ∀ i, r ≠ .al i) : callKF G 0 m ix aNil KA es = some (r, es1) := by
  unfold callKF
  show (KA es).bind _ = _
  rw [h]
  show (if ([] : List Rs).length = 0 ∧ rs.length = m then callG G [] (pick ix (([] : List Rs).map Rs.fz ++ rs.map Rs.fz)) es1 else none) = _
  rw [if_pos ⟨rfl, hl⟩, List.map_nil, List.nil_append, e]
  exact callG_dats hG hr
theorem pick_name {names : List Str} (h1 : 1 ≤ names.length) (h2 : names.length ≤ 16) (a b : Int) (es : Sls) : ∃ x ∈ names, ∃ a' b' : Int, opF ixP (vF 1) (callF F__law_take [] (aCons (vF 0) (aOne (cbF lenP (aOne (vF 1)))))) (pu a b :: .dat (.lst (names.map .str)) :: es) = some (.dat (.str x), pu a' b' :: .dat (.lst (names.map .str)) :: es) := by
  obtain ⟨v, a', b', t1, r1, r2⟩ := take_call (E := cbF lenP (aOne (vF 1))) (a := a) (b := b) (m := names.length) (es := .dat (.lst (names.map .str)) :: es) (by
    have e : (names.map Dt.str).length = names.length := List.length_map _
    show some (Rs.dat (.int ((names.map Dt.str).length : Nat)), _) = _
    rw [e]) (by omega) (by omega)
  obtain ⟨i, rfl⟩ : ∃ i : Nat, v = i := ⟨v.toNat, by omega⟩
  have hi : i < names.length := by omega
  refine ⟨names[i], List.getElem_mem hi, a', b', ?_⟩
  refine op_eq' (r1 := .dat (.lst (names.map .str))) (r2 := .dat (.int i)) (d := .lst (names.map .str)) (e := .int i) (ro := .val (.str names[i])) rfl t1 rfl rfl ?_
  show (L2.atI (names.map Dt.str) (i : Int)).map Ro.val = _
  rw [at_nat (by rw [List.length_map]; exact hi), List.getElem_map]
  rfl
def lastS (d : Dt) : Str := match d with
  | .tup l => stD (l.getLastD .non)
  | _ => ""
theorem lastS_rd (r : Row) : lastS (rd r) = r.2 := by
  show stD (((r.1 ++ [r.2]).map Dt.str).getLastD .non) = _
  rw [List.map_append]
  show stD ((r.1.map Dt.str ++ [Dt.str r.2]).getLastD .non) = _
  rw [List.getLastD_eq_getLast?, List.getLast?_append]
  rfl
theorem rows_filter (g : Str) : ∀ rows : List Row, (rows.map rd).filterMap (fun d => if lastS d = g then some d else none) = (rows.filter fun r => decide (r.2 = g)).map rd
  | [] => rfl
  | r :: rows => by
    rw [List.map_cons, List.filterMap_cons, List.filter_cons, rows_filter g rows, lastS_rd]
    by_cases h : r.2 = g <;> simp [h]
theorem eqD_ints (a : Int) : eqP true (.lst [.int a, .int a]) (.lst [.int a, .int a]) = some (.val (.bl false)) := by
  show (if flat (.lst [.int a, .int a]) = true ∧ flat (.lst [.int a, .int a]) = true ∧ min (dep (.lst [.int a, .int a])) (dep (.lst [.int a, .int a])) ≤ 64 then some (Ro.val (.bl (xor true (eqD (.lst [.int a, .int a]) (.lst [.int a, .int a]))))) else none) = _
  have e : eqD (.lst [.int a, .int a]) (.lst [.int a, .int a]) = true := by
    simp [eqD, py, pys, PyData.eqv, PyData.eqvAll]
  rw [e, if_pos ⟨by simp [flat, flats], by simp [flat, flats], by simp [dep, deps]⟩]
  rfl
abbrev sE (a b : Int) (names : List Str) (ps sw : List (Str × Str)) (sp : List Str) (bg : Str) (rows : List Row) (x6 x7 x8 x9 x10 x11 : Sl) : Sls :=
  [pu a b, .dat (.lst (names.map .str)), .dat (.tup (ps.map wd)), .dat (wb sw sp), .dat (.str bg), .dat (.lst (rows.map rd)), x6, x7, x8, x9, x10, x11]
theorem small_inner {a b : Int} {names : List Str} {ps sw : List (Str × Str)} {sp : List Str} (N : Net names ps sw sp) (l4 : names.length ≤ 4) {bg g : Str} (hb : bg ∈ names) (hg : g ∈ names) {k : Nat} (hk : k < 7) {x8 x10 : Sl} (n8 : NP x8) (n10 : NP x10) :
    ∃ y8 y10, (seqB (setZ 8 (cbF lenP (aOne (lcF [9] (itF (vF 5)) (gN 9) (boolF (opF (eqP false) (opF ixP (vF 9) (unF negP (cF (.int 1)))) (vF 7))) (vF 9))))) (seqB (setZ 10 (lstF (aCons (callF F_walks_many [] (aCons (vF 3) (aCons (vF 4) (aCons (vF 7) (aOne (vF 6)))))) (aOne (callKF F_walks_many 0 4 [2, 3, 1, 0] aNil (aCons (vF 6) (aCons (vF 7) (aCons (vF 3) (aCons (vF 4) aNil))))))))) (ifB (orF (boolF (opF (eqP true) (vF 10) (lstF (aCons (vF 8) (aOne (vF 8)))))) (notF (truF (cbF allP (aOne (lcF [11] (itF (vF 10)) (gN 11) tyB (callF F__law_whole [] (aOne (vF 11))))))))) (retB (cF (.bl false))) nilB)))
      (sE a b names ps sw sp bg (rws ps bg k) (.dat (.int k)) (.dat (.str g)) x8 .no x10 .no) = some (.nx, sE a b names ps sw sp bg (rws ps bg k) (.dat (.int k)) (.dat (.str g)) y8 .no y10 .no) ∧ NP y8 ∧ NP y10 := by
  have nl := nexts_len N.gw
  have hrl : (rws ps bg k).length ≤ 100000 := by
    have h1 := rws_len (b := bg) (fun x => Nat.le_trans (nl x) l4) k
    have h2 : 4 ^ k ≤ 4 ^ 7 := Nat.pow_le_pow_right (by omega) (by omega)
    omega
  have l1 := lc_items (j := 9) (it := itF (vF 5)) (t := boolF (opF (eqP false) (opF ixP (vF 9) (unF negP (cF (.int 1)))) (vF 7))) (f := vF 9) (es := sE a b names ps sw sp bg (rws ps bg k) (.dat (.int k)) (.dat (.str g)) x8 .no x10 .no) (items := (rws ps bg k).map rd) (fun d => if lastS d = g then some d else none) rfl rfl (by rw [List.length_map]; exact hrl) fun d hd => by
    obtain ⟨r, _, rfl⟩ := List.mem_map.mp hd
    have i1 := last_op (r := r) (f := vF 9) (es := sE a b names ps sw sp bg (rws ps bg k) (.dat (.int k)) (.dat (.str g)) x8 (.dat (rd r)) x10 .no) rfl
    have o1 := op_eq' (pf := eqP false) (g := vF 7) (r2 := .dat (.str g)) (e := .str g) (ro := .val (.bl (xor false (decide (r.2 = g))))) i1 rfl rfl rfl rfl
    by_cases h : r.2 = g
    · right
      rw [decide_eq_true h] at o1
      exact ⟨bool_eq o1, .dat (rd r), rd r, rfl, rfl, if_pos (by rw [lastS_rd]; exact h)⟩
    · left
      rw [decide_eq_false h] at o1
      exact ⟨bool_eq o1, if_neg (by rw [lastS_rd]; exact h)⟩
  rw [rows_filter] at l1
  have c1 := cb_eq (pf := lenP) (ds := [.lst (((rws ps bg k).filter fun r => decide (r.2 = g)).map rd)]) (ro := .val (.int (Wk sw g k bg))) (aOne_eq l1) rfl (by
    show some (Ro.val (.int (((((rws ps bg k).filter fun r => decide (r.2 = g)).map rd).length : Nat) : Int))) = _
    rw [List.length_map, due_eq, Wk_perm N.sw])
  have s1 := setZ_dat (i := 8) c1 rfl (np_get rfl n8)
  have hbp : bg ∈ sp := N.sp.mem_iff.mpr hb
  have hgp : g ∈ sp := N.sp.mem_iff.mpr hg
  have spl : sp.length ≤ 16 := by rw [N.sp.length_eq]; exact N.l2
  have swl : sw.length ≤ 60 := by rw [N.sw.length_eq]; exact N.gw.2.2
  have spn : sp.Nodup := N.sp.nodup_iff.mpr N.nd
  have sws : ∀ w ∈ sw, w.2 ∈ sp := fun w hw => N.sp.mem_iff.mpr (N.gw.2.1 w (N.sw.mem_iff.mp hw)).2
  have wm := walks_many_spec (n := k) spn sws swl spl (by omega) hbp hgp
  have w1 := call_dats (A := aCons (vF 3) (aCons (vF 4) (aCons (vF 7) (aOne (vF 6))))) (es := sE a b names ps sw sp bg (rws ps bg k) (.dat (.int k)) (.dat (.str g)) (.dat (.int (Wk sw g k bg))) .no x10 .no) (rs := [.dat (wb sw sp), .dat (.str bg), .dat (.str g), .dat (.int k)]) (ds := [wb sw sp, .str bg, .str g, .int k]) rfl rfl wm (fun _ z => nomatch z)
  have w2 := callK_dats (m := 4) (ix := [2, 3, 1, 0]) (KA := aCons (vF 6) (aCons (vF 7) (aCons (vF 3) (aCons (vF 4) aNil)))) (es := sE a b names ps sw sp bg (rws ps bg k) (.dat (.int k)) (.dat (.str g)) (.dat (.int (Wk sw g k bg))) .no x10 .no) (rs := [.dat (.int k), .dat (.str g), .dat (wb sw sp), .dat (.str bg)]) (ds := [wb sw sp, .str bg, .str g, .int k]) rfl rfl rfl wm (fun _ z => nomatch z)
  have ls : lstF (aCons (callF F_walks_many [] (aCons (vF 3) (aCons (vF 4) (aCons (vF 7) (aOne (vF 6)))))) (aOne (callKF F_walks_many 0 4 [2, 3, 1, 0] aNil (aCons (vF 6) (aCons (vF 7) (aCons (vF 3) (aCons (vF 4) aNil))))))) (sE a b names ps sw sp bg (rws ps bg k) (.dat (.int k)) (.dat (.str g)) (.dat (.int (Wk sw g k bg))) .no x10 .no) = some (.new (.lst [.int (Wk sw g k bg), .int (Wk sw g k bg)]), sE a b names ps sw sp bg (rws ps bg k) (.dat (.int k)) (.dat (.str g)) (.dat (.int (Wk sw g k bg))) .no x10 .no) := by
    unfold lstF
    rw [aCons_eq w1 (aOne_eq w2)]
    rfl
  have s2 := setZ_dat (i := 10) (d := .lst [.int (Wk sw g k bg), .int (Wk sw g k bg)]) ls rfl (np_get rfl n10)
  let E := sE a b names ps sw sp bg (rws ps bg k) (.dat (.int k)) (.dat (.str g)) (.dat (.int (Wk sw g k bg))) .no (.dat (.lst [.int (Wk sw g k bg), .int (Wk sw g k bg)])) .no
  have o1 : opF (eqP true) (vF 10) (lstF (aCons (vF 8) (aOne (vF 8)))) E = some (.dat (.bl false), E) :=
    op_eq' (r1 := .dat (.lst [.int (Wk sw g k bg), .int (Wk sw g k bg)])) (r2 := .new (.lst [.int (Wk sw g k bg), .int (Wk sw g k bg)])) (d := .lst [.int (Wk sw g k bg), .int (Wk sw g k bg)]) (e := .lst [.int (Wk sw g k bg), .int (Wk sw g k bg)]) (ro := .val (.bl false)) rfl rfl rfl rfl (eqD_ints _)
  have l2 := lc_map (j := 11) (it := itF (vF 10)) (f := callF F__law_whole [] (aOne (vF 11))) (es := E) (items := [.int (Wk sw g k bg), .int (Wk sw g k bg)]) (fun _ => .bl true) rfl rfl (by show 2 ≤ 100000; omega) fun d hd => by
    have : d = .int (Wk sw g k bg) := by
      rcases List.mem_cons.mp hd with h | h
      · exact h
      · exact List.mem_singleton.mp h
    subst this
    exact ⟨.dat (.bl true), call_dats (A := aOne (vF 11)) (es := E.set 11 (.dat (.int (Wk sw g k bg)))) (rs := [.dat (.int (Wk sw g k bg))]) (ds := [.int (Wk sw g k bg)]) rfl rfl (law_whole_int _) (fun _ z => nomatch z), rfl⟩
  have a1 := cb_eq (pf := allP) (ds := [.lst [.bl true, .bl true]]) (ro := .val (.bl true)) (aOne_eq l2) rfl rfl
  have s3 : ifB (orF (boolF (opF (eqP true) (vF 10) (lstF (aCons (vF 8) (aOne (vF 8)))))) (notF (truF (cbF allP (aOne (lcF [11] (itF (vF 10)) (gN 11) tyB (callF F__law_whole [] (aOne (vF 11))))))))) (retB (cF (.bl false))) nilB E = some (.nx, E) :=
    if_false (or_f (bool_eq o1) (not_eq (tru_eq a1))) rfl
  exact ⟨_, _, seq_eq s1 (seq_eq s2 s3), np_dat _, np_dat _⟩
end K74

set_option Elab.async false
set_option linter.all false
set_option maxRecDepth 100000
set_option maxHeartbeats 4000000
namespace K74
open PySem PySem.Spec PyProof.Rows L2 PL
theorem small_right_spec (a b : Int) : ∃ a' b', F__law_small_right [pu a b] = some (.dat (.bl true), [pu a' b']) := by
  obtain ⟨v, a1, b1, t1, r1, r2⟩ := take_call (E := cF (.int 4)) (a := a) (b := b) (es := [.no, .no, .no, .no, .no, .no, .no, .no, .no, .no, .no]) rfl (by omega) (by omega)
  obtain ⟨names, ps, sw, sp, a2, b2, f1, N, l4'⟩ := net_spec a1 b1 4 (1 + v) (by omega) (by omega)
  have l4 : names.length ≤ 4 := by omega
  have o1 := op_eq' (pf := addP) (f := cF (.int 1)) (r1 := .dat (.int 1)) (d := .int 1) (ro := .val (.int (1 + v))) rfl t1 rfl rfl rfl
  have c1 : callF F__law_net [] (aCons (vF 0) (aCons (cF (.int 4)) (aOne (opF addP (cF (.int 1)) (callF F__law_take [] (aCons (vF 0) (aOne (cF (.int 4))))))))) [pu a b, .no, .no, .no, .no, .no, .no, .no, .no, .no, .no, .no] = some (.dat (netD names ps sw sp), [pu a2 b2, .no, .no, .no, .no, .no, .no, .no, .no, .no, .no, .no]) :=
    call_par (i := 0) (o := .lst [.int a1, .int b1]) (o' := .lst [.int a2, .int b2]) (ds := [.int 4, .int (1 + v)]) (aCons_eq (r := .al 0) (es1 := [pu a b, .no, .no, .no, .no, .no, .no, .no, .no, .no, .no, .no]) rfl (aCons_eq (r := .dat (.int 4)) (es1 := [pu a b, .no, .no, .no, .no, .no, .no, .no, .no, .no, .no, .no]) rfl (aOne_eq o1))) rfl (.inl rfl) f1 (fun _ z => nomatch z)
  have s1 := asg_eq (g := gT 3 (gsCons (gN 1) (gsCons (gN 2) (gsCons (gN 3) gsNil)))) (es2 := [pu a2 b2, .dat (.lst (names.map .str)), .dat (.tup (ps.map wd)), .dat (wb sw sp), .no, .no, .no, .no, .no, .no, .no, .no]) c1 rfl rfl
  obtain ⟨bg, hb, a3, b3, p1⟩ := pick_name N.l1 N.l2 a2 b2 [.dat (.tup (ps.map wd)), .dat (wb sw sp), .no, .no, .no, .no, .no, .no, .no, .no]
  have s2 := setZ_dat (i := 4) p1 rfl rfl
  have s3 : setZ 5 (lstF (aOne (tupF (aOne (vF 4))))) [pu a3 b3, .dat (.lst (names.map .str)), .dat (.tup (ps.map wd)), .dat (wb sw sp), .dat (.str bg), .no, .no, .no, .no, .no, .no, .no] = some (.nx, sE a3 b3 names ps sw sp bg (rws ps bg 0) .no .no .no .no .no .no) := rfl
  have nl : ∀ x, (nexts ps x).length ≤ 4 := fun x => Nat.le_trans (nexts_len N.gw x) l4
  obtain ⟨es', h1, x6, x7, x8, x10, rfl, _⟩ := loopB_inv (g := gN 6) (b := seqB (forB (itF (vF 1)) (gN 7) (seqB (setZ 8 (cbF lenP (aOne (lcF [9] (itF (vF 5)) (gN 9) (boolF (opF (eqP false) (opF ixP (vF 9) (unF negP (cF (.int 1)))) (vF 7))) (vF 9))))) (seqB (setZ 10 (lstF (aCons (callF F_walks_many [] (aCons (vF 3) (aCons (vF 4) (aCons (vF 7) (aOne (vF 6)))))) (aOne (callKF F_walks_many 0 4 [2, 3, 1, 0] aNil (aCons (vF 6) (aCons (vF 7) (aCons (vF 3) (aCons (vF 4) aNil))))))))) (ifB (orF (boolF (opF (eqP true) (vF 10) (lstF (aCons (vF 8) (aOne (vF 8)))))) (notF (truF (cbF allP (aOne (lcF [11] (itF (vF 10)) (gN 11) tyB (callF F__law_whole [] (aOne (vF 11))))))))) (retB (cF (.bl false))) nilB)))) (setZ 5 (callF F__law_longer [] (aCons (vF 5) (aOne (vF 2))))))
    (fun k es => ∃ x6 x7 x8 x10, es = sE a3 b3 names ps sw sp bg (rws ps bg k) x6 x7 x8 .no x10 .no ∧ NP x6 ∧ NP x7 ∧ NP x8 ∧ NP x10) ((List.range 7).map fun i => .int (i : Nat)) 0 (sE a3 b3 names ps sw sp bg (rws ps bg 0) .no .no .no .no .no .no) ⟨.no, .no, .no, .no, rfl, np_no, np_no, np_no, np_no⟩ fun k d es hi hI => by
      rw [Nat.zero_add] at hI ⊢
      obtain ⟨x6, x7, x8, x10, rfl, n6, n7, n8, n10⟩ := hI
      have hk := (List.getElem?_eq_some_iff.mp hi).1
      rw [List.length_map, List.length_range] at hk
      rw [List.getElem?_map, List.getElem?_range hk] at hi
      have hd : d = .int (k : Nat) := (Option.some.inj hi).symm
      subst hd
      have hg := gN_np (j := 6) (d := .int (k : Nat)) (es := sE a3 b3 names ps sw sp bg (rws ps bg k) x6 x7 x8 .no x10 .no) rfl n6
      obtain ⟨es', h2, y7, y8, y10, rfl, m7, m8, m10⟩ := loopB_inv (g := gN 7) (b := seqB (setZ 8 (cbF lenP (aOne (lcF [9] (itF (vF 5)) (gN 9) (boolF (opF (eqP false) (opF ixP (vF 9) (unF negP (cF (.int 1)))) (vF 7))) (vF 9))))) (seqB (setZ 10 (lstF (aCons (callF F_walks_many [] (aCons (vF 3) (aCons (vF 4) (aCons (vF 7) (aOne (vF 6)))))) (aOne (callKF F_walks_many 0 4 [2, 3, 1, 0] aNil (aCons (vF 6) (aCons (vF 7) (aCons (vF 3) (aCons (vF 4) aNil))))))))) (ifB (orF (boolF (opF (eqP true) (vF 10) (lstF (aCons (vF 8) (aOne (vF 8)))))) (notF (truF (cbF allP (aOne (lcF [11] (itF (vF 10)) (gN 11) tyB (callF F__law_whole [] (aOne (vF 11))))))))) (retB (cF (.bl false))) nilB)))
        (fun _ es => ∃ y7 y8 y10, es = sE a3 b3 names ps sw sp bg (rws ps bg k) (.dat (.int k)) y7 y8 .no y10 .no ∧ NP y7 ∧ NP y8 ∧ NP y10) (names.map .str) 0 (sE a3 b3 names ps sw sp bg (rws ps bg k) (.dat (.int k)) x7 x8 .no x10 .no) ⟨x7, x8, x10, rfl, n7, n8, n10⟩ fun i d es hi hI => by
          obtain ⟨y7, y8, y10, rfl, m7, m8, m10⟩ := hI
          obtain ⟨g, hgn, rfl⟩ := List.mem_map.mp (List.mem_of_getElem? hi)
          obtain ⟨z8, z10, h3, q8, q10⟩ := small_inner (a := a3) (b := b3) N l4 hb hgn hk m8 m10
          exact ⟨_, .nx, _, gN_np (j := 7) rfl m7, h3, .inl rfl, .dat (.str g), z8, z10, rfl, np_dat _, q8, q10⟩
      have f2 := for_eq (it := itF (vF 1)) (g := gN 7) (es := sE a3 b3 names ps sw sp bg (rws ps bg k) (.dat (.int k)) x7 x8 .no x10 .no) (items := names.map .str) rfl h2
      have hrl : (rws ps bg k).length * 4 ≤ 100000 := by
        have h1 := rws_len (b := bg) nl k
        have h2 : 4 ^ k ≤ 4 ^ 6 := Nat.pow_le_pow_right (by omega) (by omega)
        omega
      have c3 := call_dats (A := aCons (vF 5) (aOne (vF 2))) (es := sE a3 b3 names ps sw sp bg (rws ps bg k) (.dat (.int k)) y7 y8 .no y10 .no) (rs := [.dat (.lst ((rws ps bg k).map rd)), .dat (.tup (ps.map wd))]) (ds := [.lst ((rws ps bg k).map rd), .tup (ps.map wd)]) rfl rfl (longer_spec nl N.gw.2.2 (fun r hr => by rw [rws_one k r hr]; omega) hrl) (fun _ z => nomatch z)
      have s5 := setZ_dat (i := 5) (d := .lst ((rws ps bg (k + 1)).map rd)) c3 rfl rfl
      exact ⟨_, .nx, _, hg, seq_eq f2 s5, .inl rfl, .dat (.int k), y7, y8, y10, rfl, np_dat _, m7, m8, m10⟩
  have f3 := for_eq (it := rng1F (aOne (cF (.int 7)))) (g := gN 6) (es := sE a3 b3 names ps sw sp bg (rws ps bg 0) .no .no .no .no .no .no) (rng1_eq (n := 7) rfl (by omega) (by omega)) (by rw [rangeD_zero]; exact h1)
  exact ⟨a3, b3, defF_eq (p := 1) (n := 12) (as := [pu a b]) (fl := .ret (.dat (.bl true))) rfl rfl (seq_eq s1 (seq_eq s2 (seq_eq s3 (seq_eq f3 (ret_dat (F := cF (.bl true)) (d := .bl true) rfl)))))⟩
end K74

set_option Elab.async false
set_option linter.all false
set_option maxRecDepth 100000
set_option maxHeartbeats 4000000
namespace K74
open PySem PySem.Spec PyProof.Rows L2 PL
theorem sum_add {α : Type} (f g : α → Int) : ∀ l : List α, (l.map fun a => f a + g a).sum = (l.map f).sum + (l.map g).sum
  | [] => rfl
  | a :: l => by
    rw [List.map_cons, List.map_cons, List.map_cons, List.sum_cons, List.sum_cons, List.sum_cons, sum_add f g l]
    omega
theorem sum_zero {α : Type} : ∀ l : List α, (l.map fun _ => (0 : Int)).sum = 0
  | [] => rfl
  | a :: l => by rw [List.map_cons, List.sum_cons, sum_zero l]; rfl
theorem sum_swap {α β : Type} (f : α → β → Int) (m : List β) : ∀ l : List α, (l.map fun a => (m.map fun b => f a b).sum).sum = (m.map fun b => (l.map fun a => f a b).sum).sum
  | [] => (sum_zero m).symm
  | a :: l => by
    rw [List.map_cons, List.sum_cons, sum_swap f m l, ← sum_add]
    rfl
theorem sum_filter {α : Type} (p : α → Bool) (f : α → Int) : ∀ l : List α, ((l.filter p).map f).sum = (l.map fun a => if p a = true then f a else 0).sum
  | [] => rfl
  | a :: l => by
    rw [List.filter_cons, List.map_cons, List.sum_cons, ← sum_filter p f l]
    cases p a with
    | true => rw [if_pos rfl, if_pos rfl, List.map_cons, List.sum_cons]
    | false => rw [if_neg (by decide), if_neg (by decide)]; omega
theorem sum_mul {α : Type} (f : α → Int) (c : Int) : ∀ l : List α, (l.map f).sum * c = (l.map fun a => f a * c).sum
  | [] => Int.zero_mul c
  | a :: l => by
    rw [List.map_cons, List.map_cons, List.sum_cons, List.sum_cons, Int.add_mul, sum_mul f c l]
theorem Wk_succ (ps : List (Str × Str)) (g : Str) (n : Nat) (x : Str) : Wk ps g (n + 1) x = (ps.map fun w => if w.1 = x then Wk ps g n w.2 else 0).sum := by
  show ((nexts ps x).map (Wk ps g n)).sum = _
  unfold nexts
  rw [List.map_map, sum_filter]
  congr 1
  refine List.map_congr_left fun w _ => ?_
  show (if decide (w.1 = x) = true then Wk ps g n w.2 else 0) = _
  by_cases h : w.1 = x <;> simp [h]
theorem ite_sum {α : Type} (c : Prop) [Decidable c] (f : α → Int) (l : List α) : (if c then (l.map f).sum else 0) = (l.map fun a => if c then f a else 0).sum := by
  by_cases h : c
  · rw [if_pos h]; simp [h]
  · rw [if_neg h]
    have : (fun a => if c then f a else 0) = fun _ => (0 : Int) := funext fun _ => if_neg h
    rw [this, sum_zero]
theorem Wk_last (ps : List (Str × Str)) (g : Str) : ∀ (n : Nat) (x : Str), Wk ps g (n + 1) x = (ps.map fun w => if w.2 = g then Wk ps w.1 n x else 0).sum
  | 0, x => by
    rw [Wk_succ]
    congr 1
    refine List.map_congr_left fun w _ => ?_
    show (if w.1 = x then (if w.2 = g then (1 : Int) else 0) else 0) = if w.2 = g then (if x = w.1 then 1 else 0) else 0
    have e : (x = w.1) = (w.1 = x) := propext ⟨Eq.symm, Eq.symm⟩
    by_cases h1 : w.1 = x <;> by_cases h2 : w.2 = g <;> simp [h1, h2, e]
  | n + 1, x => by
    rw [Wk_succ]
    have e1 : (fun w : Str × Str => if w.1 = x then Wk ps g (n + 1) w.2 else 0) = fun w => (ps.map fun u => if w.1 = x then (if u.2 = g then Wk ps u.1 n w.2 else 0) else 0).sum := by
      funext w
      rw [Wk_last ps g n w.2]
      exact ite_sum _ _ _
    rw [e1, sum_swap]
    congr 1
    refine List.map_congr_left fun u _ => ?_
    rw [Wk_succ, ite_sum]
    congr 1
    refine List.map_congr_left fun w _ => ?_
    by_cases h1 : w.1 = x <;> by_cases h2 : u.2 = g <;> simp [h1, h2]
theorem sum_pick (f : Str → Int) {b : Str} : ∀ {l : List Str}, l.Nodup → b ∈ l → (l.map fun p => if b = p then f p else 0).sum = f b
  | x :: l, nd, h => by
    obtain ⟨h1, h2⟩ := List.nodup_cons.mp nd
    rw [List.map_cons, List.sum_cons]
    by_cases e : b = x
    · subst e
      have : (l.map fun p => if b = p then f p else 0) = l.map fun _ => 0 := List.map_congr_left fun p hp => if_neg fun z => h1 (by rw [z]; exact hp)
      rw [this, sum_zero, if_pos rfl, Int.add_zero]
    · rw [if_neg e, sum_pick f h2 ((List.mem_cons.mp h).resolve_left e), Int.zero_add]
theorem through {ps : List (Str × Str)} {names : List Str} (nd : names.Nodup) (hm : ∀ w ∈ ps, w.2 ∈ names) (g : Str) (n : Nat) : ∀ (m : Nat) (b : Str), b ∈ names → (names.map fun p => Wk ps p m b * Wk ps g n p).sum = Wk ps g (m + n) b
  | 0, b, hb => by
    rw [Nat.zero_add, ← sum_pick (Wk ps g n) nd hb]
    congr 1
    refine List.map_congr_left fun p _ => ?_
    show (if b = p then (1 : Int) else 0) * _ = _
    by_cases h : b = p
    · rw [if_pos h, if_pos h, Int.one_mul]
    · rw [if_neg h, if_neg h, Int.zero_mul]
  | m + 1, b, hb => by
    have e1 : (fun p : Str => Wk ps p (m + 1) b * Wk ps g n p) = fun p => ((nexts ps b).map fun y => Wk ps p m y * Wk ps g n p).sum := by
      funext p
      show ((nexts ps b).map (Wk ps p m)).sum * _ = _
      rw [sum_mul]
    rw [e1, sum_swap, show m + 1 + n = (m + n) + 1 by omega]
    show _ = ((nexts ps b).map (Wk ps g (m + n))).sum
    congr 1
    refine List.map_congr_left fun y hy => ?_
    exact through nd hm g n m y (nexts_mem hm hy)
theorem sum_bound {α : Type} {f : α → Int} {c : Int} : ∀ {l : List α}, (∀ a ∈ l, 0 ≤ f a ∧ f a ≤ c) → 0 ≤ (l.map f).sum ∧ (l.map f).sum ≤ l.length * c
  | [], _ => ⟨Int.le_refl 0, by simp⟩
  | a :: l, h => by
    obtain ⟨h1, h2⟩ := sum_bound (l := l) fun x hx => h x (List.mem_cons_of_mem _ hx)
    obtain ⟨h3, h4⟩ := h a List.mem_cons_self
    rw [List.map_cons, List.sum_cons, List.length_cons]
    have : ((l.length + 1 : Nat) : Int) * c = l.length * c + c := by
      rw [Int.natCast_add, Int.add_mul]
      show _ + 1 * c = _
      rw [Int.one_mul]
    omega
theorem Wk_bound {ps : List (Str × Str)} (h : ps.length ≤ 60) (g : Str) : ∀ (n : Nat) (x : Str), 0 ≤ Wk ps g n x ∧ Wk ps g n x ≤ ((64 ^ n : Nat) : Int)
  | 0, x => by
    show 0 ≤ (if x = g then (1 : Int) else 0) ∧ (if x = g then (1 : Int) else 0) ≤ 1
    by_cases e : x = g <;> simp [e]
  | n + 1, x => by
    have hl : (nexts ps x).length ≤ 64 := by
      unfold nexts
      rw [List.length_map]
      have := List.length_filter_le (fun w : Str × Str => decide (w.1 = x)) ps
      omega
    obtain ⟨h1, h2⟩ := sum_bound (f := Wk ps g n) (c := ((64 ^ n : Nat) : Int)) (l := nexts ps x) fun y _ => Wk_bound h g n y
    refine ⟨h1, Int.le_trans h2 ?_⟩
    rw [Nat.pow_succ, Nat.mul_comm, ← Int.natCast_mul]
    exact Int.ofNat_le.mpr (Nat.mul_le_mul_right _ hl)
theorem Wk_log {ps : List (Str × Str)} (h : ps.length ≤ 60) (g : Str) {n : Nat} (hn : n ≤ 400) (x : Str) : (Wk ps g n x).natAbs.log2 < 2401 := by
  obtain ⟨h1, h2⟩ := Wk_bound h g n x
  have h3 : (Wk ps g n x).natAbs ≤ 64 ^ n := by omega
  have h4 : 64 ^ n ≤ 2 ^ 2400 := by
    rw [show (64 : Nat) = 2 ^ 6 from rfl, ← Nat.pow_mul]
    exact Nat.pow_le_pow_right (by omega) (by omega)
  by_cases e : (Wk ps g n x).natAbs = 0
  · rw [e]; decide
  · exact (Nat.log2_lt e).mpr (Nat.lt_of_le_of_lt (Nat.le_trans h3 h4) (Nat.pow_lt_pow_right (by omega) (by omega)))
theorem Wk_mulOk {ps : List (Str × Str)} (h : ps.length ≤ 60) {g g' : Str} {n m : Nat} (hn : n ≤ 400) (hm : m ≤ 400) {x y : Str} : PL.mulOk (Wk ps g n x) (Wk ps g' m y) := by
  have h1 := Wk_log h g hn x
  have h2 := Wk_log h g' hm y
  exact .inr (.inr (by omega))
end K74

set_option Elab.async false
set_option linter.all false
set_option maxRecDepth 100000
set_option maxHeartbeats 4000000
namespace K74
open PySem PySem.Spec PyProof.Rows L2 PL
abbrev kvs (names : List Str) (f : Str → Int) : List (Key × Dt) := names.map fun x => (.inr x, .int (f x))
theorem putD_kvs {names : List Str} {f : Str → Int} {y : Str} {v : Int} (hy : y ∈ names) : putD (kvs names f) (.inr y) (.int v) = kvs names fun x => if x = y then v else f x := by
  unfold putD
  rw [if_pos]
  · rw [List.map_map]
    refine List.map_congr_left fun x _ => ?_
    show (if (Sum.inr x : Key) = .inr y then ((Sum.inr x : Key), Dt.int v) else (.inr x, .int (f x))) = (.inr x, .int (if x = y then v else f x))
    by_cases e : x = y
    · subst e
      rw [if_pos rfl, if_pos rfl]
    · rw [if_neg e, if_neg fun z => e (Sum.inr.inj z)]
  · rw [List.any_eq_true]
    exact ⟨(.inr y, .int (f y)), List.mem_map.mpr ⟨y, hy, rfl⟩, decide_eq_true rfl⟩
theorem merge_new : ∀ (m l : List (Key × Dt)), ((l ++ m).map (·.1)).Nodup → mergeD l m = l ++ m
  | [], l, _ => by show l = _; rw [List.append_nil]
  | (k, d) :: m, l, nd => by
    show mergeD (putD l k d) m = _
    have e : putD l k d = l ++ [(k, d)] := putD_new fun p hp z => by
      rw [List.map_append] at nd
      exact (List.nodup_append.mp nd).2.2 p.1 (List.mem_map.mpr ⟨p, hp, rfl⟩) k List.mem_cons_self z
    rw [e, merge_new m _ (by rw [List.append_assoc]; exact nd), List.append_assoc]
    rfl
theorem pairs_kvs (f : Str → Int) : ∀ names : List Str, pairsD (names.map fun x => .tup [.str x, .int (f x)]) = some (kvs names f)
  | [] => rfl
  | x :: names => by
    show (keyD (.str x)).bind (fun k => (pairsD (names.map fun x => .tup [.str x, .int (f x)])).map fun l => (k, Dt.int (f x)) :: l) = _
    rw [pairs_kvs f names]
    rfl
theorem dict_eq {names : List Str} (nd : names.Nodup) (l16 : names.length ≤ 16) {f : Str → Int} {E : DE} {es : Sls} (h0 : es[0]? = some (.dat (.lst (names.map .str)))) (h5 : es[5]? = some .no) (hE : ∀ x ∈ names, ∃ r, E (es.set 5 (.dat (.str x))) = some (r, es.set 5 (.dat (.str x))) ∧ r.fz = .dat (.int (f x))) :
    cbF dictP (aOne (lcF [5] (itF (vF 0)) (gN 5) tyB (tupF (aCons (vF 5) (aOne E))))) es = some (.new (.dct (kvs names f)), es) := by
  have hi : itF (vF 0) es = some (names.map .str, es) := by
    unfold itF vF
    rw [h0]
    rfl
  have l1 := lc_map (j := 5) (it := itF (vF 0)) (f := tupF (aCons (vF 5) (aOne E))) (es := es) (fun d => .tup [d, .int (f (stD d))]) hi h5 (by rw [List.length_map]; omega) fun d hd => by
    obtain ⟨x, hx, rfl⟩ := List.mem_map.mp hd
    obtain ⟨r, h1, h2⟩ := hE x hx
    have hv : vF 5 (es.set 5 (.dat (.str x))) = some (.dat (.str x), es.set 5 (.dat (.str x))) := by
      unfold vF
      rw [List.getElem?_set_self (List.getElem?_eq_some_iff.mp h5).1]
    refine ⟨.dat (.tup [.str x, .int (f x)]), ?_, rfl⟩
    unfold tupF
    rw [aCons_eq hv (aOne_eq h1)]
    cases r with
    | dat d => cases h2; rfl
    | new o => cases o <;> cases h2
    | al j => cases h2
  rw [List.map_map] at l1
  refine cb_eq (ds := [.lst (names.map fun x => .tup [.str x, .int (f x)])]) (ro := .nw (.dct (kvs names f))) (aOne_eq l1) rfl ?_
  show (pairsD (names.map fun x => .tup [.str x, .int (f x)])).map (fun ps => Ro.nw (.dct (mergeD [] ps))) = _
  rw [pairs_kvs]
  show some (Ro.nw (.dct (mergeD [] (kvs names f)))) = _
  rw [merge_new, List.nil_append]
  rw [List.nil_append, List.map_map]
  exact List.Pairwise.map _ (fun a b h z => h (Sum.inr.inj z)) nd
theorem sto_eq {F I : DE} {k : Nat} {es es1 es2 : Sls} {r q : Rs} {d e : Dt} {o o' ow : Ow} (h : F es = some (r, es1)) (hr : r.fz = .dat d) (h1 : es1[k]? = some (.own ow)) (hI : I es1 = some (q, es2)) (l : look es2 q = some e) (h2 : es2[k]? = some (.own o)) (hs : setO o e d = some o') : stoB F k I es = some (.nx, es2.set k (.own o')) := by
  unfold stoB
  rw [h]
  show (match r.fz with
  | .dat d => (match es1[k]? with
    | some sl => (match sl.ow with
      | some _ => (I es1).bind fun q => (look q.2 q.1).bind fun e => (match q.2[k]? with
        | some sl' => sl'.ow.bind fun ow => (setO ow e d).map fun o' => (Fl.nx, q.2.set k (sl'.put o'))
        | none => none)
      | none => none)
    | none => none)
  | _ => none) = _
  rw [hr]
  show (match es1[k]? with
    | some sl => (match sl.ow with
      | some _ => (I es1).bind fun q => (look q.2 q.1).bind fun e => (match q.2[k]? with
        | some sl' => sl'.ow.bind fun ow => (setO ow e d).map fun o' => (Fl.nx, q.2.set k (sl'.put o'))
        | none => none)
      | none => none)
    | none => none) = _
  rw [h1]
  show ((I es1).bind fun q => (look q.2 q.1).bind fun e => (match q.2[k]? with
        | some sl' => sl'.ow.bind fun ow => (setO ow e d).map fun o' => (Fl.nx, q.2.set k (sl'.put o'))
        | none => none)) = _
  rw [hI]
  show ((look es2 q).bind fun e => (match es2[k]? with
        | some sl' => sl'.ow.bind fun ow => (setO ow e d).map fun o' => (Fl.nx, es2.set k (sl'.put o'))
        | none => none)) = _
  rw [l]
  show (match es2[k]? with
        | some sl' => sl'.ow.bind fun ow => (setO ow e d).map fun o' => (Fl.nx, es2.set k (sl'.put o'))
        | none => none) = _
  rw [h2]
  show (setO o e d).map _ = _
  rw [hs]
  rfl
abbrev cE (names : List Str) (ps : List (Str × Str)) (bg : Str) (n : Nat) (h : Str → Int) (x6 x7 x8 x9 : Sl) : Sls := [.dat (.lst (names.map .str)), .dat (.tup (ps.map wd)), .dat (.str bg), .dat (.int n), .dat (.dct (kvs names h)), .no, x6, x7, x8, x9]
def upTo (ps : List (Str × Str)) (h : Str → Int) (i : Nat) (p : Str) : Int := ((ps.take i).map fun w => if w.2 = p then h w.1 else 0).sum
theorem counted_inner {names : List Str} {ps : List (Str × Str)} (gw : ∀ w ∈ ps, w.1 ∈ names ∧ w.2 ∈ names) (l16 : names.length ≤ 16) (bg : Str) (n : Nat) (h : Str → Int) (x6 : Sl) {x8 x9 : Sl} (n8 : NP x8) (n9 : NP x9) :
    ∃ y8 y9, loopB (gT 2 (gsCons (gN 8) (gsCons (gN 9) gsNil))) (stoB (opF addP (opF ixP (vF 7) (vF 9)) (opF ixP (vF 4) (vF 8))) 7 (vF 9)) (ps.map wd) (cE names ps bg n h x6 (.own (.dct (kvs names fun _ => 0))) x8 x9) = some (.nx, cE names ps bg n h x6 (.own (.dct (kvs names fun p => (ps.map fun w => if w.2 = p then h w.1 else 0).sum))) y8 y9) ∧ NP y8 ∧ NP y9 := by
  obtain ⟨es', h1, y8, y9, rfl, m8, m9⟩ := loopB_inv (g := gT 2 (gsCons (gN 8) (gsCons (gN 9) gsNil))) (b := stoB (opF addP (opF ixP (vF 7) (vF 9)) (opF ixP (vF 4) (vF 8))) 7 (vF 9))
    (fun k es => ∃ y8 y9, es = cE names ps bg n h x6 (.own (.dct (kvs names (upTo ps h k)))) y8 y9 ∧ NP y8 ∧ NP y9) (ps.map wd) 0 (cE names ps bg n h x6 (.own (.dct (kvs names fun _ => 0))) x8 x9) ⟨x8, x9, rfl, n8, n9⟩ fun i d es hi hI => by
      rw [Nat.zero_add] at hI ⊢
      obtain ⟨y8, y9, rfl, m8, m9⟩ := hI
      have hil := (List.getElem?_eq_some_iff.mp hi).1
      rw [List.length_map] at hil
      rw [List.getElem?_map, List.getElem?_eq_getElem hil] at hi
      have hd : d = wd ps[i] := (Option.some.inj hi).symm
      subst hd
      obtain ⟨g1, g2⟩ := gw ps[i] (List.getElem_mem hil)
      have hup : (fun x => if x = ps[i].2 then upTo ps h i ps[i].2 + h ps[i].1 else upTo ps h i x) = upTo ps h (i + 1) := by
        funext x
        unfold upTo
        rw [List.take_add_one, List.getElem?_eq_getElem hil, List.map_append, List.sum_append]
        show _ = _ + ((if ps[i].2 = x then h ps[i].1 else 0) + 0)
        by_cases e : x = ps[i].2
        · rw [if_pos e, if_pos e.symm, e, Int.add_zero]
        · rw [if_neg e, if_neg fun z => e z.symm]
          omega
      generalize hw : ps[i] = w at *
      have hg : gT 2 (gsCons (gN 8) (gsCons (gN 9) gsNil)) (wd w) (cE names ps bg n h x6 (.own (.dct (kvs names (upTo ps h i)))) y8 y9) = some (cE names ps bg n h x6 (.own (.dct (kvs names (upTo ps h i)))) (.dat (.str w.1)) (.dat (.str w.2))) := by
        show ((gN 8 (.str w.1) (cE names ps bg n h x6 (.own (.dct (kvs names (upTo ps h i)))) y8 y9)).bind fun es1 => (gN 9 (.str w.2) es1).bind fun es2 => some es2) = _
        rw [gN_np (j := 8) rfl m8]
        show ((gN 9 (.str w.2) (cE names ps bg n h x6 (.own (.dct (kvs names (upTo ps h i)))) (.dat (.str w.1)) y9)).bind fun es2 => some es2) = _
        rw [gN_np (j := 9) rfl m9]
        rfl
      let E := cE names ps bg n h x6 (.own (.dct (kvs names (upTo ps h i)))) (.dat (.str w.1)) (.dat (.str w.2))
      have o1 : opF ixP (vF 7) (vF 9) E = some (.dat (.int (upTo ps h i w.2)), E) := op_eq' (r1 := .al 7) (r2 := .dat (.str w.2)) (d := .dct (kvs names (upTo ps h i))) (e := .str w.2) (ro := .val (.int (upTo ps h i w.2))) rfl rfl rfl rfl (ixP_map (f := fun x => .int (upTo ps h i x)) g2)
      have o2 : opF ixP (vF 4) (vF 8) E = some (.dat (.int (h w.1)), E) := op_eq' (r1 := .dat (.dct (kvs names h))) (r2 := .dat (.str w.1)) (d := .dct (kvs names h)) (e := .str w.1) (ro := .val (.int (h w.1))) rfl rfl rfl rfl (ixP_map (f := fun x => .int (h x)) g1)
      have o3 := op_eq' (pf := addP) (d := .int (upTo ps h i w.2)) (e := .int (h w.1)) (ro := .val (.int (upTo ps h i w.2 + h w.1))) o1 o2 rfl rfl rfl
      have s1 := sto_eq (k := 7) (I := vF 9) (q := .dat (.str w.2)) (e := .str w.2) (es2 := E) (ow := .dct (kvs names (upTo ps h i))) (o := .dct (kvs names (upTo ps h i))) (o' := .dct (kvs names (upTo ps h (i + 1)))) o3 rfl rfl rfl rfl rfl (by
        show (if (kvs names (upTo ps h i)).length ≤ 100000 then (keyD (.str w.2)).map fun k => Ow.dct (putD (kvs names (upTo ps h i)) k (.int (upTo ps h i w.2 + h w.1))) else none) = _
        rw [if_pos (by rw [List.length_map]; omega)]
        show some (Ow.dct (putD (kvs names (upTo ps h i)) (.inr w.2) (.int (upTo ps h i w.2 + h w.1)))) = _
        rw [putD_kvs g2, hup])
      exact ⟨_, .nx, _, hg, s1, .inl rfl, .dat (.str w.1), .dat (.str w.2), rfl, np_dat _, np_dat _⟩
  have e : upTo ps h (0 + (ps.map wd).length) = fun p => (ps.map fun w => if w.2 = p then h w.1 else 0).sum := by
    funext p
    unfold upTo
    rw [Nat.zero_add, List.length_map, List.take_length]
  rw [e] at h1
  exact ⟨y8, y9, h1, m8, m9⟩
theorem counted_spec {names : List Str} {ps : List (Str × Str)} (gw : ∀ w ∈ ps, w.1 ∈ names ∧ w.2 ∈ names) (nd : names.Nodup) (l16 : names.length ≤ 16) (bg : Str) {n : Nat} (hn : n ≤ 400) :
    F__law_counted [.dat (.lst (names.map .str)), .dat (.tup (ps.map wd)), .dat (.str bg), .dat (.int n)] = some (.dat (.dct (kvs names fun p => Wk ps p n bg)), [.dat (.lst (names.map .str)), .dat (.tup (ps.map wd)), .dat (.str bg), .dat (.int n)]) := by
  have d1 := dict_eq nd l16 (f := fun p => Wk ps p 0 bg) (E := cbF intP (aOne (opF (eqP false) (vF 5) (vF 2)))) (es := [.dat (.lst (names.map .str)), .dat (.tup (ps.map wd)), .dat (.str bg), .dat (.int n), .no, .no, .no, .no, .no, .no]) rfl rfl fun x _ => by
    refine ⟨.dat (.int (if xor false (decide (x = bg)) = true then 1 else 0)), rfl, ?_⟩
    show Rs.dat _ = Rs.dat (.int (if bg = x then 1 else 0))
    have e : (bg = x) = (x = bg) := propext ⟨Eq.symm, Eq.symm⟩
    by_cases h : x = bg <;> simp [h, e]
  have s1 := setZ_dat (i := 4) d1 rfl rfl
  obtain ⟨es', h1, x6, x7, x8, x9, rfl, _⟩ := loopB_inv (g := gN 6) (b := seqB (setB 7 (cbF dictP (aOne (lcF [5] (itF (vF 0)) (gN 5) tyB (tupF (aCons (vF 5) (aOne (cF (.int 0))))))))) (seqB (forB (itF (vF 1)) (gT 2 (gsCons (gN 8) (gsCons (gN 9) gsNil))) (stoB (opF addP (opF ixP (vF 7) (vF 9)) (opF ixP (vF 4) (vF 8))) 7 (vF 9))) (setZ 4 (vzF 7))))
    (fun k es => ∃ x6 x7 x8 x9, es = cE names ps bg n (fun p => Wk ps p k bg) x6 x7 x8 x9 ∧ NP x6 ∧ NP x7 ∧ NP x8 ∧ NP x9) (rangeD 0 n) 0 (cE names ps bg n (fun p => Wk ps p 0 bg) .no .no .no .no) ⟨.no, .no, .no, .no, rfl, np_no, np_no, np_no, np_no⟩ fun k d es hi hI => by
      rw [Nat.zero_add] at hI ⊢
      obtain ⟨x6, x7, x8, x9, rfl, n6, n7, n8, n9⟩ := hI
      have hg := gN_np (j := 6) (d := d) (es := cE names ps bg n (fun p => Wk ps p k bg) x6 x7 x8 x9) rfl n6
      have d2 := dict_eq nd l16 (f := fun _ => 0) (E := cF (.int 0)) (es := cE names ps bg n (fun p => Wk ps p k bg) (.dat d) x7 x8 x9) rfl rfl fun x _ => ⟨.dat (.int 0), rfl, rfl⟩
      have s2 := setB_new (i := 7) d2 (np_get rfl n7)
      obtain ⟨y8, y9, h2, m8, m9⟩ := counted_inner gw l16 bg n (fun p => Wk ps p k bg) (.dat d) n8 n9
      have f2 := for_eq (it := itF (vF 1)) (g := gT 2 (gsCons (gN 8) (gsCons (gN 9) gsNil))) (items := ps.map wd) (es := cE names ps bg n (fun p => Wk ps p k bg) (.dat d) (.own (.dct (kvs names fun _ => 0))) x8 x9) rfl h2
      have ew : (fun p => (ps.map fun w => if w.2 = p then Wk ps w.1 k bg else 0).sum) = fun p => Wk ps p (k + 1) bg := by
        funext p
        rw [Wk_last]
      rw [ew] at f2
      have s3 : setZ 4 (vzF 7) (cE names ps bg n (fun p => Wk ps p k bg) (.dat d) (.own (.dct (kvs names fun p => Wk ps p (k + 1) bg))) y8 y9) = some (.nx, cE names ps bg n (fun p => Wk ps p (k + 1) bg) (.dat d) (.dat (.dct (kvs names fun p => Wk ps p (k + 1) bg))) y8 y9) := rfl
      exact ⟨_, .nx, _, hg, seq_eq s2 (seq_eq f2 s3), .inl rfl, _, _, y8, y9, rfl, np_dat _, np_dat _, m8, m9⟩
  have e : 0 + (rangeD 0 n).length = n := by rw [rangeD_zero, List.length_map, List.length_range, Int.toNat_natCast, Nat.zero_add]
  rw [e] at h1
  have hf := for_eq (it := rng1F (aOne (vF 3))) (g := gN 6) (es := cE names ps bg n (fun p => Wk ps p 0 bg) .no .no .no .no) (rng1_eq (n := n) rfl (by omega) (by omega)) h1
  exact defF_eq (p := 4) (n := 10) (as := [.dat (.lst (names.map .str)), .dat (.tup (ps.map wd)), .dat (.str bg), .dat (.int n)]) (fl := .ret (.dat (.dct (kvs names fun p => Wk ps p n bg)))) rfl rfl (seq_eq s1 (seq_eq hf (ret_dat (F := vF 4) (d := .dct (kvs names fun p => Wk ps p n bg)) rfl)))
end K74

set_option Elab.async false
set_option linter.all false
set_option maxRecDepth 100000
set_option maxHeartbeats 4000000
namespace K74
open PySem PySem.Spec PyProof.Rows L2 PL
abbrev gE (a b : Int) (names : List Str) (ps sw : List (Str × Str)) (sp : List Str) (bg g : Str) (x6 x7 x8 x9 x10 x11 : Sl) : Sls :=
  [pu a b, .dat (.lst (names.map .str)), .dat (.tup (ps.map wd)), .dat (wb sw sp), .dat (.str bg), .dat (.str g), x6, x7, x8, x9, x10, x11, .no]
theorem paces_eq (a b : Int) (es : Sls) : ∃ (n : Nat) (a' b' : Int), n ≤ 400 ∧ opF ixP (lstF (aCons (callF F__law_take [] (aCons (vF 0) (aOne (cF (.int 30))))) (aCons (callF F__law_take [] (aCons (vF 0) (aOne (cF (.int 401))))) (aOne (cF (.int 400)))))) (callF F__law_take [] (aCons (vF 0) (aOne (cF (.int 3))))) (pu a b :: es) = some (.dat (.int n), pu a' b' :: es) := by
  obtain ⟨v1, a1, b1, t1, p1, q1⟩ := take_call (E := cF (.int 30)) (a := a) (b := b) (es := es) rfl (by omega) (by omega)
  obtain ⟨v2, a2, b2, t2, p2, q2⟩ := take_call (E := cF (.int 401)) (a := a1) (b := b1) (es := es) rfl (by omega) (by omega)
  obtain ⟨v3, a3, b3, t3, p3, q3⟩ := take_call (E := cF (.int 3)) (a := a2) (b := b2) (es := es) rfl (by omega) (by omega)
  have ls : lstF (aCons (callF F__law_take [] (aCons (vF 0) (aOne (cF (.int 30))))) (aCons (callF F__law_take [] (aCons (vF 0) (aOne (cF (.int 401))))) (aOne (cF (.int 400))))) (pu a b :: es) = some (.new (.lst [.int v1, .int v2, .int 400]), pu a2 b2 :: es) := by
    unfold lstF
    rw [aCons_eq t1 (aCons_eq t2 (aOne_eq (r := .dat (.int 400)) (es1 := pu a2 b2 :: es) rfl))]
    rfl
  have key : ∀ m : Int, 0 ≤ m → m ≤ 400 → L2.atI [Dt.int v1, .int v2, .int 400] v3 = some (.int m) → ∃ (n : Nat) (a' b' : Int), n ≤ 400 ∧ opF ixP (lstF (aCons (callF F__law_take [] (aCons (vF 0) (aOne (cF (.int 30))))) (aCons (callF F__law_take [] (aCons (vF 0) (aOne (cF (.int 401))))) (aOne (cF (.int 400)))))) (callF F__law_take [] (aCons (vF 0) (aOne (cF (.int 3))))) (pu a b :: es) = some (.dat (.int n), pu a' b' :: es) := fun m h0 h1 hm => by
    obtain ⟨n, rfl⟩ : ∃ n : Nat, m = n := ⟨m.toNat, by omega⟩
    refine ⟨n, a3, b3, by omega, op_eq' (r2 := .dat (.int v3)) (d := .lst [.int v1, .int v2, .int 400]) (e := .int v3) (ro := .val (.int n)) ls t3 rfl rfl ?_⟩
    show (L2.atI [Dt.int v1, .int v2, .int 400] v3).map Ro.val = _
    rw [hm]
    rfl
  have h3 : v3 = 0 ∨ v3 = 1 ∨ v3 = 2 := by omega
  rcases h3 with rfl | rfl | rfl
  · exact key v1 p1 (by omega) rfl
  · exact key v2 p2 (by omega) rfl
  · exact key 400 (by omega) (by omega) rfl
theorem great_right_spec (a b : Int) : ∃ a' b', F__law_great_right [pu a b] = some (.dat (.bl true), [pu a' b']) := by
  obtain ⟨v, a1, b1, t1, r1, r2⟩ := take_call (E := cF (.int 2)) (a := a) (b := b) (es := [.no, .no, .no, .no, .no, .no, .no, .no, .no, .no, .no, .no]) rfl (by omega) (by omega)
  obtain ⟨names, ps, sw, sp, a2, b2, f1, N, l4'⟩ := net_spec a1 b1 16 (1 + v) (by omega) (by omega)
  have o1 := op_eq' (pf := addP) (f := cF (.int 1)) (r1 := .dat (.int 1)) (d := .int 1) (ro := .val (.int (1 + v))) rfl t1 rfl rfl rfl
  have c1 : callF F__law_net [] (aCons (vF 0) (aCons (cF (.int 16)) (aOne (opF addP (cF (.int 1)) (callF F__law_take [] (aCons (vF 0) (aOne (cF (.int 2))))))))) [pu a b, .no, .no, .no, .no, .no, .no, .no, .no, .no, .no, .no, .no] = some (.dat (netD names ps sw sp), [pu a2 b2, .no, .no, .no, .no, .no, .no, .no, .no, .no, .no, .no, .no]) :=
    call_par (i := 0) (o := .lst [.int a1, .int b1]) (o' := .lst [.int a2, .int b2]) (ds := [.int 16, .int (1 + v)]) (aCons_eq (r := .al 0) (es1 := [pu a b, .no, .no, .no, .no, .no, .no, .no, .no, .no, .no, .no, .no]) rfl (aCons_eq (r := .dat (.int 16)) (es1 := [pu a b, .no, .no, .no, .no, .no, .no, .no, .no, .no, .no, .no, .no]) rfl (aOne_eq o1))) rfl (.inl rfl) f1 (fun _ z => nomatch z)
  have s1 := asg_eq (g := gT 3 (gsCons (gN 1) (gsCons (gN 2) (gsCons (gN 3) gsNil)))) (es2 := [pu a2 b2, .dat (.lst (names.map .str)), .dat (.tup (ps.map wd)), .dat (wb sw sp), .no, .no, .no, .no, .no, .no, .no, .no, .no]) c1 rfl rfl
  obtain ⟨bg, hb, a3, b3, p1⟩ := pick_name N.l1 N.l2 a2 b2 [.dat (.tup (ps.map wd)), .dat (wb sw sp), .no, .no, .no, .no, .no, .no, .no, .no, .no]
  obtain ⟨g, hg, a4, b4, p2⟩ := pick_name N.l1 N.l2 a3 b3 [.dat (.tup (ps.map wd)), .dat (wb sw sp), .no, .no, .no, .no, .no, .no, .no, .no, .no]
  have tp : tupF (aCons (opF ixP (vF 1) (callF F__law_take [] (aCons (vF 0) (aOne (cbF lenP (aOne (vF 1))))))) (aOne (opF ixP (vF 1) (callF F__law_take [] (aCons (vF 0) (aOne (cbF lenP (aOne (vF 1)))))))))
      [pu a2 b2, .dat (.lst (names.map .str)), .dat (.tup (ps.map wd)), .dat (wb sw sp), .no, .no, .no, .no, .no, .no, .no, .no, .no] = some (.dat (.tup [.str bg, .str g]), [pu a4 b4, .dat (.lst (names.map .str)), .dat (.tup (ps.map wd)), .dat (wb sw sp), .no, .no, .no, .no, .no, .no, .no, .no, .no]) := by
    unfold tupF
    rw [aCons_eq p1 (aOne_eq p2)]
    rfl
  have s2 := asg_eq (g := gT 2 (gsCons (gN 4) (gsCons (gN 5) gsNil))) (es2 := gE a4 b4 names ps sw sp bg g .no .no .no .no .no .no) tp rfl rfl
  obtain ⟨n, a5, b5, hn, p3⟩ := paces_eq a4 b4 [.dat (.lst (names.map .str)), .dat (.tup (ps.map wd)), .dat (wb sw sp), .dat (.str bg), .dat (.str g), .no, .no, .no, .no, .no, .no, .no]
  have s3 := setZ_dat (i := 6) p3 rfl rfl
  obtain ⟨v7, a6, b6, t7, p7, q7⟩ := take_call (E := opF addP (vF 6) (cF (.int 1))) (a := a5) (b := b5) (m := (n : Int) + 1) (es := [.dat (.lst (names.map .str)), .dat (.tup (ps.map wd)), .dat (wb sw sp), .dat (.str bg), .dat (.str g), .dat (.int n), .no, .no, .no, .no, .no, .no]) rfl (by omega) (by omega)
  obtain ⟨m, rfl⟩ : ∃ m : Nat, v7 = m := ⟨v7.toNat, by omega⟩
  have hm : m ≤ n := by omega
  have s4 := setZ_dat (i := 7) t7 rfl rfl
  let due := Wk ps g n bg
  have c5 := call_dats (A := aCons (vF 1) (aCons (vF 2) (aCons (vF 4) (aOne (vF 6))))) (es := gE a6 b6 names ps sw sp bg g (.dat (.int n)) (.dat (.int m)) .no .no .no .no) (rs := [.dat (.lst (names.map .str)), .dat (.tup (ps.map wd)), .dat (.str bg), .dat (.int n)]) (ds := [.lst (names.map .str), .tup (ps.map wd), .str bg, .int n]) rfl rfl (counted_spec N.gw.2.1 N.nd N.l2 bg hn) (fun _ z => nomatch z)
  have o5 := op_eq' (pf := ixP) (g := vF 5) (r2 := .dat (.str g)) (d := .dct (kvs names fun p => Wk ps p n bg)) (e := .str g) (ro := .val (.int (Wk ps g n bg))) c5 rfl rfl rfl (ixP_map (f := fun p => .int (Wk ps p n bg)) hg)
  have s5 := setZ_dat (i := 8) o5 rfl rfl
  have spl : sp.length ≤ 16 := by rw [N.sp.length_eq]; exact N.l2
  have swl : sw.length ≤ 60 := by rw [N.sw.length_eq]; exact N.gw.2.2
  have spn : sp.Nodup := N.sp.nodup_iff.mpr N.nd
  have sws : ∀ w ∈ sw, w.2 ∈ sp := fun w hw => N.sp.mem_iff.mpr (N.gw.2.1 w (N.sw.mem_iff.mp hw)).2
  have wm : ∀ (x y : Str) (k : Nat), x ∈ names → y ∈ names → k ≤ 400 → F_walks_many [.dat (wb sw sp), .dat (.str x), .dat (.str y), .dat (.int k)] = some (.dat (.int (Wk ps y k x)), [.dat (wb sw sp), .dat (.str x), .dat (.str y), .dat (.int k)]) := fun x y k hx hy hk => by
    rw [walks_many_spec spn sws swl spl hk (N.sp.mem_iff.mpr hx) (N.sp.mem_iff.mpr hy), Wk_perm N.sw]
  obtain ⟨es', h1, x9, x10, rfl, n9, n10⟩ := loopB_inv (g := gN 9) (b := seqB (setZ 10 (callF F_walks_many [] (aCons (vF 3) (aCons (vF 4) (aCons (vF 5) (aOne (vF 6))))))) (ifB (orF (notF (truF (callF F__law_whole [] (aOne (vF 10))))) (boolF (opF (eqP true) (vF 10) (vF 8)))) (retB (cF (.bl false))) nilB))
    (fun _ es => ∃ x9 x10, es = gE a6 b6 names ps sw sp bg g (.dat (.int n)) (.dat (.int m)) (.dat (.int due)) x9 x10 .no ∧ NP x9 ∧ NP x10) (rangeD 0 2) 0 (gE a6 b6 names ps sw sp bg g (.dat (.int n)) (.dat (.int m)) (.dat (.int due)) .no .no .no) ⟨.no, .no, rfl, np_no, np_no⟩ fun i d es hi hI => by
      obtain ⟨x9, x10, rfl, n9, n10⟩ := hI
      have w1 := call_dats (A := aCons (vF 3) (aCons (vF 4) (aCons (vF 5) (aOne (vF 6))))) (es := gE a6 b6 names ps sw sp bg g (.dat (.int n)) (.dat (.int m)) (.dat (.int due)) (.dat d) x10 .no) (rs := [.dat (wb sw sp), .dat (.str bg), .dat (.str g), .dat (.int n)]) (ds := [wb sw sp, .str bg, .str g, .int n]) rfl rfl (wm bg g n hb hg hn) (fun _ z => nomatch z)
      have u1 := setZ_dat (i := 10) w1 rfl (np_get rfl n10)
      let E := gE a6 b6 names ps sw sp bg g (.dat (.int n)) (.dat (.int m)) (.dat (.int due)) (.dat d) (.dat (.int due)) .no
      have w2 := call_dats (A := aOne (vF 10)) (es := E) (rs := [.dat (.int due)]) (ds := [.int due]) rfl rfl (law_whole_int due) (fun _ z => nomatch z)
      have w3 : opF (eqP true) (vF 10) (vF 8) E = some (.dat (.bl false), E) := by
        refine op_eq' (r1 := .dat (.int due)) (r2 := .dat (.int due)) (d := .int due) (e := .int due) (ro := .val (.bl false)) rfl rfl rfl rfl ?_
        show some (Ro.val (.bl (xor true (decide (due = due))))) = _
        rw [decide_eq_true rfl]
        rfl
      have u2 : ifB (orF (notF (truF (callF F__law_whole [] (aOne (vF 10))))) (boolF (opF (eqP true) (vF 10) (vF 8)))) (retB (cF (.bl false))) nilB E = some (.nx, E) := if_false (or_f (not_eq (tru_eq w2)) (bool_eq w3)) rfl
      exact ⟨_, .nx, _, gN_np (j := 9) rfl n9, seq_eq u1 u2, .inl rfl, .dat d, .dat (.int due), rfl, np_dat _, np_dat _⟩
  have s6 := for_eq (it := rng1F (aOne (cF (.int 2)))) (g := gN 9) (es := gE a6 b6 names ps sw sp bg g (.dat (.int n)) (.dat (.int m)) (.dat (.int due)) .no .no .no) (rng1_eq (n := 2) rfl (by omega) (by omega)) h1
  have l7 := lc_map (j := 12) (it := itF (vF 1)) (f := opF mulP (callF F_walks_many [] (aCons (vF 3) (aCons (vF 4) (aCons (vF 12) (aOne (vF 7)))))) (callF F_walks_many [] (aCons (vF 3) (aCons (vF 12) (aCons (vF 5) (aOne (opF subP (vF 6) (vF 7)))))))) (es := gE a6 b6 names ps sw sp bg g (.dat (.int n)) (.dat (.int m)) (.dat (.int due)) x9 x10 .no) (items := names.map .str) (fun d => .int (Wk ps (stD d) m bg * Wk ps g (n - m) (stD d))) rfl rfl (by rw [List.length_map]; have := N.l2; omega) fun d hd => by
    obtain ⟨x, hx, rfl⟩ := List.mem_map.mp hd
    let E := (gE a6 b6 names ps sw sp bg g (.dat (.int n)) (.dat (.int m)) (.dat (.int due)) x9 x10 .no).set 12 (.dat (.str x))
    have w1 := call_dats (A := aCons (vF 3) (aCons (vF 4) (aCons (vF 12) (aOne (vF 7))))) (es := E) (rs := [.dat (wb sw sp), .dat (.str bg), .dat (.str x), .dat (.int m)]) (ds := [wb sw sp, .str bg, .str x, .int m]) rfl rfl (wm bg x m hb hx (by omega)) (fun _ z => nomatch z)
    have es : (n : Int) - (m : Int) = ((n - m : Nat) : Int) := by omega
    have w2 := call_dats (A := aCons (vF 3) (aCons (vF 12) (aCons (vF 5) (aOne (opF subP (vF 6) (vF 7)))))) (es := E) (rs := [.dat (wb sw sp), .dat (.str x), .dat (.str g), .dat (.int ((n : Int) - (m : Int)))]) (ds := [wb sw sp, .str x, .str g, .int ((n - m : Nat) : Int)]) rfl (by rw [es]; rfl) (wm x g (n - m) hx hg (by omega)) (fun _ z => nomatch z)
    refine ⟨.dat (.int (Wk ps x m bg * Wk ps g (n - m) x)), op_eq' (pf := mulP) (d := .int (Wk ps x m bg)) (e := .int (Wk ps g (n - m) x)) (ro := .val (.int (Wk ps x m bg * Wk ps g (n - m) x))) w1 w2 rfl rfl ?_, rfl⟩
    exact if_pos (Wk_mulOk N.gw.2.2 (by omega) (by omega))
  have s7 := setZ_dat (i := 11) l7 rfl rfl
  rw [List.map_map] at s7
  let E := gE a6 b6 names ps sw sp bg g (.dat (.int n)) (.dat (.int m)) (.dat (.int due)) x9 x10 (.dat (.lst ((names.map fun x => Wk ps x m bg * Wk ps g (n - m) x).map .int)))
  have eE : (names.map ((fun d => Dt.int (Wk ps (stD d) m bg * Wk ps g (n - m) (stD d))) ∘ Dt.str)) = (names.map fun x => Wk ps x m bg * Wk ps g (n - m) x).map .int := by rw [List.map_map]; rfl
  rw [eE] at s7
  have c8 : cbF sumP (aOne (vF 11)) E = some (.dat (.int due), E) := by
    refine cb_eq (rs := [.dat (.lst ((names.map fun x => Wk ps x m bg * Wk ps g (n - m) x).map .int))]) (ds := [.lst ((names.map fun x => Wk ps x m bg * Wk ps g (n - m) x).map .int)]) (ro := .val (.int due)) rfl rfl ?_
    show (intsD ((names.map fun x => Wk ps x m bg * Wk ps g (n - m) x).map .int)).map (fun ns => Ro.val (.int ns.sum)) = _
    rw [intsD_map]
    show some (Ro.val (.int ((names.map fun x => Wk ps x m bg * Wk ps g (n - m) x).sum))) = _
    rw [through N.nd (fun w hw => (N.gw.2.1 w hw).2) g (n - m) m bg hb, show m + (n - m) = n by omega]
  have o8 : opF (eqP false) (cbF sumP (aOne (vF 11))) (vF 8) E = some (.dat (.bl true), E) := by
    refine op_eq' (r2 := .dat (.int due)) (d := .int due) (e := .int due) (ro := .val (.bl true)) c8 rfl rfl rfl ?_
    show some (Ro.val (.bl (xor false (decide (due = due))))) = _
    rw [decide_eq_true rfl]
    rfl
  have w9 := call_dats (A := aCons (vF 3) (aCons (vF 4) (aCons (vF 4) (aOne (cF (.int 0)))))) (es := E) (rs := [.dat (wb sw sp), .dat (.str bg), .dat (.str bg), .dat (.int 0)]) (ds := [wb sw sp, .str bg, .str bg, .int ((0 : Nat) : Int)]) rfl rfl (wm bg bg 0 hb hb (by omega)) (fun _ z => nomatch z)
  have o9 : opF (eqP false) (callF F_walks_many [] (aCons (vF 3) (aCons (vF 4) (aCons (vF 4) (aOne (cF (.int 0))))))) (cF (.int 1)) E = some (.dat (.bl true), E) := by
    refine op_eq' (r2 := .dat (.int 1)) (d := .int (Wk ps bg 0 bg)) (e := .int 1) (ro := .val (.bl true)) w9 rfl rfl rfl ?_
    have : Wk ps bg 0 bg = 1 := if_pos rfl
    rw [this]
    rfl
  have rr : andVF (opF (eqP false) (cbF sumP (aOne (vF 11))) (vF 8)) (opF (eqP false) (callF F_walks_many [] (aCons (vF 3) (aCons (vF 4) (aCons (vF 4) (aOne (cF (.int 0))))))) (cF (.int 1))) E = some (.dat (.bl true), E) := by
    unfold andVF
    rw [o8]
    exact o9
  exact ⟨a6, b6, defF_eq (p := 1) (n := 13) (as := [pu a b]) (fl := .ret (.dat (.bl true))) rfl rfl (seq_eq s1 (seq_eq s2 (seq_eq s3 (seq_eq s4 (seq_eq s5 (seq_eq s6 (seq_eq s7 (ret_dat rr))))))))⟩
theorem call_own {G : DE} {ns : List Int} {a b a' b' : Int} {x1 : Sl} (h : G [pu a b] = some (.dat (.bl true), [pu a' b'])) : callF G [] (aOne (vF 2)) [.dat (.frl (ns.map .int)), x1, .own (.lst [.int a, .int b])] = some (.dat (.bl true), [.dat (.frl (ns.map .int)), x1, .own (.lst [.int a', .int b'])]) :=
  call_par (i := 2) (o := .lst [.int a, .int b]) (o' := .lst [.int a', .int b']) (ds := []) (es1 := [.dat (.frl (ns.map .int)), x1, .own (.lst [.int a, .int b])]) (rs := [.al 2]) rfl rfl (.inr rfl) h (fun _ z => nomatch z)
theorem law_spec (ns : List Int) (hn : ns.length ≤ 63) : F_law [.dat (.frl (ns.map .int))] = some (.dat (.bl true), [.dat (.frl (ns.map .int))]) := by
  have h0 : rng1F (aOne (cbF maxP (aCons (cF (.int 2)) (aOne (cbF minP (aCons (cbF lenP (aOne (vF 0))) (aOne (cF (.int 4))))))))) [.dat (.frl (ns.map .int)), .no, .no] = some (rangeD 0 (max 2 (min (ns.length : Int) 4)), [.dat (.frl (ns.map .int)), .no, .no]) := by
    refine rng1_eq ?_ (by omega) (by omega)
    simp [seqB, ifB, retB, setB, setZ, asgB, parB, exprB, stoB, fldB, forB, vF, vzF, cF, opF, unF, cbF, aNil, aOne, aCons, tupF, lstF, slF, oNone, oSome, txF, isiF, isoF, andVF, orVF, notVF, ifF, boolF, truF, notF, andF, orF, chainF, gN, gT, gsNil, gsCons, noPar, nilB, tyB, look, looks, datas, Rs.fz, Ro.rs, truth, callF, callG, alOk, Rs.ix, argsS, argS, wr, backAt, Sl.put, Sl.ow, Ow.dt, finF, outs, itF, rng1F, rng2F, enumF, ixP, lenP, lenD, intP, maxP, minP, sumP, allP, anyP, tuplP, listP, kdD, isK, addP, subP, mulP, divP, modP, powP, negP, eqP, ordP, swapI, atD, setO, mtF, Sl.given]
    by_cases h1 : (4 : Int) < (ns.length : Int)
    · rw [if_pos h1]
      show (4 : Int) = _
      omega
    · rw [if_neg h1]
      by_cases h2 : (2 : Int) < (ns.length : Int)
      · rw [if_pos h2]
        omega
      · rw [if_neg h2]
        omega
  obtain ⟨es', h1, x1, x2, rfl, _⟩ := loopB_inv (g := gN 1) (b := seqB (setB 2 (callF F__law_purse [] (aCons (vF 0) (aOne (vF 1))))) (ifB (orF (notF (truF (callF F__law_small_right [] (aOne (vF 2))))) (notF (truF (callF F__law_great_right [] (aOne (vF 2)))))) (retB (cF (.bl false))) nilB))
    (fun _ es => ∃ x1 x2, es = [.dat (.frl (ns.map .int)), x1, x2] ∧ NP x1 ∧ NP x2) (rangeD 0 (max 2 (min (ns.length : Int) 4))) 0 [.dat (.frl (ns.map .int)), .no, .no] ⟨.no, .no, rfl, np_no, np_no⟩ fun i d es hi hI => by
      obtain ⟨x1, x2, rfl, n1, n2⟩ := hI
      rw [rangeD_zero] at hi
      have hil := (List.getElem?_eq_some_iff.mp hi).1
      rw [List.length_map, List.length_range] at hil
      rw [List.getElem?_map, List.getElem?_range hil] at hi
      have hd : d = .int (i : Nat) := (Option.some.inj hi).symm
      subst hd
      obtain ⟨a, b, hp⟩ := purse_spec ns (i : Nat) hn (by omega)
      have c1 := call_dats (A := aCons (vF 0) (aOne (vF 1))) (es := [.dat (.frl (ns.map .int)), .dat (.int i), x2]) (rs := [.dat (.frl (ns.map .int)), .dat (.int i)]) (ds := [.frl (ns.map .int), .int i]) rfl rfl hp (fun _ z => nomatch z)
      have s1 := setB_new (i := 2) c1 (np_get rfl n2)
      obtain ⟨a1, b1, k1⟩ := small_right_spec a b
      obtain ⟨a2, b2, k2⟩ := great_right_spec a1 b1
      have s2 : ifB (orF (notF (truF (callF F__law_small_right [] (aOne (vF 2))))) (notF (truF (callF F__law_great_right [] (aOne (vF 2)))))) (retB (cF (.bl false))) nilB [.dat (.frl (ns.map .int)), .dat (.int i), .own (.lst [.int a, .int b])] = some (.nx, [.dat (.frl (ns.map .int)), .dat (.int i), .own (.lst [.int a2, .int b2])]) :=
        if_false (or_f (not_eq (tru_eq (call_own k1))) (not_eq (tru_eq (call_own k2)))) rfl
      exact ⟨_, .nx, _, gN_np (j := 1) rfl n1, seq_eq s1 s2, .inl rfl, _, _, rfl, np_dat _, fun _ z => nomatch z⟩
  have s1 := for_eq h0 h1
  exact defF_eq (p := 1) (n := 3) (as := [.dat (.frl (ns.map .int))]) (fl := .ret (.dat (.bl true))) rfl rfl (seq_eq s1 (ret_dat (F := cF (.bl true)) (d := .bl true) rfl))
end K74

set_option Elab.async false
set_option linter.all false
set_option maxRecDepth 100000
set_option maxHeartbeats 0
namespace K74
open PySem PySem.Spec PyProof.Rows L2 PL
/-! ### the head: facts by names -/
/-- the default of alone, an object -/
def alAt (K : PySem.W.Frag) : Addr := match K.lookup (He.fAd K ("Web", some "__init__")) with
  | some ⟨_, _, .func fd, _⟩ => (match fd.kwdefaults with
    | .ref D => (match PySem.W.nsIn K D "alone" with
      | some (some (.ref a)) => a
      | _ => 0)
    | _ => 0)
  | _ => 0
abbrev AL : He.Dv := .adr alAt
def d_is_whole : He.DefD := ⟨("is_whole", none), "is_whole", "is_whole", defArgs s_is_whole, defBody s_is_whole, defScope s_is_whole, [], []⟩
def d_is_within : He.DefD := ⟨("is_within", none), "is_within", "is_within", defArgs s_is_within, defBody s_is_within, defScope s_is_within, [], []⟩
def d_is_name : He.DefD := ⟨("is_name", none), "is_name", "is_name", defArgs s_is_name, defBody s_is_name, defScope s_is_name, [], []⟩
def d_is_way : He.DefD := ⟨("is_way", none), "is_way", "is_way", defArgs s_is_way, defBody s_is_way, defScope s_is_way, [], []⟩
def d_check_ways : He.DefD := ⟨("check_ways", none), "check_ways", "check_ways", defArgs s_check_ways, defBody s_check_ways, defScope s_check_ways, [], []⟩
def d_check_alone : He.DefD := ⟨("check_alone", none), "check_alone", "check_alone", defArgs s_check_alone, defBody s_check_alone, defScope s_check_alone, [], []⟩
def d_Web___init__ : He.DefD := ⟨("Web", some "__init__"), "__init__", "Web.__init__", defArgs s_Web___init__, defBody s_Web___init__, defScope s_Web___init__, [], [("alone", AL)]⟩
def d_check_place : He.DefD := ⟨("check_place", none), "check_place", "check_place", defArgs s_check_place, defBody s_check_place, defScope s_check_place, [], []⟩
def d_Web_onward : He.DefD := ⟨("Web", some "onward"), "onward", "Web.onward", defArgs s_Web_onward, defBody s_Web_onward, defScope s_Web_onward, [], []⟩
def d_check_web : He.DefD := ⟨("check_web", none), "check_web", "check_web", defArgs s_check_web, defBody s_check_web, defScope s_check_web, [], []⟩
def d_check_steps : He.DefD := ⟨("check_steps", none), "check_steps", "check_steps", defArgs s_check_steps, defBody s_check_steps, defScope s_check_steps, [], []⟩
def d_check_ends : He.DefD := ⟨("check_ends", none), "check_ends", "check_ends", defArgs s_check_ends, defBody s_check_ends, defScope s_check_ends, [], []⟩
def d_many_from : He.DefD := ⟨("many_from", none), "many_from", "many_from", defArgs s_many_from, defBody s_many_from, defScope s_many_from, [], []⟩
def d_walks_many : He.DefD := ⟨("walks_many", none), "walks_many", "walks_many", defArgs s_walks_many, defBody s_walks_many, defScope s_walks_many, [], []⟩
def d__law_purse : He.DefD := ⟨("_law_purse", none), "_law_purse", "_law_purse", defArgs s__law_purse, defBody s__law_purse, defScope s__law_purse, [], []⟩
def d__law_take : He.DefD := ⟨("_law_take", none), "_law_take", "_law_take", defArgs s__law_take, defBody s__law_take, defScope s__law_take, [], []⟩
def d__law_names : He.DefD := ⟨("_law_names", none), "_law_names", "_law_names", defArgs s__law_names, defBody s__law_names, defScope s__law_names, [], []⟩
def d__law_ways : He.DefD := ⟨("_law_ways", none), "_law_ways", "_law_ways", defArgs s__law_ways, defBody s__law_ways, defScope s__law_ways, [], []⟩
def d__law_lonely : He.DefD := ⟨("_law_lonely", none), "_law_lonely", "_law_lonely", defArgs s__law_lonely, defBody s__law_lonely, defScope s__law_lonely, [], []⟩
def d__law_net : He.DefD := ⟨("_law_net", none), "_law_net", "_law_net", defArgs s__law_net, defBody s__law_net, defScope s__law_net, [], []⟩
def d__law_whole : He.DefD := ⟨("_law_whole", none), "_law_whole", "_law_whole", defArgs s__law_whole, defBody s__law_whole, defScope s__law_whole, [], []⟩
def d__law_longer : He.DefD := ⟨("_law_longer", none), "_law_longer", "_law_longer", defArgs s__law_longer, defBody s__law_longer, defScope s__law_longer, [], []⟩
def d__law_small_right : He.DefD := ⟨("_law_small_right", none), "_law_small_right", "_law_small_right", defArgs s__law_small_right, defBody s__law_small_right, defScope s__law_small_right, [], []⟩
def d__law_counted : He.DefD := ⟨("_law_counted", none), "_law_counted", "_law_counted", defArgs s__law_counted, defBody s__law_counted, defScope s__law_counted, [], []⟩
def d__law_great_right : He.DefD := ⟨("_law_great_right", none), "_law_great_right", "_law_great_right", defArgs s__law_great_right, defBody s__law_great_right, defScope s__law_great_right, [], []⟩
def d_law : He.DefD := ⟨("law", none), "law", "law", defArgs s_law, defBody s_law, defScope s_law, [], []⟩
def fn : List He.DefD := [d_is_whole, d_is_within, d_is_name, d_is_way, d_check_ways, d_check_alone, d_Web___init__, d_check_place, d_Web_onward, d_check_web, d_check_steps, d_check_ends, d_many_from, d_walks_many, d__law_purse, d__law_take, d__law_names, d__law_ways, d__law_lonely, d__law_net, d__law_whole, d__law_longer, d__law_small_right, d__law_counted, d__law_great_right, d_law]
def fa : List He.Fa := [.cls "Web", .free "all", .free "bool", .free "dict", .free "enumerate", .free "int", .free "isinstance", .free "len", .free "list", .free "max", .free "min", .free "range", .free "sorted", .free "str", .free "sum", .free "tuple", .glo "Web", .int "MOST_IN_WEB" 16, .int "MOST_LETTERS" 8, .int "MOST_STEPS" 400, .int "MOST_WAYS" 60, .noat "Web" "places", .noat "Web" "ways", .str "LETTERS" "abcdefghijklmnopqrstuvwxyz", .glo "is_whole", .glo "is_within", .glo "is_name", .glo "is_way", .glo "check_ways", .glo "check_alone", .glo "check_place", .glo "check_web", .glo "check_steps", .glo "check_ends", .glo "many_from", .glo "walks_many", .glo "_law_purse", .glo "_law_take", .glo "_law_names", .glo "_law_ways", .glo "_law_lonely", .glo "_law_net", .glo "_law_whole", .glo "_law_longer", .glo "_law_small_right", .glo "_law_counted", .glo "_law_great_right", .glo "law", .meth "Web" "onward", .mkr "Web"]
def ex (K : PySem.W.Frag) : Bool := He.eqO (PySem.W.findIn K (.ref (He.ga K "Web")) "__class__") (some (some (.builtin "object.__class__"))) && (He.eqO (PySem.W.specialIn K (.builtin "object.__class__") "__get__") (some (some (.builtin "getset_descriptor.__get__"))) && (decide (PySem.W.takesIn K (.builtin "object.__class__") = some true) && (decide (PySem.W.mroIn K (He.ga K "Web") (.type "object") = some true) && decide (PySem.W.kitOne K (.ref (He.ga K "Web")) (.ref (He.ga K "Web")) = some true))))
theorem ins_ok {K : PySem.W.Frag} (cl : Cls K (He.ga K "Web")) (h : ex K = true) : C8.InsC K (He.ga K "Web") := by
  obtain ⟨h1, h⟩ := He.ba h
  obtain ⟨h2, h⟩ := He.ba h
  obtain ⟨h3, h⟩ := He.ba h
  obtain ⟨h4, h5⟩ := He.ba h
  exact ⟨cl, He.eqO_ok h1, He.eqO_ok h2, of_decide_eq_true h3, of_decide_eq_true h4, of_decide_eq_true h5⟩
theorem env_ok {K : PySem.W.Frag} {h : Heap} {mg : Str → Option Value} (X : K.In h) (G : h.Ns mainGlobals mg) (c : He.SaysD fa fn K) (hx : ex K = true) : Env K mg :=
  ⟨He.cls_ok (c.fact 0 (f := .cls "Web") rfl), He.free_ok X G (c.fact 1 (f := .free "all") rfl), He.free_ok X G (c.fact 2 (f := .free "bool") rfl), He.free_ok X G (c.fact 3 (f := .free "dict") rfl), He.free_ok X G (c.fact 4 (f := .free "enumerate") rfl), He.free_ok X G (c.fact 5 (f := .free "int") rfl), He.free_ok X G (c.fact 6 (f := .free "isinstance") rfl), He.free_ok X G (c.fact 7 (f := .free "len") rfl), He.free_ok X G (c.fact 8 (f := .free "list") rfl), He.free_ok X G (c.fact 9 (f := .free "max") rfl), He.free_ok X G (c.fact 10 (f := .free "min") rfl), He.free_ok X G (c.fact 11 (f := .free "range") rfl), He.free_ok X G (c.fact 12 (f := .free "sorted") rfl), He.free_ok X G (c.fact 13 (f := .free "str") rfl), He.free_ok X G (c.fact 14 (f := .free "sum") rfl), He.free_ok X G (c.fact 15 (f := .free "tuple") rfl), He.glo_ok X G (c.fact 16 (f := .glo "Web") rfl), He.int_ok X G (c.fact 17 (f := .int "MOST_IN_WEB" 16) rfl), He.int_ok X G (c.fact 18 (f := .int "MOST_LETTERS" 8) rfl), He.int_ok X G (c.fact 19 (f := .int "MOST_STEPS" 400) rfl), He.int_ok X G (c.fact 20 (f := .int "MOST_WAYS" 60) rfl), ins_ok (He.cls_ok (c.fact 0 (f := .cls "Web") rfl)) hx, He.noat_ok (c.fact 21 (f := .noat "Web" "places") rfl), He.noat_ok (c.fact 22 (f := .noat "Web" "ways") rfl), He.str_ok X G (c.fact 23 (f := .str "LETTERS" "abcdefghijklmnopqrstuvwxyz") rfl)⟩
section
variable {P : Program} {w : World} {K : PySem.W.Frag} {mg : Str → Option Value} {base h : Heap}
theorem c_is_whole (X : K.In h) (G : h.Ns mainGlobals mg) (hE : Env K mg) (c : He.SaysD fa fn K) : CalF P w K mg base 1 "is_whole" F_is_whole [] := by
  obtain ⟨fd, F⟩ := c.def_ 0 (d := d_is_whole) rfl
  exact cal_ok F sc_is_whole (He.glo_ok X G (c.fact 24 (f := .glo "is_whole") rfl)) (fun _ _ _ _ _ _ us hl => match us, hl with | [_], _ => rfl) fun cdv A outer s H E hr => bx_is_whole hE  cdv A outer s H E hr
theorem c_is_within (X : K.In h) (G : h.Ns mainGlobals mg) (hE : Env K mg) (c : He.SaysD fa fn K) : CalF P w K mg base 2 "is_within" F_is_within [] := by
  obtain ⟨fd, F⟩ := c.def_ 1 (d := d_is_within) rfl
  exact cal_ok F sc_is_within (He.glo_ok X G (c.fact 25 (f := .glo "is_within") rfl)) (fun _ _ _ _ _ _ us hl => match us, hl with | [_, _, _], _ => rfl) fun cdv A outer s H E hr => bx_is_within hE (c_is_whole X G hE c) cdv A outer s H E hr
theorem c_is_name (X : K.In h) (G : h.Ns mainGlobals mg) (hE : Env K mg) (c : He.SaysD fa fn K) : CalF P w K mg base 1 "is_name" F_is_name [] := by
  obtain ⟨fd, F⟩ := c.def_ 2 (d := d_is_name) rfl
  exact cal_ok F sc_is_name (He.glo_ok X G (c.fact 26 (f := .glo "is_name") rfl)) (fun _ _ _ _ _ _ us hl => match us, hl with | [_], _ => rfl) fun cdv A outer s H E hr => bx_is_name hE  cdv A outer s H E hr
theorem c_is_way (X : K.In h) (G : h.Ns mainGlobals mg) (hE : Env K mg) (c : He.SaysD fa fn K) : CalF P w K mg base 2 "is_way" F_is_way [] := by
  obtain ⟨fd, F⟩ := c.def_ 3 (d := d_is_way) rfl
  exact cal_ok F sc_is_way (He.glo_ok X G (c.fact 27 (f := .glo "is_way") rfl)) (fun _ _ _ _ _ _ us hl => match us, hl with | [_], _ => rfl) fun cdv A outer s H E hr => bx_is_way hE (c_is_name X G hE c) cdv A outer s H E hr
theorem c_check_ways (X : K.In h) (G : h.Ns mainGlobals mg) (hE : Env K mg) (c : He.SaysD fa fn K) : CalF P w K mg base 3 "check_ways" F_check_ways [] := by
  obtain ⟨fd, F⟩ := c.def_ 4 (d := d_check_ways) rfl
  exact cal_ok F sc_check_ways (He.glo_ok X G (c.fact 28 (f := .glo "check_ways") rfl)) (fun _ _ _ _ _ _ us hl => match us, hl with | [_], _ => rfl) fun cdv A outer s H E hr => bx_check_ways hE (c_is_way X G hE c) cdv A outer s H E hr
theorem c_check_alone (X : K.In h) (G : h.Ns mainGlobals mg) (hE : Env K mg) (c : He.SaysD fa fn K) : CalF P w K mg base 2 "check_alone" F_check_alone [] := by
  obtain ⟨fd, F⟩ := c.def_ 5 (d := d_check_alone) rfl
  exact cal_ok F sc_check_alone (He.glo_ok X G (c.fact 29 (f := .glo "check_alone") rfl)) (fun _ _ _ _ _ _ us hl => match us, hl with | [_, _], _ => rfl) fun cdv A outer s H E hr => bx_check_alone hE (c_is_name X G hE c) cdv A outer s H E hr
theorem mk_Web (X : K.In h) (G : h.Ns mainGlobals mg) (hE : Env K mg) (c : He.SaysD fa fn K) : MakF P w K mg base 4 "Web" F_Web___init__ 1 ["alone"] [0, 1, 2] := by
  obtain ⟨fd, F⟩ := c.def_ 6 (d := d_Web___init__) rfl
  exact mak_ok F sc_Web___init__ (He.mkr_ok (c.fact 49 (f := .mkr "Web") rfl)) (He.glo_ok X G (c.fact 16 (f := .glo "Web") rfl)) (fun z => absurd (congrArg List.isEmpty z) (by show ¬ (false = true); decide)) (fun D doc pm an cdv ct us ws l1 l2 => match us, l1, ws, l2 with | [_, _], _, [_], _ => rfl) fun cdv A outer s H E hr => bx_Web___init__ hE (c_check_ways X G hE c) (c_check_alone X G hE c) cdv A outer s H E hr
theorem c_check_place (X : K.In h) (G : h.Ns mainGlobals mg) (hE : Env K mg) (c : He.SaysD fa fn K) : CalF P w K mg base 1 "check_place" F_check_place [] := by
  obtain ⟨fd, F⟩ := c.def_ 7 (d := d_check_place) rfl
  exact cal_ok F sc_check_place (He.glo_ok X G (c.fact 30 (f := .glo "check_place") rfl)) (fun _ _ _ _ _ _ us hl => match us, hl with | [_, _], _ => rfl) fun cdv A outer s H E hr => bx_check_place hE  cdv A outer s H E hr
theorem cm_Web_onward (X : K.In h) (G : h.Ns mainGlobals mg) (hE : Env K mg) (c : He.SaysD fa fn K) : MetF P w K mg base 2 "Web" "onward" F_Web_onward [] := by
  obtain ⟨fd, F⟩ := c.def_ 8 (d := d_Web_onward) rfl
  exact met_ok F sc_Web_onward (He.cls_ok (c.fact 0 (f := .cls "Web") rfl)) (He.meth_ok (c.fact 48 (f := .meth "Web" "onward") rfl)) (fun _ _ _ _ _ _ us hl => match us, hl with | [_, _], _ => rfl) fun cdv A outer s H E hr => bx_Web_onward hE (c_check_place X G hE c) cdv A outer s H E hr
theorem c_check_web (X : K.In h) (G : h.Ns mainGlobals mg) (hE : Env K mg) (c : He.SaysD fa fn K) : CalF P w K mg base 1 "check_web" F_check_web [] := by
  obtain ⟨fd, F⟩ := c.def_ 9 (d := d_check_web) rfl
  exact cal_ok F sc_check_web (He.glo_ok X G (c.fact 31 (f := .glo "check_web") rfl)) (fun _ _ _ _ _ _ us hl => match us, hl with | [_], _ => rfl) fun cdv A outer s H E hr => bx_check_web hE  cdv A outer s H E hr
theorem c_check_steps (X : K.In h) (G : h.Ns mainGlobals mg) (hE : Env K mg) (c : He.SaysD fa fn K) : CalF P w K mg base 3 "check_steps" F_check_steps [] := by
  obtain ⟨fd, F⟩ := c.def_ 10 (d := d_check_steps) rfl
  exact cal_ok F sc_check_steps (He.glo_ok X G (c.fact 32 (f := .glo "check_steps") rfl)) (fun _ _ _ _ _ _ us hl => match us, hl with | [_, _], _ => rfl) fun cdv A outer s H E hr => bx_check_steps hE (c_is_within X G hE c) cdv A outer s H E hr
theorem c_check_ends (X : K.In h) (G : h.Ns mainGlobals mg) (hE : Env K mg) (c : He.SaysD fa fn K) : CalF P w K mg base 2 "check_ends" F_check_ends [] := by
  obtain ⟨fd, F⟩ := c.def_ 11 (d := d_check_ends) rfl
  exact cal_ok F sc_check_ends (He.glo_ok X G (c.fact 33 (f := .glo "check_ends") rfl)) (fun _ _ _ _ _ _ us hl => match us, hl with | [_, _, _], _ => rfl) fun cdv A outer s H E hr => bx_check_ends hE (c_check_web X G hE c) (c_check_place X G hE c) cdv A outer s H E hr
theorem c_many_from (X : K.In h) (G : h.Ns mainGlobals mg) (hE : Env K mg) (c : He.SaysD fa fn K) : CalF P w K mg base 3 "many_from" F_many_from [] := by
  obtain ⟨fd, F⟩ := c.def_ 12 (d := d_many_from) rfl
  exact cal_ok F sc_many_from (He.glo_ok X G (c.fact 34 (f := .glo "many_from") rfl)) (fun _ _ _ _ _ _ us hl => match us, hl with | [_, _, _], _ => rfl) fun cdv A outer s H E hr => bx_many_from hE (cm_Web_onward X G hE c) cdv A outer s H E hr
theorem c_walks_many (X : K.In h) (G : h.Ns mainGlobals mg) (hE : Env K mg) (c : He.SaysD fa fn K) : CalF P w K mg base 4 "walks_many" F_walks_many [] := by
  obtain ⟨fd, F⟩ := c.def_ 13 (d := d_walks_many) rfl
  exact cal_ok F sc_walks_many (He.glo_ok X G (c.fact 35 (f := .glo "walks_many") rfl)) (fun _ _ _ _ _ _ us hl => match us, hl with | [_, _, _, _], _ => rfl) fun cdv A outer s H E hr => bx_walks_many hE (c_check_ends X G hE c) (c_check_steps X G hE c) (c_many_from X G hE c) cdv A outer s H E hr
theorem ck_walks_many (X : K.In h) (G : h.Ns mainGlobals mg) (hE : Env K mg) (c : He.SaysD fa fn K) : CalK P w K mg base 4 "walks_many" F_walks_many 0 ["steps", "end", "web", "start"] [2, 3, 1, 0] := by
  obtain ⟨fd, F⟩ := c.def_ 13 (d := d_walks_many) rfl
  exact calk_ok F sc_walks_many (He.glo_ok X G (c.fact 35 (f := .glo "walks_many") rfl)) (fun _ _ _ _ _ _ us ws hl hl2 => match us, hl, ws, hl2 with | [], _, [_, _, _, _], _ => rfl) fun cdv A outer s H E hr => bx_walks_many hE (c_check_ends X G hE c) (c_check_steps X G hE c) (c_many_from X G hE c) cdv A outer s H E hr
theorem c__law_purse (X : K.In h) (G : h.Ns mainGlobals mg) (hE : Env K mg) (c : He.SaysD fa fn K) : CalF P w K mg base 1 "_law_purse" F__law_purse [] := by
  obtain ⟨fd, F⟩ := c.def_ 14 (d := d__law_purse) rfl
  exact cal_ok F sc__law_purse (He.glo_ok X G (c.fact 36 (f := .glo "_law_purse") rfl)) (fun _ _ _ _ _ _ us hl => match us, hl with | [_, _], _ => rfl) fun cdv A outer s H E hr => bx__law_purse hE  cdv A outer s H E hr
theorem c__law_take (X : K.In h) (G : h.Ns mainGlobals mg) (hE : Env K mg) (c : He.SaysD fa fn K) : CalF P w K mg base 1 "_law_take" F__law_take [] := by
  obtain ⟨fd, F⟩ := c.def_ 15 (d := d__law_take) rfl
  exact cal_ok F sc__law_take (He.glo_ok X G (c.fact 37 (f := .glo "_law_take") rfl)) (fun _ _ _ _ _ _ us hl => match us, hl with | [_, _], _ => rfl) fun cdv A outer s H E hr => bx__law_take hE  cdv A outer s H E hr
theorem c__law_names (X : K.In h) (G : h.Ns mainGlobals mg) (hE : Env K mg) (c : He.SaysD fa fn K) : CalF P w K mg base 2 "_law_names" F__law_names [] := by
  obtain ⟨fd, F⟩ := c.def_ 16 (d := d__law_names) rfl
  exact cal_ok F sc__law_names (He.glo_ok X G (c.fact 38 (f := .glo "_law_names") rfl)) (fun _ _ _ _ _ _ us hl => match us, hl with | [_, _], _ => rfl) fun cdv A outer s H E hr => bx__law_names hE (c__law_take X G hE c) cdv A outer s H E hr
theorem c__law_ways (X : K.In h) (G : h.Ns mainGlobals mg) (hE : Env K mg) (c : He.SaysD fa fn K) : CalF P w K mg base 2 "_law_ways" F__law_ways [] := by
  obtain ⟨fd, F⟩ := c.def_ 17 (d := d__law_ways) rfl
  exact cal_ok F sc__law_ways (He.glo_ok X G (c.fact 39 (f := .glo "_law_ways") rfl)) (fun _ _ _ _ _ _ us hl => match us, hl with | [_, _, _], _ => rfl) fun cdv A outer s H E hr => bx__law_ways hE (c__law_take X G hE c) cdv A outer s H E hr
theorem c__law_lonely (X : K.In h) (G : h.Ns mainGlobals mg) (hE : Env K mg) (c : He.SaysD fa fn K) : CalF P w K mg base 1 "_law_lonely" F__law_lonely [] := by
  obtain ⟨fd, F⟩ := c.def_ 18 (d := d__law_lonely) rfl
  exact cal_ok F sc__law_lonely (He.glo_ok X G (c.fact 40 (f := .glo "_law_lonely") rfl)) (fun _ _ _ _ _ _ us hl => match us, hl with | [_, _], _ => rfl) fun cdv A outer s H E hr => bx__law_lonely hE  cdv A outer s H E hr
theorem c__law_net (X : K.In h) (G : h.Ns mainGlobals mg) (hE : Env K mg) (c : He.SaysD fa fn K) : CalF P w K mg base 6 "_law_net" F__law_net [] := by
  obtain ⟨fd, F⟩ := c.def_ 19 (d := d__law_net) rfl
  exact cal_ok F sc__law_net (He.glo_ok X G (c.fact 41 (f := .glo "_law_net") rfl)) (fun _ _ _ _ _ _ us hl => match us, hl with | [_, _, _], _ => rfl) fun cdv A outer s H E hr => bx__law_net hE (c__law_take X G hE c) (c__law_names X G hE c) (c__law_ways X G hE c) (c__law_lonely X G hE c) (mk_Web X G hE c) cdv A outer s H E hr
theorem c__law_whole (X : K.In h) (G : h.Ns mainGlobals mg) (hE : Env K mg) (c : He.SaysD fa fn K) : CalF P w K mg base 1 "_law_whole" F__law_whole [] := by
  obtain ⟨fd, F⟩ := c.def_ 20 (d := d__law_whole) rfl
  exact cal_ok F sc__law_whole (He.glo_ok X G (c.fact 42 (f := .glo "_law_whole") rfl)) (fun _ _ _ _ _ _ us hl => match us, hl with | [_], _ => rfl) fun cdv A outer s H E hr => bx__law_whole hE  cdv A outer s H E hr
theorem c__law_longer (X : K.In h) (G : h.Ns mainGlobals mg) (hE : Env K mg) (c : He.SaysD fa fn K) : CalF P w K mg base 1 "_law_longer" F__law_longer [] := by
  obtain ⟨fd, F⟩ := c.def_ 21 (d := d__law_longer) rfl
  exact cal_ok F sc__law_longer (He.glo_ok X G (c.fact 43 (f := .glo "_law_longer") rfl)) (fun _ _ _ _ _ _ us hl => match us, hl with | [_, _], _ => rfl) fun cdv A outer s H E hr => bx__law_longer hE  cdv A outer s H E hr
theorem c__law_small_right (X : K.In h) (G : h.Ns mainGlobals mg) (hE : Env K mg) (c : He.SaysD fa fn K) : CalF P w K mg base 7 "_law_small_right" F__law_small_right [] := by
  obtain ⟨fd, F⟩ := c.def_ 22 (d := d__law_small_right) rfl
  exact cal_ok F sc__law_small_right (He.glo_ok X G (c.fact 44 (f := .glo "_law_small_right") rfl)) (fun _ _ _ _ _ _ us hl => match us, hl with | [_], _ => rfl) fun cdv A outer s H E hr => bx__law_small_right hE (c__law_take X G hE c) (c__law_net X G hE c) (c_walks_many X G hE c) (ck_walks_many X G hE c) (c__law_whole X G hE c) (c__law_longer X G hE c) cdv A outer s H E hr
theorem c__law_counted (X : K.In h) (G : h.Ns mainGlobals mg) (hE : Env K mg) (c : He.SaysD fa fn K) : CalF P w K mg base 1 "_law_counted" F__law_counted [] := by
  obtain ⟨fd, F⟩ := c.def_ 23 (d := d__law_counted) rfl
  exact cal_ok F sc__law_counted (He.glo_ok X G (c.fact 45 (f := .glo "_law_counted") rfl)) (fun _ _ _ _ _ _ us hl => match us, hl with | [_, _, _, _], _ => rfl) fun cdv A outer s H E hr => bx__law_counted hE  cdv A outer s H E hr
theorem c__law_great_right (X : K.In h) (G : h.Ns mainGlobals mg) (hE : Env K mg) (c : He.SaysD fa fn K) : CalF P w K mg base 7 "_law_great_right" F__law_great_right [] := by
  obtain ⟨fd, F⟩ := c.def_ 24 (d := d__law_great_right) rfl
  exact cal_ok F sc__law_great_right (He.glo_ok X G (c.fact 46 (f := .glo "_law_great_right") rfl)) (fun _ _ _ _ _ _ us hl => match us, hl with | [_], _ => rfl) fun cdv A outer s H E hr => bx__law_great_right hE (c__law_take X G hE c) (c__law_net X G hE c) (c__law_counted X G hE c) (c_walks_many X G hE c) (c__law_whole X G hE c) cdv A outer s H E hr
end
-- LAWIX 25 LAWGLO 47
-- REQ (c__law_purse X G hE c) (c__law_small_right X G hE c) (c__law_great_right X G hE c)
end K74

set_option Elab.async false
set_option linter.all false
set_option maxRecDepth 100000
set_option maxHeartbeats 0
namespace K74
open PySem PySem.Spec PyProof.Rows L2 PL
abbrev R : PySem.W.OpenRow := PySem.W.OpenLaw.row PySem.Challenge.rw_ringfall_k74_walks_between_two_places
abbrev hk : PySem.W.Hook := He.hookX 5 fa fn [] [] ex
def ob (s : PySem.W.SharedT) : He.AlX := He.obsX 5 fa fn [] [] ex (HandSHeadRun.getT s)
theorem ob_eq (s : PySem.W.SharedT) : ob s = hk.obs s.abs := He.obsX_eq (HandSHeadRun.getT_eq s)
def names1 : List PySem.Str := ["is_whole", "is_within", "RingError", "LostError", "FullError", "NoWays", "NoAlone", "NoWeb", "NoSteps", "NoPlace", "TooMany", "LETTERS", "MOST_LETTERS", "MOST_WAYS", "MOST_IN_WEB", "is_name", "is_way", "check_ways", "check_alone", "Web", "check_web", "check_place"]
def names2 : List PySem.Str := ["MOST_STEPS", "check_steps", "check_ends", "many_from", "walks_many", "_law_purse", "_law_take", "_law_names", "_law_ways", "_law_lonely", "_law_net", "_law_whole", "_law_longer", "_law_small_right", "_law_counted", "_law_great_right"]
theorem run (w : World) : HandSHeadRun.RunEq R (PySem.W.view R.prog [43]) hk ob 30000 ("__name__" :: (names1 ++ names2)) w := by
  intro os
  kernel_rfl
end K74

set_option Elab.async false
set_option linter.all false
set_option maxRecDepth 100000
set_option maxHeartbeats 0
namespace K74
open PySem PySem.Spec PyProof.Rows L2 PL
theorem rpl_ints {K : PySem.W.Frag} {G : Hp} : ∀ ns : List Int, RpL K G (ns.map V.int) (ns.map Dt.int)
  | [] => .nil
  | n :: ns => .cons (.int n) (rpl_ints ns)
theorem sep_script {K : PySem.W.Frag} {H : Hp} {a : Addr} {ns : List Int} (h : SqL K H a (ns.map V.int)) : Sep K [some (.ref a)] H H [.dat (.frl (ns.map .int))] := by
  refine ⟨Same.refl H, rfl, fun i e hi => ?_, fun i j e e' o o' b hi hj ho _ _ _ => ?_⟩
  · cases i with
    | zero =>
      cases hi
      exact ⟨.ref a, rfl, .frl h (rpl_ints ns)⟩
    | succ i => cases hi
  · cases i with
    | zero =>
      cases hi
      cases ho
    | succ i => cases hi
theorem keeps {K : PySem.W.Frag} {H : Hp} {a : Addr} {ns : List Int} {E : XK} (hl : ns.length ≤ 63) (h : SqL K H a (ns.map V.int)) : spF K F_law [.ref a] H (fun v _ => v = .bl true) E := by
  refine ⟨_, _, _, law_spec ns hl, H, sep_script h, fun v G' H' _ r => ?_⟩
  have r' : Rp K G' v (.bl true) := r
  cases r'
  rfl
theorem facts {P : Program} {w : World} {K : PySem.W.Frag} {h : Heap} {mg : Str → Option Value} {f : Addr} (X : K.In h) (G : h.Ns mainGlobals mg) (hfa : mg ("law" : Str) = some (.ref f)) (c : He.SaysD fa fn K) (hx : ex K = true) :
    ∃ fd : FuncData, (∀ (s : Shared) (v : Value), BindsTo s fd ⟨[v], []⟩ [("_law_script", v)]) ∧ ∀ base : Heap, K.In base → base.Ns mainGlobals mg → FnOk P w K mg base CX0 8 f fd ["_law_script"] (spF K F_law) := by
  obtain ⟨fd, F⟩ := c.def_ 25 (d := d_law) rfl
  have e := hfa.symm.trans (He.glo_ok X G (c.fact 47 (f := .glo "law") rfl))
  cases e
  have hE := env_ok X G c hx
  have b := FunD.bindsA (ps := ["_law_script"]) F fun _ _ _ _ _ _ us hl => match us, hl with | [_], _ => rfl
  exact ⟨fd, fun s v => b s [v] rfl, fun base _ _ => fnd_ok F sc_law fun cdv A outer s H E hr => bx_law hE (c__law_purse X G hE c) (c__law_small_right X G hE c) (c__law_great_right X G hE c) cdv A outer s H E hr⟩
end K74
open PySem PySem.W PySem.Calls PyProof.Rows
theorem PySem.Challenge.cw_ringfall_k74_walks_between_two_places_holds : PySem.Challenge.rw_ringfall_k74_walks_between_two_places.Holds := by
  w_on; o_law
  refine HandSHeadRun.head_any (r := OpenLaw.row PySem.Challenge.rw_ringfall_k74_walks_between_two_places) (q := view (OpenLaw.row PySem.Challenge.rw_ringfall_k74_walks_between_two_places).prog [43]) (H := K74.hk) (ob := K74.ob) (M := 30000) (loose := "__name__" :: (K74.names1 ++ K74.names2)) (d := HandSHeadRun.topDef (OpenLaw.row PySem.Challenge.rw_ringfall_k74_walks_between_two_places).prog 43) (kwd := []) K74.ob_eq
    (by kernel_rfl) (fun s => by kernel_rfl) K74.run (by kernel_rfl) (by kernel_rfl) (by kernel_rfl) (by rfl) (by first | assumption | decide +kernel) (by decide +kernel) ⟨rfl, rfl, rfl, rfl, rfl, by decide +kernel⟩ ?hw ?hc
  case hw => w_witness2
  case hc =>
    refine L2.walk_ofE (l := PySem.Challenge.rw_ringfall_k74_walks_between_two_places) (n := 63) (k := 8) (x := "_law_script") (CX := L2.CX0) rfl (by decide) (by kernel_rfl) ⟨rfl, by decide, by decide⟩ ?F (fun _ _ _ _ z => z)
    intro w mg fa h Y G hmg0
    obtain ⟨K, KX, c⟩ := Y
    have hmg : mg ("law" : PySem.Str) = some (.ref fa) := by
      have e : (HandSHeadRun.topDef (OpenLaw.row PySem.Challenge.rw_ringfall_k74_walks_between_two_places).prog 43).name = ("law" : PySem.Str) := by kernel_rfl
      rw [← e]
      exact hmg0
    obtain ⟨fd, hb, hF⟩ := K74.facts (P := (PySem.Challenge.rw_ringfall_k74_walks_between_two_places).prog) (w := w) KX G hmg c.t.d c.more
    exact ⟨K, fd, PL.spF K K74.F_law, KX, hb, fun H a ns hl _ hS => K74.keeps hl hS, hF⟩

