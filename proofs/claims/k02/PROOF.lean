import PyProof.Rows.All
import Wide.All
import OpenK.AllK
import Wide.FinOn
import HandS.ForMost
import HandS.ForExc
import HandS.TupAny
import HandS.SortInts
import HandS.IsInst
import HandS.Wide
import HandS.Lambda
import HandS.Zip
import HandS.Style
import HandS.TupMul
import KE.KTupSum
import HandS.SetFor
import HandS.Defaults
import PyProof.TupleOfSeq
import HandS.HotCalls
import HandS.SuiteRaise
import HandS.ExcIs
import HandS.EndOwn
import HandS.GenList
import HandS.Star
import PySem.Challenge.RW_holdkeys_k02_distances_and_times_of_ways
set_option Elab.async false
set_option linter.all false
set_option maxRecDepth 100000
set_option maxHeartbeats 4000000
/-! Fw: a data-level layer over the judgements of the hand layer: slots hold immutable data (PyData) or owned mutable objects of a store. -/
namespace Fw
open PySem PySem.Spec PyProof.Rows L2

/-- a lambda without captured names -/
structure LamD where
  qual : Str
  params : Arguments
  body : Expr
  scope : Scope
/-- its function object at f -/
def LamO (f : Addr) (L : LamD) (c' : Addr) (pm ctv : Value) : HO := .ext fun h => h.get? f = some (PySem.W.kla_obj "<lambda>" L.qual L.params L.body L.scope [] pm c' ctv)
/-- what a slot holds: nothing known, immutable data, the mutable object at p, a raw value -/
inductive Sl where
  | no | d (x : PyData) | m (p : Addr) | v (x : V) | f (K : PySem.W.Frag) (ns : List Int) | g (L : LamD)
/-- a mutable object of the store -/
inductive MO where
  | lst (xs : List Sl)
  | dct (kvs : List (Int × Sl))
  | dtt (kvs : List (List Key × Sl))
  | ins (C : Addr) (fs : List (Str × Sl))
  | tbl (q : Str)
abbrev Mu := List (Addr × MO)
abbrev En := List Sl
def mget : Mu → Addr → Option MO
  | [], _ => none
  | (q, o) :: r, p => if p = q then some o else mget r p
def mset : Mu → Addr → MO → Mu
  | [], _, _ => []
  | (q, o) :: r, p, u => if p = q then (q, u) :: r else (q, o) :: mset r p u
theorem mget_mset : ∀ (μ : Mu) (p b : Addr) (u : MO), mget (mset μ p u) b = if b = p then (mget μ p).map (fun _ => u) else mget μ b
  | [], p, b, u => by
    show none = _
    split <;> rfl
  | (q, o) :: r, p, b, u => by
    unfold mset
    by_cases h : p = q
    · subst h
      rw [if_pos rfl]
      show (if b = p then some u else mget r b) = _
      by_cases hb : b = p
      · rw [if_pos hb, if_pos hb]
        show _ = Option.map _ (if p = p then some o else mget r p)
        rw [if_pos rfl]; rfl
      · rw [if_neg hb, if_neg hb]
        show _ = if b = p then some o else mget r b
        rw [if_neg hb]
    · rw [if_neg h]
      show (if b = q then some o else mget (mset r p u) b) = _
      rw [mget_mset r p b u]
      by_cases hb : b = q
      · rw [if_pos hb]
        subst hb
        rw [if_neg (fun e => h e.symm)]
        show _ = if b = b then some o else _
        rw [if_pos rfl]
      · rw [if_neg hb]
        by_cases hp : b = p
        · rw [if_pos hp, if_pos hp]
          show _ = Option.map _ (if p = q then some o else mget r p)
          rw [if_neg h]
        · rw [if_neg hp, if_neg hp]
          show _ = if b = q then some o else _
          rw [if_neg hb]
theorem mget_mset_same {μ : Mu} {p : Addr} {o u : MO} (h : mget μ p = some o) : mget (mset μ p u) p = some u := by
  rw [mget_mset, if_pos rfl, h]; rfl
theorem mget_mset_ne {μ : Mu} {p b : Addr} {u : MO} (h : b ≠ p) : mget (mset μ p u) b = mget μ b := by
  rw [mget_mset, if_neg h]
theorem mset_mset : ∀ (μ : Mu) (p : Addr) (u v : MO), mset (mset μ p u) p v = mset μ p v
  | [], _, _, _ => rfl
  | (q, o) :: r, p, u, v => by
    by_cases h : p = q
    · simp only [mset, if_pos h]
    · simp only [mset, if_neg h, mset_mset r p u v]
theorem mset_self : ∀ (μ : Mu) (p : Addr) (u : MO), mget μ p = some u → mset μ p u = μ
  | [], _, _, h => by cases h
  | (q, o) :: r, p, u, h => by
    unfold mget at h
    unfold mset
    by_cases e : p = q
    · rw [if_pos e] at h ⊢
      cases h; rfl
    · rw [if_neg e] at h ⊢
      rw [mset_self r p u h]
theorem mget_mset_none {μ : Mu} {p b : Addr} {u : MO} : mget (mset μ p u) b = none ↔ mget μ b = none := by
  rw [mget_mset]
  by_cases h : b = p
  · rw [if_pos h, h]; cases mget μ p <;> simp
  · rw [if_neg h]

/-- the heap without the store's objects -/
def hide (H : Hp) (μ : Mu) : Hp := fun a => if (mget μ a).isSome = true then none else H a
theorem hide_some {H : Hp} {μ : Mu} {a : Addr} {o : HO} (h : hide H μ a = some o) : H a = some o ∧ mget μ a = none := by
  unfold hide at h
  split at h
  · cases h
  · rename_i q
    refine ⟨h, ?_⟩
    cases e : mget μ a with
    | none => rfl
    | some x => rw [e] at q; exact absurd rfl q
theorem hide_of {H : Hp} {μ : Mu} {a : Addr} {o : HO} (h : H a = some o) (n : mget μ a = none) : hide H μ a = some o := by
  unfold hide
  rw [n, if_neg (by simp)]
  exact h
abbrev Le (H H' : Hp) : Prop := ∀ b o, H b = some o → H' b = some o
theorem Rd.le {H H' : Hp} {a : Addr} {u : HO} (e : Le H H') (h : Rd H a u) : Rd H' a u := h.elim (fun z => .inl (e _ _ z)) fun ⟨o, z⟩ => .inr ⟨o, e _ _ z⟩
theorem SqL.le {K : PySem.W.Frag} {H H' : Hp} {a : Addr} {xs : List V} (e : Le H H') (h : SqL K H a xs) : SqL K H' a xs := h.elim (fun z => .inl (Rd.le e z)) .inr
theorem SqT.le {K : PySem.W.Frag} {H H' : Hp} {a : Addr} {xs : List V} (e : Le H H') (h : SqT K H a xs) : SqT K H' a xs := h.elim (fun z => .inl (Rd.le e z)) .inr
mutual
/-- v is the data d, in tracked lists and tuples -/
inductive DR (H : Hp) : V → PyData → Prop
  | non : DR H .non .none
  | bl (b : Bool) : DR H (.bl b) (.bool b)
  | int (i : Int) : DR H (.int i) (.int i)
  | str (x : Str) : DR H (.str x) (.str x)
  | lst {a : Addr} {xs : List V} {ds : List PyData} : H a = some (.lst xs) → DRA H xs ds → DR H (.ref a) (.list ds)
  | tup {a : Addr} {xs : List V} {ds : List PyData} : H a = some (.tup xs) → DRA H xs ds → DR H (.ref a) (.tuple ds)
inductive DRA (H : Hp) : List V → List PyData → Prop
  | nil : DRA H [] []
  | cons {v : V} {vs : List V} {d : PyData} {ds : List PyData} : DR H v d → DRA H vs ds → DRA H (v :: vs) (d :: ds)
end
mutual
theorem dr_le {H H' : Hp} (e : Le H H') : ∀ (d : PyData) (v : V), DR H v d → DR H' v d
  | .none, _, h => by cases h; exact .non
  | .bool b, _, h => by cases h; exact .bl b
  | .int b, _, h => by cases h; exact .int b
  | .str b, _, h => by cases h; exact .str b
  | .list ds, _, h => by
    cases h with
    | lst h1 h2 => exact .lst (e _ _ h1) (dra_le e ds _ h2)
  | .tuple ds, _, h => by
    cases h with
    | tup h1 h2 => exact .tup (e _ _ h1) (dra_le e ds _ h2)
  | .dict _, _, h => by cases h
theorem dra_le {H H' : Hp} (e : Le H H') : ∀ (ds : List PyData) (vs : List V), DRA H vs ds → DRA H' vs ds
  | [], _, h => by cases h; exact .nil
  | d :: ds, _, h => by
    cases h with
    | cons h1 h2 => exact .cons (dr_le e d _ h1) (dra_le e ds _ h2)
end
mutual
theorem dr_dp {K : PySem.W.Frag} {H : Hp} : ∀ (d : PyData) (v : V), DR H v d → Dp K H v d
  | .none, _, h => by cases h; exact .non
  | .bool b, _, h => by cases h; exact .bl b
  | .int b, _, h => by cases h; exact .int b
  | .str b, _, h => by cases h; exact .str b
  | .list ds, _, h => by
    cases h with
    | lst h1 h2 => exact .lst (SqL.of h1) (dra_dpa ds _ h2)
  | .tuple ds, _, h => by
    cases h with
    | tup h1 h2 => exact .tup (SqT.of h1) (dra_dpa ds _ h2)
  | .dict _, _, h => by cases h
theorem dra_dpa {K : PySem.W.Frag} {H : Hp} : ∀ (ds : List PyData) (vs : List V), DRA H vs ds → DpAll K H vs ds
  | [], _, h => by cases h; exact .nil
  | d :: ds, _, h => by
    cases h with
    | cons h1 h2 => exact .cons (dr_dp d _ h1) (dra_dpa ds _ h2)
end

/-- v is what the slot says, over the heap H (the hidden one) -/
def SR (H : Hp) (v : V) : Sl → Prop
  | .no => True
  | .d x => DR H v x
  | .m p => v = .ref p
  | .v w => v = w
  | .f K ns => ∃ a, v = .ref a ∧ SqL K H a (ns.map V.int)
  | .g L => ∃ (f c' : Addr) (pm ctv : Value), v = .ref f ∧ H f = some (LamO f L c' pm ctv) ∧ H c' = some (LamX.CodeO c' L.qual)
theorem SR.le {H H' : Hp} {v : V} {x : Sl} (e : Le H H') (h : SR H v x) : SR H' v x := by
  cases x with
  | no => exact h
  | d y => exact dr_le e y v h
  | m p => exact h
  | v w => exact h
  | f K ns => obtain ⟨a, h1, h2⟩ := h; exact ⟨a, h1, SqL.le e h2⟩
  | g L => obtain ⟨f, c', pm, ctv, h1, h2, h3⟩ := h; exact ⟨f, c', pm, ctv, h1, e _ _ h2, e _ _ h3⟩
theorem Paired.mapL {α β : Type} {F G : α → β → Prop} : ∀ {l₁ : List α} {l₂ : List β}, Paired F l₁ l₂ → (∀ a b, F a b → G a b) → Paired G l₁ l₂
  | _, _, .nil, _ => .nil
  | _, _, .cons r t, f => .cons (f _ _ r) (Paired.mapL t f)
/-- a mutable object as it stands -/
def MoOk (H Hh : Hp) (p : Addr) : MO → Prop
  | .lst xs => ∃ vs, H p = some (.lst vs) ∧ Paired (SR Hh) vs xs
  | .dct kvs => ∃ ws, H p = some (.dK ws) ∧ Paired (fun (a : Key × V) (b : Int × Sl) => a.1 = Sum.inl b.1 ∧ SR Hh a.2 b.2) ws kvs
  | .dtt kvs => ∃ ws, H p = some (.dT ws) ∧ Paired (fun (a : List Key × V) (b : List Key × Sl) => a.1 = b.1 ∧ SR Hh a.2 b.2) ws kvs
  | .ins C fs => ∃ dx ws, H p = some (.ins C dx ws) ∧ Paired (fun (a : Str × V) (b : Str × Sl) => a.1 = b.1 ∧ SR Hh a.2 b.2) ws fs
  | .tbl q => ∃ ps : Array Value, H p = some (.tbl ps) ∧ PySem.TriplesOk ps.toList ∧ ∀ (pos : Pos) (cv : Value), codeAmong pos ps.toList = some cv → ∃ c, cv = .ref c ∧ Hh c = some (LamX.CodeO c q)
theorem MoOk.le {H H' Hh Hh' : Hp} {p : Addr} {o : MO} (h : MoOk H Hh p o) (e : H' p = H p) (l : Le Hh Hh') : MoOk H' Hh' p o := by
  cases o with
  | lst xs => obtain ⟨vs, a, b⟩ := h; exact ⟨vs, e.trans a, Paired.mapL b fun _ _ z => z.le l⟩
  | dct xs => obtain ⟨vs, a, b⟩ := h; exact ⟨vs, e.trans a, Paired.mapL b fun _ _ z => ⟨z.1, z.2.le l⟩⟩
  | dtt xs => obtain ⟨vs, a, b⟩ := h; exact ⟨vs, e.trans a, Paired.mapL b fun _ _ z => ⟨z.1, z.2.le l⟩⟩
  | ins C xs => obtain ⟨dx, vs, a, b⟩ := h; exact ⟨dx, vs, e.trans a, Paired.mapL b fun _ _ z => ⟨z.1, z.2.le l⟩⟩
  | tbl q => obtain ⟨ps, a, b, c⟩ := h; exact ⟨ps, e.trans a, b, fun pos cv z => by
    obtain ⟨c', e1, e2⟩ := c pos cv z
    exact ⟨c', e1, l _ _ e2⟩⟩
theorem MoOk.some {H Hh : Hp} {p : Addr} {o : MO} (h : MoOk H Hh p o) : ∃ u, H p = some u := by
  cases o with
  | lst xs => obtain ⟨vs, a, b⟩ := h; exact ⟨_, a⟩
  | dct xs => obtain ⟨vs, a, b⟩ := h; exact ⟨_, a⟩
  | dtt xs => obtain ⟨vs, a, b⟩ := h; exact ⟨_, a⟩
  | ins C xs => obtain ⟨dx, vs, a, b⟩ := h; exact ⟨_, a⟩
  | tbl q => obtain ⟨ps, a, b⟩ := h; exact ⟨_, a⟩
def MuOk (H : Hp) (μ : Mu) : Prop := ∀ p o, mget μ p = some o → MoOk H (hide H μ) p o
theorem MuOk.nil {H : Hp} : MuOk H [] := fun _ _ e => by cases e
theorem MuOk.fresh {H : Hp} {μ : Mu} (h : MuOk H μ) {p : Addr} (n : H p = none) : mget μ p = none := by
  cases e : mget μ p with
  | none => rfl
  | some o =>
    obtain ⟨u, q⟩ := (h p o e).some
    rw [n] at q; cases q
/-- what is outside the store stays, and stays outside -/
def Ext (H : Hp) (μ : Mu) (H' : Hp) (μ' : Mu) : Prop := ∀ b o, H b = some o → mget μ b = none → H' b = some o ∧ mget μ' b = none
theorem Ext.refl (H : Hp) (μ : Mu) : Ext H μ H μ := fun _ _ h n => ⟨h, n⟩
theorem Ext.trans {H H1 H2 : Hp} {μ μ1 μ2 : Mu} (a : Ext H μ H1 μ1) (b : Ext H1 μ1 H2 μ2) : Ext H μ H2 μ2 := fun c o h n => b c o (a c o h n).1 (a c o h n).2
theorem Ext.same {H H' : Hp} {μ : Mu} (s : Same H H') : Ext H μ H' μ := fun b o h n => ⟨s b o h, n⟩
theorem Ext.hid {H H' : Hp} {μ μ' : Mu} (e : Ext H μ H' μ') : Le (hide H μ) (hide H' μ') := fun b o h => by
  obtain ⟨a, n⟩ := hide_some h
  exact hide_of (e b o a n).1 (e b o a n).2
theorem MuOk.same {H H' : Hp} {μ : Mu} (h : MuOk H μ) (s : Same H H') : MuOk H' μ := fun p o e => by
  obtain ⟨u, q⟩ := (h p o e).some
  exact (h p o e).le ((s p u q).trans q.symm) (Ext.same s).hid
theorem SR.ext {H H' : Hp} {μ μ' : Mu} {v : V} {x : Sl} (h : SR (hide H μ) v x) (e : Ext H μ H' μ') : SR (hide H' μ') v x := h.le e.hid
structure W (H : Hp) (σ : L2.St) (ρ : En) (μ : Mu) : Prop where
  mu : MuOk H μ
  len : σ.length = ρ.length
  slot : ∀ (i : Nat) (x : Sl), ρ[i]? = some x → x ≠ .no → ∃ v, σ[i]? = some (some v) ∧ SR (hide H μ) v x
theorem W.ext {H H' : Hp} {σ : L2.St} {ρ : En} {μ μ' : Mu} (w : W H σ ρ μ) (m : MuOk H' μ') (e : Ext H μ H' μ') : W H' σ ρ μ' :=
  ⟨m, w.len, fun i x h n => by
    obtain ⟨v, a, b⟩ := w.slot i x h n
    exact ⟨v, a, b.ext e⟩⟩
theorem W.same {H H' : Hp} {σ : L2.St} {ρ : En} {μ : Mu} (w : W H σ ρ μ) (s : Same H H') : W H' σ ρ μ := w.ext (w.mu.same s) (Ext.same s)
theorem W.set {H : Hp} {σ : L2.St} {ρ : En} {μ : Mu} {i : Nat} {v : V} {x : Sl} (w : W H σ ρ μ) (r : SR (hide H μ) v x) : W H (σ.set i (some v)) (ρ.set i x) μ :=
  ⟨w.mu, by rw [List.length_set, List.length_set, w.len], fun j y h n => by
    by_cases e : i = j
    · subst e
      have hl : i < ρ.length := by
        have := (List.getElem?_eq_some_iff.mp h).1
        rwa [List.length_set] at this
      rw [List.getElem?_set_self hl] at h
      cases h
      exact ⟨v, List.getElem?_set_self (by rw [w.len]; exact hl), r⟩
    · rw [List.getElem?_set_ne e] at h ⊢
      exact w.slot j y h n⟩
theorem W.forget {H : Hp} {σ : L2.St} {ρ : En} {μ : Mu} {i : Nat} (w : W H σ ρ μ) : W H σ (ρ.set i .no) μ :=
  ⟨w.mu, by rw [List.length_set, w.len], fun j y h n => by
    by_cases e : i = j
    · subst e
      have hl : i < ρ.length := by
        have := (List.getElem?_eq_some_iff.mp h).1
        rwa [List.length_set] at this
      rw [List.getElem?_set_self hl] at h
      cases h
      exact absurd rfl n
    · rw [List.getElem?_set_ne e] at h
      exact w.slot j y h n⟩
/-- .. the slots of a comprehension's own names -/
def forg (ρ : En) : List Nat → En
  | [] => ρ
  | v :: vs => (forg ρ vs).set v .no
theorem forg_get {ρ : En} {j : Nat} {x : Sl} : ∀ {vs : List Nat}, (forg ρ vs)[j]? = some x → x ≠ .no → ρ[j]? = some x ∧ j ∉ vs
  | [], h, _ => ⟨h, by simp⟩
  | v :: vs, h, n => by
    unfold forg at h
    by_cases hi : v = j
    · subst hi
      by_cases hv : v < (forg ρ vs).length
      · rw [List.getElem?_set_self hv] at h; cases h; exact absurd rfl n
      · rw [List.getElem?_eq_none (by simpa using hv)] at h; cases h
    · rw [List.getElem?_set_ne hi] at h
      obtain ⟨h1, h2⟩ := forg_get h n
      exact ⟨h1, by simp only [List.mem_cons, not_or]; exact ⟨fun e => hi e.symm, h2⟩⟩
theorem forg_len (ρ : En) : ∀ vs : List Nat, (forg ρ vs).length = ρ.length
  | [] => rfl
  | v :: vs => by unfold forg; rw [List.length_set, forg_len ρ vs]
theorem wipe_get {σ : L2.St} {j : Nat} : ∀ {vs : List Nat}, j ∉ vs → (wipe σ vs)[j]? = σ[j]?
  | [], _ => rfl
  | v :: vs, h => by
    unfold wipe
    rw [List.getElem?_set_ne (fun e => h (by simp [e])), wipe_get (fun z => h (by simp [z]))]
theorem W.wipe {H : Hp} {σ : L2.St} {ρ : En} {μ : Mu} (w : W H σ ρ μ) (vs : List Nat) : W H (L2.wipe σ vs) (forg ρ vs) μ :=
  ⟨w.mu, by rw [wipe_length, forg_len, w.len], fun j y h n => by
    obtain ⟨a, b⟩ := forg_get h n
    rw [wipe_get b]
    exact w.slot j y a n⟩
theorem wipe_set {σ : L2.St} {v : Option V} {i : Nat} : ∀ {vs : List Nat}, i ∈ vs → wipe (σ.set i v) vs = wipe σ vs
  | [], h => by cases h
  | w :: vs, h => by
    unfold wipe
    by_cases hi : i ∈ vs
    · rw [wipe_set hi]
    · have e : i = w := by simpa [hi] using h
      subst e
      have comm : ∀ (σ : L2.St) (l : List Nat), i ∉ l → wipe (σ.set i v) l = (wipe σ l).set i v := fun σ l => by
        induction l with
        | nil => intro _; rfl
        | cons a l ih =>
          intro hn
          show (wipe (σ.set i v) l).set a none = ((wipe σ l).set a none).set i v
          rw [ih (fun z => hn (by simp [z]))]
          exact List.set_comm _ _ (fun e => hn (by simp [e]))
      rw [comm σ vs hi, List.set_set]
theorem wipe_wipe {σ : L2.St} {vs : List Nat} : wipe (wipe σ vs) vs = wipe σ vs := by
  have : ∀ (l : List Nat) (σ : L2.St), (∀ i ∈ l, i ∈ vs) → wipe (wipe σ l) vs = wipe σ vs := fun l => by
    induction l with
    | nil => intro _ _; rfl
    | cons a l ih =>
      intro σ h
      show wipe ((wipe σ l).set a none) vs = _
      rw [wipe_set (h a (by simp)), ih σ (fun i hi => h i (by simp [hi]))]
  exact this vs σ fun _ h => h

/-! ### judgements -/
/-- an expression: its slot and the store behind it -/
def tEv (ρ : En) (μ : Mu) (x : Sl) (μ' : Mu) : TE := fun σ H Q => W H σ ρ μ ∧ ∀ v H', W H' σ ρ μ' → Ext H μ H' μ' → SR (hide H' μ') v x → Q v H'
/-- .. with several ways -/
def tEw (ρ : En) (μ : Mu) (post : Sl → Mu → Prop) : TE := fun σ H Q => W H σ ρ μ ∧ ∀ v H' x μ', post x μ' → W H' σ ρ μ' → Ext H μ H' μ' → SR (hide H' μ') v x → Q v H'
def tTv (ρ : En) (μ : Mu) (b : Bool) (μ' : Mu) : TT := fun σ H Q => W H σ ρ μ ∧ ∀ H', W H' σ ρ μ' → Ext H μ H' μ' → Q b H'
def tAv (ρ : En) (μ : Mu) (xs : List Sl) (μ' : Mu) : TA := fun σ H Q => W H σ ρ μ ∧ ∀ vs H', W H' σ ρ μ' → Ext H μ H' μ' → Paired (SR (hide H' μ')) vs xs → Q vs H'
abbrev PEv (X : Cx) (e : Expr) (ρ : En) (μ : Mu) (x : Sl) (μ' : Mu) : Prop := PE X e (tEv ρ μ x μ')
abbrev PEw (X : Cx) (e : Expr) (ρ : En) (μ : Mu) (post : Sl → Mu → Prop) : Prop := PE X e (tEw ρ μ post)
abbrev PTv (X : Cx) (e : Expr) (ρ : En) (μ : Mu) (b : Bool) (μ' : Mu) : Prop := PT X e (tTv ρ μ b μ')
abbrev PWv (X : Cx) (e : Expr) (ρ : En) (μ : Mu) (b : Bool) (μ' : Mu) : Prop := PW X e (tTv ρ μ b μ')
abbrev PAv (X : Cx) (es : List Expr) (ρ : En) (μ : Mu) (xs : List Sl) (μ' : Mu) : Prop := PA X es (tAv ρ μ xs μ')
theorem pe_weak {X : Cx} {e : Expr} {t t' : TE} (h : PE X e t) (w : ∀ σ H Q, t' σ H Q → t σ H Q) : PE X e t' := ⟨fun pins s σ H Q I q => h.run pins s σ H Q I (w σ H Q q)⟩
theorem pt_weak {X : Cx} {e : Expr} {t t' : TT} (h : PT X e t) (w : ∀ σ H Q, t' σ H Q → t σ H Q) : PT X e t' := ⟨fun pins s σ H Q I q => h.run pins s σ H Q I (w σ H Q q)⟩
theorem pw_weak {X : Cx} {e : Expr} {t t' : TT} (h : PW X e t) (w : ∀ σ H Q, t' σ H Q → t σ H Q) : PW X e t' := ⟨fun wh pins s σ H Q I q => h.run wh pins s σ H Q I (w σ H Q q)⟩
theorem pa_weak {X : Cx} {e : List Expr} {t t' : TA} (h : PA X e t) (w : ∀ σ H Q, t' σ H Q → t σ H Q) : PA X e t' := ⟨fun p pins s σ H Q I q => h.run p pins s σ H Q I (w σ H Q q)⟩
theorem pe_never {X : Cx} {e : Expr} : PE X e (fun _ _ _ => False) := ⟨fun _ _ _ _ _ _ h => h.elim⟩
theorem pw_never {X : Cx} {e : Expr} : PW X e (fun _ _ _ => False) := ⟨fun _ _ _ _ _ _ _ h => h.elim⟩
theorem pt_never {X : Cx} {e : Expr} : PT X e (fun _ _ _ => False) := ⟨fun _ _ _ _ _ _ h => h.elim⟩
section
variable {X : Cx} {a b c e : Expr} {es : List Expr} {ρ : En} {μ μ1 μ2 μ3 : Mu} {x y z : Sl} {pos : Pos}
theorem PEv.w (h : PEv X e ρ μ x μ1) : PEw X e ρ μ (fun y ν => y = x ∧ ν = μ1) := pe_weak h fun σ H Q ⟨w, k⟩ => ⟨w, fun v H' w1 e1 r => k v H' x μ1 ⟨rfl, rfl⟩ w1 e1 r⟩

/-! ### names and constants -/
theorem v_var (i : Nat) {n : Str} (hx : x ≠ .no) (hρ : ρ[i]? = some x) (hN : X.N[i]? = some n) (hv : Vis X.env.scope n) (hd : (n == ("__debug__" : Str)) = false := by decide) (hcd : (n == ("__classdict__" : Str)) = false := by decide) :
    PEv X (.Name n pos) ρ μ x μ := by
  refine pe_weak (pe_var hN hv hd hcd) fun σ H Q ⟨w, k⟩ => ?_
  obtain ⟨v, h1, h2⟩ := w.slot i x hρ hx
  exact ⟨v, h1, k v H w (Ext.refl _ _) h2⟩
theorem v_tC {e : Expr} {v : V} {d : PyData} (h : PE X e (tC v)) (r : ∀ H, DR H v d) : PEv X e ρ μ (.d d) μ := pe_weak h fun σ H Q ⟨w, k⟩ => k v H w (Ext.refl _ _) (r _)
theorem v_int {i : Int} {j : Nat} : PEv X (.Constant (.int i) j pos) ρ μ (.d (.int i)) μ := v_tC pe_int fun _ => .int i
theorem v_bl {b : Bool} {j : Nat} : PEv X (.Constant (.bool b) j pos) ρ μ (.d (.bool b)) μ := v_tC pe_bl fun _ => .bl b
theorem v_non {j : Nat} : PEv X (.Constant .none j pos) ρ μ (.d .none) μ := v_tC pe_non fun _ => .non
theorem v_str {s : Str} {j : Nat} : PEv X (.Constant (.str s) j pos) ρ μ (.d (.str s)) μ := v_tC pe_str fun _ => .str s
theorem v_raw {e : Expr} {v : V} (h : PE X e (tC v)) : PEv X e ρ μ (.v v) μ := pe_weak h fun σ H Q ⟨w, k⟩ => k v H w (Ext.refl _ _) rfl
/-- a module's int -/
theorem v_globI {n : Str} {i : Int} {t : Tok} (hg : Gl X n) (hm : X.mg n = some (.int i t)) (hd : (n == ("__debug__" : Str)) = false := by decide) : PEv X (.Name n pos) ρ μ (.d (.int i)) μ :=
  v_tC (v := .int i) (pe_glob hg hm ⟨t, rfl⟩ hd) fun _ => .int i

/-! ### operators -/
/-- reading a slot as data, now -/
def Now (μ : Mu) (x : Sl) (d : PyData) : Prop := x = .d d ∨ ∃ p ds, x = .m p ∧ mget μ p = some (.lst (ds.map .d)) ∧ d = .list ds
theorem hide_le {H : Hp} {μ : Mu} : Le (hide H μ) H := fun _ _ h => (hide_some h).1
theorem pairedD {H : Hp} : ∀ {vs : List V} {ds : List PyData}, Paired (SR H) vs (ds.map Sl.d) → DRA H vs ds
  | _, [], h => by cases h; exact .nil
  | _, d :: ds, h => by
    cases h with
    | cons h1 h2 => exact .cons h1 (pairedD h2)
theorem Dpaired {H : Hp} : ∀ {ds : List PyData} {vs : List V}, DRA H vs ds → Paired (SR H) vs (ds.map Sl.d)
  | [], _, h => by cases h; exact .nil
  | d :: ds, _, h => by
    cases h with
    | cons h1 h2 => exact .cons h1 (Dpaired h2)
theorem Now.dr {H : Hp} {v : V} {d : PyData} (n : Now μ x d) (m : MuOk H μ) (r : SR (hide H μ) v x) : DR H v d := by
  rcases n with rfl | ⟨p, ds, rfl, e, rfl⟩
  · exact dr_le hide_le d v r
  · obtain ⟨vs, h1, h2⟩ := m p _ e
    cases (show v = .ref p from r)
    exact .lst h1 (dra_le hide_le ds vs (pairedD h2))
theorem Now.dp {K : PySem.W.Frag} {H : Hp} {v : V} {d : PyData} (n : Now μ x d) (m : MuOk H μ) (r : SR (hide H μ) v x) : Dp K H v d := dr_dp d v (n.dr m r)
/-- reading a slot as a sequence of slots, now: a list, a tuple, a mutable list -/
def NowS (μ : Mu) (x : Sl) (xs : List Sl) : Prop := (∃ ds, x = .d (.list ds) ∧ xs = ds.map .d) ∨ (∃ ds, x = .d (.tuple ds) ∧ xs = ds.map .d) ∨ ∃ p, x = .m p ∧ mget μ p = some (.lst xs)
theorem NowS.sq {H : Hp} {v : V} {xs : List Sl} (n : NowS μ x xs) (m : MuOk H μ) (r : SR (hide H μ) v x) : ∃ a vs, v = .ref a ∧ (H a = some (.lst vs) ∨ H a = some (.tup vs)) ∧ Paired (SR (hide H μ)) vs xs := by
  rcases n with ⟨ds, rfl, rfl⟩ | ⟨ds, rfl, rfl⟩ | ⟨p, rfl, e⟩
  · cases (show DR (hide H μ) v (.list ds) from r) with
    | lst h1 h2 => exact ⟨_, _, rfl, .inl (hide_le _ _ h1), Dpaired h2⟩
  · cases (show DR (hide H μ) v (.tuple ds) from r) with
    | tup h1 h2 => exact ⟨_, _, rfl, .inr (hide_le _ _ h1), Dpaired h2⟩
  · obtain ⟨vs, h1, h2⟩ := m p _ e
    exact ⟨p, vs, r, .inl h1, h2⟩
theorem nowS_l {ds : List PyData} : NowS μ (.d (.list ds)) (ds.map .d) := .inl ⟨ds, rfl, rfl⟩
theorem nowS_t {ds : List PyData} : NowS μ (.d (.tuple ds)) (ds.map .d) := .inr (.inl ⟨ds, rfl, rfl⟩)
theorem nowS_m {p : Addr} {xs : List Sl} (e : mget μ p = some (.lst xs)) : NowS μ (.m p) xs := .inr (.inr ⟨p, rfl, e⟩)
theorem now_d {d : PyData} : Now μ (.d d) d := .inl rfl
theorem now_m {p : Addr} {ds : List PyData} (e : mget μ p = some (.lst (ds.map .d))) : Now μ (.m p) (.list ds) := .inr ⟨p, ds, rfl, e, rfl⟩

def OpD (μ : Mu) (r : R2) (x y z : Sl) : Prop :=
  ∀ (H : Hp) (v w : V) (Q : VK), MuOk H μ → SR (hide H μ) v x → SR (hide H μ) w y → (∀ u H', Same H H' → SR (hide H' μ) u z → Q u H') → r v w H Q
theorem v_op2 {r : R2} {e : Expr} (he : ∀ {ta tb : TE}, PE X a ta → PE X b tb → PE X e (tOp r ta tb)) (ha : PEv X a ρ μ x μ1) (hb : PEv X b ρ μ1 y μ2) (h : OpD μ2 r x y z) : PEv X e ρ μ z μ2 :=
  pe_weak (he ha hb) fun σ H Q ⟨w0, k⟩ => ⟨w0, fun v H1 w1 e1 r1 => ⟨w1, fun u H2 w2 e2 r2 => h H2 v u Q w2.mu (r1.ext e2) r2 fun z' H3 s3 r3 => k z' H3 (w2.same s3) ((e1.trans e2).trans (Ext.same s3)) r3⟩⟩
theorem v_bin {op : Operator} {r : R2} (ho : OpR X (binaryOp op) r) (ha : PEv X a ρ μ x μ1) (hb : PEv X b ρ μ1 y μ2) (h : OpD μ2 r x y z) : PEv X (.BinOp a op b pos) ρ μ z μ2 :=
  v_op2 (fun pa pb => pe_op ho pa pb) ha hb h
theorem v_cmp {op : CmpOp} {r : R2} (ho : OpR X (compareOp op) r) (ha : PEv X a ρ μ x μ1) (hb : PEv X b ρ μ1 y μ2) (h : OpD μ2 r x y z) (hm : behindInMarks op b = false) : PEv X (.Compare a [op] [b] pos) ρ μ z μ2 :=
  v_op2 (fun pa pb => pe_cmpR ho pa pb hm) ha hb h
theorem dp_int {H : Hp} {v : V} {i : Int} (h : DR H v (.int i)) : v = .int i := by cases h; rfl
theorem dp_bl {H : Hp} {v : V} {i : Bool} (h : DR H v (.bool i)) : v = .bl i := by cases h; rfl
theorem dp_non {H : Hp} {v : V} (h : DR H v .none) : v = .non := by cases h; rfl
theorem dp_str {H : Hp} {v : V} {i : Str} (h : DR H v (.str i)) : v = .str i := by cases h; rfl
section
variable {i j : Int}
theorem od_I0 {g : Int → Int → Int} : OpD μ (rI0 fun i j => .int (g i j)) (.d (.int i)) (.d (.int j)) (.d (.int (g i j))) := fun H v w Q m r1 r2 k =>
  ⟨i, j, dp_int r1, dp_int r2, k _ H (Same.refl H) (.int _)⟩
theorem od_B0 {g : Int → Int → Bool} : OpD μ (rI0 fun i j => .bl (g i j)) (.d (.int i)) (.d (.int j)) (.d (.bool (g i j))) := fun H v w Q m r1 r2 k =>
  ⟨i, j, dp_int r1, dp_int r2, k _ H (Same.refl H) (.bl _)⟩
theorem od_IC {C : Int → Int → Prop} {g : Int → Int → Int} (h : C i j) : OpD μ (rI C fun i j => .int (g i j)) (.d (.int i)) (.d (.int j)) (.d (.int (g i j))) := fun H v w Q m r1 r2 k =>
  ⟨i, j, dp_int r1, dp_int r2, h, k _ H (Same.refl H) (.int _)⟩
end
theorem v_add {i j : Int} (ha : PEv X a ρ μ (.d (.int i)) μ1) (hb : PEv X b ρ μ1 (.d (.int j)) μ2) : PEv X (.BinOp a .Add b pos) ρ μ (.d (.int (i + j))) μ2 := v_bin op_add ha hb od_I0
theorem v_sub {i j : Int} (ha : PEv X a ρ μ (.d (.int i)) μ1) (hb : PEv X b ρ μ1 (.d (.int j)) μ2) : PEv X (.BinOp a .Sub b pos) ρ μ (.d (.int (i - j))) μ2 := v_bin op_sub ha hb od_I0
theorem v_mul {i j : Int} (ha : PEv X a ρ μ (.d (.int i)) μ1) (hb : PEv X b ρ μ1 (.d (.int j)) μ2) (h : (-(2 ^ 64) < i ∧ i < 2 ^ 64) ∨ (-(2 ^ 64) < j ∧ j < 2 ^ 64)) : PEv X (.BinOp a .Mult b pos) ρ μ (.d (.int (i * j))) μ2 := v_bin op_mul ha hb (od_IC h)
theorem v_mod {i j : Int} (ha : PEv X a ρ μ (.d (.int i)) μ1) (hb : PEv X b ρ μ1 (.d (.int j)) μ2) (h : 0 < j) : PEv X (.BinOp a .Mod b pos) ρ μ (.d (.int (i % j))) μ2 := v_bin op_mod ha hb (od_IC h)
theorem v_fdiv {i j : Int} (ha : PEv X a ρ μ (.d (.int i)) μ1) (hb : PEv X b ρ μ1 (.d (.int j)) μ2) (h : 0 < j ∧ j < 1073741824) : PEv X (.BinOp a .FloorDiv b pos) ρ μ (.d (.int (i / j))) μ2 := v_bin op_fdiv ha hb (od_IC h)
theorem v_pow {i j : Int} (ha : PEv X a ρ μ (.d (.int i)) μ1) (hb : PEv X b ρ μ1 (.d (.int j)) μ2) (h : 0 ≤ j ∧ j ≤ 1000000 ∧ i.natAbs < 2 ^ 64) : PEv X (.BinOp a .Pow b pos) ρ μ (.d (.int (i ^ j.toNat))) μ2 := v_bin op_pow ha hb (od_IC h)
theorem v_neg {i : Int} (ha : PEv X a ρ μ (.d (.int i)) μ1) : PEv X (.UnaryOp .USub a pos) ρ μ (.d (.int (-i))) μ1 :=
  pe_weak (pe_un un_neg ha) fun σ H Q ⟨w0, k⟩ => ⟨w0, fun v H1 w1 e1 r1 => ⟨i, dp_int r1, k _ H1 w1 e1 (.int _)⟩⟩
theorem v_lt {i j : Int} (ha : PEv X a ρ μ (.d (.int i)) μ1) (hb : PEv X b ρ μ1 (.d (.int j)) μ2) : PEv X (.Compare a [.Lt] [b] pos) ρ μ (.d (.bool (decide (i < j)))) μ2 := v_cmp op_lt ha hb od_B0 (nomark _)
theorem v_le {i j : Int} (ha : PEv X a ρ μ (.d (.int i)) μ1) (hb : PEv X b ρ μ1 (.d (.int j)) μ2) : PEv X (.Compare a [.LtE] [b] pos) ρ μ (.d (.bool (decide (i ≤ j)))) μ2 := v_cmp op_le ha hb od_B0 (nomark _)
theorem v_gt {i j : Int} (ha : PEv X a ρ μ (.d (.int i)) μ1) (hb : PEv X b ρ μ1 (.d (.int j)) μ2) : PEv X (.Compare a [.Gt] [b] pos) ρ μ (.d (.bool (decide (j < i)))) μ2 := v_cmp op_gt ha hb od_B0 (nomark _)
theorem v_ge {i j : Int} (ha : PEv X a ρ μ (.d (.int i)) μ1) (hb : PEv X b ρ μ1 (.d (.int j)) μ2) : PEv X (.Compare a [.GtE] [b] pos) ρ μ (.d (.bool (decide (j ≤ i)))) μ2 := v_cmp op_ge ha hb od_B0 (nomark _)
/-- ==, != of data of any kind -/
theorem v_eq {d d' : PyData} (hu : X.A.units + 64 < cLine) (ha : PEv X a ρ μ x μ1) (hb : PEv X b ρ μ1 y μ2) (n1 : Now μ2 x d) (n2 : Now μ2 y d') (s1 : SeqAt.shaped d = true) (s2 : SeqAt.shaped d' = true) : PEv X (.Compare a [.Eq] [b] pos) ρ μ (.d (.bool (PyData.eqv d d'))) μ2 :=
  v_cmp (op_eqD hu) ha hb (fun H v w Q m r1 r2 k => ⟨d, d', n1.dp m r1, n2.dp m r2, s1, s2, k _ H (Same.refl H) (.bl _)⟩) (nomark _)
theorem v_ne {d d' : PyData} (hu : X.A.units + 64 < cLine) (ha : PEv X a ρ μ x μ1) (hb : PEv X b ρ μ1 y μ2) (n1 : Now μ2 x d) (n2 : Now μ2 y d') (s1 : SeqAt.shaped d = true) (s2 : SeqAt.shaped d' = true) : PEv X (.Compare a [.NotEq] [b] pos) ρ μ (.d (.bool (!PyData.eqv d d'))) μ2 :=
  v_cmp (op_neD hu) ha hb (fun H v w Q m r1 r2 k => ⟨d, d', n1.dp m r1, n2.dp m r2, s1, s2, k _ H (Same.refl H) (.bl _)⟩) (nomark _)
/-- is None, is not None -/
def isNo : Sl → Bool
  | .d .none => true
  | .v .non => true
  | _ => false
theorem sr_non {H : Hp} {v : V} (h : SR H v x) (n : x ≠ .no) : decide (v = .non) = isNo x := by
  cases x with
  | no => exact absurd rfl n
  | d y =>
    cases y with
    | none => cases (show DR H v .none from h); rfl
    | bool b => cases (show DR H v (.bool b) from h); rfl
    | int b => cases (show DR H v (.int b) from h); rfl
    | str b => cases (show DR H v (.str b) from h); rfl
    | list b => cases (show DR H v (.list b) from h); rfl
    | tuple b => cases (show DR H v (.tuple b) from h); rfl
    | dict b => cases (show DR H v (.dict b) from h)
  | m p => cases (show v = .ref p from h); rfl
  | v w =>
    cases (show v = w from h)
    cases v <;> rfl
  | f K ns => obtain ⟨a, h1, h2⟩ := h; subst h1; rfl
  | g L => obtain ⟨f, c', pm, ctv, h1, h2⟩ := h; subst h1; rfl
theorem v_isN {j : Nat} {p : Pos} (n : x ≠ .no) (ha : PEv X a ρ μ x μ1) : PEv X (.Compare a [.Is] [.Constant .none j p] pos) ρ μ (.d (.bool (isNo x))) μ1 :=
  pe_weak (pe_cmp (pc_isN ha)) fun σ H Q ⟨w0, k⟩ => ⟨w0, fun v H1 w1 e1 r1 => by
    have := k (.bl (decide (v = .non))) H1 w1 e1 (by rw [sr_non r1 n]; exact .bl _)
    exact this⟩
theorem v_notN {j : Nat} {p : Pos} (n : x ≠ .no) (ha : PEv X a ρ μ x μ1) : PEv X (.Compare a [.IsNot] [.Constant .none j p] pos) ρ μ (.d (.bool (!isNo x))) μ1 :=
  pe_weak (pe_cmp (pc_notN ha)) fun σ H Q ⟨w0, k⟩ => ⟨w0, fun v H1 w1 e1 r1 => by
    have := k (.bl (!decide (v = .non))) H1 w1 e1 (by rw [sr_non r1 n]; exact .bl _)
    exact this⟩
end
end Fw

namespace Fw
open PySem PySem.Spec PyProof.Rows L2
/-! ### sequences -/
theorem paired_get {α β : Type} {F : α → β → Prop} : ∀ {xs : List α} {ys : List β} {i : Nat} {y : β}, Paired F xs ys → ys[i]? = some y → ∃ x, xs[i]? = some x ∧ F x y
  | _, _, _, _, .nil, e => by simp at e
  | _, _, 0, _, .cons r _, e => by simp at e; subst e; exact ⟨_, rfl, r⟩
  | _, _, i + 1, y, .cons _ t, e => by
    obtain ⟨u, h1, h2⟩ := paired_get (i := i) (y := y) t (by simpa using e)
    exact ⟨u, by simpa using h1, h2⟩
theorem paired_get' {α β : Type} {F : α → β → Prop} : ∀ {xs : List α} {ys : List β} {i : Nat} {x : α}, Paired F xs ys → xs[i]? = some x → ∃ y, ys[i]? = some y ∧ F x y
  | _, _, _, _, .nil, e => by simp at e
  | _, _, 0, _, .cons r _, e => by simp at e; subst e; exact ⟨_, rfl, r⟩
  | _, _, i + 1, y, .cons _ t, e => by
    obtain ⟨u, h1, h2⟩ := paired_get' (i := i) (x := y) t (by simpa using e)
    exact ⟨u, by simpa using h1, h2⟩
theorem paired_len {α β : Type} {F : α → β → Prop} : ∀ {xs : List α} {ys : List β}, Paired F xs ys → xs.length = ys.length
  | _, _, .nil => rfl
  | _, _, .cons _ t => by rw [List.length_cons, List.length_cons, paired_len t]
theorem paired_app {α β : Type} {F : α → β → Prop} : ∀ {xs : List α} {ys : List β} {xs' : List α} {ys' : List β}, Paired F xs ys → Paired F xs' ys' → Paired F (xs ++ xs') (ys ++ ys')
  | _, _, _, _, .nil, s => s
  | _, _, _, _, .cons r t, s => .cons r (paired_app t s)
theorem paired_take {α β : Type} {F : α → β → Prop} : ∀ {xs : List α} {ys : List β} (n : Nat), Paired F xs ys → Paired F (xs.take n) (ys.take n)
  | _, _, 0, _ => .nil
  | _, _, _ + 1, .nil => .nil
  | _, _, n + 1, .cons r t => .cons r (paired_take n t)
theorem paired_drop {α β : Type} {F : α → β → Prop} : ∀ {xs : List α} {ys : List β} (n : Nat), Paired F xs ys → Paired F (xs.drop n) (ys.drop n)
  | _, _, 0, r => r
  | _, _, _ + 1, .nil => .nil
  | _, _, n + 1, .cons _ t => paired_drop n t
theorem paired_set {α β : Type} {F : α → β → Prop} {x : α} {y : β} (r : F x y) : ∀ {xs : List α} {ys : List β} (i : Nat), Paired F xs ys → Paired F (xs.set i x) (ys.set i y)
  | _, _, _, .nil => .nil
  | _, _, 0, .cons _ t => .cons r t
  | _, _, i + 1, .cons q t => .cons q (paired_set r i t)
theorem paired_at {α β : Type} {F : α → β → Prop} {xs : List α} {ys : List β} {i : Int} {y : β} (p : Paired F xs ys) (h : atI ys i = some y) : ∃ x, atI xs i = some x ∧ F x y := by
  unfold atI at h ⊢
  rw [paired_len p]
  cases e : ixN ys.length i with
  | none => rw [e] at h; cases h
  | some j =>
    rw [e] at h
    exact paired_get p h
/-- the items lo .. hi - 1 -/
def cutL {α : Type} (xs : List α) (lo hi : Option Int) : List α := (xs.drop (HT.sIx xs.length 0 lo)).take (HT.sIx xs.length xs.length hi - HT.sIx xs.length 0 lo)
theorem paired_cut {F : V → β → Prop} {xs : List V} {ys : List β} (p : Paired F xs ys) (lo hi : Option Int) : Paired F (cutV xs lo hi) (cutL ys lo hi) := by
  unfold cutV cutL
  rw [paired_len p]
  exact paired_take _ (paired_drop _ p)
theorem cutL_map {α β : Type} (f : α → β) (xs : List α) (lo hi : Option Int) : cutL (xs.map f) lo hi = (cutL xs lo hi).map f := by
  unfold cutL
  rw [List.length_map, List.map_take, List.map_drop]
theorem dra_paired {H : Hp} : ∀ {vs : List V} {ds : List PyData}, DRA H vs ds → Paired (DR H) vs ds
  | _, [], h => by cases h; exact .nil
  | _, d :: ds, h => by
    cases h with
    | cons h1 h2 => exact .cons h1 (dra_paired h2)
theorem paired_dra {H : Hp} : ∀ {vs : List V} {ds : List PyData}, Paired (DR H) vs ds → DRA H vs ds
  | _, _, .nil => .nil
  | _, _, .cons h t => .cons h (paired_dra t)
theorem same_upd {H : Hp} {p : Addr} {o : HO} (h : H p = none) : Same H (upd H p o) := fun b x e => by
  rw [upd_ne (ne_of_none e h)]
  exact e
theorem hide_upd {H : Hp} {μ : Mu} {p : Addr} {o : HO} (m : mget μ p = none) : hide (upd H p o) μ p = some o := hide_of upd_same m
section
variable {X : Cx} {a b c e : Expr} {es : List Expr} {ρ : En} {μ μ1 μ2 μ3 : Mu} {x y z : Sl} {xs : List Sl} {pos : Pos}
theorem v_ix {i : Int} (ha : PEv X a ρ μ x μ1) (hb : PEv X b ρ μ1 (.d (.int i)) μ2) (n : NowS μ2 x xs) (h : atI xs i = some z) (hs : PlainIx b := by intro _ _; rfl) : PEv X (.Subscript a b pos) ρ μ z μ2 :=
  pe_weak (pe_ix ix_seq ha hb hs) fun σ H Q ⟨w0, k⟩ => ⟨w0, fun v H1 w1 e1 r1 => ⟨w1, fun u H2 w2 e2 r2 => by
    obtain ⟨p, vs, ev, hh, pp⟩ := n.sq w2.mu (r1.ext e2)
    obtain ⟨v', h1, h2⟩ := paired_at pp h
    have fin := k v' H2 w2 (e1.trans e2) h2
    rcases hh with hh | hh
    · exact .inl ⟨p, vs, i, v', ev, dp_int r2, SqL.of hh, h1, fin⟩
    · exact .inr (.inl ⟨p, vs, i, v', ev, dp_int r2, SqT.of hh, h1, fin⟩)⟩⟩
/-- script[i] -/
theorem v_ixF {i : Int} {K : PySem.W.Frag} {ns : List Int} {j : Int} (hK : X.K = K) (ha : PEv X a ρ μ (.f K ns) μ1) (hb : PEv X b ρ μ1 (.d (.int i)) μ2) (h : atI ns i = some j) (hs : PlainIx b := by intro _ _; rfl) : PEv X (.Subscript a b pos) ρ μ (.d (.int j)) μ2 :=
  pe_weak (pe_ix ix_list ha hb hs) fun σ H Q ⟨w0, k⟩ => ⟨w0, fun v H1 w1 e1 r1 => ⟨w1, fun u H2 w2 e2 r2 => by
    subst hK
    obtain ⟨p, ev, hh⟩ := r1.ext e2
    have fin := k (.int j) H2 w2 (e1.trans e2) (.int _)
    refine ⟨p, ns.map V.int, i, .int j, ev, dp_int r2, SqL.le hide_le hh, ?_, fin⟩
    unfold atI at h ⊢
    rw [List.length_map]
    cases e : ixN ns.length i with
    | none => rw [e] at h; cases h
    | some q =>
      rw [e] at h
      have h : ns[q]? = some j := h
      show (ns.map V.int)[q]? = some (V.int j)
      rw [List.getElem?_map, h]; rfl⟩⟩

/-! ### parts of a slice -/
def tOv (ρ : En) (μ : Mu) (o : Option Int) (μ' : Mu) : TO := fun σ H Q => W H σ ρ μ ∧ ∀ H', W H' σ ρ μ' → Ext H μ H' μ' → Q o H'
abbrev POv (X : Cx) (oe : Option Expr) (ρ : En) (μ : Mu) (o : Option Int) (μ' : Mu) : Prop := PO X oe (tOv ρ μ o μ')
theorem po_weak {oe : Option Expr} {t t' : TO} (h : PO X oe t) (w : ∀ σ H Q, t' σ H Q → t σ H Q) : PO X oe t' := ⟨fun pins s σ H Q I q => h.run pins s σ H Q I (w σ H Q q)⟩
theorem o_no : POv X none ρ μ none μ := po_weak po_none fun σ H Q ⟨w, k⟩ => k H w (Ext.refl _ _)
theorem o_int {i : Int} (h : PEv X e ρ μ (.d (.int i)) μ1) : POv X (some e) ρ μ (some i) μ1 := po_weak (po_some h) fun σ H Q ⟨w, k⟩ => ⟨w, fun v H' w1 e1 r1 => ⟨i, dp_int r1, k H' w1 e1⟩⟩
theorem new_lst {H : Hp} {vs : List V} {ds : List PyData} {p : Addr} (m : MuOk H μ) (np : H p = none) (pp : Paired (SR (hide H μ)) vs (ds.map Sl.d)) : SR (hide (upd H p (.lst vs)) μ) (.ref p) (.d (.list ds)) :=
  .lst (hide_upd (m.fresh np)) (pairedD (Paired.mapL pp fun _ _ z => z.ext (Ext.same (same_upd np))))
theorem new_tup {H : Hp} {vs : List V} {ds : List PyData} {p : Addr} (m : MuOk H μ) (np : H p = none) (pp : Paired (SR (hide H μ)) vs (ds.map Sl.d)) : SR (hide (upd H p (.tup vs)) μ) (.ref p) (.d (.tuple ds)) :=
  .tup (hide_upd (m.fresh np)) (pairedD (Paired.mapL pp fun _ _ z => z.ext (Ext.same (same_upd np))))
/-- a list, now: data or a mutable one -/
def NowL (μ : Mu) (x : Sl) (xs : List Sl) : Prop := (∃ ds, x = .d (.list ds) ∧ xs = ds.map .d) ∨ ∃ p, x = .m p ∧ mget μ p = some (.lst xs)
def NowT (x : Sl) (ds : List PyData) : Prop := x = .d (.tuple ds)
theorem nowL_d {ds : List PyData} : NowL μ (.d (.list ds)) (ds.map .d) := .inl ⟨ds, rfl, rfl⟩
theorem nowL_m {p : Addr} {xs : List Sl} (e : mget μ p = some (.lst xs)) : NowL μ (.m p) xs := .inr ⟨p, rfl, e⟩
theorem NowL.sq {H : Hp} {v : V} {xs : List Sl} (n : NowL μ x xs) (m : MuOk H μ) (r : SR (hide H μ) v x) : ∃ a vs, v = .ref a ∧ H a = some (.lst vs) ∧ Paired (SR (hide H μ)) vs xs := by
  rcases n with ⟨ds, rfl, rfl⟩ | ⟨p, rfl, e⟩
  · cases (show DR (hide H μ) v (.list ds) from r) with
    | lst h1 h2 => exact ⟨_, _, rfl, hide_le _ _ h1, Dpaired h2⟩
  · obtain ⟨vs, h1, h2⟩ := m p _ e
    exact ⟨p, vs, r, h1, h2⟩
theorem NowT.sq {H : Hp} {v : V} {ds : List PyData} (n : NowT x ds) (r : SR (hide H μ) v x) : ∃ a vs, v = .ref a ∧ H a = some (.tup vs) ∧ Paired (SR (hide H μ)) vs (ds.map .d) := by
  subst n
  cases (show DR (hide H μ) v (.tuple ds) from r) with
  | tup h1 h2 => exact ⟨_, _, rfl, hide_le _ _ h1, Dpaired h2⟩
/-- xs[lo:hi] of a list -/
theorem v_slL {lo hi : Option Expr} {l u : Option Int} {ds : List PyData} {p2 : Pos} (ha : PEv X a ρ μ x μ1) (hl : POv X lo ρ μ1 l μ2) (hu : POv X hi ρ μ2 u μ3) (n : NowL μ3 x (ds.map .d)) : PEv X (.Subscript a (.Slice lo hi none p2) pos) ρ μ (.d (.list (cutL ds l u))) μ3 :=
  pe_weak (pe_slice sl_list ha hl hu) fun σ H Q ⟨w0, k⟩ => ⟨w0, fun v H1 w1 e1 r1 => ⟨w1, fun H2 w2 e2 => ⟨w2, fun H3 w3 e3 => by
    obtain ⟨a, vs, rfl, h1, pp⟩ := n.sq w3.mu (r1.ext (e2.trans e3))
    refine ⟨a, vs, rfl, SqL.of h1, fun p np => ?_⟩
    have pc := paired_cut pp l u
    rw [cutL_map] at pc
    exact k _ _ (w3.same (same_upd np)) ((e1.trans (e2.trans e3)).trans (Ext.same (same_upd np))) (new_lst w3.mu np pc)⟩⟩⟩
/-- t[lo:hi] of a tuple -/
theorem v_slT {lo hi : Option Expr} {l u : Option Int} {ds : List PyData} {p2 : Pos} (ha : PEv X a ρ μ x μ1) (hl : POv X lo ρ μ1 l μ2) (hu : POv X hi ρ μ2 u μ3) (n : NowT x ds) : PEv X (.Subscript a (.Slice lo hi none p2) pos) ρ μ (.d (.tuple (cutL ds l u))) μ3 :=
  pe_weak (pe_slice sl_tupA ha hl hu) fun σ H Q ⟨w0, k⟩ => ⟨w0, fun v H1 w1 e1 r1 => ⟨w1, fun H2 w2 e2 => ⟨w2, fun H3 w3 e3 => by
    have r3 := r1.ext (e2.trans e3)
    obtain ⟨a, vs, rfl, h1, pp⟩ := n.sq r3
    have pc := paired_cut pp l u
    rw [cutL_map] at pc
    have hl : vs.length = ds.length := by rw [paired_len pp, List.length_map]
    refine ⟨a, vs, rfl, SqT.of h1, fun hw => ?_, fun _ p np => ?_⟩
    · rw [hl] at hw
      have e : cutL ds l u = ds := by
        unfold cutL
        rw [hw.1, hw.2]
        simp
      rw [e] at k
      subst n
      exact k _ _ w3 (e1.trans (e2.trans e3)) r3
    · exact k _ _ (w3.same (same_upd np)) ((e1.trans (e2.trans e3)).trans (Ext.same (same_upd np))) (new_tup w3.mu np pc)⟩⟩⟩

/-! ### argument lists, displays -/
theorem a_nil : PAv X [] ρ μ [] μ := pa_weak pa_nil fun σ H Q ⟨w, k⟩ => k [] H w (Ext.refl _ _) .nil
theorem a_cons (ha : PEv X e ρ μ x μ1) (hr : PAv X es ρ μ1 xs μ2) (hs : starEach (e :: es) X.env = (false, eval e X.env) :: starEach es X.env := by rfl) : PAv X (e :: es) ρ μ (x :: xs) μ2 :=
  pa_weak (pa_cons ha hr hs) fun σ H Q ⟨w0, k⟩ => ⟨w0, fun v H1 w1 e1 r1 => ⟨w1, fun vs H2 w2 e2 r2 => k (v :: vs) H2 w2 (e1.trans e2) (.cons (r1.ext e2) r2)⟩⟩
abbrev PAd (X : Cx) (es : List Expr) (ρ : En) (μ : Mu) (ds : List PyData) (μ' : Mu) : Prop := PAv X es ρ μ (ds.map .d) μ'
theorem ad_nil : PAd X [] ρ μ [] μ := a_nil
theorem ad_cons {d : PyData} {ds : List PyData} (ha : PEv X e ρ μ (.d d) μ1) (hr : PAd X es ρ μ1 ds μ2) (hs : starEach (e :: es) X.env = (false, eval e X.env) :: starEach es X.env := by rfl) : PAd X (e :: es) ρ μ (d :: ds) μ2 := a_cons ha hr hs
theorem len_small {es : List PyData} (h : es.length ≤ 1000 := by decide) : es.length ≤ sizeLine := Nat.le_trans h (by decide)
/-- a written length is small -/
theorem sz {n : Nat} (h : Nat.ble n 1000 = true := by rfl) : n ≤ sizeLine := Nat.le_trans (Nat.le_of_ble_eq_true h) (by decide)
theorem v_tup {ds : List PyData} {j : Nat} (h : PAd X es ρ μ ds μ1) (hz : ds.length ≤ sizeLine) : PEv X (.Tuple es j pos) ρ μ (.d (.tuple ds)) μ1 :=
  pe_weak (pe_tup h) fun σ H Q ⟨w0, k⟩ => ⟨w0, fun vs H1 w1 e1 r1 => ⟨by rw [paired_len r1, List.length_map]; exact hz, fun p np =>
    k _ _ (w1.same (same_upd np)) (e1.trans (Ext.same (same_upd np))) (new_tup w1.mu np r1)⟩⟩
theorem v_lst {ds : List PyData} (h : PAd X es ρ μ ds μ1) (hz : ds.length ≤ sizeLine) : PEv X (.List es pos) ρ μ (.d (.list ds)) μ1 :=
  pe_weak (pe_lst h) fun σ H Q ⟨w0, k⟩ => ⟨w0, fun vs H1 w1 e1 r1 => ⟨by rw [paired_len r1, List.length_map]; exact hz, fun p np =>
    k _ _ (w1.same (same_upd np)) (e1.trans (Ext.same (same_upd np))) (new_lst w1.mu np r1)⟩⟩
/-- a new object joins the store -/
theorem ext_new {H : Hp} {p : Addr} {o : HO} {u : MO} (np : H p = none) : Ext H μ (upd H p o) ((p, u) :: μ) := fun b z h n => by
  have ne : b ≠ p := ne_of_none h np
  refine ⟨by rw [upd_ne ne]; exact h, ?_⟩
  show (if b = p then some u else mget μ b) = none
  rw [if_neg ne]; exact n
theorem mu_new {H : Hp} {p : Addr} {o : HO} {u : MO} (m : MuOk H μ) (np : H p = none) (h : MoOk (upd H p o) (hide (upd H p o) ((p, u) :: μ)) p u) : MuOk (upd H p o) ((p, u) :: μ) := fun q z e => by
  by_cases hq : q = p
  · subst hq
    have e : (if q = q then some u else mget μ q) = some z := e
    rw [if_pos rfl] at e
    cases e
    exact h
  · have e : (if q = p then some u else mget μ q) = some z := e
    rw [if_neg hq] at e
    exact (m q z e).le (upd_ne hq) (ext_new np).hid
/-- a new mutable list -/
theorem w_lst (h : PAv X es ρ μ xs μ1) (hz : xs.length ≤ sizeLine) : PEw X (.List es pos) ρ μ (fun y ν => ∃ p, mget μ1 p = none ∧ y = .m p ∧ ν = (p, .lst xs) :: μ1) :=
  pe_weak (pe_lst h) fun σ H Q ⟨w0, k⟩ => ⟨w0, fun vs H1 w1 e1 r1 => ⟨by rw [paired_len r1]; exact hz, fun p np => by
    have ex := ext_new (μ := μ1) (o := .lst vs) (u := .lst xs) np
    have m2 : MuOk (upd H1 p (.lst vs)) ((p, .lst xs) :: μ1) := mu_new w1.mu np ⟨vs, upd_same, Paired.mapL r1 fun _ _ z => z.ext ex⟩
    exact k _ _ (.m p) _ ⟨p, w1.mu.fresh np, rfl, rfl⟩ (w1.ext m2 ex) (e1.trans ex) rfl⟩⟩

/-! ### tests, and, or, not, a if t else b -/
theorem t_val {b : Bool} (h : PEv X e ρ μ (.d (.bool b)) μ1) (he : ∀ whole, isTrue e X.env whole = (do let v ← whole; standAt e.pos; holding [v] (truthy v)) := by intro _; rfl) : PTv X e ρ μ b μ1 :=
  pt_weak (pt_val h he) fun σ H Q ⟨w, k⟩ => ⟨w, fun v H' w1 e1 r1 => ⟨b, dp_bl r1, k H' w1 e1⟩⟩
/-- a comparison as a test -/
theorem t_cmp {op : CmpOp} {r : R2} {k : Bool} (ho : OpR X (compareOp op) r) (ha : PEv X a ρ μ x μ1) (hb : PEv X b ρ μ1 y μ2) (h : OpD μ2 r x y (.d (.bool k))) (hm : behindInMarks op b = false) : PTv X (.Compare a [op] [b] pos) ρ μ k μ2 :=
  pt_weak (pt_cmpR ho ha hb hm) fun σ H Q ⟨w0, kk⟩ => ⟨w0, fun v H1 w1 e1 r1 => ⟨w1, fun u H2 w2 e2 r2 => h H2 v u _ w2.mu (r1.ext e2) r2 fun z' H3 s3 r3 => ⟨k, dp_bl r3, kk H3 (w2.same s3) ((e1.trans e2).trans (Ext.same s3))⟩⟩⟩
theorem t_lt {i j : Int} (ha : PEv X a ρ μ (.d (.int i)) μ1) (hb : PEv X b ρ μ1 (.d (.int j)) μ2) : PTv X (.Compare a [.Lt] [b] pos) ρ μ (decide (i < j)) μ2 := t_cmp op_lt ha hb od_B0 (nomark _)
theorem t_le {i j : Int} (ha : PEv X a ρ μ (.d (.int i)) μ1) (hb : PEv X b ρ μ1 (.d (.int j)) μ2) : PTv X (.Compare a [.LtE] [b] pos) ρ μ (decide (i ≤ j)) μ2 := t_cmp op_le ha hb od_B0 (nomark _)
theorem t_gt {i j : Int} (ha : PEv X a ρ μ (.d (.int i)) μ1) (hb : PEv X b ρ μ1 (.d (.int j)) μ2) : PTv X (.Compare a [.Gt] [b] pos) ρ μ (decide (j < i)) μ2 := t_cmp op_gt ha hb od_B0 (nomark _)
theorem t_ge {i j : Int} (ha : PEv X a ρ μ (.d (.int i)) μ1) (hb : PEv X b ρ μ1 (.d (.int j)) μ2) : PTv X (.Compare a [.GtE] [b] pos) ρ μ (decide (j ≤ i)) μ2 := t_cmp op_ge ha hb od_B0 (nomark _)
theorem t_eq {d d' : PyData} (hu : X.A.units + 64 < cLine) (ha : PEv X a ρ μ x μ1) (hb : PEv X b ρ μ1 y μ2) (n1 : Now μ2 x d) (n2 : Now μ2 y d') (s1 : SeqAt.shaped d = true) (s2 : SeqAt.shaped d' = true) : PTv X (.Compare a [.Eq] [b] pos) ρ μ (PyData.eqv d d') μ2 :=
  t_cmp (op_eqD hu) ha hb (fun H v w Q m r1 r2 k => ⟨d, d', n1.dp m r1, n2.dp m r2, s1, s2, k _ H (Same.refl H) (.bl _)⟩) (nomark _)
theorem t_ne {d d' : PyData} (hu : X.A.units + 64 < cLine) (ha : PEv X a ρ μ x μ1) (hb : PEv X b ρ μ1 y μ2) (n1 : Now μ2 x d) (n2 : Now μ2 y d') (s1 : SeqAt.shaped d = true) (s2 : SeqAt.shaped d' = true) : PTv X (.Compare a [.NotEq] [b] pos) ρ μ (!PyData.eqv d d') μ2 :=
  t_cmp (op_neD hu) ha hb (fun H v w Q m r1 r2 k => ⟨d, d', n1.dp m r1, n2.dp m r2, s1, s2, k _ H (Same.refl H) (.bl _)⟩) (nomark _)
theorem t_isN {j : Nat} {p : Pos} (n : x ≠ .no) (ha : PEv X a ρ μ x μ1) : PTv X (.Compare a [.Is] [.Constant .none j p] pos) ρ μ (isNo x) μ1 :=
  pt_weak (pt_cmp (pc_isN ha)) fun σ H Q ⟨w0, k⟩ => ⟨w0, fun v H1 w1 e1 r1 => ⟨_, by rw [sr_non r1 n], k H1 w1 e1⟩⟩
theorem t_notN {j : Nat} {p : Pos} (n : x ≠ .no) (ha : PEv X a ρ μ x μ1) : PTv X (.Compare a [.IsNot] [.Constant .none j p] pos) ρ μ (!isNo x) μ1 :=
  pt_weak (pt_cmp (pc_notN ha)) fun σ H Q ⟨w0, k⟩ => ⟨w0, fun v H1 w1 e1 r1 => ⟨_, by rw [sr_non r1 n], k H1 w1 e1⟩⟩
theorem t_not {b : Bool} (h : PTv X a ρ μ b μ1) : PTv X (.UnaryOp .Not a pos) ρ μ (!b) μ1 := pt_weak (pt_not h) fun σ H Q ⟨w, k⟩ => ⟨w, fun H1 w1 e1 => k H1 w1 e1⟩
theorem t_w {b : Bool} (h : PWv X e ρ μ b μ1) : PTv X e ρ μ b μ1 := h.pt
theorem w_and1 {b : Bool} (h : PTv X a ρ μ b μ1) : PWv X (.BoolOp .And [a] pos) ρ μ b μ1 := pw_and1 h
theorem w_or1 {b : Bool} (h : PTv X a ρ μ b μ1) : PWv X (.BoolOp .Or [a] pos) ρ μ b μ1 := pw_or1 h
/-- and: the left decides (its store is kept where the right is not asked) -/
theorem w_and {p q : Bool} (ha : PTv X a ρ μ p μ1) (hb : p = true → PWv X (.BoolOp .And (b :: es) pos) ρ μ1 q μ2) (h : p = false → μ2 = μ1) : PWv X (.BoolOp .And (a :: b :: es) pos) ρ μ (p && q) μ2 := by
  cases p with
  | true => exact pw_weak (pw_and ha (hb rfl)) fun σ H Q ⟨w, k⟩ => ⟨w, fun H1 w1 e1 => ⟨w1, fun H2 w2 e2 => k H2 w2 (e1.trans e2)⟩⟩
  | false =>
    cases h rfl
    exact pw_weak (pw_and ha pw_never) fun σ H Q ⟨w, k⟩ => ⟨w, fun H1 w1 e1 => k H1 w1 e1⟩
theorem w_or {p q : Bool} (ha : PTv X a ρ μ p μ1) (hb : p = false → PWv X (.BoolOp .Or (b :: es) pos) ρ μ1 q μ2) (h : p = true → μ2 = μ1) : PWv X (.BoolOp .Or (a :: b :: es) pos) ρ μ (p || q) μ2 := by
  cases p with
  | false => exact pw_weak (pw_or ha (hb rfl)) fun σ H Q ⟨w, k⟩ => ⟨w, fun H1 w1 e1 => ⟨w1, fun H2 w2 e2 => k H2 w2 (e1.trans e2)⟩⟩
  | true =>
    cases h rfl
    exact pw_weak (pw_or ha pw_never) fun σ H Q ⟨w, k⟩ => ⟨w, fun H1 w1 e1 => k H1 w1 e1⟩
/-- .. as values -/
theorem v_one {op : BoolOp} (h : PEv X a ρ μ x μ1) : PEv X (.BoolOp op [a] pos) ρ μ x μ1 := pe_one h
theorem v_and {p q : Bool} (ha : PEv X a ρ μ (.d (.bool p)) μ1) (hb : p = true → PEv X (.BoolOp .And (b :: es) pos) ρ μ1 (.d (.bool q)) μ2) (h : p = false → μ2 = μ1) : PEv X (.BoolOp .And (a :: b :: es) pos) ρ μ (.d (.bool (p && q))) μ2 := by
  cases p with
  | true => exact pe_weak (pe_and ha (hb rfl)) fun σ H Q ⟨w, k⟩ => ⟨w, fun v H1 w1 e1 r1 => ⟨true, dp_bl r1, by rw [if_pos rfl]; exact ⟨w1, fun u H2 w2 e2 r2 => k u H2 w2 (e1.trans e2) r2⟩⟩⟩
  | false =>
    cases h rfl
    exact pe_weak (pe_and ha pe_never) fun σ H Q ⟨w, k⟩ => ⟨w, fun v H1 w1 e1 r1 => ⟨false, dp_bl r1, by rw [if_neg (by simp)]; exact k _ H1 w1 e1 (.bl false)⟩⟩
theorem v_or {p q : Bool} (ha : PEv X a ρ μ (.d (.bool p)) μ1) (hb : p = false → PEv X (.BoolOp .Or (b :: es) pos) ρ μ1 (.d (.bool q)) μ2) (h : p = true → μ2 = μ1) : PEv X (.BoolOp .Or (a :: b :: es) pos) ρ μ (.d (.bool (p || q))) μ2 := by
  cases p with
  | false => exact pe_weak (pe_or ha (hb rfl)) fun σ H Q ⟨w, k⟩ => ⟨w, fun v H1 w1 e1 r1 => ⟨false, dp_bl r1, by rw [if_neg (by simp)]; exact ⟨w1, fun u H2 w2 e2 r2 => k u H2 w2 (e1.trans e2) r2⟩⟩⟩
  | true =>
    cases h rfl
    exact pe_weak (pe_or ha pe_never) fun σ H Q ⟨w, k⟩ => ⟨w, fun v H1 w1 e1 r1 => ⟨true, dp_bl r1, by rw [if_pos rfl]; exact k _ H1 w1 e1 (.bl true)⟩⟩
theorem v_not {p : Bool} (ha : PEv X a ρ μ (.d (.bool p)) μ1) : PEv X (.UnaryOp .Not a pos) ρ μ (.d (.bool (!p))) μ1 :=
  pe_weak (pe_not ha) fun σ H Q ⟨w, k⟩ => ⟨w, fun v H1 w1 e1 r1 => ⟨p, dp_bl r1, k _ H1 w1 e1 (.bl _)⟩⟩
/-- a if t else b, t known by p -/
theorem v_if {t : Expr} {p : Bool} (ht : PTv X t ρ μ p μ1) (ha : p = true → PEv X a ρ μ1 x μ2) (hb : p = false → PEv X b ρ μ1 x μ2) : PEv X (.IfExp t a b pos) ρ μ x μ2 := by
  cases p with
  | true => exact pe_weak (pe_ifExp ht (ha rfl) pe_never) fun σ H Q ⟨w, k⟩ => ⟨w, fun H1 w1 e1 => iteT ⟨w1, fun u H2 w2 e2 r2 => k u H2 w2 (e1.trans e2) r2⟩⟩
  | false => exact pe_weak (pe_ifExp ht pe_never (hb rfl)) fun σ H Q ⟨w, k⟩ => ⟨w, fun H1 w1 e1 => iteF ⟨w1, fun u H2 w2 e2 r2 => k u H2 w2 (e1.trans e2) r2⟩⟩
theorem v_eqd {d d' : PyData} (h : PEv X e ρ μ (.d d) μ1) (q : d = d') : PEv X e ρ μ (.d d') μ1 := q ▸ h
/-- low <= x <= high of ints -/
theorem v_chain {op op' : CmpOp} {g g' : Int → Int → Bool} {i j l : Int} (ho : OpR X (compareOp op) (rI0 fun i j => .bl (g i j))) (ho' : OpR X (compareOp op') (rI0 fun i j => .bl (g' i j))) (ha : PEv X a ρ μ (.d (.int i)) μ1) (hb : PEv X b ρ μ1 (.d (.int j)) μ2) (hc : PEv X c ρ μ2 (.d (.int l)) μ2)
    (hm : lastMarks [op, op'] [b, c] = false := by with_unfolding_all rfl) : PEv X (.Compare a [op, op'] [b, c] pos) ρ μ (.d (.bool (g i j && g' j l))) μ2 :=
  pe_weak (pe_chain ho ho' ha hb hc hm) fun σ H Q ⟨w, k⟩ => ⟨w, fun v H1 w1 e1 r1 => ⟨w1, fun u H2 w2 e2 r2 => ⟨i, j, dp_int r1, dp_int r2, g i j, rfl, by
    cases hg : g i j with
    | true =>
      rw [if_pos rfl]
      refine ⟨w2, fun t H3 w3 e3 r3 => ⟨j, l, dp_int r2, dp_int r3, k _ H3 w3 ((e1.trans e2).trans e3) ?_⟩⟩
      rw [hg]
      exact .bl _
    | false =>
      rw [if_neg (by simp)]
      refine k _ H2 w2 (e1.trans e2) ?_
      rw [hg]
      exact .bl _⟩⟩⟩
end
end Fw

namespace Fw
open PySem PySem.Spec PyProof.Rows L2
/-! ### sorted ints -/
def ins1 (x : Int) : List Int → List Int
  | [] => [x]
  | y :: r => if x ≤ y then x :: y :: r else y :: ins1 x r
def sortI : List Int → List Int
  | [] => []
  | x :: r => ins1 x (sortI r)
theorem ins1_perm (x : Int) : ∀ l : List Int, (ins1 x l).Perm (x :: l)
  | [] => .refl _
  | y :: r => by
    unfold ins1
    split
    · exact .refl _
    · exact ((ins1_perm x r).cons y).trans (.swap x y r)
theorem sortI_perm : ∀ l : List Int, (sortI l).Perm l
  | [] => .refl _
  | x :: r => (ins1_perm x (sortI r)).trans ((sortI_perm r).cons x)
theorem ins1_srt (x : Int) : ∀ l : List Int, l.Pairwise (· ≤ ·) → (ins1 x l).Pairwise (· ≤ ·)
  | [], _ => List.pairwise_singleton _ _
  | y :: r, h => by
    unfold ins1
    have h1 := List.pairwise_cons.mp h
    split
    · rename_i c
      refine List.pairwise_cons.mpr ⟨fun z hz => ?_, h⟩
      rcases List.mem_cons.mp hz with e | e
      · rw [e]; exact c
      · exact Int.le_trans c (h1.1 z e)
    · rename_i c
      refine List.pairwise_cons.mpr ⟨fun z hz => ?_, ins1_srt x r h1.2⟩
      rcases List.mem_cons.mp ((ins1_perm x r).mem_iff.mp hz) with e | e
      · rw [e]; omega
      · exact h1.1 z e
theorem sortI_srt : ∀ l : List Int, (sortI l).Pairwise (· ≤ ·)
  | [] => .nil
  | x :: r => ins1_srt x _ (sortI_srt r)
theorem sortI_eq {l l' : List Int} (p : l'.Perm l) (s : l'.Pairwise (· ≤ ·)) : l' = sortI l := PySem.W.ksm_same (p.trans (sortI_perm l).symm) s (sortI_srt l)
section
variable {X : Cx} {a b c e : Expr} {es : List Expr} {ρ : En} {μ μ1 μ2 μ3 : Mu} {x y z : Sl} {xs : List Sl} {pos p : Pos} {n : Str}
/-! ### lists and tuples joined -/
theorem od_catL {ds es : List PyData} (n1 : NowL μ x (ds.map .d)) (n2 : NowL μ y (es.map .d)) (hz : ds.length + es.length ≤ sizeLine) : OpD μ rCat x y (.d (.list (ds ++ es))) := fun H v w Q m r1 r2 k => by
  obtain ⟨a1, vs, rfl, h1, p1⟩ := n1.sq m r1
  obtain ⟨a2, ws, rfl, h2, p2⟩ := n2.sq m r2
  have pp := paired_app p1 p2
  rw [← List.map_append] at pp
  exact ⟨a1, a2, vs, ws, rfl, rfl, h1, h2, by rw [paired_len p1, paired_len p2, List.length_map, List.length_map]; exact hz, fun q nq => k _ _ (same_upd nq) (new_lst m nq pp)⟩
theorem v_catL {ds es : List PyData} (ha : PEv X a ρ μ x μ1) (hb : PEv X b ρ μ1 y μ2) (n1 : NowL μ2 x (ds.map .d)) (n2 : NowL μ2 y (es.map .d)) (hz : ds.length + es.length ≤ sizeLine) : PEv X (.BinOp a .Add b pos) ρ μ (.d (.list (ds ++ es))) μ2 := v_bin op_cat ha hb (od_catL n1 n2 hz)
theorem v_catT {ds es : List PyData} (ha : PEv X a ρ μ (.d (.tuple ds)) μ1) (hb : PEv X b ρ μ1 (.d (.tuple es)) μ2) (hz : ds.length + es.length ≤ sizeLine) : PEv X (.BinOp a .Add b pos) ρ μ (.d (.tuple (ds ++ es))) μ2 :=
  v_bin op_catA ha hb fun H v w Q m r1 r2 k => by
    obtain ⟨a1, vs, rfl, h1, p1⟩ := NowT.sq (μ := μ2) rfl r1
    obtain ⟨a2, ws, rfl, h2, p2⟩ := NowT.sq (μ := μ2) rfl r2
    have pp := paired_app p1 p2
    rw [← List.map_append] at pp
    have l1 := paired_len p1
    have l2 := paired_len p2
    rw [List.length_map] at l1 l2
    refine ⟨a1, a2, vs, ws, rfl, rfl, SqT.of h1, SqT.of h2, by rw [l1, l2]; exact hz, fun e => ?_, fun _ e => ?_, fun _ _ q nq => k _ _ (same_upd nq) (new_tup m nq pp)⟩
    · have e1 : ds = [] := List.eq_nil_of_length_eq_zero (by rw [← l1, e]; rfl)
      subst e1
      exact k _ _ (Same.refl H) r2
    · have e1 : es = [] := List.eq_nil_of_length_eq_zero (by rw [← l2, e]; rfl)
      subst e1
      rw [List.append_nil] at k
      exact k _ _ (Same.refl H) r1

/-! ### calls of builtins -/
def CallD (μ : Mu) (r : List V → Hp → VK → Prop) (xs : List Sl) (z : Sl) : Prop :=
  ∀ (H : Hp) (vs : List V) (Q : VK), MuOk H μ → Paired (SR (hide H μ)) vs xs → (∀ u H', Same H H' → SR (hide H' μ) u z → Q u H') → r vs H Q
theorem v_cb {id : String} {r : List V → Hp → VK → Prop} (hc : CallR X (.builtin id) r) (hv : bootBuiltins n = some (.builtin id)) (hm : X.mg n = none) (ha : PAv X (e :: es) ρ μ xs μ1) (h : CallD μ1 r xs z) (hg : Gl X n := by rfl)
    (hn : n ≠ "__name__" := by decide) (hdb : (n == ("__debug__" : Str)) = false := by decide)
    (he : starEach (e :: es) X.env = (false, eval e X.env) :: starEach es X.env := by rfl) (hpl : (backTo pos (starEach es X.env)).any (·.1) = false := by rfl) : PEv X (.Call (.Name n p) (e :: es) [] pos) ρ μ z μ1 :=
  pe_weak (pe_callB hc hg hm hv ha hn hdb he hpl) fun σ H Q ⟨w, k⟩ => ⟨w, fun vs H1 w1 e1 r1 => h H1 vs Q w1.mu r1 fun u H2 s2 r2 => k u H2 (w1.same s2) (e1.trans (Ext.same s2)) r2⟩
theorem v_ct {T : String} {r : List V → Hp → VK → Prop} (hc : CallR X (.type T) r) (hv : bootBuiltins n = some (.type T)) (hm : X.mg n = none) (ha : PAv X (e :: es) ρ μ xs μ1) (h : CallD μ1 r xs z) (hg : Gl X n := by rfl)
    (hn : n ≠ "__name__" := by decide) (hdb : (n == ("__debug__" : Str)) = false := by decide)
    (he : starEach (e :: es) X.env = (false, eval e X.env) :: starEach es X.env := by rfl) (hpl : (backTo pos (starEach es X.env)).any (·.1) = false := by rfl) : PEv X (.Call (.Name n p) (e :: es) [] pos) ρ μ z μ1 :=
  pe_weak (pe_callTy hc hg hm hv ha hn hdb he hpl) fun σ H Q ⟨w, k⟩ => ⟨w, fun vs H1 w1 e1 r1 => h H1 vs Q w1.mu r1 fun u H2 s2 r2 => k u H2 (w1.same s2) (e1.trans (Ext.same s2)) r2⟩
theorem p1_inv {F : V → Sl → Prop} {vs : List V} (h : Paired F vs [x]) : ∃ v, vs = [v] ∧ F v x := by
  cases h with
  | cons h t => cases t; exact ⟨_, rfl, h⟩
theorem p2_inv {F : V → Sl → Prop} {vs : List V} (h : Paired F vs [x, y]) : ∃ v w, vs = [v, w] ∧ F v x ∧ F w y := by
  cases h with
  | cons h t =>
    cases t with
    | cons h2 t => cases t; exact ⟨_, _, rfl, h, h2⟩
theorem cd_len {K : PySem.W.Frag} {k : Nat} (h : NowS μ x xs) (hk : xs.length = k) : CallD μ (fun xs H Q => ∃ p ys, xs = [.ref p] ∧ (SqL K H p ys ∨ SqT K H p ys) ∧ Q (.int ys.length) H) [x] (.d (.int k)) := fun H vs Q m r kk => by
  obtain ⟨v, rfl, rv⟩ := p1_inv r
  obtain ⟨a, ws, rfl, hh, pp⟩ := h.sq m rv
  have hl : ws.length = k := (paired_len pp).trans hk
  refine ⟨a, ws, rfl, hh.elim (fun z => .inl (SqL.of z)) (fun z => .inr (SqT.of z)), ?_⟩
  rw [hl]
  exact kk _ H (Same.refl H) (.int _)
theorem v_len {k : Nat} (hm : X.mg "len" = none) (ha : PEv X a ρ μ x μ1) (h : NowS μ1 x xs) (hk : xs.length = k) (hg : Gl X "len" := by rfl)
    (he : starEach [a] X.env = [(false, eval a X.env)] := by rfl) : PEv X (.Call (.Name "len" p) [a] [] pos) ρ μ (.d (.int k)) μ1 :=
  v_cb call_len_seq PySem.boot_len hm (a_cons ha a_nil (by rw [he]; rfl)) (cd_len h hk) hg (by decide) (by decide) (by rw [he]; rfl) (by rfl)
/-- len(script) -/
theorem v_lenF {K : PySem.W.Frag} {ns : List Int} (hK : X.K = K) (hm : X.mg "len" = none) (ha : PEv X a ρ μ (.f K ns) μ1) (hg : Gl X "len" := by rfl)
    (he : starEach [a] X.env = [(false, eval a X.env)] := by rfl) : PEv X (.Call (.Name "len" p) [a] [] pos) ρ μ (.d (.int ns.length)) μ1 :=
  v_cb call_len_seq PySem.boot_len hm (a_cons ha a_nil (by rw [he]; rfl)) (fun H vs Q m r kk => by
    subst hK
    obtain ⟨v, rfl, q, rfl, hh⟩ := p1_inv r
    refine ⟨q, ns.map V.int, rfl, .inl (SqL.le hide_le hh), ?_⟩
    rw [List.length_map]
    exact kk _ H (Same.refl H) (.int _)) hg (by decide) (by decide) (by rw [he]; rfl) (by rfl)
theorem v_abs {i : Int} (hm : X.mg "abs" = none) (ha : PEv X a ρ μ (.d (.int i)) μ1) (hg : Gl X "abs" := by rfl)
    (he : starEach [a] X.env = [(false, eval a X.env)] := by rfl) : PEv X (.Call (.Name "abs" p) [a] [] pos) ρ μ (.d (.int (i.natAbs : Int))) μ1 :=
  v_cb call_abs (by decide +kernel) hm (a_cons ha a_nil (by rw [he]; rfl)) (fun H vs Q m r kk => by
    obtain ⟨v, rfl, hh⟩ := p1_inv r
    refine ⟨i, by rw [dp_int hh], ?_⟩
    have e : (if i < 0 then -i else i) = (i.natAbs : Int) := by split <;> omega
    rw [e]
    exact kk _ H (Same.refl H) (.int _)) hg (by decide) (by decide) (by rw [he]; rfl) (by rfl)
theorem v_max2 {i j : Int} (hc : X.calm = true) (hm : X.mg "max" = none) (ha : PEv X a ρ μ (.d (.int i)) μ1) (hb : PEv X b ρ μ1 (.d (.int j)) μ2) (hg : Gl X "max" := by rfl)
    (he : starEach [a, b] X.env = [(false, eval a X.env), (false, eval b X.env)] := by rfl) (he2 : starEach [b] X.env = [(false, eval b X.env)] := by rfl) : PEv X (.Call (.Name "max" p) [a, b] [] pos) ρ μ (.d (.int (max i j))) μ2 :=
  v_cb (call_max2 hc) (by decide +kernel) hm (a_cons ha (a_cons hb a_nil (by rw [he2]; rfl)) (by rw [he, he2])) (fun H vs Q m r kk => by
    obtain ⟨v, w, rfl, h1, h2⟩ := p2_inv r
    refine ⟨i, j, by rw [dp_int h1, dp_int h2], ?_⟩
    have e : (if j > i then j else i) = max i j := by split <;> omega
    rw [e]
    exact kk _ H (Same.refl H) (.int _)) hg (by decide) (by decide) (by rw [he, he2]) (by rw [he2]; rfl)
theorem v_min2 {i j : Int} (hc : X.calm = true) (hm : X.mg "min" = none) (ha : PEv X a ρ μ (.d (.int i)) μ1) (hb : PEv X b ρ μ1 (.d (.int j)) μ2) (hg : Gl X "min" := by rfl)
    (he : starEach [a, b] X.env = [(false, eval a X.env), (false, eval b X.env)] := by rfl) (he2 : starEach [b] X.env = [(false, eval b X.env)] := by rfl) : PEv X (.Call (.Name "min" p) [a, b] [] pos) ρ μ (.d (.int (min i j))) μ2 :=
  v_cb (call_min2 hc) (by decide +kernel) hm (a_cons ha (a_cons hb a_nil (by rw [he2]; rfl)) (by rw [he, he2])) (fun H vs Q m r kk => by
    obtain ⟨v, w, rfl, h1, h2⟩ := p2_inv r
    refine ⟨i, j, by rw [dp_int h1, dp_int h2], ?_⟩
    have e : (if j < i then j else i) = min i j := by split <;> omega
    rw [e]
    exact kk _ H (Same.refl H) (.int _)) hg (by decide) (by decide) (by rw [he, he2]) (by rw [he2]; rfl)
/-- int(a bool) -/
theorem v_intB {k : Bool} (hm : X.mg "int" = none) (ha : PEv X a ρ μ (.d (.bool k)) μ1) (hg : Gl X "int" := by rfl)
    (he : starEach [a] X.env = [(false, eval a X.env)] := by rfl) : PEv X (.Call (.Name "int" p) [a] [] pos) ρ μ (.d (.int (if k then 1 else 0))) μ1 :=
  v_ct call_int1 (by decide +kernel) hm (a_cons ha a_nil (by rw [he]; rfl)) (fun H vs Q m r kk => by
    obtain ⟨v, rfl, hh⟩ := p1_inv r
    exact .inr ⟨k, by rw [dp_bl hh], kk _ H (Same.refl H) (.int _)⟩) hg (by decide) (by decide) (by rw [he]; rfl) (by rfl)
theorem ints_of {H : Hp} : ∀ {vs : List V} {ns : List Int}, Paired (SR H) vs ((ns.map PyData.int).map Sl.d) → vs = ns.map V.int
  | _, [], h => by cases h; rfl
  | _, n :: ns, h => by
    cases h with
    | cons h1 h2 => rw [dp_int h1, ints_of h2]; rfl
theorem bools_of {H : Hp} : ∀ {vs : List V} {ns : List Bool}, Paired (SR H) vs ((ns.map PyData.bool).map Sl.d) → vs = ns.map V.bl
  | _, [], h => by cases h; rfl
  | _, n :: ns, h => by
    cases h with
    | cons h1 h2 => rw [dp_bl h1, bools_of h2]; rfl
theorem ints_sr {H : Hp} : ∀ (ns : List Int), Paired (SR H) (ns.map V.int) ((ns.map PyData.int).map Sl.d)
  | [] => .nil
  | n :: ns => .cons (.int n) (ints_sr ns)
/-- a list of ints, now -/
theorem nowI {v : V} {H : Hp} {ns : List Int} (h : NowL μ x ((ns.map PyData.int).map Sl.d)) (m : MuOk H μ) (r : SR (hide H μ) v x) : ∃ a, v = .ref a ∧ H a = some (.lst (ns.map V.int)) := by
  obtain ⟨a, vs, e, h1, pp⟩ := h.sq m r
  rw [ints_of pp] at h1
  exact ⟨a, e, h1⟩
theorem v_sum {ns : List Int} (hc : X.calm = true) (hm : X.mg "sum" = none) (ha : PEv X a ρ μ x μ1) (h : NowL μ1 x ((ns.map PyData.int).map Sl.d)) (hg : Gl X "sum" := by rfl)
    (he : starEach [a] X.env = [(false, eval a X.env)] := by rfl) : PEv X (.Call (.Name "sum" p) [a] [] pos) ρ μ (.d (.int ns.sum)) μ1 :=
  v_cb (cr_sum hc) (by decide +kernel) hm (a_cons ha a_nil (by rw [he]; rfl)) (fun H vs Q m r kk => by
    obtain ⟨v, rfl, hh⟩ := p1_inv r
    obtain ⟨q, rfl, h1⟩ := nowI h m hh
    exact ⟨q, ns, rfl, SqL.of h1, kk _ H (Same.refl H) (.int _)⟩) hg (by decide) (by decide) (by rw [he]; rfl) (by rfl)
/-- sorted(a list of ints), as data -/
theorem v_sorted {ns : List Int} (hm : X.mg "sorted" = none) (ha : PEv X a ρ μ x μ1) (h : NowL μ1 x ((ns.map PyData.int).map Sl.d)) (hg : Gl X "sorted" := by rfl)
    (he : starEach [a] X.env = [(false, eval a X.env)] := by rfl) : PEv X (.Call (.Name "sorted" p) [a] [] pos) ρ μ (.d (.list ((sortI ns).map .int))) μ1 :=
  v_cb cr_sortedI (by decide +kernel) hm (a_cons ha a_nil (by rw [he]; rfl)) (fun H vs Q m r kk => by
    obtain ⟨v, rfl, hh⟩ := p1_inv r
    obtain ⟨q, rfl, h1⟩ := nowI h m hh
    refine ⟨q, ns, rfl, SqL.of h1, fun ns' q' pm srt nq => ?_⟩
    rw [sortI_eq pm srt]
    exact kk _ _ (same_upd nq) (new_lst m nq (ints_sr _))) hg (by decide) (by decide) (by rw [he]; rfl) (by rfl)
theorem v_all {bs : List Bool} (hc : X.calm = true) (hm : X.mg "all" = none) (ha : PEv X a ρ μ x μ1) (h : NowL μ1 x ((bs.map PyData.bool).map Sl.d)) (hg : Gl X "all" := by rfl)
    (he : starEach [a] X.env = [(false, eval a X.env)] := by rfl) : PEv X (.Call (.Name "all" p) [a] [] pos) ρ μ (.d (.bool (bs.all id))) μ1 :=
  v_cb (cr_all hc) (by decide +kernel) hm (a_cons ha a_nil (by rw [he]; rfl)) (fun H vs Q m r kk => by
    obtain ⟨v, rfl, hh⟩ := p1_inv r
    obtain ⟨q, vs, rfl, h1, pp⟩ := h.sq m hh
    rw [bools_of pp] at h1
    exact ⟨q, bs, rfl, SqL.of h1, kk _ H (Same.refl H) (.bl _)⟩) hg (by decide) (by decide) (by rw [he]; rfl) (by rfl)
/-- max, min of a list of ints: by the value m -/
theorem v_maxL {ns : List Int} {m : Int} (hc : X.calm = true) (hm : X.mg "max" = none) (ha : PEv X a ρ μ x μ1) (h : NowL μ1 x ((ns.map PyData.int).map Sl.d)) (h0 : m ∈ ns) (h1 : ∀ y ∈ ns, y ≤ m) (hg : Gl X "max" := by rfl)
    (he : starEach [a] X.env = [(false, eval a X.env)] := by rfl) : PEv X (.Call (.Name "max" p) [a] [] pos) ρ μ (.d (.int m)) μ1 :=
  v_cb (cr_max hc) (by decide +kernel) hm (a_cons ha a_nil (by rw [he]; rfl)) (fun H vs Q mu r kk => by
    obtain ⟨v, rfl, hh⟩ := p1_inv r
    obtain ⟨q, rfl, hq⟩ := nowI h mu hh
    refine ⟨q, ns, rfl, SqL.of hq, List.length_pos_of_mem h0, fun m' hm' hle => ?_⟩
    have e : m' = m := Int.le_antisymm (h1 m' hm') (hle m h0)
    rw [e]
    exact kk _ H (Same.refl H) (.int _)) hg (by decide) (by decide) (by rw [he]; rfl) (by rfl)
theorem v_minL {ns : List Int} {m : Int} (hc : X.calm = true) (hm : X.mg "min" = none) (ha : PEv X a ρ μ x μ1) (h : NowL μ1 x ((ns.map PyData.int).map Sl.d)) (h0 : m ∈ ns) (h1 : ∀ y ∈ ns, m ≤ y) (hg : Gl X "min" := by rfl)
    (he : starEach [a] X.env = [(false, eval a X.env)] := by rfl) : PEv X (.Call (.Name "min" p) [a] [] pos) ρ μ (.d (.int m)) μ1 :=
  v_cb (cr_min hc) (by decide +kernel) hm (a_cons ha a_nil (by rw [he]; rfl)) (fun H vs Q mu r kk => by
    obtain ⟨v, rfl, hh⟩ := p1_inv r
    obtain ⟨q, rfl, hq⟩ := nowI h mu hh
    refine ⟨q, ns, rfl, SqL.of hq, List.length_pos_of_mem h0, fun m' hm' hle => ?_⟩
    have e : m' = m := Int.le_antisymm (hle m h0) (h1 m' hm')
    rw [e]
    exact kk _ H (Same.refl H) (.int _)) hg (by decide) (by decide) (by rw [he]; rfl) (by rfl)
/-- tuple(a list), tuple(a tuple), list(a list or tuple): data -/
theorem v_tupL {ds : List PyData} (hm : X.mg "tuple" = none) (ha : PEv X a ρ μ x μ1) (h : NowL μ1 x (ds.map .d)) (hg : Gl X "tuple" := by rfl)
    (he : starEach [a] X.env = [(false, eval a X.env)] := by rfl) : PEv X (.Call (.Name "tuple" p) [a] [] pos) ρ μ (.d (.tuple ds)) μ1 :=
  v_ct call_tuple_of (by decide +kernel) hm (a_cons ha a_nil (by rw [he]; rfl)) (fun H vs Q m r kk => by
    obtain ⟨v, rfl, hh⟩ := p1_inv r
    obtain ⟨q, vs, rfl, h1, pp⟩ := h.sq m hh
    exact ⟨q, vs, rfl, .inl ⟨SqL.of h1, fun l nl => kk _ _ (same_upd nl) (new_tup m nl pp)⟩⟩) hg (by decide) (by decide) (by rw [he]; rfl) (by rfl)
theorem v_tupT {ds : List PyData} (hm : X.mg "tuple" = none) (ha : PEv X a ρ μ (.d (.tuple ds)) μ1) (hg : Gl X "tuple" := by rfl)
    (he : starEach [a] X.env = [(false, eval a X.env)] := by rfl) : PEv X (.Call (.Name "tuple" p) [a] [] pos) ρ μ (.d (.tuple ds)) μ1 :=
  v_ct call_tuple_of (by decide +kernel) hm (a_cons ha a_nil (by rw [he]; rfl)) (fun H vs Q m r kk => by
    obtain ⟨v, rfl, hh⟩ := p1_inv r
    obtain ⟨q, vs, rfl, h1, pp⟩ := NowT.sq (μ := μ1) rfl hh
    exact ⟨q, vs, rfl, .inr ⟨SqT.of h1, kk _ _ (Same.refl H) hh⟩⟩) hg (by decide) (by decide) (by rw [he]; rfl) (by rfl)
/-- list(..) as data: of a list, of a tuple -/
def NowD (μ : Mu) (x : Sl) (ds : List PyData) : Prop := NowL μ x (ds.map .d) ∨ NowT x ds
theorem v_list {ds : List PyData} (hm : X.mg "list" = none) (ha : PEv X a ρ μ x μ1) (h : NowD μ1 x ds) (hg : Gl X "list" := by rfl)
    (he : starEach [a] X.env = [(false, eval a X.env)] := by rfl) : PEv X (.Call (.Name "list" p) [a] [] pos) ρ μ (.d (.list ds)) μ1 :=
  v_ct call_list_of (by decide +kernel) hm (a_cons ha a_nil (by rw [he]; rfl)) (fun H vs Q m r kk => by
    obtain ⟨v, rfl, hh⟩ := p1_inv r
    rcases h with h | h
    · obtain ⟨q, vs, rfl, h1, pp⟩ := h.sq m hh
      exact ⟨q, vs, rfl, .inl (SqL.of h1), fun l nl => kk _ _ (same_upd nl) (new_lst m nl pp)⟩
    · obtain ⟨q, vs, rfl, h1, pp⟩ := h.sq hh
      exact ⟨q, vs, rfl, .inr (SqT.of h1), fun l nl => kk _ _ (same_upd nl) (new_lst m nl pp)⟩) hg (by decide) (by decide) (by rw [he]; rfl) (by rfl)

/-! ### the promise of a def, its call -/
abbrev Rel := List Sl → Mu → (Sl → Mu → Prop) → Prop
def spR (R : Rel) : Sp := fun vs H Q _ => ∃ as μ, Paired (SR (hide H μ)) vs as ∧ MuOk H μ ∧ R as μ fun r μ' => ∀ v H', MuOk H' μ' → Ext H μ H' μ' → SR (hide H' μ') v r → Q v H'
/-- the def of the name keeps R; dx its defaults -/
structure Cal (P : Program) (w : World) (K : PySem.W.Frag) (mg : Str → Option Value) (base : Heap) (n : Str) (k : Nat) (dx : List Sl) (R : Rel) : Prop where
  ex : ∃ (f : Addr) (fd : FuncData) (ps : List Str) (ds : List Value) (dvs : List V), FnOk P w K mg base CX0 k f fd ps (spR R) ∧ mg n = some (.ref f) ∧ PySem.W.keepIn K (.ref f) = true ∧ Binds K fd ps ds ∧ Vals dvs ds ∧ ∀ H, Paired (SR H) dvs dx
/-- a deterministic relation -/
def Det (R : Rel) (as : List Sl) (μ : Mu) (r : Sl) (μ' : Mu) : Prop := ∀ post : Sl → Mu → Prop, post r μ' → R as μ post
theorem v_callG {k j : Nat} {dx : List Sl} {R : Rel} {post : Sl → Mu → Prop} (C : Cal X.prog X.w X.K X.mg X.base n k dx R) (hr : Room j X.A) (hk : k ≤ j) (ha : PAv X (e :: es) ρ μ xs μ1)
    (h : ∀ post' : Sl → Mu → Prop, (∀ r ν, post r ν → post' r ν) → R (xs ++ dx) μ1 post') (hg : Gl X n := by rfl) (hdb : (n == ("__debug__" : Str)) = false := by decide)
    (he : starEach (e :: es) X.env = (false, eval e X.env) :: starEach es X.env := by rfl) (hpl : (backTo pos (starEach es X.env)).any (·.1) = false := by rfl) : PEw X (.Call (.Name n p) (e :: es) [] pos) ρ μ post := by
  obtain ⟨f, fd, ps, ds, dvs, F, hm, hkp, hb, hd, hdx⟩ := C.ex
  refine pe_weak (pe_call (E := E0) F (hr.mono hk) hg hm hkp hb hd pass0 ha hdb he hpl) fun σ H Q ⟨w, kk⟩ => ⟨w, fun vs H1 w1 e1 r1 => ?_⟩
  exact ⟨xs ++ dx, μ1, paired_app r1 (hdx _), w1.mu, h _ fun r ν hp v H' m' e' sr => kk v H' r ν hp (w1.ext m' e') (e1.trans e') sr⟩
theorem v_call {k j : Nat} {dx : List Sl} {R : Rel} (C : Cal X.prog X.w X.K X.mg X.base n k dx R) (hr : Room j X.A) (hk : k ≤ j) (ha : PAv X (e :: es) ρ μ xs μ1)
    (h : Det R (xs ++ dx) μ1 x μ2) (hg : Gl X n := by rfl) (hdb : (n == ("__debug__" : Str)) = false := by decide)
    (he : starEach (e :: es) X.env = (false, eval e X.env) :: starEach es X.env := by rfl) (hpl : (backTo pos (starEach es X.env)).any (·.1) = false := by rfl) : PEv X (.Call (.Name n p) (e :: es) [] pos) ρ μ x μ2 :=
  pe_weak (v_callG (post := fun r ν => r = x ∧ ν = μ2) C hr hk ha (fun post' hp => h post' (hp x μ2 ⟨rfl, rfl⟩)) hg hdb he hpl) fun σ H Q ⟨w, kk⟩ => ⟨w, fun v H' r ν hp w1 e1 sr => by
    obtain ⟨rfl, rfl⟩ := hp
    exact kk v H' w1 e1 sr⟩
end
end Fw

namespace Fw
open PySem PySem.Spec PyProof.Rows L2
/-! ### blocks -/
def wpR (X : Cx) (sts : List Stmt) (D : Ends) : L2.St → Hp → Prop := fun σ H => ∀ pins s, Inv X pins σ H s → wpAny (model X.prog X.w) X.A (execs sts X.env) (SP X pins D) X.xe s
/-- from the entry B, the slots ρ and the store μ the block reaches D -/
def Go (X : Cx) (B : Hp × Mu) (sts : List Stmt) (D : Ends) (ρ : En) (μ : Mu) : Prop := ∀ σ H, W H σ ρ μ → Ext B.1 B.2 H μ → wpR X sts D σ H
theorem pss_wp {X : Cx} {sts : List Stmt} : PSs X sts (fun D σ H => wpR X sts D σ H) := ⟨fun pins s σ H D I h => h pins s I⟩
/-- what a return of x with the store μ must give -/
def RtOk (B : Hp × Mu) (D : Ends) (x : Sl) (μ : Mu) : Prop := ∀ v H, MuOk H μ → Ext B.1 B.2 H μ → SR (hide H μ) v x → D.rt v H
section
variable {X : Cx} {B : Hp × Mu} {D : Ends} {a b c e : Expr} {es : List Expr} {st : Stmt} {sts rest body els : List Stmt} {ρ : En} {μ μ1 μ2 μ3 : Mu} {x y z : Sl} {xs : List Sl} {pos p : Pos} {n : Str} {t : TS}
theorem go_pss (h : PSs X sts t) (k : ∀ σ H, W H σ ρ μ → Ext B.1 B.2 H μ → t D σ H) : Go X B sts D ρ μ := fun σ H w e pins s I => h.run pins s σ H D I (k σ H w e)
theorem go_cons (h : PS X st t) (k : ∀ σ H, W H σ ρ μ → Ext B.1 B.2 H μ → t { D with nx := wpR X rest D } σ H) : Go X B (st :: rest) D ρ μ := go_pss (pss_cons h pss_wp) k
/-- the block's end: what follows -/
theorem go_nil (k : ∀ σ H, W H σ ρ μ → Ext B.1 B.2 H μ → D.nx σ H) : Go X B [] D ρ μ := go_pss pss_nil k
/-- .. where the rest of a block follows -/
theorem go_next {D' : Ends} {r : VK} {bk ct : L2.St → Hp → Prop} (k : Go X B rest D' ρ μ) : Go X B [] ⟨wpR X rest D', r, bk, ct⟩ ρ μ := go_nil fun σ H w e => k σ H w e
theorem go_set (i : Nat) (he : PEv X e ρ μ x μ1) (k : Go X B rest D (ρ.set i x) μ1) (hN : X.N.Nodup) (hi : X.N[i]? = some n := by rfl) (hx : Loc X.env.scope n := by first | exact Or.inl rfl | exact Or.inr rfl)
    (hs : swapsWith e (some (.Name n p)) pos.line X.env = pure false := by rfl) (hf : X.fn n = true ∨ X.env.scope.names.lookup n = some .local := by first | exact .inl rfl | exact .inr rfl) : Go X B (.Assign [.Name n p] e pos :: rest) D ρ μ :=
  go_cons (ps_set hN hi hx he hs hf) fun σ H w ex => ⟨w, fun v H' w1 e1 r1 => k _ _ (w1.set r1) (ex.trans e1)⟩
theorem go_setw {post : Sl → Mu → Prop} (i : Nat) (he : PEw X e ρ μ post) (k : ∀ x μ1, post x μ1 → Go X B rest D (ρ.set i x) μ1) (hN : X.N.Nodup) (hi : X.N[i]? = some n := by rfl) (hx : Loc X.env.scope n := by first | exact Or.inl rfl | exact Or.inr rfl)
    (hs : swapsWith e (some (.Name n p)) pos.line X.env = pure false := by rfl) (hf : X.fn n = true ∨ X.env.scope.names.lookup n = some .local := by first | exact .inl rfl | exact .inr rfl) : Go X B (.Assign [.Name n p] e pos :: rest) D ρ μ :=
  go_cons (ps_set hN hi hx he hs hf) fun σ H w ex => ⟨w, fun v H' x μ1 hp w1 e1 r1 => k x μ1 hp _ _ (w1.set r1) (ex.trans e1)⟩
theorem go_expr (he : PEv X e ρ μ x μ1) (k : Go X B rest D ρ μ1) (hs : swapsWith e none pos.line X.env = pure false := by rfl) : Go X B (.Expr e pos :: rest) D ρ μ :=
  go_cons (ps_expr he hs) fun σ H w ex => ⟨w, fun v H' w1 e1 r1 => k _ _ w1 (ex.trans e1)⟩
theorem go_exprw {post : Sl → Mu → Prop} (he : PEw X e ρ μ post) (k : ∀ x μ1, post x μ1 → Go X B rest D ρ μ1) (hs : swapsWith e none pos.line X.env = pure false := by rfl) : Go X B (.Expr e pos :: rest) D ρ μ :=
  go_cons (ps_expr he hs) fun σ H w ex => ⟨w, fun v H' x μ1 hp w1 e1 r1 => k x μ1 hp _ _ w1 (ex.trans e1)⟩
theorem go_ret (he : PEv X e ρ μ x μ1) (k : RtOk B D x μ1) : Go X B (.Return (some e) pos :: rest) D ρ μ :=
  go_cons (ps_ret he) fun σ H w ex => ⟨w, fun v H' w1 e1 r1 => k v H' w1.mu (ex.trans e1) r1⟩
theorem go_retw {post : Sl → Mu → Prop} (he : PEw X e ρ μ post) (k : ∀ x μ1, post x μ1 → RtOk B D x μ1) : Go X B (.Return (some e) pos :: rest) D ρ μ :=
  go_cons (ps_ret he) fun σ H w ex => ⟨w, fun v H' x μ1 hp w1 e1 r1 => k x μ1 hp v H' w1.mu (ex.trans e1) r1⟩
theorem go_if {k : Bool} (hc : PTv X c ρ μ k μ1) (ha : k = true → Go X B body { D with nx := wpR X rest D } ρ μ1) (hb : k = false → Go X B els { D with nx := wpR X rest D } ρ μ1) : Go X B (.If c body els pos :: rest) D ρ μ := by
  cases k with
  | true => exact go_cons (ps_if hc pss_wp pss_never) fun σ H w ex => ⟨w, fun H' w1 e1 => iteT (ha rfl _ _ w1 (ex.trans e1))⟩
  | false => exact go_cons (ps_if hc pss_never pss_wp) fun σ H w ex => ⟨w, fun H' w1 e1 => iteF (hb rfl _ _ w1 (ex.trans e1))⟩
/-- a test that is false, no else -/
theorem go_ifF {k : Bool} (hc : PTv X c ρ μ k μ1) (hk : k = false) (hb : Go X B rest D ρ μ1) : Go X B (.If c body [] pos :: rest) D ρ μ := go_if hc (fun e => by rw [hk] at e; cases e) fun _ => go_next hb
/-- a test that is true -/
theorem go_ifT {k : Bool} (hc : PTv X c ρ μ k μ1) (hk : k = true) (hb : Go X B body { D with nx := wpR X rest D } ρ μ1) : Go X B (.If c body els pos :: rest) D ρ μ := go_if hc (fun _ => hb) fun e => by rw [hk] at e; cases e
theorem go_ifE {k : Bool} (hc : PTv X c ρ μ k μ1) (hk : k = false) (hb : Go X B els { D with nx := wpR X rest D } ρ μ1) : Go X B (.If c body els pos :: rest) D ρ μ := go_if hc (fun e => by rw [hk] at e; cases e) fun _ => hb
/-- known slots forgotten -/
theorem go_forget (i : Nat) (k : Go X B sts D (ρ.set i .no) μ) : Go X B sts D ρ μ := fun σ H w e => k σ H w.forget e

/-! ### a, b = .. -/
theorem go_par {v w : Sl} (i j : Nat) (ha : PAv X [a, b] ρ μ [v, w] μ1) (k : Go X B rest D ((ρ.set i v).set j w) μ1) {xn yn : Str} {px py pt pt2 : Pos} {kt k2 : Nat} (hN : X.N.Nodup) (hc : X.calm = true := by rfl) (hi : X.N[i]? = some xn := by rfl) (hj : X.N[j]? = some yn := by rfl) (hij : i ≠ j := by decide)
    (hx : X.env.scope.names.lookup xn = some .local := by rfl) (hy : X.env.scope.names.lookup yn = some .local := by rfl)
    (hw : swappedStores [.Tuple [.Name xn px, .Name yn py] kt pt] (.Tuple [a, b] k2 pt2) X.env = pure (some [xn, yn]) := by rfl)
    (hs : swapsWithSole [.Tuple [.Name xn px, .Name yn py] kt pt] (.Tuple [a, b] k2 pt2) pos.line X.env = pure false := by rfl) :
    Go X B (.Assign [.Tuple [.Name xn px, .Name yn py] kt pt] (.Tuple [a, b] k2 pt2) pos :: rest) D ρ μ :=
  go_cons (ps_par hc hN hi hj hij hx hy ha hw hs) fun σ H w0 ex => ⟨w0, fun vs H' w1 e1 r1 => by
    obtain ⟨u1, u2, rfl, h1, h2⟩ := p2_inv r1
    exact ⟨u1, u2, rfl, k _ _ ((w1.set h1).set h2) (ex.trans e1)⟩⟩
/-- targets: from a slot's value to the new slots -/
def tTg (x : Sl) (ρ : En) (μ : Mu) (ρ' : En) (μ' : Mu) : TG := fun v σ H Q => (W H σ ρ μ ∧ SR (hide H μ) v x) ∧ ∀ σ' H', W H' σ' ρ' μ' → Ext H μ H' μ' → Q σ' H'
abbrev PGv (X : Cx) (tg : Expr) (x : Sl) (ρ : En) (μ : Mu) (ρ' : En) (μ' : Mu) : Prop := PG X tg (tTg x ρ μ ρ' μ')
theorem pg_weak {tg : Expr} {t t' : TG} (h : PG X tg t) (w : ∀ v σ H Q, t' v σ H Q → t v σ H Q) : PG X tg t' := ⟨fun pins s σ H v u Q I r q => h.run pins s σ H v u Q I r (w v σ H Q q)⟩
theorem g_name (i : Nat) (hN : X.N.Nodup) (hi : X.N[i]? = some n := by rfl) (hx : Loc X.env.scope n := by first | exact Or.inl rfl | exact Or.inr rfl) (hf : X.fn n = true ∨ X.env.scope.names.lookup n = some .local := by first | exact .inl rfl | exact .inr rfl) :
    PGv X (.Name n pos) x ρ μ (ρ.set i x) μ := pg_weak (pg_name hN hi hx hf) fun v σ H Q ⟨⟨w, r⟩, k⟩ => k _ _ (w.set r) (Ext.refl _ _)
def tTgs (xs : List Sl) (ρ : En) (μ : Mu) (ρ' : En) : TGs := fun vs σ H Q => (W H σ ρ μ ∧ Paired (SR (hide H μ)) vs xs) ∧ ∀ σ' H', W H' σ' ρ' μ → Ext H μ H' μ → Q σ' H'
theorem pgs_weak {tg : List Expr} {t t' : TGs} (h : PGs X tg t) (w : ∀ v σ H Q, t' v σ H Q → t v σ H Q) : PGs X tg t' := ⟨fun pins s σ H v u Q I r q => h.run pins s σ H v u Q I r (w v σ H Q q)⟩
theorem gs_nil : PGs X [] (tTgs [] ρ μ ρ) := pgs_weak pgs_nil fun vs σ H Q ⟨⟨w, r⟩, k⟩ => by
  cases r
  exact ⟨rfl, k _ _ w (Ext.refl _ _)⟩
theorem gs_cons {ρ' ρ'' : En} (h1 : PGv X e x ρ μ ρ' μ) (h2 : PGs X es (tTgs xs ρ' μ ρ'')) (hs : (assignEach (e :: es) X.env).map (·.2) = assign e X.env :: (assignEach es X.env).map (·.2) := by rfl) : PGs X (e :: es) (tTgs (x :: xs) ρ μ ρ'') :=
  pgs_weak (pgs_cons h1 h2 hs) fun vs σ H Q ⟨⟨w, r⟩, k⟩ => by
    cases r with
    | cons r1 r2 => exact ⟨_, _, rfl, ⟨w, r1⟩, fun σ' H' w' e' => ⟨⟨w', Paired.mapL r2 fun _ _ z => z.ext e'⟩, fun σ2 H2 w2 e2 => k σ2 H2 w2 (e'.trans e2)⟩⟩
theorem g_tup {ds : List PyData} {ρ' : En} {kk nn : Nat} (h : PGs X es (tTgs (ds.map .d) ρ μ ρ')) (hl : ds.length = nn) (hc : X.calm = true := by rfl)
    (hn : (assignEach es X.env).length = nn := by rfl) (hst : (assignEach es X.env).findIdx? (·.1) = none := by rfl) : PGv X (.Tuple es kk pos) (.d (.tuple ds)) ρ μ ρ' μ :=
  pg_weak (pg_tup hc h hn hst) fun v σ H Q ⟨⟨w, r⟩, k⟩ => by
    obtain ⟨q, vs, rfl, h1, pp⟩ := NowT.sq (μ := μ) rfl r
    exact ⟨q, vs, rfl, SqT.of h1, by rw [paired_len pp, List.length_map]; exact hl, ⟨w, pp⟩, k⟩
theorem go_asg {tg : Expr} {ρ' : En} (he : PEv X e ρ μ x μ1) (hg : PGv X tg x ρ μ1 ρ' μ2) (k : Go X B rest D ρ' μ2) (hs : swapsWithSole [tg] e pos.line X.env = pure false := by rfl) (hw : swappedStores [tg] e X.env = pure none := by rfl)
    (h1 : (assignEach [tg] X.env).map (·.2) = [assign tg X.env] := by rfl) : Go X B (.Assign [tg] e pos :: rest) D ρ μ :=
  go_cons (ps_asg he hg hs hw h1) fun σ H w ex => ⟨w, fun v H' w1 e1 r1 => ⟨⟨w1, r1⟩, fun σ' H2 w2 e2 => k σ' H2 w2 ((ex.trans e1).trans e2)⟩⟩

/-! ### the store's lists -/
theorem ext_set {H : Hp} {q : Addr} {o : HO} {u u' : MO} (h : mget μ q = some u) : Ext H μ (upd H q o) (mset μ q u') := fun b z hb nb => by
  have ne : b ≠ q := fun e => by rw [e, h] at nb; cases nb
  exact ⟨by rw [upd_ne ne]; exact hb, mget_mset_none.mpr nb⟩
theorem mu_set {H : Hp} {q : Addr} {o : HO} {u u' : MO} (m : MuOk H μ) (h : mget μ q = some u) (k : MoOk (upd H q o) (hide (upd H q o) (mset μ q u')) q u') : MuOk (upd H q o) (mset μ q u') := fun r z e => by
  by_cases hr : r = q
  · subst hr
    rw [mget_mset_same h] at e
    cases e
    exact k
  · rw [mget_mset_ne hr] at e
    exact (m r z e).le (upd_ne hr) (ext_set h).hid
/-- xs[k] = e, xs in the store -/
theorem g_ix {o i : Expr} {q : Addr} {k : Int} {j : Nat} (ho : PEv X o ρ μ (.m q) μ1) (hi : PEv X i ρ μ1 (.d (.int k)) μ2) (h : mget μ2 q = some (.lst xs)) (hj : ixN xs.length k = some j)
    (ha : ∀ v, assign (.Subscript o i pos) X.env v = (do
      let ov ← holding [v] (eval o X.env)
      let iv ← holding [v, ov] (eval i X.env)
      standAt pos
      holding [v, ov, iv] (setItem ov iv v)
      release [v, ov, iv] []) := by intro _; rfl) : PGv X (.Subscript o i pos) x ρ μ ρ (mset μ2 q (.lst (xs.set j x))) :=
  pg_weak (pg_sub ho hi set_list ha) fun v σ H Q ⟨⟨w, r⟩, kk⟩ => ⟨w, fun v1 H1 w1 e1 r1 => ⟨w1, fun v2 H2 w2 e2 r2 => by
    obtain ⟨vs, h1, pp⟩ := w2.mu q _ h
    refine ⟨q, vs, k, j, r1, dp_int r2, h1, by rw [paired_len pp]; exact hj, ?_⟩
    have ex := ext_set (H := H2) (o := .lst (vs.set j v)) (u' := .lst (xs.set j x)) h
    have m' : MuOk (upd H2 q (.lst (vs.set j v))) (mset μ2 q (.lst (xs.set j x))) := mu_set w2.mu h ⟨_, upd_same, paired_set (((r.ext e1).ext e2).ext ex) j (Paired.mapL pp fun _ _ z => z.ext ex)⟩
    exact kk σ _ (w2.ext m' ex) ((e1.trans e2).trans ex)⟩⟩
/-- xs.append(e), xs in the store -/
theorem v_append {o : Expr} {q : Addr} {apos : Pos} (ho : PEv X o ρ μ (.m q) μ1) (ha : PEv X e ρ μ1 x μ2) (h0 : ∃ ys, mget μ1 q = some (.lst ys)) (h : mget μ2 q = some (.lst xs)) (hz : xs.length < sizeLine)
    (hbase : attributeBase o "append" X.env (eval o X.env) = eval o X.env := by rfl)
    (hfew : ((backTo pos (starEach [e] X.env)).all (fun x => !x.1) && (backToKw pos (keywordEach [] X.env)).all (fun x => x.1.isSome)
      && decide (([e] : List Expr).length + ([] : List Keyword).length + (if ([] : List Keyword).isEmpty then 0 else 1) < 30)) = true := by rfl)
    (hline : (apos.endLine == pos.line) = true := by rfl) (hs : starEach [e] X.env = (false, eval e X.env) :: starEach [] X.env := by rfl) :
    PEv X (.Call (.Attribute o "append" apos) [e] [] pos) ρ μ (.d .none) (mset μ2 q (.lst (xs ++ [x]))) := by
  refine pe_weak (pe_bm PySem.F.plainAttrs_list PySem.F.slot_list_append PySem.F.type_list_append mt_append ho (pa_cons ha pa_nil hs) hbase hfew hline hs (by rfl)) fun σ H Q ⟨w, kk⟩ => ⟨w, fun v1 H1 w1 e1 r1 => ?_⟩
  obtain ⟨ys, h0⟩ := h0
  obtain ⟨vs0, g1, _⟩ := w1.mu q _ h0
  cases (show v1 = .ref q from r1)
  refine ⟨.inl ⟨rfl, _, SqL.of g1⟩, w1, fun v2 H2 w2 e2 r2 => ?_⟩
  obtain ⟨vs, h1, pp⟩ := w2.mu q _ h
  refine ⟨q, vs, v2, rfl, rfl, h1, by rw [paired_len pp]; exact hz, ?_⟩
  have ex := ext_set (H := H2) (o := .lst (vs ++ [v2])) (u' := .lst (xs ++ [x])) h
  have m' : MuOk (upd H2 q (.lst (vs ++ [v2]))) (mset μ2 q (.lst (xs ++ [x]))) := mu_set w2.mu h ⟨_, upd_same, paired_app (Paired.mapL pp fun _ _ z => z.ext ex) (.cons (r2.ext ex) .nil)⟩
  exact kk .non _ (w2.ext m' ex) ((e1.trans e2).trans ex) .non
/-- an object leaves the store: its list becomes data -/
def mdrop : Mu → Addr → Mu
  | [], _ => []
  | (q, o) :: r, p => if p = q then mdrop r p else (q, o) :: mdrop r p
theorem mget_mdrop : ∀ (μ : Mu) (p b : Addr), mget (mdrop μ p) b = if b = p then none else mget μ b
  | [], p, b => by
    show none = _
    split <;> rfl
  | (q, o) :: r, p, b => by
    by_cases h : p = q
    · simp only [mdrop, if_pos h, mget_mdrop r p b, mget]
      by_cases hb : b = p
      · rw [if_pos hb, if_pos hb]
      · rw [if_neg hb, if_neg hb, if_neg (fun e => hb (e.trans h.symm))]
    · simp only [mdrop, if_neg h, mget, mget_mdrop r p b]
      by_cases hb : b = q
      · rw [if_pos hb, if_neg (fun e => h (e.symm.trans hb))]
        rw [if_pos hb]
      · rw [if_neg hb, if_neg hb]
theorem mdrop_none : ∀ {μ : Mu} {q : Addr}, mget μ q = none → mdrop μ q = μ
  | [], _, _ => rfl
  | (r, o) :: μ, q, h => by
    unfold mget at h
    by_cases e : q = r
    · rw [if_pos e] at h; cases h
    · rw [if_neg e] at h
      simp only [mdrop, if_neg e, mdrop_none h]
theorem ext_drop {H : Hp} {q : Addr} : Ext H μ H (mdrop μ q) := fun b z hb nb => ⟨hb, by rw [mget_mdrop]; split <;> first | rfl | exact nb⟩
theorem mu_drop {H : Hp} {q : Addr} (m : MuOk H μ) : MuOk H (mdrop μ q) := fun r z e => by
  rw [mget_mdrop] at e
  split at e
  · cases e
  · exact (m r z e).le rfl (ext_drop).hid
theorem drop_data {H : Hp} {q : Addr} {ds : List PyData} (m : MuOk H μ) (h : mget μ q = some (.lst (ds.map .d))) : SR (hide H (mdrop μ q)) (.ref q) (.d (.list ds)) := by
  obtain ⟨vs, h1, pp⟩ := m q _ h
  refine .lst (hide_of h1 (by rw [mget_mdrop, if_pos rfl])) (pairedD (Paired.mapL pp fun _ _ z => z.ext ext_drop))
/-- the slot i holds a list of the store: from now on it is data -/
theorem go_pub (i : Nat) {q : Addr} {ds : List PyData} (hi : ρ[i]? = some (.m q)) (h : mget μ q = some (.lst (ds.map .d))) (k : Go X B sts D (ρ.set i (.d (.list ds))) (mdrop μ q)) : Go X B sts D ρ μ := fun σ H w e => by
  refine k σ H ?_ (e.trans ext_drop)
  have w1 := w.ext (mu_drop (q := q) w.mu) ext_drop
  obtain ⟨v, h1, h2⟩ := w.slot i _ hi (by simp)
  cases (show v = .ref q from h2)
  refine ⟨w1.mu, by rw [List.length_set]; exact w1.len, fun j y hj ny => ?_⟩
  by_cases ej : i = j
  · subst ej
    have hl : i < ρ.length := by
      have := (List.getElem?_eq_some_iff.mp hj).1
      rwa [List.length_set] at this
    rw [List.getElem?_set_self hl] at hj
    cases hj
    exact ⟨_, h1, drop_data w.mu h⟩
  · rw [List.getElem?_set_ne ej] at hj
    exact w1.slot j y hj ny
theorem go_drop (q : Addr) (k : Go X B sts D ρ (mdrop μ q)) : Go X B sts D ρ μ := fun σ H w e => k σ H (w.ext (mu_drop (q := q) w.mu) ext_drop) (e.trans ext_drop)
/-- .. at a return -/
theorem rt_pub {q : Addr} {ds : List PyData} (h : mget μ q = some (.lst (ds.map .d))) (k : RtOk B D (.d (.list ds)) (mdrop μ q)) : RtOk B D (.m q) μ := fun v H m e r => by
  cases (show v = .ref q from r)
  exact k _ H (mu_drop m) (e.trans ext_drop) (drop_data m h)
theorem rt_drop {q : Addr} (k : RtOk B D x (mdrop μ q)) : RtOk B D x μ := fun v H m e r => k v H (mu_drop m) (e.trans ext_drop) (r.ext ext_drop)
theorem rt_eq {D' : Ends} (k : RtOk B D' x μ) (h : D.rt = D'.rt) : RtOk B D x μ := fun v H m e r => by rw [h]; exact k v H m e r

/-! ### while -/
/-- the turn's end: the invariant again, a smaller measure -/
def Nxw (B : Hp × Mu) (I : Nat → En → Mu → Prop) (m : Nat) : L2.St → Hp → Prop := fun σ H => ∃ m' ρ' μ', m' < m ∧ I m' ρ' μ' ∧ W H σ ρ' μ' ∧ Ext B.1 B.2 H μ'
/-- the weakest reading of a test -/
def tW (X : Cx) (c : Expr) : TT := fun σ H Q => ∀ pins s, Inv X pins σ H s → wpAny (model X.prog X.w) X.A (isTrue c X.env (eval c X.env)) (TP X pins σ Q) X.xe s
theorem pt_wp {X : Cx} {c : Expr} : PT X c (tW X c) := ⟨fun pins s σ H Q I h => h pins s I⟩
theorem go_while (I : Nat → En → Mu → Prop) (m0 : Nat) (h0 : I m0 ρ μ) (hp : PassesOwn (model X.prog X.w) X.A X.env X.xe)
    (turn : ∀ m ρ μ, I m ρ μ → ∃ (k : Bool) (μ1 : Mu), PTv X c ρ μ k μ1 ∧ (k = true → Go X B body { D with nx := Nxw B I m, ct := Nxw B I m, bk := wpR X rest D } ρ μ1) ∧ (k = false → Go X B rest D ρ μ1)) : Go X B (.While c body [] pos :: rest) D ρ μ :=
  go_cons (ps_while hp pt_wp pss_wp) fun σ H w ex => ⟨fun m σ H => ∃ ρ μ, I m ρ μ ∧ W H σ ρ μ ∧ Ext B.1 B.2 H μ, ⟨m0, ρ, μ, h0, w, ex⟩, fun m σ H ⟨ρ, μ, hI, w, ex⟩ => by
    obtain ⟨k, μ1, hk, ht, hf⟩ := turn m ρ μ hI
    intro pins s I0
    refine hk.run pins s σ H _ I0 ⟨w, fun H' w1 e1 => ?_⟩
    cases k with
    | true => exact iteT ⟨Nxw B I m, fun σ' H' ⟨m', ρ', μ', lt, hI', w', e'⟩ => ⟨m', lt, ρ', μ', hI', w', e'⟩, ht rfl _ _ w1 (ex.trans e1)⟩
    | false => exact iteF (hf rfl _ _ w1 (ex.trans e1))⟩
theorem go_nxw {I : Nat → En → Mu → Prop} {m m' : Nat} {r : VK} {bk ct : L2.St → Hp → Prop} (h : m' < m) (hI : I m' ρ μ) : Go X B [] ⟨Nxw B I m, r, bk, ct⟩ ρ μ := go_nil fun σ H w e => ⟨m', ρ, μ, h, hI, w, e⟩

/-! ### what is walked -/
def JOk (J : It) (n : Nat) (item : Nat → Sl) (S : Mu → Prop) (H1 : Hp) (μ1 : Mu) : Prop :=
  ∀ i H2 μ2, MuOk H2 μ2 → Ext H1 μ1 H2 μ2 → S μ2 → (n ≤ i → J.stop i H2) ∧ (i < n → J.go i H2 ∧ ∀ x H', J.yld i H2 x H' → Same H2 H' ∧ SR (hide H' μ2) x (item i))
/-- n items from the source, each a slot; S: what the store must say at each turn -/
def tSrc (ρ : En) (μ : Mu) (n : Nat) (item : Nat → Sl) (μ1 : Mu) (S : Mu → Prop) : TI := fun σ H R => W H σ ρ μ ∧ ∀ J H1, W H1 σ ρ μ1 → Ext H μ H1 μ1 → JOk J n item S H1 μ1 → R J H1
abbrev PIv (X : Cx) (tg iter : Expr) (ρ : En) (μ : Mu) (n : Nat) (item : Nat → Sl) (μ1 : Mu) (S : Mu → Prop) : Prop := PI X tg iter (tSrc ρ μ n item μ1 S)
theorem pi_weak {tg iter : Expr} {t t' : TI} (h : PI X tg iter t) (w : ∀ σ H R, t' σ H R → t σ H R) : PI X tg iter t' := ⟨fun pins s σ H R I q => h.run pins s σ H R I (w σ H R q)⟩
abbrev Anys : Mu → Prop := fun _ => True
theorem sr_ref_inj {H : Hp} {a' b' : Addr} (h : V.ref a' = V.ref b') : a' = b' := by cases h; rfl
theorem s_list {tg : Expr} {ds : List PyData} (h : PEv X e ρ μ (.d (.list ds)) μ1) : PIv X tg e ρ μ ds.length (fun i => .d (ds.getD i .none)) μ1 Anys :=
  pi_weak (pi_list h) fun σ H R ⟨w, k⟩ => ⟨w, fun v H1 w1 e1 r1 => by
    obtain ⟨q, vs, rfl, h1, pp⟩ := (nowL_d (μ := μ1)).sq w1.mu r1
    have hl : vs.length = ds.length := by rw [paired_len pp, List.length_map]
    refine ⟨q, rfl, ⟨vs, SqL.of h1⟩, k _ H1 w1 e1 fun i H2 μ2 m2 e2 _ => ?_⟩
    have hq : hide H1 μ1 q = some (.lst vs) := by
      cases (show DR (hide H1 μ1) (.ref q) (.list ds) from r1) with
      | lst g1 g2 =>
        have := hide_le _ _ g1
        rw [h1] at this
        cases this
        exact g1
    have g2 : H2 q = some (.lst vs) := hide_le _ _ (e2.hid _ _ hq)
    refine ⟨fun hi => ⟨vs, SqL.of g2, by omega⟩, fun hi => ⟨⟨vs, vs[i]'(by omega), SqL.of g2, List.getElem?_eq_getElem (by omega)⟩, fun x H' ⟨eH, hx⟩ => ?_⟩⟩
    subst eH
    refine ⟨Same.refl _, ?_⟩
    obtain ⟨s, g3, g4⟩ := paired_get' (i := i) pp (hx vs (SqL.of g2))
    rw [List.getElem?_map, List.getElem?_eq_getElem hi] at g3
    cases g3
    show SR _ x (.d (ds.getD i .none))
    rw [List.getD_eq_getElem?_getD, List.getElem?_eq_getElem hi]
    exact g4.ext e2⟩
theorem s_tup {tg : Expr} {ds : List PyData} (h : PEv X e ρ μ (.d (.tuple ds)) μ1) : PIv X tg e ρ μ ds.length (fun i => .d (ds.getD i .none)) μ1 Anys :=
  pi_weak (pi_tup h) fun σ H R ⟨w, k⟩ => ⟨w, fun v H1 w1 e1 r1 => by
    obtain ⟨q, vs, rfl, h1, pp⟩ := NowT.sq (μ := μ1) rfl r1
    have hl : vs.length = ds.length := by rw [paired_len pp, List.length_map]
    refine ⟨q, rfl, ⟨vs, SqT.of h1⟩, k _ H1 w1 e1 fun i H2 μ2 m2 e2 _ => ?_⟩
    have hq : hide H1 μ1 q = some (.tup vs) := by
      cases (show DR (hide H1 μ1) (.ref q) (.tuple ds) from r1) with
      | tup g1 g2 =>
        have := hide_le _ _ g1
        rw [h1] at this
        cases this
        exact g1
    have g2 : H2 q = some (.tup vs) := hide_le _ _ (e2.hid _ _ hq)
    refine ⟨fun hi => ⟨vs, SqT.of g2, by omega⟩, fun hi => ⟨⟨vs, vs[i]'(by omega), SqT.of g2, List.getElem?_eq_getElem (by omega)⟩, fun x H' ⟨eH, hx⟩ => ?_⟩⟩
    subst eH
    refine ⟨Same.refl _, ?_⟩
    obtain ⟨s, g3, g4⟩ := paired_get' (i := i) pp (hx vs (SqT.of g2))
    rw [List.getElem?_map, List.getElem?_eq_getElem hi] at g3
    cases g3
    show SR _ x (.d (ds.getD i .none))
    rw [List.getD_eq_getElem?_getD, List.getElem?_eq_getElem hi]
    exact g4.ext e2⟩
/-- a list of the store that stands as it is while it is walked -/
theorem s_mlist {tg : Expr} {q : Addr} (h : PEv X e ρ μ (.m q) μ1) (hq : mget μ1 q = some (.lst xs)) : PIv X tg e ρ μ xs.length (fun i => xs.getD i .no) μ1 (fun ν => mget ν q = some (.lst xs)) :=
  pi_weak (pi_list h) fun σ H R ⟨w, k⟩ => ⟨w, fun v H1 w1 e1 r1 => by
    cases (show v = .ref q from r1)
    obtain ⟨vs, h1, pp⟩ := w1.mu q _ hq
    refine ⟨q, rfl, ⟨vs, SqL.of h1⟩, k _ H1 w1 e1 fun i H2 μ2 m2 e2 sm => ?_⟩
    obtain ⟨ws, g2, pp2⟩ := m2 q _ sm
    have hl : ws.length = xs.length := paired_len pp2
    refine ⟨fun hi => ⟨ws, SqL.of g2, by omega⟩, fun hi => ⟨⟨ws, ws[i]'(by omega), SqL.of g2, List.getElem?_eq_getElem (by omega)⟩, fun x H' ⟨eH, hx⟩ => ?_⟩⟩
    subst eH
    refine ⟨Same.refl _, ?_⟩
    obtain ⟨s, g3, g4⟩ := paired_get' (i := i) pp2 (hx ws (SqL.of g2))
    have e3 : xs.getD i .no = s := by rw [List.getD_eq_getElem?_getD, g3]; rfl
    show SR _ x (xs.getD i .no)
    rw [e3]
    exact g4⟩
theorem s_range1 {tg : Expr} {j : Int} {n : Nat} (hm : X.mg "range" = none) (h : PEv X a ρ μ (.d (.int j)) μ1) (h1 : -(2 ^ 62) ≤ j) (h2 : j < 2 ^ 62) (hn : j.toNat = n) (hg : Gl X "range" := by rfl) (hs : starEach [a] X.env = [(false, eval a X.env)] := by rfl) :
    PIv X tg (.Call (.Name "range" p) [a] [] pos) ρ μ n (fun i => .d (.int (i : Int))) μ1 Anys :=
  pi_weak (pi_range1 hg hm (a_cons h a_nil (by rw [hs]; rfl)) hs) fun σ H R ⟨w, k⟩ => ⟨w, fun vs H1 w1 e1 r1 => by
    obtain ⟨v, rfl, rv⟩ := p1_inv r1
    refine ⟨j, by rw [dp_int rv], h1, h2, k _ H1 w1 e1 fun i H2 μ2 m2 e2 _ => ?_⟩
    rw [hn]
    refine ⟨fun hi => hi, fun hi => ⟨hi, fun x H' ⟨eH, hx⟩ => ?_⟩⟩
    subst eH hx
    refine ⟨Same.refl _, ?_⟩
    rw [Int.zero_add]
    exact .int (i : Int)⟩
theorem s_range2 {tg : Expr} {i0 j : Int} {n : Nat} (hm : X.mg "range" = none) (h : PEv X a ρ μ (.d (.int i0)) μ1) (h' : PEv X b ρ μ1 (.d (.int j)) μ2) (hb : -(2 ^ 62) ≤ i0 ∧ i0 < 2 ^ 62 ∧ -(2 ^ 62) ≤ j ∧ j < 2 ^ 62) (hn : (j - i0).toNat = n) (hg : Gl X "range" := by rfl)
    (hs : starEach [a, b] X.env = [(false, eval a X.env), (false, eval b X.env)] := by rfl) (hs2 : starEach [b] X.env = [(false, eval b X.env)] := by rfl) :
    PIv X tg (.Call (.Name "range" p) [a, b] [] pos) ρ μ n (fun i => .d (.int (i0 + (i : Int)))) μ2 Anys :=
  pi_weak (pi_range2 hg hm (a_cons h (a_cons h' a_nil (by rw [hs2]; rfl)) (by rw [hs, hs2])) hs hs2) fun σ H R ⟨w, k⟩ => ⟨w, fun vs H1 w1 e1 r1 => by
    obtain ⟨v, v', rfl, rv, rv'⟩ := p2_inv r1
    refine ⟨i0, j, by rw [dp_int rv, dp_int rv'], hb, k _ H1 w1 e1 fun i H2 μ2 m2 e2 _ => ?_⟩
    rw [hn]
    refine ⟨fun hi => hi, fun hi => ⟨hi, fun x H' ⟨eH, hx⟩ => ?_⟩⟩
    subst eH hx
    exact ⟨Same.refl _, .int _⟩⟩
/-- the turn's end of a for -/
def Nxf (B : Hp × Mu) (I : Nat → En → Mu → Prop) (i : Nat) : L2.St → Hp → Prop := fun σ H => ∃ ρ' μ', I i ρ' μ' ∧ W H σ ρ' μ' ∧ Ext B.1 B.2 H μ'
theorem go_nxf {I : Nat → En → Mu → Prop} {i : Nat} {r : VK} {bk ct : L2.St → Hp → Prop} (hI : I i ρ μ) : Go X B [] ⟨Nxf B I i, r, bk, ct⟩ ρ μ := go_nil fun σ H w e => ⟨ρ, μ, hI, w, e⟩
/-- .. with slots forgotten -/
theorem forg_w {H : Hp} {σ : L2.St} (w : W H σ ρ μ) : ∀ vs : List Nat, W H σ (forg ρ vs) μ
  | [] => w
  | v :: vs => (forg_w w vs).forget
theorem go_forg (vs : List Nat) (k : Go X B sts D (forg ρ vs) μ) : Go X B sts D ρ μ := fun σ H w e => k σ H (forg_w w vs) e
def gW (X : Cx) (tg : Expr) : TG := fun v σ H Q => ∀ pins s u, Inv X pins σ H s → RelV v u → wpAny (model X.prog X.w) X.A (assign tg X.env u) (fun _ s' => ∃ σ' H', Inv X pins σ' H' s' ∧ Q σ' H') X.xe s
theorem pg_wp {tg : Expr} : PG X tg (gW X tg) := ⟨fun pins s σ H v u Q I r h => h pins s u I r⟩
/-- another entry, later than B -/
abbrev Reb (B B' : Hp × Mu) : Prop := Ext B.1 B.2 B'.1 B'.2
theorem rt_reb {B' : Hp × Mu} (h : Reb B B') (k : RtOk B D x μ) : RtOk B' D x μ := fun v H m e r => k v H m (h.trans e) r
theorem go_reb {B' : Hp × Mu} (h : Reb B B') (k : Go X B sts D ρ μ) : Go X B' sts D ρ μ := fun σ H w e => k σ H w (h.trans e)
theorem go_break {D' : Ends} {nx ct : L2.St → Hp → Prop} {r : VK} (k : Go X B body D' ρ μ) : Go X B (.Break pos :: rest) ⟨nx, r, wpR X body D', ct⟩ ρ μ :=
  go_cons ps_break fun σ H w ex => k σ H w ex
theorem go_for {tg iter : Expr} {n : Nat} {item : Nat → Sl} {S : Mu → Prop} (hs : PIv X tg iter ρ μ n item μ1 S) (I : Nat → En → Mu → Prop) (hp : PassesOwn (model X.prog X.w) X.A X.env X.xe) (h0 : I 0 ρ μ1) (hst : ∀ i ρ μ, i ≤ n → I i ρ μ → S μ)
    (turn : ∀ B', Reb B B' → ∀ i ρ μ, i < n → I i ρ μ → ∃ ρ', PGv X tg (item i) ρ μ ρ' μ ∧ Go X B' body { D with nx := Nxf B' I (i + 1), ct := Nxf B' I (i + 1), bk := wpR X rest D } ρ' μ) (done : ∀ ρ μ, I n ρ μ → Go X B rest D ρ μ) (hc : X.calm = true := by rfl)
    (hfs : ∀ x, foldedSetIterable iter X.env x = pure x := by intro _; rfl) : Go X B (.For tg iter body [] pos :: rest) D ρ μ :=
  go_cons (ps_for hp hc hs pg_wp pss_wp hfs) fun σ H w ex => ⟨w, fun J H1 w1 e1 jok => ⟨fun i m σ H => m = n - i ∧ i ≤ n ∧ ∃ ρ μ, I i ρ μ ∧ W H σ ρ μ ∧ Ext H1 μ1 H μ, ⟨n, by omega, by omega, ρ, μ1, h0, w1, Ext.refl _ _⟩,
    fun i m σ H ⟨em, hi, ρ, μ, hI, w, e2⟩ => by
      have eB : Ext B.1 B.2 H1 μ1 := ex.trans e1
      obtain ⟨hstop, hgo⟩ := jok i H μ w.mu e2 (hst i ρ μ hi hI)
      by_cases hlt : i < n
      · obtain ⟨g1, g2⟩ := hgo hlt
        obtain ⟨ρ', hg, hb⟩ := turn (H1, μ1) eB i ρ μ hlt hI
        refine .inr ⟨g1, Nxf (H1, μ1) I (i + 1), fun σ' H' ⟨ρ2, μ2, h1, h2, h3⟩ => ⟨n - (i + 1), by omega, rfl, by omega, ρ2, μ2, h1, h2, h3⟩, fun x H' hy => ?_⟩
        obtain ⟨sm, sx⟩ := g2 x H' hy
        intro pins s u I0 r0
        exact hg.run pins s σ H' x u _ I0 r0 ⟨⟨w.same sm, sx⟩, fun σ' H2 w2 e3 => hb σ' H2 w2 (e2.trans ((Ext.same sm).trans e3))⟩
      · have en : i = n := by omega
        subst en
        exact .inl ⟨hstop (Nat.le_refl _), done ρ μ hI σ H w (eB.trans e2)⟩⟩⟩
end
end Fw

namespace Fw
open PySem PySem.Spec PyProof.Rows L2
section
variable {X : Cx} {B : Hp × Mu} {D : Ends} {a b c e : Expr} {es : List Expr} {st : Stmt} {sts rest body els : List Stmt} {ρ : En} {μ μ1 μ2 μ3 : Mu} {x y z : Sl} {xs : List Sl} {pos p : Pos} {n : Str} {t : TS}
/-! ### comprehensions -/
/-- targets of a comprehension: the slots js change -/
def tTc (js : List Nat) (x : Sl) (ρ : En) (μ : Mu) (ρ' : En) : TG := fun v σ H Q => (W H σ ρ μ ∧ SR (hide H μ) v x) ∧ ∀ σ' H', W H' σ' ρ' μ → Ext H μ H' μ → wipe σ' js = wipe σ js → Q σ' H'
abbrev PGc (X : Cx) (js : List Nat) (tg : Expr) (x : Sl) (ρ : En) (μ : Mu) (ρ' : En) : Prop := PG X tg (tTc js x ρ μ ρ')
theorem gc_name {js : List Nat} (i : Nat) (hj : i ∈ js) (hN : X.N.Nodup) (hi : X.N[i]? = some n := by rfl) (hx : Loc X.env.scope n := by first | exact Or.inl rfl | exact Or.inr rfl) (hf : X.fn n = true ∨ X.env.scope.names.lookup n = some .local := by first | exact .inl rfl | exact .inr rfl) :
    PGc X js (.Name n pos) x ρ μ (ρ.set i x) := pg_weak (pg_name hN hi hx hf) fun v σ H Q ⟨⟨w, r⟩, k⟩ => k _ _ (w.set r) (Ext.refl _ _) (wipe_set hj)
def tTcs (js : List Nat) (xs : List Sl) (ρ : En) (μ : Mu) (ρ' : En) : TGs := fun vs σ H Q => (W H σ ρ μ ∧ Paired (SR (hide H μ)) vs xs) ∧ ∀ σ' H', W H' σ' ρ' μ → Ext H μ H' μ → wipe σ' js = wipe σ js → Q σ' H'
theorem gcs_nil {js : List Nat} : PGs X [] (tTcs js [] ρ μ ρ) := pgs_weak pgs_nil fun vs σ H Q ⟨⟨w, r⟩, k⟩ => by
  cases r
  exact ⟨rfl, k _ _ w (Ext.refl _ _) rfl⟩
theorem gcs_cons {js : List Nat} {ρ' ρ'' : En} (h1 : PGc X js e x ρ μ ρ') (h2 : PGs X es (tTcs js xs ρ' μ ρ'')) (hs : (assignEach (e :: es) X.env).map (·.2) = assign e X.env :: (assignEach es X.env).map (·.2) := by rfl) : PGs X (e :: es) (tTcs js (x :: xs) ρ μ ρ'') :=
  pgs_weak (pgs_cons h1 h2 hs) fun vs σ H Q ⟨⟨w, r⟩, k⟩ => by
    cases r with
    | cons r1 r2 => exact ⟨_, _, rfl, ⟨w, r1⟩, fun σ' H' w' e' s' => ⟨⟨w', Paired.mapL r2 fun _ _ z => z.ext e'⟩, fun σ2 H2 w2 e2 s2 => k σ2 H2 w2 (e'.trans e2) (s2.trans s')⟩⟩
theorem gc_tup {js : List Nat} {ds : List PyData} {ρ' : En} {kk nn : Nat} (h : PGs X es (tTcs js (ds.map .d) ρ μ ρ')) (hl : ds.length = nn) (hc : X.calm = true := by rfl)
    (hn : (assignEach es X.env).length = nn := by rfl) (hst : (assignEach es X.env).findIdx? (·.1) = none := by rfl) : PGc X js (.Tuple es kk pos) (.d (.tuple ds)) ρ μ ρ' :=
  pg_weak (pg_tup hc h hn hst) fun v σ H Q ⟨⟨w, r⟩, k⟩ => by
    obtain ⟨q, vs, rfl, h1, pp⟩ := NowT.sq (μ := μ) rfl r
    exact ⟨q, vs, rfl, SqT.of h1, by rw [paired_len pp, List.length_map]; exact hl, ⟨w, pp⟩, k⟩
abbrev PTsv (X : Cx) (ifs : List Expr) (ρ : En) (μ : Mu) (b : Bool) (μ' : Mu) : Prop := PTs X ifs (tTv ρ μ b μ')
theorem pts_weak {ifs : List Expr} {t t' : TT} (h : PTs X ifs t) (w : ∀ σ H Q, t' σ H Q → t σ H Q) : PTs X ifs t' := ⟨fun pins s σ H Q I q => h.run pins s σ H Q I (w σ H Q q)⟩
theorem ts_nil : PTsv X [] ρ μ true μ := pts_weak pts_nil fun σ H Q ⟨w, k⟩ => k H w (Ext.refl _ _)
theorem ts_one {k : Bool} (h : PTv X c ρ μ k μ1) : PTsv X [c] ρ μ k μ1 := pts_one h
/-- the weakest readings in a block -/
def bG (X : Cx) (scope : Scope) (tg : Expr) : TG := fun v σ H Q => ∀ (s0 : Shared) (H0 : Hp) (C : Addr) (cl : List (Str × Addr)) (fp : List Addr) pins s u, Inv (X.blk s0 H0 scope (compEnvC scope cl C X.env) fp) pins σ H s → RelV v u →
  wpAny (model X.prog X.w) X.A (assign tg (compEnvC scope cl C X.env) u) (fun _ s' => ∃ σ' H', Inv (X.blk s0 H0 scope (compEnvC scope cl C X.env) fp) pins σ' H' s' ∧ Q σ' H') (fun _ _ => False) s
def bT (X : Cx) (scope : Scope) (ifs : List Expr) : TT := fun σ H Q => ∀ (s0 : Shared) (H0 : Hp) (C : Addr) (cl : List (Str × Addr)) (fp : List Addr), ∃ t, PTs (X.blk s0 H0 scope (compEnvC scope cl C X.env) fp) ifs t ∧ t σ H Q
def bE (X : Cx) (scope : Scope) (elt : Expr) : TE := fun σ H Q => ∀ (s0 : Shared) (H0 : Hp) (C : Addr) (cl : List (Str × Addr)) (fp : List Addr), ∃ t, PE (X.blk s0 H0 scope (compEnvC scope cl C X.env) fp) elt t ∧ t σ H Q
/-- what a comprehension's parts give, for every block -/
abbrev Blk (X : Cx) (scope : Scope) (P : Cx → Prop) : Prop := ∀ (s : Shared) (H : Hp) (C : Addr) (cl : List (Str × Addr)) (fp : List Addr), P (X.blk s H scope (compEnvC scope cl C X.env) fp)
/-- the turns: acc what is made so far, ms the stores -/
structure LcOk (X : Cx) (elt tg : Expr) (ifs : List Expr) (scope : Scope) (vs : List Nat) (ρ : En) (n : Nat) (item : Nat → Sl) (μ1 : Mu) (S : Mu → Prop) (acc : Nat → List PyData) (ms : Nat → Mu) : Prop where
  a0 : acc 0 = []
  m0 : ms 0 = μ1
  al : ∀ i, i ≤ n → (acc i).length ≤ i
  nz : n ≤ sizeLine
  fr : ∀ i (D : Addr), i < n → mget (ms i) D = none → mget (ms (i + 1)) D = none
  st : ∀ i (D : Addr), i ≤ n → mget (ms i) D = none → S ((D, .lst ((acc i).map .d)) :: ms i)
  turn : ∀ i (D : Addr), i < n → mget (ms i) D = none → ∃ (ρ' : En) (k : Bool) (ν : Mu), Blk X scope (fun Y => PGc Y vs tg (item i) (forg ρ vs) ((D, .lst ((acc i).map .d)) :: ms i) ρ') ∧
    Blk X scope (fun Y => PTsv Y ifs ρ' ((D, .lst ((acc i).map .d)) :: ms i) k ((D, .lst ((acc i).map .d)) :: ν)) ∧
    (k = true → ∃ d, Blk X scope (fun Y => PEv Y elt ρ' ((D, .lst ((acc i).map .d)) :: ν) (.d d) ((D, .lst ((acc i).map .d)) :: ms (i + 1))) ∧ acc (i + 1) = acc i ++ [d]) ∧
    (k = false → ms (i + 1) = ν ∧ acc (i + 1) = acc i)
theorem mget_cons {D : Addr} {o : MO} {q : Addr} : mget ((D, o) :: μ) q = if q = D then some o else mget μ q := rfl
theorem mset_cons {D : Addr} {o u : MO} : mset ((D, o) :: μ) D u = (D, u) :: μ := by
  show (if D = D then (D, u) :: μ else _) = _
  rw [if_pos rfl]
theorem lc_read {elt tg : Expr} {ifs : List Expr} {scope : Scope} {vs : List Nat} {n : Nat} {item : Nat → Sl} {S : Mu → Prop} {acc : Nat → List PyData} {ms : Nat → Mu} (L : LcOk X elt tg ifs scope vs ρ n item μ1 S acc ms)
    {σ : L2.St} {H : Hp} {Q : VK} (w : W H σ ρ μ) (fin : ∀ D H', W H' σ ρ ((D, .lst ((acc n).map .d)) :: ms n) → Ext H μ H' ((D, .lst ((acc n).map .d)) :: ms n) → mget (ms n) D = none → Q (.ref D) H') :
    tLc (tSrc ρ μ n item μ1 S) (bG X scope tg) (bT X scope ifs) (bE X scope elt) vs σ H Q := by
  refine ⟨w, fun J H1 w1 e1 jok D nD => ?_⟩
  have mD : mget μ1 D = none := w1.mu.fresh nD
  have ex0 : Ext H1 μ1 (upd H1 D (.lst [])) ((D, .lst []) :: μ1) := ext_new nD
  have mu0 : MuOk (upd H1 D (.lst [])) ((D, .lst []) :: μ1) := mu_new w1.mu nD ⟨[], upd_same, .nil⟩
  refine ⟨fun i m H => m = n - i ∧ i ≤ n ∧ mget (ms i) D = none ∧ W H σ ρ ((D, .lst ((acc i).map .d)) :: ms i) ∧ Ext H1 μ1 H ((D, .lst ((acc i).map .d)) :: ms i), ⟨n, by omega, by omega, ?_, ?_, ?_⟩, ?_⟩
  · rw [L.m0]; exact mD
  · rw [L.m0, L.a0]; exact w1.ext mu0 ex0
  · rw [L.m0, L.a0]; exact ex0
  rintro i m H2 ⟨em, hi, nDi, w2, e2⟩
  obtain ⟨hstop, hgo⟩ := jok i H2 _ w2.mu e2 (L.st i D hi nDi)
  by_cases hlt : i < n
  · obtain ⟨g1, g2⟩ := hgo hlt
    obtain ⟨ρ', k, ν, hg, ht, hk1, hk2⟩ := L.turn i D hlt nDi
    refine .inr ⟨g1, fun H' => mget (ms (i + 1)) D = none ∧ W H' σ ρ ((D, .lst ((acc (i + 1)).map .d)) :: ms (i + 1)) ∧ Ext H1 μ1 H' ((D, .lst ((acc (i + 1)).map .d)) :: ms (i + 1)), fun H' ⟨h1, h2, h3⟩ => ⟨n - (i + 1), by omega, rfl, by omega, h1, h2, h3⟩, fun x H' hy => ?_⟩
    obtain ⟨sm, sx⟩ := g2 x H' hy
    have w3 := w2.same sm
    have e3 := e2.trans (Ext.same sm)
    intro s0 H0 C cl fp pins s u I0 r0
    refine (hg s0 H0 C cl fp).run pins s (wipe σ vs) H' x u _ I0 r0 ⟨⟨w3.wipe vs, sx⟩, fun σ2 H4 w4 e4 s4 => ⟨s4.trans wipe_wipe, ?_⟩⟩
    refine fun s0 H0 C cl fp => ⟨_, ht s0 H0 C cl fp, w4, fun H5 w5 e5 => ?_⟩
    cases k with
    | true =>
      obtain ⟨d, he, ea⟩ := hk1 rfl
      refine iteT fun s0 H0 C cl fp => ⟨_, he s0 H0 C cl fp, w5, fun v H6 w6 e6 r6 => ?_⟩
      have hget : mget ((D, MO.lst ((acc i).map Sl.d)) :: ms (i + 1)) D = some (.lst ((acc i).map .d)) := by rw [mget_cons, if_pos rfl]
      obtain ⟨ws, h6, pp⟩ := w6.mu D _ hget
      have e36 := e4.trans (e5.trans e6)
      have wσ : W H6 σ ρ ((D, .lst ((acc i).map .d)) :: ms (i + 1)) := w3.ext w6.mu e36
      have ex := ext_set (H := H6) (o := .lst (ws ++ [v])) (u' := .lst ((acc i).map .d ++ [.d d])) hget
      have m' : MuOk (upd H6 D (.lst (ws ++ [v]))) (mset ((D, MO.lst ((acc i).map Sl.d)) :: ms (i + 1)) D (.lst ((acc i).map .d ++ [.d d]))) :=
        mu_set w6.mu hget ⟨_, upd_same, paired_app (Paired.mapL pp fun _ _ z => z.ext ex) (.cons (r6.ext ex) .nil)⟩
      rw [mset_cons] at ex m'
      have eacc : (acc (i + 1)).map Sl.d = (acc i).map .d ++ [.d d] := by rw [ea, List.map_append]; rfl
      have nD2 : mget (ms (i + 1)) D = none := L.fr i D hlt nDi
      refine ⟨ws, h6, by rw [paired_len pp, List.length_map]; have := L.al i hi; have := L.nz; omega, nD2, ?_, ?_⟩
      · rw [eacc]; exact wσ.ext m' ex
      · rw [eacc]; exact (e3.trans e36).trans ex
    | false =>
      obtain ⟨em, ea⟩ := hk2 rfl
      have e35 := e4.trans e5
      refine iteF ⟨?_, ?_, ?_⟩
      · exact L.fr i D hlt nDi
      · rw [em, ea]; exact w3.ext w5.mu e35
      · rw [em, ea]; exact e3.trans e35
  · have en : i = n := by omega
    subst en
    exact .inl ⟨hstop (Nat.le_refl _), fin D H2 w2 (e1.trans e2) nDi⟩

theorem bg_ok {scope : Scope} {tg : Expr} : ∀ (s : Shared) (H : Hp) (C : Addr) (cl : List (Str × Addr)) (fp : List Addr), PG (X.blk s H scope (compEnvC scope cl C X.env) fp) tg (bG X scope tg) := fun s H C cl fp => ⟨fun pins s' σ H' v u Q I r h => h s H C cl fp pins s' u I r⟩
theorem bt_ok {scope : Scope} {ifs : List Expr} : ∀ (s : Shared) (H : Hp) (C : Addr) (cl : List (Str × Addr)) (fp : List Addr), PTs (X.blk s H scope (compEnvC scope cl C X.env) fp) ifs (bT X scope ifs) := fun s H C cl fp => ⟨fun pins s' σ H' Q I h => by
  obtain ⟨t, h1, h2⟩ := h s H C cl fp
  exact h1.run pins s' σ H' Q I h2⟩
theorem be_ok {scope : Scope} {elt : Expr} : ∀ (s : Shared) (H : Hp) (C : Addr) (cl : List (Str × Addr)) (fp : List Addr), PE (X.blk s H scope (compEnvC scope cl C X.env) fp) elt (bE X scope elt) := fun s H C cl fp => ⟨fun pins s' σ H' Q I h => by
  obtain ⟨t, h1, h2⟩ := h s H C cl fp
  exact h1.run pins s' σ H' Q I h2⟩
theorem lc_drop {H : Hp} {σ : L2.St} {ds : List PyData} {D : Addr} (w : W H σ ρ ((D, .lst (ds.map .d)) :: μ)) (nD : mget μ D = none) : W H σ ρ μ ∧ Ext H ((D, .lst (ds.map .d)) :: μ) H μ ∧ SR (hide H μ) (.ref D) (.d (.list ds)) := by
  have e : Ext H ((D, .lst (ds.map .d)) :: μ) H μ := fun b z hb nb => by
    rw [mget_cons] at nb
    split at nb
    · cases nb
    · exact ⟨hb, nb⟩
  have m : MuOk H μ := fun q o hq => by
    have hne : q ≠ D := fun z => by rw [z, nD] at hq; cases hq
    exact (w.mu q o (by rw [mget_cons, if_neg hne]; exact hq)).le rfl e.hid
  refine ⟨w.ext m e, e, ?_⟩
  obtain ⟨vs, h1, pp⟩ := w.mu D _ (by rw [mget_cons, if_pos rfl])
  exact .lst (hide_of h1 nD) (pairedD (Paired.mapL pp fun _ _ z => z.ext e))
section
variable {elt tg iter : Expr} {ifs : List Expr} {scope : Scope} {own : List (Str × Nat)} {nn : Nat} {item : Nat → Sl} {S : Mu → Prop} {acc : Nat → List PyData} {ms : Nat → Mu}
/-- a comprehension, as data -/
theorem v_lc (hi : PIv X tg iter ρ μ nn item μ1 S) (ok : BlkOk X.N X.env.scope scope own) (L : LcOk X elt tg ifs scope (own.map (·.2)) ρ nn item μ1 S acc ms) (hN : X.N.Nodup) (hc : X.calm = true := by rfl) (hs : ∀ x, foldedSetIterable iter X.env x = pure x := by intro _; rfl) :
    PEv X (.ListComp elt [⟨tg, iter, ifs, 0⟩] scope pos) ρ μ (.d (.list (acc nn))) (ms nn) :=
  pe_weak (pe_lc hc hN hi ok bg_ok bt_ok be_ok hs) fun σ H Q ⟨w, k⟩ => lc_read L w fun D H' w' e' nD => by
    obtain ⟨h1, h2, h3⟩ := lc_drop w' nD
    exact k _ H' h1 (e'.trans h2) h3
/-- .. as a new list of the store -/
theorem w_lc (hi : PIv X tg iter ρ μ nn item μ1 S) (ok : BlkOk X.N X.env.scope scope own) (L : LcOk X elt tg ifs scope (own.map (·.2)) ρ nn item μ1 S acc ms) (hN : X.N.Nodup) (hc : X.calm = true := by rfl) (hs : ∀ x, foldedSetIterable iter X.env x = pure x := by intro _; rfl) :
    PEw X (.ListComp elt [⟨tg, iter, ifs, 0⟩] scope pos) ρ μ (fun y ν => ∃ D, mget (ms nn) D = none ∧ y = .m D ∧ ν = (D, .lst ((acc nn).map .d)) :: ms nn) :=
  pe_weak (pe_lc hc hN hi ok bg_ok bt_ok be_ok hs) fun σ H Q ⟨w, k⟩ => lc_read L w fun D H' w' e' nD => k _ H' (.m D) _ ⟨D, nD, rfl, rfl⟩ w' e' rfl
/-- y = [..] on one line, y a local -/
theorem go_setLc (i : Nat) (hi : PIv X tg iter ρ μ nn item μ1 S) (ok : BlkOk X.N X.env.scope scope own) (L : LcOk X elt tg ifs scope (own.map (·.2)) ρ nn item μ1 S acc ms) (k : Go X B rest D (ρ.set i (.d (.list (acc nn)))) (ms nn)) {spos : Pos} (hN : X.N.Nodup) (hy : X.N[i]? = some n := by rfl) (hyl : X.env.scope.names.lookup n = some .local := by rfl)
    (hsw : swapsWith (.ListComp elt [⟨tg, iter, ifs, 0⟩] scope pos) (some (.Name n p)) spos.line X.env = pure true := by exact sw_true rfl rfl rfl (by decide +kernel)) (hc : X.calm = true := by rfl) (hs : ∀ x, foldedSetIterable iter X.env x = pure x := by intro _; rfl) :
    Go X B (.Assign [.Name n p] (.ListComp elt [⟨tg, iter, ifs, 0⟩] scope pos) spos :: rest) D ρ μ :=
  go_cons (ps_setLc hc hN hy hyl hsw hi ok bg_ok bt_ok be_ok hs) fun σ H w ex => lc_read L w fun D' H' w' e' nD => by
    obtain ⟨h1, h2, h3⟩ := lc_drop w' nD
    exact k _ H' (h1.set h3) (ex.trans (e'.trans h2))
theorem go_setLcw (i : Nat) (hi : PIv X tg iter ρ μ nn item μ1 S) (ok : BlkOk X.N X.env.scope scope own) (L : LcOk X elt tg ifs scope (own.map (·.2)) ρ nn item μ1 S acc ms) (k : ∀ D', mget (ms nn) D' = none → Go X B rest D (ρ.set i (.m D')) ((D', .lst ((acc nn).map .d)) :: ms nn)) {spos : Pos} (hN : X.N.Nodup) (hy : X.N[i]? = some n := by rfl) (hyl : X.env.scope.names.lookup n = some .local := by rfl)
    (hsw : swapsWith (.ListComp elt [⟨tg, iter, ifs, 0⟩] scope pos) (some (.Name n p)) spos.line X.env = pure true := by exact sw_true rfl rfl rfl (by decide +kernel)) (hc : X.calm = true := by rfl) (hs : ∀ x, foldedSetIterable iter X.env x = pure x := by intro _; rfl) :
    Go X B (.Assign [.Name n p] (.ListComp elt [⟨tg, iter, ifs, 0⟩] scope pos) spos :: rest) D ρ μ :=
  go_cons (ps_setLc hc hN hy hyl hsw hi ok bg_ok bt_ok be_ok hs) fun σ H w ex => lc_read L w fun D' H' w' e' nD => k D' nD _ H' (w'.set (x := .m D') rfl) (ex.trans e')
end
end
/-! ### a def keeps its promise -/
def startE (N : List Str) (as : List Sl) : En := as ++ List.replicate (N.length - as.length) .no
theorem w_start {H : Hp} {N : List Str} {vs : List V} {as : List Sl} {μ : Mu} (m : MuOk H μ) (r : Paired (SR (hide H μ)) vs as) : W H (L2.start N vs) (startE N as) μ := by
  have hl := paired_len r
  refine ⟨m, ?_, fun i x h nx => ?_⟩
  · unfold L2.start startE
    simp [hl]
  · unfold startE at h
    have hi : i < as.length := by
      by_cases hi : i < as.length
      · exact hi
      · rw [List.getElem?_append_right (by omega), List.getElem?_replicate] at h
        split at h
        · cases h; exact absurd rfl nx
        · cases h
    rw [List.getElem?_append_left hi] at h
    obtain ⟨v, h1, h2⟩ := paired_get r h
    refine ⟨v, ?_, h2⟩
    unfold L2.start
    rw [List.getElem?_append_left (by rw [List.length_map, hl]; exact hi), List.getElem?_map, h1]
    rfl
section
variable {P : Program} {w : World} {K : PySem.W.Frag} {mg : Str → Option Value} {base : Heap}
abbrev cx0 (P : Program) (w : World) (K : PySem.W.Frag) (mg : Str → Option Value) (base : Heap) (N : List Str) (qual : Str) (st : Stmt) (f : Addr) (cdv : Value) (A : Around) (outer : List Env) (s : Shared) (H : Hp) (E : XK) : Cx := (cxOf CX0 P w K mg base N qual (defScope st) f cdv A outer s H E).nox
theorem cal_ok {x qual : Str} {st : Stmt} {f : Addr} {fd : FuncData} {N ps : List Str} {k : Nat} {dx : List Sl} {ds : List Value} {dvs : List V} {R : Rel} (F : Fun K x qual st f fd) (S : FnScope N ps (defScope st)) (hm : mg x = some (.ref f)) (hb : Binds K fd ps ds) (hd : Vals dvs ds) (hdx : ∀ H, Paired (SR H) dvs dx)
    (len : ∀ as μ post, R as μ post → as.length = ps.length)
    (body : ∀ (cdv : Value) (A : Around) (outer : List Env) (s : Shared) (H : Hp) (E : XK) (as : List Sl) (μ : Mu) (post : Sl → Mu → Prop) (D : Ends), Room k (A.deeper (envOfC qual (defScope st) s.heap.objs.size f cdv)) → R as μ post →
      (∀ r μ', post r μ' → RtOk (H, μ) D r μ') → (∀ σ H', D.rt .non H' → D.nx σ H') → Go (cx0 P w K mg base N qual st f cdv A outer s H E) (H, μ) (defBody st) D (startE N as) μ) :
    Cal P w K mg base x (k + 1) dx R := by
  refine ⟨f, fd, ps, ds, dvs, ?_, hm, F.kp, hb, hd, hdx⟩
  refine F.ok S (fun vs H Q E h => ?_) (fun cdv A outer s H vs Q E hr h => ?_)
  · obtain ⟨as, μ, pr, _, hR⟩ := h
    rw [paired_len pr]
    exact len _ _ _ hR
  · obtain ⟨as, μ, pr, m, hR⟩ := h
    refine ⟨_, pss_wp, ?_⟩
    exact body cdv A outer s H E as μ _ { nx := fun _ H' => Q .non H', rt := Q } hr hR (fun r μ' hp v H' m' e' r' => hp v H' m' e' r') (fun _ _ z => z) _ H (w_start m pr) (Ext.refl _ _)
/-- the body's end: None -/
theorem go_end {X : Cx} {B : Hp × Mu} {D : Ends} {ρ : En} {μ : Mu} (hn : ∀ σ H', D.rt .non H' → D.nx σ H') (k : RtOk B D (.d .none) μ) : Go X B [] D ρ μ := go_nil fun σ H w e => hn σ H (k .non H w.mu e .non)
end
end Fw

namespace Fw
open PySem PySem.Spec PyProof.Rows L2
section
variable {X : Cx} {B : Hp × Mu} {D : Ends} {a b c e o : Expr} {es : List Expr} {st : Stmt} {sts rest body els : List Stmt} {ρ : En} {μ μ1 μ2 μ3 : Mu} {x y z : Sl} {xs : List Sl} {pos p : Pos} {n : Str} {t : TS}
/-- a slot read, in short -/
theorem vl (i : Nat) (hρ : ρ[i]? = some x) (hN : X.N[i]? = some n) (hx : x ≠ .no := by simp) (hv : Vis X.env.scope n := by first | exact Or.inl rfl | exact Or.inr (Or.inl rfl) | exact Or.inr (Or.inr rfl)) (hd : (n == ("__debug__" : Str)) = false := by decide) (hcd : (n == ("__classdict__" : Str)) = false := by decide) :
    PEv X (.Name n pos) ρ μ x μ := v_var i hx hρ hN hv hd hcd
/-! ### isinstance -/
def tyN : PyData → String
  | .none => "NoneType"
  | .bool _ => "bool"
  | .int _ => "int"
  | .str _ => "str"
  | .list _ => "list"
  | .tuple _ => "tuple"
  | .dict _ => "dict"
theorem tyx_of {K : PySem.W.Frag} {H : Hp} {v : V} {d : PyData} (h : DR H v d) : TyX K H v (.type (tyN d)) := by
  cases h with
  | non => exact .base .non
  | bl b => exact .base (.bl b)
  | int b => exact .base (.int b)
  | str b => exact .base (.str b)
  | lst h1 h2 => exact .base (.lst h1)
  | tup h1 h2 => exact .base (.tup h1)
theorem v_isi {d : PyData} {T : String} {k : Bool} (hm : X.mg "isinstance" = none) (ha : PEv X a ρ μ (.d d) μ1) (hb : PEv X b ρ μ1 (.v (.ty T)) μ2) (hk : kitB (tyN d) T = some k) (hg : Gl X "isinstance" := by rfl)
    (he : starEach [a, b] X.env = [(false, eval a X.env), (false, eval b X.env)] := by rfl) (he2 : starEach [b] X.env = [(false, eval b X.env)] := by rfl) : PEv X (.Call (.Name "isinstance" p) [a, b] [] pos) ρ μ (.d (.bool k)) μ2 :=
  v_cb call_isi (by decide +kernel) hm (a_cons ha (a_cons hb a_nil (by rw [he2]; rfl)) (by rw [he, he2])) (fun H vs Q m r kk => by
    obtain ⟨v, w, rfl, h1, h2⟩ := p2_inv r
    cases (show w = .ty T from h2)
    exact ⟨v, .ty T, _, _, k, rfl, .ty T, tyx_of (dr_le hide_le d v h1), kit_ty hk, kk _ H (Same.refl H) (.bl _)⟩) hg (by decide) (by decide) (by rw [he, he2]) (by rw [he2]; rfl)
/-- a built-in type's name -/
theorem v_ty {T : String} (hm : X.mg n = none) (hv : bootBuiltins n = some (.type T)) (hg : Gl X n := by rfl) (hn : n ≠ "__name__" := by decide) (hd : (n == ("__debug__" : Str)) = false := by decide) : PEv X (.Name n pos) ρ μ (.v (.ty T)) μ := v_raw (pe_bltn hg hm hv rfl hn hd)
def isI : PyData → Bool
  | .int _ => true
  | .bool _ => true
  | _ => false
def isB : PyData → Bool
  | .bool _ => true
  | _ => false
def isT : PyData → Bool
  | .tuple _ => true
  | _ => false
theorem kit_int : ∀ d : PyData, kitB (tyN d) "int" = some (isI d)
  | .none => by show kitB "NoneType" "int" = some false; decide +kernel
  | .bool _ => by show kitB "bool" "int" = some true; decide +kernel
  | .int _ => by show kitB "int" "int" = some true; decide +kernel
  | .str _ => by show kitB "str" "int" = some false; decide +kernel
  | .list _ => by show kitB "list" "int" = some false; decide +kernel
  | .tuple _ => by show kitB "tuple" "int" = some false; decide +kernel
  | .dict _ => by show kitB "dict" "int" = some false; decide +kernel
theorem kit_bool : ∀ d : PyData, kitB (tyN d) "bool" = some (isB d)
  | .none => by show kitB "NoneType" "bool" = some false; decide +kernel
  | .bool _ => by show kitB "bool" "bool" = some true; decide +kernel
  | .int _ => by show kitB "int" "bool" = some false; decide +kernel
  | .str _ => by show kitB "str" "bool" = some false; decide +kernel
  | .list _ => by show kitB "list" "bool" = some false; decide +kernel
  | .tuple _ => by show kitB "tuple" "bool" = some false; decide +kernel
  | .dict _ => by show kitB "dict" "bool" = some false; decide +kernel
theorem kit_tuple : ∀ d : PyData, kitB (tyN d) "tuple" = some (isT d)
  | .none => by show kitB "NoneType" "tuple" = some false; decide +kernel
  | .bool _ => by show kitB "bool" "tuple" = some false; decide +kernel
  | .int _ => by show kitB "int" "tuple" = some false; decide +kernel
  | .str _ => by show kitB "str" "tuple" = some false; decide +kernel
  | .list _ => by show kitB "list" "tuple" = some false; decide +kernel
  | .tuple _ => by show kitB "tuple" "tuple" = some true; decide +kernel
  | .dict _ => by show kitB "dict" "tuple" = some false; decide +kernel

/-! ### zip of two tuples, enumerate of a list -/
theorem ext_same2 {H H' : Hp} (s : Same H H') : Ext H μ H' μ := Ext.same s
theorem s_zipT {ds es' : List PyData} {k : Nat} {elts : List Expr} {kk : Nat} {tpos : Pos} (hm : X.mg "zip" = none) (ha : PEv X a ρ μ (.d (.tuple ds)) μ1) (hb : PEv X b ρ μ1 (.d (.tuple es')) μ2) (hk : min ds.length es'.length = k) (hg : Gl X "zip" := by rfl)
    (hs : starEach [a, b] X.env = (false, eval a X.env) :: starEach [b] X.env := by rfl) (he2 : starEach [b] X.env = [(false, eval b X.env)] := by rfl) (hpl : (backTo pos (starEach [b] X.env)).any (·.1) = false := by rfl) :
    PIv X (.Tuple elts kk tpos) (.Call (.Name "zip" p) [a, b] [] pos) ρ μ k (fun i => .d (.tuple [ds.getD i .none, es'.getD i .none])) μ2 Anys :=
  pi_weak (RZ.pi_zipA hg hm (a_cons ha (a_cons hb a_nil (by rw [he2]; rfl)) hs) hs hpl) fun σ H R ⟨w, kc⟩ => ⟨w, fun vs H1 w1 e1 r1 => by
    obtain ⟨v, v', rfl, rv, rv'⟩ := p2_inv r1
    obtain ⟨q, ws, rfl, h1, pp⟩ := NowT.sq (μ := μ2) rfl rv
    obtain ⟨q', ws', rfl, h1', pp'⟩ := NowT.sq (μ := μ2) rfl rv'
    have hl : ws.length = ds.length := by rw [paired_len pp, List.length_map]
    have hl' : ws'.length = es'.length := by rw [paired_len pp', List.length_map]
    have hh : hide H1 μ2 q = some (.tup ws) := by
      cases (show DR (hide H1 μ2) (.ref q) (.tuple ds) from rv) with
      | tup g1 g2 =>
        have := hide_le _ _ g1
        rw [h1] at this
        cases this
        exact g1
    have hh' : hide H1 μ2 q' = some (.tup ws') := by
      cases (show DR (hide H1 μ2) (.ref q') (.tuple es') from rv') with
      | tup g1 g2 =>
        have := hide_le _ _ g1
        rw [h1'] at this
        cases this
        exact g1
    refine ⟨q, q', ws, ws', rfl, .inr ⟨SqT.of h1, SqT.of h1', kc _ H1 w1 e1 fun i H2 ν m2 e2 _ => ?_⟩⟩
    have g2 : H2 q = some (.tup ws) := hide_le _ _ (e2.hid _ _ hh)
    have g2' : H2 q' = some (.tup ws') := hide_le _ _ (e2.hid _ _ hh')
    refine ⟨fun hi => ⟨ws, ws', SqT.of g2, SqT.of g2', by omega⟩, fun hi => ?_⟩
    have hi1 : i < ws.length := by omega
    have hi2 : i < ws'.length := by omega
    refine ⟨⟨ws, ws', ws[i], ws'[i], SqT.of g2, SqT.of g2', List.getElem?_eq_getElem hi1, List.getElem?_eq_getElem hi2⟩, fun x H' hy => ?_⟩
    obtain ⟨T, u, u', rfl, nT, rfl, f1, f2⟩ := hy
    refine ⟨same_upd nT, ?_⟩
    obtain ⟨s1, a3, a4⟩ := paired_get' (i := i) pp (f1 ws (SqT.of g2))
    obtain ⟨s2, b3, b4⟩ := paired_get' (i := i) pp' (f2 ws' (SqT.of g2'))
    rw [List.getElem?_map] at a3 b3
    have d1 : ds[i]? = some (ds.getD i .none) := by rw [List.getElem?_eq_getElem (by omega), List.getD_eq_getElem?_getD, List.getElem?_eq_getElem (by omega)]; rfl
    have d2 : es'[i]? = some (es'.getD i .none) := by rw [List.getElem?_eq_getElem (by omega), List.getD_eq_getElem?_getD, List.getElem?_eq_getElem (by omega)]; rfl
    rw [d1] at a3
    rw [d2] at b3
    cases a3
    cases b3
    exact new_tup (ds := [ds.getD i .none, es'.getD i .none]) m2 nT (.cons (a4.ext e2) (.cons (b4.ext e2) .nil))⟩
theorem s_enumS {k : Nat} {ds : List PyData} {elts : List Expr} {kk : Nat} {tpos : Pos} {S : Mu → Prop} (hm : X.mg "enumerate" = none) (ha : PEv X a ρ μ x μ1) (h1 : NowL μ1 x (ds.map .d)) (hS : ∀ ν, S ν → NowL ν x (ds.map .d)) (hk : ds.length = k) (hg : Gl X "enumerate" := by rfl)
    (hs : starEach [a] X.env = [(false, eval a X.env)] := by rfl) :
    PIv X (.Tuple elts kk tpos) (.Call (.Name "enumerate" p) [a] [] pos) ρ μ k (fun i => .d (.tuple [.int (i : Int), ds.getD i .none])) μ1 S :=
  pi_weak (pi_enum hg hm (a_cons ha a_nil (by rw [hs]; rfl)) hs) fun σ H R ⟨w, kc⟩ => ⟨w, fun vs H1 w1 e1 r1 => by
    obtain ⟨v, rfl, rv⟩ := p1_inv r1
    obtain ⟨q, ws, rfl, h2, pp⟩ := h1.sq w1.mu rv
    refine ⟨q, ws, rfl, SqL.of h2, kc _ H1 w1 e1 fun i H2 ν m2 e2 sm => ?_⟩
    obtain ⟨q2, ws2, eq2, g2, pp2⟩ := (hS ν sm).sq m2 (rv.ext e2)
    cases eq2
    have hl : ws2.length = ds.length := by rw [paired_len pp2, List.length_map]
    refine ⟨fun hi => ⟨ws2, SqL.of g2, by omega⟩, fun hi => ?_⟩
    have hi1 : i < ws2.length := by omega
    refine ⟨⟨ws2, ws2[i], SqL.of g2, List.getElem?_eq_getElem hi1⟩, fun x H' hy => ?_⟩
    obtain ⟨T, u, rfl, nT, rfl, f1⟩ := hy
    refine ⟨same_upd nT, ?_⟩
    obtain ⟨s1, a3, a4⟩ := paired_get' (i := i) pp2 (f1 ws2 (SqL.of g2))
    rw [List.getElem?_map] at a3
    have d1 : ds[i]? = some (ds.getD i .none) := by rw [List.getElem?_eq_getElem (by omega), List.getD_eq_getElem?_getD, List.getElem?_eq_getElem (by omega)]; rfl
    rw [d1] at a3
    cases a3
    exact new_tup (ds := [.int (i : Int), ds.getD i .none]) m2 nT (.cons (.int (i : Int)) (.cons a4 .nil))⟩

/-! ### dicts with int keys -/
def valS (kvs : List (Int × Sl)) (k : Int) : Option Sl := (kvs.find? fun kv => decide (kv.1 = k)).map (·.2)
def putS (kvs : List (Int × Sl)) (k : Int) (v : Sl) : List (Int × Sl) :=
  if (kvs.any fun kv => decide (kv.1 = k)) = true then kvs.map (fun kv => if kv.1 = k then (kv.1, v) else kv) else kvs ++ [(k, v)]
theorem valS_nil {k : Int} : valS [] k = none := rfl
theorem valS_cons {q : Int × Sl} {r : List (Int × Sl)} {k : Int} : valS (q :: r) k = if q.1 = k then some q.2 else valS r k := by
  unfold valS
  rw [List.find?_cons]
  by_cases h : q.1 = k
  · simp [h]
  · simp [h]
theorem valS_any (k : Int) : ∀ kvs : List (Int × Sl), (kvs.any fun kv => decide (kv.1 = k)) = (valS kvs k).isSome
  | [] => rfl
  | q :: r => by
    rw [List.any_cons, valS_cons, valS_any k r]
    by_cases h : q.1 = k
    · simp [h]
    · simp [h]
theorem valS_map (k j : Int) (y : Sl) : ∀ kvs : List (Int × Sl), valS (kvs.map fun kv => if kv.1 = k then (kv.1, y) else kv) j = (valS kvs j).map fun x => if j = k then y else x
  | [] => rfl
  | q :: r => by
    rw [List.map_cons, valS_cons, valS_cons, valS_map k j y r]
    have e1 : (if q.1 = k then (q.1, y) else q).1 = q.1 := by split <;> rfl
    rw [e1]
    by_cases hj : q.1 = j
    · rw [if_pos hj, if_pos hj]
      by_cases h : q.1 = k
      · rw [if_pos h]
        show some y = some (if j = k then y else q.2)
        rw [if_pos (hj.symm.trans h)]
      · rw [if_neg h]
        show some q.2 = some (if j = k then y else q.2)
        rw [if_neg (fun z => h (hj.trans z))]
    · rw [if_neg hj, if_neg hj]
theorem valS_app (k j : Int) (y : Sl) : ∀ kvs : List (Int × Sl), valS (kvs ++ [(k, y)]) j = (valS kvs j).or (if k = j then some y else none)
  | [] => by
    show valS [(k, y)] j = _
    rw [valS_cons, valS_nil]
    rfl
  | q :: r => by
    rw [List.cons_append, valS_cons, valS_cons, valS_app k j y r]
    by_cases hj : q.1 = j
    · rw [if_pos hj, if_pos hj]; rfl
    · rw [if_neg hj, if_neg hj]
theorem valS_put {kvs : List (Int × Sl)} {k j : Int} {y : Sl} : valS (putS kvs k y) j = if j = k then some y else valS kvs j := by
  unfold putS
  have ha := valS_any k kvs
  by_cases h : (kvs.any fun kv => decide (kv.1 = k)) = true
  · rw [if_pos h, valS_map]
    rw [ha] at h
    by_cases e : j = k
    · subst e
      rw [if_pos rfl]
      obtain ⟨z, hz⟩ := Option.isSome_iff_exists.mp h
      rw [hz]; simp
    · simp [e]
  · rw [if_neg h, valS_app]
    rw [ha] at h
    by_cases e : j = k
    · subst e
      have hz : valS kvs j = none := by
        cases q : valS kvs j with
        | none => rfl
        | some u => rw [q] at h; exact absurd rfl h
      rw [hz]; simp
    · have e' : ¬ k = j := fun z => e z.symm
      rw [if_neg e', if_neg e]
      cases valS kvs j <;> rfl
abbrev KvR (H : Hp) (q : Key × V) (r : Int × Sl) : Prop := q.1 = Sum.inl r.1 ∧ SR H q.2 r.2
theorem kv_val {H : Hp} {k : Int} : ∀ {ws : List (Key × V)} {kvs : List (Int × Sl)}, Paired (KvR H) ws kvs → match valS kvs k with | none => valV ws (Sum.inl k : Key) = none | some x => ∃ v, valV ws (Sum.inl k : Key) = some v ∧ SR H v x
  | _, _, .nil => rfl
  | q :: ws, r :: kvs, .cons h t => by
    have ih := kv_val (k := k) t
    rw [valS_cons]
    by_cases e : r.1 = k
    · rw [if_pos e]
      exact ⟨q.2, valV_pos (by rw [h.1, e]), h.2⟩
    · rw [if_neg e, valV_neg (by rw [h.1]; exact fun z => e (Sum.inl.inj z))]
      exact ih
theorem kv_any {H : Hp} {k : Int} : ∀ {ws : List (Key × V)} {kvs : List (Int × Sl)}, Paired (KvR H) ws kvs → (ws.any fun kv => decide (kv.1 = (Sum.inl k : Key))) = (kvs.any fun kv => decide (kv.1 = k))
  | _, _, .nil => rfl
  | q :: ws, r :: kvs, .cons h t => by
    rw [List.any_cons, List.any_cons, kv_any t, h.1]
    by_cases e : r.1 = k
    · simp [e]
    · have : ¬ (Sum.inl r.1 : Key) = Sum.inl k := fun z => e (Sum.inl.inj z)
      simp [e]
theorem kv_put {H : Hp} {k : Int} {v : V} {x : Sl} (r : SR H v x) {ws : List (Key × V)} {kvs : List (Int × Sl)} (pp : Paired (KvR H) ws kvs) : Paired (KvR H) (putK ws (Sum.inl k : Key) v) (putS kvs k x) := by
  unfold putK putS
  rw [kv_any pp]
  split
  · have : ∀ {ws : List (Key × V)} {kvs : List (Int × Sl)}, Paired (KvR H) ws kvs → Paired (KvR H) (ws.map fun kv => if kv.1 = (Sum.inl k : Key) then (kv.1, v) else kv) (kvs.map fun kv => if kv.1 = k then (kv.1, x) else kv) := fun pp => by
      induction pp with
      | nil => exact .nil
      | @cons q s ws kvs h t ih =>
        rw [List.map_cons, List.map_cons]
        refine .cons ?_ ih
        by_cases e : s.1 = k
        · have e' : q.1 = (Sum.inl k : Key) := by rw [h.1, e]
          rw [if_pos e, if_pos e']
          exact ⟨h.1, r⟩
        · have e' : ¬ q.1 = (Sum.inl k : Key) := by rw [h.1]; exact fun z => e (Sum.inl.inj z)
          rw [if_neg e, if_neg e']
          exact h
    exact this pp
  · exact paired_app pp (.cons ⟨rfl, r⟩ .nil)
theorem kv_ext {H H' : Hp} {ws : List (Key × V)} {kvs : List (Int × Sl)} (pp : Paired (KvR (hide H μ)) ws kvs) (e : Ext H μ H' μ1) : Paired (KvR (hide H' μ1)) ws kvs := Paired.mapL pp fun _ _ z => ⟨z.1, z.2.ext e⟩
/-- {} -/
theorem w_dict : PEw X (.Dict [] [] pos) ρ μ (fun y ν => ∃ q, mget μ q = none ∧ y = .m q ∧ ν = (q, .dct []) :: μ) :=
  pe_weak pe_dnewK fun σ H Q ⟨w0, k⟩ q nq => by
    have ex := ext_new (μ := μ) (o := .dK []) (u := .dct []) nq
    exact k _ _ (.m q) _ ⟨q, w0.mu.fresh nq, rfl, rfl⟩ (w0.ext (mu_new w0.mu nq ⟨[], upd_same, .nil⟩) ex) ex rfl
/-- k in d, k not in d -/
theorem t_din {q : Addr} {k : Int} {kvs : List (Int × Sl)} (hu : X.A.units + 1 < cLine) (hi : PEv X a ρ μ (.d (.int k)) μ1) (ho : PEv X o ρ μ1 (.m q) μ2) (h : mget μ2 q = some (.dct kvs)) (hb : behindInMarks .In o = false := by with_unfolding_all rfl) : PTv X (.Compare a [.In] [o] pos) ρ μ (valS kvs k).isSome μ2 :=
  pt_weak (pt_cmp (pc_din hu hi ho) hb) fun σ H Q ⟨w, kk⟩ => ⟨w, fun v H1 w1 e1 r1 => ⟨w1, fun u H2 w2 e2 r2 => by
    obtain ⟨ws, h1, pp⟩ := w2.mu q _ h
    refine ⟨q, valV ws (Sum.inl k), r2, by rw [dp_int r1]; exact DGet.k (k := Sum.inl k) h1, _, rfl, ?_⟩
    have ev := kv_val (k := k) pp
    have e : (valV ws (Sum.inl k : Key)).isSome = (valS kvs k).isSome := by
      cases q' : valS kvs k with
      | none => rw [q'] at ev; rw [ev]; rfl
      | some z => rw [q'] at ev; obtain ⟨v, hv, _⟩ := ev; rw [hv]; rfl
    rw [e]
    exact kk H2 w2 (e1.trans e2)⟩⟩
theorem t_dnotin {q : Addr} {k : Int} {kvs : List (Int × Sl)} (hu : X.A.units + 1 < cLine) (hi : PEv X a ρ μ (.d (.int k)) μ1) (ho : PEv X o ρ μ1 (.m q) μ2) (h : mget μ2 q = some (.dct kvs)) (hb : behindInMarks .NotIn o = false := by with_unfolding_all rfl) : PTv X (.Compare a [.NotIn] [o] pos) ρ μ (!(valS kvs k).isSome) μ2 :=
  pt_weak (pt_cmp (pc_dnotin hu hi ho) hb) fun σ H Q ⟨w, kk⟩ => ⟨w, fun v H1 w1 e1 r1 => ⟨w1, fun u H2 w2 e2 r2 => by
    obtain ⟨ws, h1, pp⟩ := w2.mu q _ h
    refine ⟨q, valV ws (Sum.inl k), r2, by rw [dp_int r1]; exact DGet.k (k := Sum.inl k) h1, _, rfl, ?_⟩
    have ev := kv_val (k := k) pp
    have e : (valV ws (Sum.inl k : Key)).isSome = (valS kvs k).isSome := by
      cases q' : valS kvs k with
      | none => rw [q'] at ev; rw [ev]; rfl
      | some z => rw [q'] at ev; obtain ⟨v, hv, _⟩ := ev; rw [hv]; rfl
    rw [e]
    exact kk H2 w2 (e1.trans e2)⟩⟩
/-- d[k], it is there -/
theorem v_dget {q : Addr} {k : Int} {kvs : List (Int × Sl)} (hu : X.A.units + 1 < cLine) (ho : PEv X o ρ μ (.m q) μ1) (hi : PEv X a ρ μ1 (.d (.int k)) μ2) (h : mget μ2 q = some (.dct kvs)) (hk : valS kvs k = some x) (hs : NoSl a := by intro _ _; rfl) : PEv X (.Subscript o a pos) ρ μ x μ2 :=
  pe_weak (pe_dget hu ho hi hs) fun σ H Q ⟨w, kk⟩ => ⟨w, fun v H1 w1 e1 r1 => ⟨w1, fun u H2 w2 e2 r2 => by
    obtain ⟨ws, h1, pp⟩ := w2.mu q _ h
    have ev := kv_val (k := k) pp
    rw [hk] at ev
    obtain ⟨v', hv, sv⟩ := ev
    refine ⟨q, v', r1, ?_, kk v' H2 w2 (e1.trans e2) sv⟩
    rw [dp_int r2, ← hv]
    exact DGet.k (k := Sum.inl k) h1⟩⟩
/-- d.get(k) -/
theorem v_dgetM {q : Addr} {k : Int} {kvs : List (Int × Sl)} {apos : Pos} (hu : X.A.units + 1 < cLine) (ho : PEv X o ρ μ (.m q) μ1) (hi : PEv X a ρ μ1 (.d (.int k)) μ2) (h1 : mget μ1 q = some (.dct kvs)) (h : mget μ2 q = some (.dct kvs)) (m : M1 X o "get" apos a pos) : PEv X (.Call (.Attribute o "get" apos) [a] [] pos) ρ μ ((valS kvs k).getD (.d .none)) μ2 :=
  pe_weak (pe_dget1 hu ho hi m) fun σ H Q ⟨w, kk⟩ => ⟨w, fun v H1 w1 e1 r1 => by
    obtain ⟨ws0, h0, _⟩ := w1.mu q _ h1
    refine ⟨q, r1, .inl ⟨ws0, .inl h0⟩, w1, fun u H2 w2 e2 r2 => ?_⟩
    obtain ⟨ws, h1, pp⟩ := w2.mu q _ h
    refine ⟨valV ws (Sum.inl k), by rw [dp_int r2]; exact DGet.k (k := Sum.inl k) h1, kk _ H2 w2 (e1.trans e2) ?_⟩
    have ev := kv_val (k := k) pp
    cases q' : valS kvs k with
    | none => rw [q'] at ev; rw [ev]; exact .non
    | some z => rw [q'] at ev; obtain ⟨v, hv, sv⟩ := ev; rw [hv]; exact sv⟩
/-- d[k] = e -/
theorem go_dput {q : Addr} {k : Int} {kvs : List (Int × Sl)} {pos' : Pos} (hu : X.A.units + 1 < cLine) (hv : PEv X e ρ μ x μ1) (ho : PEv X o ρ μ1 (.m q) μ2) (hi : PEv X a ρ μ2 (.d (.int k)) μ3) (h : mget μ3 q = some (.dct kvs)) (hz : kvs.length < sizeLine)
    (kk : Go X B rest D ρ (mset μ3 q (.dct (putS kvs k x)))) (hs : swapsWith e (some (.Subscript o a pos')) pos.line X.env = pure false := by rfl) : Go X B (.Assign [.Subscript o a pos'] e pos :: rest) D ρ μ :=
  go_cons (ps_dput hu ho hi hv hs) fun σ H w ex => ⟨w, fun v H1 w1 e1 r1 => ⟨w1, fun u H2 w2 e2 r2 => ⟨w2, fun u3 H3 w3 e3 r3 => by
    obtain ⟨ws, h1, pp⟩ := w3.mu q _ h
    have hl : ws.length = kvs.length := paired_len pp
    refine ⟨q, _, r2, by rw [dp_int r3]; exact DPut.k (k := Sum.inl k) h1 (by rw [hl]; exact hz), ?_⟩
    have es := ext_set (H := H3) (o := .dK (putK ws (Sum.inl k) v)) (u' := .dct (putS kvs k x)) h
    have m' : MuOk (upd H3 q (.dK (putK ws (Sum.inl k) v))) (mset μ3 q (.dct (putS kvs k x))) := mu_set w3.mu h ⟨_, upd_same, kv_put (((r1.ext e2).ext e3).ext es) (kv_ext pp es)⟩
    exact kk σ _ (w3.ext m' es) (ex.trans ((e1.trans (e2.trans e3)).trans es))⟩⟩⟩

/-! ### instances -/
def putA (f : Str) (x : Sl) : List (Str × Sl) → List (Str × Sl)
  | [] => [(f, x)]
  | (g, y) :: r => if g = f then (g, x) :: r else (g, y) :: putA f x r
abbrev AtR (H : Hp) (q : Str × V) (r : Str × Sl) : Prop := q.1 = r.1 ∧ SR H q.2 r.2
theorem at_look {H : Hp} {f : Str} : ∀ {ws : List (Str × V)} {fs : List (Str × Sl)}, Paired (AtR H) ws fs → match fs.lookup f with | none => ws.lookup f = none | some x => ∃ v, ws.lookup f = some v ∧ SR H v x
  | _, _, .nil => rfl
  | (g, v) :: ws, (g', x) :: fs, .cons h t => by
    have ih := at_look (f := f) t
    obtain ⟨h1, h2⟩ := h
    cases (show g = g' from h1)
    simp only [List.lookup]
    cases f == g with
    | true => exact ⟨v, rfl, h2⟩
    | false => exact ih
theorem at_put {H : Hp} {f : Str} {v : V} {x : Sl} (r : SR H v x) : ∀ {ws : List (Str × V)} {fs : List (Str × Sl)}, Paired (AtR H) ws fs → Paired (AtR H) (putF f v ws) (putA f x fs)
  | _, _, .nil => .cons ⟨rfl, r⟩ .nil
  | (g, u) :: ws, (g', y) :: fs, .cons h t => by
    obtain ⟨h1, h2⟩ := h
    cases (show g = g' from h1)
    show Paired (AtR H) (if g = f then (g, v) :: ws else (g, u) :: putF f v ws) (if g = f then (g, x) :: fs else (g, y) :: putA f x fs)
    by_cases e : g = f
    · rw [if_pos e, if_pos e]; exact .cons ⟨rfl, r⟩ t
    · rw [if_neg e, if_neg e]; exact .cons ⟨rfl, h2⟩ (at_put r t)
theorem at_ext {H H' : Hp} {ws : List (Str × V)} {fs : List (Str × Sl)} (pp : Paired (AtR (hide H μ)) ws fs) (e : Ext H μ H' μ1) : Paired (AtR (hide H' μ1)) ws fs := Paired.mapL pp fun _ _ z => ⟨z.1, z.2.ext e⟩
/-- e.f -/
theorem v_fld {q C : Addr} {f : Str} {fs : List (Str × Sl)} (cl : Cls X.K C) (nf : NoAttr X.K C f) (ha : PEv X e ρ μ (.m q) μ1) (h : mget μ1 q = some (.ins C fs)) (hf : fs.lookup f = some x) (hb : attributeBase e f X.env (eval e X.env) = eval e X.env := by rfl) : PEv X (.Attribute e f pos) ρ μ x μ1 :=
  pe_weak (pe_fld ha hb) fun σ H Q ⟨w, k⟩ => ⟨w, fun v H1 w1 e1 r1 => by
    obtain ⟨dx, ws, h1, pp⟩ := w1.mu q _ h
    have hl := at_look (f := f) pp
    rw [hf] at hl
    obtain ⟨u, hu, su⟩ := hl
    exact ⟨q, C, dx, ws, u, r1, h1, cl, nf, hu, k u H1 w1 e1 su⟩⟩
/-- o.f = e -/
theorem go_fld {q C : Addr} {f : Str} {fs : List (Str × Sl)} {pos' : Pos} (cl : Cls X.K C) (nf : NoAttr X.K C f) (hv : PEv X e ρ μ x μ1) (ha : PEv X o ρ μ1 (.m q) μ2) (h : mget μ2 q = some (.ins C fs)) (hl : fs.length < 1000)
    (k : Go X B rest D ρ (mset μ2 q (.ins C (putA f x fs)))) (hs : swapsWith e (some (.Attribute o f pos')) pos.line X.env = pure false := by rfl) : Go X B (.Assign [.Attribute o f pos'] e pos :: rest) D ρ μ :=
  go_cons (ps_fld ha hv hs) fun σ H w ex => ⟨w, fun v H1 w1 e1 r1 => ⟨w1, fun u H2 w2 e2 r2 => by
    obtain ⟨dx, ws, h1, pp⟩ := w2.mu q _ h
    refine ⟨q, C, dx, ws, r2, h1, cl, nf, by rw [paired_len pp]; exact hl, ?_⟩
    have es := ext_set (H := H2) (o := .ins C dx (putF f v ws)) (u' := .ins C (putA f x fs)) h
    have m' : MuOk (upd H2 q (.ins C dx (putF f v ws))) (mset μ2 q (.ins C (putA f x fs))) := mu_set w2.mu h ⟨dx, _, upd_same, at_put ((r1.ext e2).ext es) (at_ext pp es)⟩
    exact k σ _ (w2.ext m' es) (ex.trans ((e1.trans e2).trans es))⟩⟩
theorem go_fldw {post : Sl → Mu → Prop} {q C : Addr} {f : Str} {pos' : Pos} (cl : Cls X.K C) (nf : NoAttr X.K C f) (hv : PEw X e ρ μ post) (ha : ∀ x μ1, post x μ1 → PEv X o ρ μ1 (.m q) μ1 ∧ ∃ fs, mget μ1 q = some (.ins C fs) ∧ fs.length < 1000 ∧ Go X B rest D ρ (mset μ1 q (.ins C (putA f x fs))))
    (tt : TE) (ho : PE X o tt) (htt : ∀ x μ1, post x μ1 → ∀ σ H Q, tEv ρ μ1 (.m q) μ1 σ H Q → tt σ H Q) (hs : swapsWith e (some (.Attribute o f pos')) pos.line X.env = pure false := by rfl) : Go X B (.Assign [.Attribute o f pos'] e pos :: rest) D ρ μ :=
  go_cons (ps_fld ho hv hs) fun σ H w ex => ⟨w, fun v H1 x μ1 hp w1 e1 r1 => by
    obtain ⟨hv', fs, h, hl, k⟩ := ha x μ1 hp
    refine htt x μ1 hp _ _ _ ⟨w1, fun u H2 w2 e2 r2 => ?_⟩
    obtain ⟨dx, ws, h1, pp⟩ := w2.mu q _ h
    refine ⟨q, C, dx, ws, r2, h1, cl, nf, by rw [paired_len pp]; exact hl, ?_⟩
    have es := ext_set (H := H2) (o := .ins C dx (putF f v ws)) (u' := .ins C (putA f x fs)) h
    have m' : MuOk (upd H2 q (.ins C dx (putF f v ws))) (mset μ1 q (.ins C (putA f x fs))) := mu_set w2.mu h ⟨dx, _, upd_same, at_put ((r1.ext e2).ext es) (at_ext pp es)⟩
    exact k σ _ (w2.ext m' es) (ex.trans ((e1.trans e2).trans es))⟩
/-- the method m of the class at C keeps R (self first) -/
structure CalM (P : Program) (w : World) (K : PySem.W.Frag) (mg : Str → Option Value) (base : Heap) (C : Addr) (m : Str) (k : Nat) (R : Rel) : Prop where
  ex : ∃ (f : Addr) (fd : FuncData) (ps : List Str), FnOk P w K mg base CX0 k f fd ps (spR R) ∧ Meth K C m f ∧ Binds K fd ps []
  cl : Cls K C
theorem v_methG {k j : Nat} {R : Rel} {post : Sl → Mu → Prop} {q C : Addr} {m : Str} {fs : List (Str × Sl)} {apos : Pos} {pl : Sem Bool} (M : CalM X.prog X.w X.K X.mg X.base C m k R) (hr : Room j X.A) (hk : k ≤ j) (ho : PEv X o ρ μ (.m q) μ1) (h : mget μ1 q = some (.ins C fs)) (hf : fs.lookup m = none) (ha : PAv X (e :: es) ρ μ1 xs μ2)
    (hR : ∀ post' : Sl → Mu → Prop, (∀ r ν, post r ν → post' r ν) → R (.m q :: xs) μ2 post') (hst : starEach (e :: es) X.env = (false, eval e X.env) :: starEach es X.env := by rfl) (hpl : (backTo pos (starEach es X.env)).any (·.1) = false := by rfl)
    (ht : eval (.Call (.Attribute o m apos) (e :: es) [] pos) X.env = (do
      let ov ← eval o X.env
      standAt apos.atName
      let (f, first) ← holding [ov] (getMethod ov m pl)
      callWith pos f first (backTo pos (starEach (e :: es) X.env)) (backToKw pos (keywordEach [] X.env))) := by rfl) : PEw X (.Call (.Attribute o m apos) (e :: es) [] pos) ρ μ post := by
  obtain ⟨f, fd, ps, F, hm, hb⟩ := M.ex
  refine pe_weak (pe_meth (E := E0) (dvs := []) (pl := pl) ho M.cl hm F (hr.mono hk) hb .nil pass0 ha hst hpl ht) fun σ H Q ⟨w, kk⟩ => ⟨w, fun v H1 w1 e1 r1 => ?_⟩
  obtain ⟨dx, ws, h1, pp⟩ := w1.mu q _ h
  have hl := at_look (f := m) pp
  rw [hf] at hl
  refine ⟨q, dx, ws, r1, h1, hl, w1, fun vs H2 w2 e2 r2 => ?_⟩
  show spR R (v :: (vs ++ [])) H2 Q E0
  rw [List.append_nil]
  exact ⟨.m q :: xs, μ2, .cons (r1.ext e2) r2, w2.mu, hR _ fun r ν hp v' H' m' e' sr => kk v' H' r ν hp (w2.ext m' e') ((e1.trans e2).trans e') sr⟩
theorem v_meth {k j : Nat} {R : Rel} {q C : Addr} {m : Str} {fs : List (Str × Sl)} {apos : Pos} {pl : Sem Bool} (M : CalM X.prog X.w X.K X.mg X.base C m k R) (hr : Room j X.A) (hk : k ≤ j) (ho : PEv X o ρ μ (.m q) μ1) (h : mget μ1 q = some (.ins C fs)) (hf : fs.lookup m = none) (ha : PAv X (e :: es) ρ μ1 xs μ2)
    (hR : Det R (.m q :: xs) μ2 x μ3) (hst : starEach (e :: es) X.env = (false, eval e X.env) :: starEach es X.env := by rfl) (hpl : (backTo pos (starEach es X.env)).any (·.1) = false := by rfl)
    (ht : eval (.Call (.Attribute o m apos) (e :: es) [] pos) X.env = (do
      let ov ← eval o X.env
      standAt apos.atName
      let (f, first) ← holding [ov] (getMethod ov m pl)
      callWith pos f first (backTo pos (starEach (e :: es) X.env)) (backToKw pos (keywordEach [] X.env))) := by rfl) : PEv X (.Call (.Attribute o m apos) (e :: es) [] pos) ρ μ x μ3 :=
  pe_weak (v_methG (post := fun r ν => r = x ∧ ν = μ3) M hr hk ho h hf ha (fun post' hp => hR post' (hp x μ3 ⟨rfl, rfl⟩)) hst hpl ht) fun σ H Q ⟨w, kk⟩ => ⟨w, fun v H' r ν hp w1 e1 sr => by
    obtain ⟨rfl, rfl⟩ := hp
    exact kk v H' w1 e1 sr⟩
/-- the class is made by calls: its __init__ keeps R -/
structure CalC (P : Program) (w : World) (K : PySem.W.Frag) (mg : Str → Option Value) (base : Heap) (n : Str) (C : Addr) (k : Nat) (R : Rel) : Prop where
  ex : ∃ (f : Addr) (fd : FuncData) (ps : List Str), FnOk P w K mg base CX0 k f fd ps (spR R) ∧ Mk K C f ∧ Binds K fd ps [] ∧ mg n = some (.ref C)
theorem v_make {k j : Nat} {R : Rel} {post : Sl → Mu → Prop} {C : Addr} (M : CalC X.prog X.w X.K X.mg X.base n C k R) (hr : Room j X.A) (hk : k + 1 ≤ j) (ha : PAv X (e :: es) ρ μ xs μ1)
    (hR : ∀ q, mget μ1 q = none → ∀ post' : Sl → Mu → Prop, (∀ ν, post (.m q) ν → post' (.d .none) ν) → R (.m q :: xs) ((q, .ins C []) :: μ1) post') (hg : Gl X n := by rfl) (hdb : (n == ("__debug__" : Str)) = false := by decide)
    (he : starEach (e :: es) X.env = (false, eval e X.env) :: starEach es X.env := by rfl) (hpl : (backTo pos (starEach es X.env)).any (·.1) = false := by rfl) : PEw X (.Call (.Name n p) (e :: es) [] pos) ρ μ post := by
  obtain ⟨f, fd, ps, F, mk, hb, hm⟩ := M.ex
  refine pe_weak (pe_make (E := E0) (dvs := []) mk F (hr.mono hk) hg hm hb .nil pass0 ha hdb he hpl) fun σ H Q ⟨w, kk⟩ => ⟨w, fun vs H1 w1 e1 r1 q dx nq ndx ne => ?_⟩
  show spR R (.ref q :: (vs ++ [])) (upd (upd H1 dx (.own q)) q (.ins C dx [])) (fun v H2 => v = .non ∧ Q (.ref q) H2) E0
  rw [List.append_nil]
  have s1 : Same H1 (upd H1 dx (.own q)) := same_upd ndx
  have nq' : (upd H1 dx (.own q)) q = none := by rw [upd_ne (fun z => ne z.symm)]; exact nq
  have ex : Ext H1 μ1 (upd (upd H1 dx (.own q)) q (.ins C dx [])) ((q, .ins C []) :: μ1) := (Ext.same s1).trans (ext_new nq')
  have m' : MuOk (upd (upd H1 dx (.own q)) q (.ins C dx [])) ((q, .ins C []) :: μ1) := mu_new (w1.mu.same s1) nq' ⟨dx, [], upd_same, .nil⟩
  refine ⟨.m q :: xs, (q, .ins C []) :: μ1, .cons rfl (Paired.mapL r1 fun _ _ z => z.ext ex), m', hR q (w1.mu.fresh nq) _ fun ν hp v H' m2 e2 sr => ?_⟩
  refine ⟨dp_non sr, kk _ H' (.m q) ν hp (w1.ext m2 (ex.trans e2)) ((e1.trans ex).trans e2) rfl⟩
end
end Fw

namespace Fw
open PySem PySem.Spec PyProof.Rows L2
section
variable {X : Cx} {B : Hp × Mu} {D : Ends} {a b c e o : Expr} {es : List Expr} {st : Stmt} {sts rest body els : List Stmt} {ρ : En} {μ μ1 μ2 μ3 : Mu} {x y z : Sl} {xs : List Sl} {pos p : Pos} {n : Str} {t : TS}
/-- stores alike -/
def MuEq (μ μ' : Mu) : Prop := ∀ q, mget μ q = mget μ' q
theorem MuEq.hide {H : Hp} {μ' : Mu} (h : MuEq μ μ') : hide H μ = hide H μ' := by
  funext q
  unfold Fw.hide
  rw [h q]
theorem MuEq.ok {H : Hp} {μ' : Mu} (h : MuEq μ μ') (m : MuOk H μ) : MuOk H μ' := fun q o e => by
  rw [← h q] at e
  rw [← h.hide]
  exact m q o e
theorem MuEq.ext {H H' : Hp} {ν μ' : Mu} (h : MuEq μ μ') (e : Ext H ν H' μ) : Ext H ν H' μ' := fun b o hb nb => by
  rw [← h b]
  exact e b o hb nb
theorem MuEq.w {H : Hp} {σ : L2.St} {μ' : Mu} (h : MuEq μ μ') (w : W H σ ρ μ) : W H σ ρ μ' := ⟨h.ok w.mu, w.len, fun i x hi nx => by
  rw [← h.hide]
  exact w.slot i x hi nx⟩
theorem MuEq.sr {H : Hp} {v : V} {μ' : Mu} (h : MuEq μ μ') (r : SR (Fw.hide H μ) v x) : SR (Fw.hide H μ') v x := by rw [← h.hide]; exact r
theorem MuEq.rfl' : MuEq μ μ := fun _ => rfl
theorem MuEq.swap {q r : Addr} {u v : MO} (h : q ≠ r) : MuEq ((q, u) :: (r, v) :: μ) ((r, v) :: (q, u) :: μ) := fun s => by
  show (if s = q then some u else if s = r then some v else mget μ s) = (if s = r then some v else if s = q then some u else mget μ s)
  by_cases h1 : s = q
  · rw [if_pos h1, if_neg (fun e => h (h1.symm.trans e)), if_pos h1]
  · rw [if_neg h1, if_neg h1]
theorem go_mueq {μ' : Mu} (h : MuEq μ μ') (k : Go X B sts D ρ μ') : Go X B sts D ρ μ := fun σ H w e => k σ H (h.w w) (h.ext e)
theorem rt_mueq {μ' : Mu} (h : MuEq μ μ') (k : RtOk B D x μ') : RtOk B D x μ := fun v H m e r => k v H (h.ok m) (h.ext e) (h.sr r)
/-! ### a comprehension whose items are slots -/
structure LcW (X : Cx) (elt tg : Expr) (ifs : List Expr) (scope : Scope) (vs : List Nat) (ρ : En) (n : Nat) (item : Nat → Sl) (μ1 : Mu) (S : Mu → Prop) (I : Nat → List Sl → Mu → Prop) : Prop where
  i0 : I 0 [] μ1
  al : ∀ i acc m, I i acc m → acc.length ≤ i
  nz : n ≤ sizeLine
  st : ∀ i acc m (D : Addr), i ≤ n → I i acc m → mget m D = none → S ((D, .lst acc) :: m)
  turn : ∀ i acc m (D : Addr), i < n → I i acc m → mget m D = none → ∃ (ρ' : En) (k : Bool) (ν : Mu), Blk X scope (fun Y => PGc Y vs tg (item i) (forg ρ vs) ((D, .lst acc) :: m) ρ') ∧
    Blk X scope (fun Y => PTsv Y ifs ρ' ((D, .lst acc) :: m) k ((D, .lst acc) :: ν)) ∧
    (k = true → ∃ post : Sl → Mu → Prop, Blk X scope (fun Y => PEw Y elt ρ' ((D, .lst acc) :: ν) post) ∧ ∀ x κ, post x κ → ∃ m', MuEq κ ((D, .lst acc) :: m') ∧ mget m' D = none ∧ I (i + 1) (acc ++ [x]) m') ∧
    (k = false → mget ν D = none ∧ I (i + 1) acc ν)
theorem lc_readW {elt tg : Expr} {ifs : List Expr} {scope : Scope} {vs : List Nat} {n : Nat} {item : Nat → Sl} {S : Mu → Prop} {I : Nat → List Sl → Mu → Prop} (L : LcW X elt tg ifs scope vs ρ n item μ1 S I)
    {σ : L2.St} {H : Hp} {Q : VK} (w : W H σ ρ μ) (fin : ∀ D H' acc m, I n acc m → W H' σ ρ ((D, .lst acc) :: m) → Ext H μ H' ((D, .lst acc) :: m) → mget m D = none → Q (.ref D) H') :
    tLc (tSrc ρ μ n item μ1 S) (bG X scope tg) (bT X scope ifs) (bE X scope elt) vs σ H Q := by
  refine ⟨w, fun J H1 w1 e1 jok D nD => ?_⟩
  have mD : mget μ1 D = none := w1.mu.fresh nD
  have ex0 : Ext H1 μ1 (upd H1 D (.lst [])) ((D, .lst []) :: μ1) := ext_new nD
  have mu0 : MuOk (upd H1 D (.lst [])) ((D, .lst []) :: μ1) := mu_new w1.mu nD ⟨[], upd_same, .nil⟩
  refine ⟨fun i m H => m = n - i ∧ i ≤ n ∧ ∃ acc ms, I i acc ms ∧ mget ms D = none ∧ W H σ ρ ((D, .lst acc) :: ms) ∧ Ext H1 μ1 H ((D, .lst acc) :: ms), ⟨n, by omega, by omega, [], μ1, L.i0, mD, w1.ext mu0 ex0, ex0⟩, ?_⟩
  rintro i m H2 ⟨em, hi, acc, ms, hI, nDi, w2, e2⟩
  obtain ⟨hstop, hgo⟩ := jok i H2 _ w2.mu e2 (L.st i acc ms D hi hI nDi)
  by_cases hlt : i < n
  · obtain ⟨g1, g2⟩ := hgo hlt
    obtain ⟨ρ', k, ν, hg, ht, hk1, hk2⟩ := L.turn i acc ms D hlt hI nDi
    refine .inr ⟨g1, fun H' => ∃ acc' ms', I (i + 1) acc' ms' ∧ mget ms' D = none ∧ W H' σ ρ ((D, .lst acc') :: ms') ∧ Ext H1 μ1 H' ((D, .lst acc') :: ms'), fun H' ⟨a1, a2, h0, h1, h2, h3⟩ => ⟨n - (i + 1), by omega, rfl, by omega, a1, a2, h0, h1, h2, h3⟩, fun x H' hy => ?_⟩
    obtain ⟨sm, sx⟩ := g2 x H' hy
    have w3 := w2.same sm
    have e3 := e2.trans (Ext.same sm)
    intro s0 H0 C cl fp pins s u I0 r0
    refine (hg s0 H0 C cl fp).run pins s (wipe σ vs) H' x u _ I0 r0 ⟨⟨w3.wipe vs, sx⟩, fun σ2 H4 w4 e4 s4 => ⟨s4.trans wipe_wipe, ?_⟩⟩
    refine fun s0 H0 C cl fp => ⟨_, ht s0 H0 C cl fp, w4, fun H5 w5 e5 => ?_⟩
    cases k with
    | true =>
      obtain ⟨post, he, hp⟩ := hk1 rfl
      refine iteT fun s0 H0 C cl fp => ⟨_, he s0 H0 C cl fp, w5, fun v H6 y κ pκ w6 e6 r6 => ?_⟩
      obtain ⟨m', eκ, nD', hI'⟩ := hp y κ pκ
      replace w6 := eκ.w w6
      replace e6 := eκ.ext e6
      replace r6 := eκ.sr r6
      have hget : mget ((D, MO.lst acc) :: m') D = some (.lst acc) := by rw [mget_cons, if_pos rfl]
      obtain ⟨ws, h6, pp⟩ := w6.mu D _ hget
      have e36 := e4.trans (e5.trans e6)
      have wσ : W H6 σ ρ ((D, .lst acc) :: m') := w3.ext w6.mu e36
      have ex := ext_set (H := H6) (o := .lst (ws ++ [v])) (u' := .lst (acc ++ [y])) hget
      have mm : MuOk (upd H6 D (.lst (ws ++ [v]))) (mset ((D, MO.lst acc) :: m') D (.lst (acc ++ [y]))) :=
        mu_set w6.mu hget ⟨_, upd_same, paired_app (Paired.mapL pp fun _ _ z => z.ext ex) (.cons (r6.ext ex) .nil)⟩
      rw [mset_cons] at ex mm
      exact ⟨ws, h6, by rw [paired_len pp]; have := L.al i acc ms hI; have := L.nz; omega, _, _, hI', nD', wσ.ext mm ex, (e3.trans e36).trans ex⟩
    | false =>
      obtain ⟨nν, hI'⟩ := hk2 rfl
      have e35 := e4.trans e5
      exact iteF ⟨_, _, hI', nν, w3.ext w5.mu e35, e3.trans e35⟩
  · have en : i = n := by omega
    subst en
    exact .inl ⟨hstop (Nat.le_refl _), fin D H2 acc ms hI w2 (e1.trans e2) nDi⟩
theorem w_lcW {elt tg iter : Expr} {ifs : List Expr} {scope : Scope} {own : List (Str × Nat)} {nn : Nat} {item : Nat → Sl} {S : Mu → Prop} {I : Nat → List Sl → Mu → Prop} (hi : PIv X tg iter ρ μ nn item μ1 S) (ok : BlkOk X.N X.env.scope scope own) (L : LcW X elt tg ifs scope (own.map (·.2)) ρ nn item μ1 S I) (hN : X.N.Nodup) (hc : X.calm = true := by rfl) (hs : ∀ x, foldedSetIterable iter X.env x = pure x := by intro _; rfl) :
    PEw X (.ListComp elt [⟨tg, iter, ifs, 0⟩] scope pos) ρ μ (fun y ν => ∃ D acc m, I nn acc m ∧ mget m D = none ∧ y = .m D ∧ ν = (D, .lst acc) :: m) :=
  pe_weak (pe_lc hc hN hi ok bg_ok bt_ok be_ok hs) fun σ H Q ⟨w, k⟩ => lc_readW L w fun D H' acc m hI w' e' nD => k _ H' (.m D) _ ⟨D, acc, m, hI, nD, rfl, rfl⟩ w' e' rfl
end
end Fw

namespace Fw
open PySem PySem.Spec PyProof.Rows L2
def rSumT (K : PySem.W.Frag) : List V → Hp → VK → Prop := fun vs H Q => ∃ (a : Addr) (ns : List Int), vs = [V.ref a] ∧ SqT K H a (ns.map V.int) ∧ Q (.int ns.sum) H
theorem cr_sumT {X : Cx} (hc : X.calm = true) : CallR X (.builtin "sum") (rSumT X.K) := by
  intro pins s σ H vs us Q I r h
  obtain ⟨a, ns, rfl, hs, q⟩ := h
  obtain ⟨its, rv, hl, _⟩ := I.tuple hs
  rw [Vals.ref1 r]
  obtain ⟨xs, e⟩ := rv.ints.allInts.items
  have hn : numsOf (intItems xs).toList = ns := by rw [← e]; exact rv.ints.numsOf
  rw [nums_intItems] at hn
  have hl' : s.heap.IsTuple a (intItems xs) := by rw [← e]; exact hl
  refine PySem.W.ktm_sumG (I.ok.hd hc) hl' fun h' tk t' hk => ?_
  rw [preSum_eq, List.take_of_length_le (by simp), hn]
  exact ⟨.int _, H, I.kept hk, ⟨_, rfl⟩, q⟩
section
variable {X : Cx} {B : Hp × Mu} {D : Ends} {a b c e o : Expr} {es : List Expr} {st : Stmt} {sts rest body els : List Stmt} {ρ : En} {μ μ1 μ2 μ3 : Mu} {x y z : Sl} {xs : List Sl} {pos p : Pos} {n : Str} {t : TS}
theorem v_sumT {ns : List Int} (hc : X.calm = true) (hm : X.mg "sum" = none) (ha : PEv X a ρ μ (.d (.tuple (ns.map .int))) μ1) (hg : Gl X "sum" := by rfl)
    (he : starEach [a] X.env = [(false, eval a X.env)] := by rfl) : PEv X (.Call (.Name "sum" p) [a] [] pos) ρ μ (.d (.int ns.sum)) μ1 :=
  v_cb (cr_sumT hc) (by decide +kernel) hm (a_cons ha a_nil (by rw [he]; rfl)) (fun H vs Q m r kk => by
    obtain ⟨v, rfl, hh⟩ := p1_inv r
    obtain ⟨q, vs, rfl, h1, pp⟩ := NowT.sq (μ := μ1) rfl hh
    rw [ints_of pp] at h1
    exact ⟨q, ns, rfl, SqT.of h1, kk _ H (Same.refl H) (.int _)⟩) hg (by decide) (by decide) (by rw [he]; rfl) (by rfl)
/-- the data of a slot, another way -/
theorem v_eqs {x' : Sl} (h : PEv X e ρ μ x μ1) (q : x = x') : PEv X e ρ μ x' μ1 := q ▸ h
theorem v_eqm {μ' : Mu} (h : PEv X e ρ μ x μ1) (q : μ1 = μ') : PEv X e ρ μ x μ' := q ▸ h
theorem go_mu {μ' : Mu} (h : μ = μ') (k : Go X B sts D ρ μ') : Go X B sts D ρ μ := h ▸ k
theorem go_rho {ρ' : En} (h : ρ = ρ') (k : Go X B sts D ρ' μ) : Go X B sts D ρ μ := h ▸ k
theorem getD_int {ns : List Int} {i : Nat} (h : i < ns.length) : (ns.map PyData.int).getD i .none = .int ns[i] := by
  rw [List.getD_eq_getElem?_getD, List.getElem?_map, List.getElem?_eq_getElem h]; rfl
theorem getD_get {α : Type} {ns : List α} {i : Nat} {z : α} (h : i < ns.length) : ns.getD i z = ns[i] := by
  rw [List.getD_eq_getElem?_getD, List.getElem?_eq_getElem h]; rfl
theorem take_succ_get {α : Type} {ns : List α} {i : Nat} (h : i < ns.length) : ns.take (i + 1) = ns.take i ++ [ns[i]] := by
  rw [List.take_succ, List.getElem?_eq_getElem h]; rfl
theorem t_chain {op op' : CmpOp} {g g' : Int → Int → Bool} {i j l : Int} (ho : OpR X (compareOp op) (rI0 fun i j => .bl (g i j))) (ho' : OpR X (compareOp op') (rI0 fun i j => .bl (g' i j))) (ha : PEv X a ρ μ (.d (.int i)) μ1) (hb : PEv X b ρ μ1 (.d (.int j)) μ2) (hc : PEv X c ρ μ2 (.d (.int l)) μ2)
    (hm : lastMarks [op, op'] [b, c] = false := by with_unfolding_all rfl) : PTv X (.Compare a [op, op'] [b, c] pos) ρ μ (g i j && g' j l) μ2 :=
  pt_weak (pt_chain ho ho' ha hb hc hm) fun σ H Q ⟨w, k⟩ => ⟨w, fun v H1 w1 e1 r1 => ⟨w1, fun u H2 w2 e2 r2 => ⟨i, j, dp_int r1, dp_int r2, g i j, rfl, by
    cases hg : g i j with
    | true =>
      rw [if_pos rfl]
      refine ⟨w2, fun t H3 w3 e3 r3 => ⟨j, l, dp_int r2, dp_int r3, _, rfl, ?_⟩⟩
      have := k H3 w3 ((e1.trans e2).trans e3)
      rw [hg] at this
      exact this
    | false =>
      rw [if_neg (by simp)]
      have := k H2 w2 (e1.trans e2)
      rw [hg] at this
      exact ⟨_, rfl, this⟩⟩⟩⟩
theorem t_eqb {k k' : Bool} (h : PTv X e ρ μ k μ1) (q : k = k') : PTv X e ρ μ k' μ1 := q ▸ h
theorem cutL_to {α : Type} (xs : List α) (k : Nat) : cutL xs none (some (k : Int)) = xs.take k := by
  unfold cutL
  rw [HT.sIx_none, show HT.sIx xs.length xs.length (some (k : Int)) = min k xs.length from HT.sIx_nat xs.length xs.length k]
  rw [List.drop_zero, Nat.sub_zero]
  by_cases h : k ≤ xs.length
  · rw [Nat.min_eq_left h]
  · rw [Nat.min_eq_right (by omega), List.take_length, List.take_of_length_le (by omega)]
theorem cutL_from {α : Type} (xs : List α) (k : Nat) : cutL xs (some (k : Int)) none = xs.drop k := by
  unfold cutL
  rw [HT.sIx_none, show HT.sIx xs.length 0 (some (k : Int)) = min k xs.length from HT.sIx_nat xs.length 0 k]
  by_cases h : k ≤ xs.length
  · rw [Nat.min_eq_left h]
    exact List.take_of_length_le (by rw [List.length_drop]; omega)
  · rw [Nat.min_eq_right (by omega), List.drop_length, List.drop_of_length_le (by omega)]
    simp
theorem atI_lastD {α : Type} {xs : List α} (h : xs ≠ []) : atI xs (-1) = some (xs.getLast h) := by
  have e : xs = xs.dropLast ++ [xs.getLast h] := (List.dropLast_concat_getLast h).symm
  have := atI_last xs.dropLast (xs.getLast h)
  rw [← e] at this
  exact this
theorem atI_map {α β : Type} (f : α → β) {xs : List α} {i : Int} {v : α} (h : atI xs i = some v) : atI (xs.map f) i = some (f v) := by
  unfold atI at h ⊢
  rw [List.length_map]
  cases e : ixN xs.length i with
  | none => rw [e] at h; cases h
  | some j =>
    rw [e] at h
    have h : xs[j]? = some v := h
    show (xs.map f)[j]? = some (f v)
    rw [List.getElem?_map, h]; rfl
theorem atI_get' {α : Type} {xs : List α} {k : Int} {v : α} (h0 : 0 ≤ k) (h : xs[k.toNat]? = some v) : atI xs k = some v := by
  have e : k = ((k.toNat : Nat) : Int) := by omega
  rw [e]
  have := atI_nat (xs := xs) (j := k.toNat) h
  rw [← e] at this ⊢
  exact this
end
end Fw

namespace Fw
open PySem PySem.Spec PyProof.Rows L2
section
variable {X : Cx} {a b c e o : Expr} {es : List Expr} {ρ : En} {μ μ1 μ2 μ3 : Mu} {x y z : Sl} {xs : List Sl} {pos p : Pos} {n : Str} {B : Hp × Mu} {D : Ends} {rest : List Stmt}
/-! ### arguments with several ways -/
def aW (X : Cx) (es : List Expr) : TA := fun σ H Q => ∃ t, PA X es t ∧ t σ H Q
theorem pa_wp : PA X es (aW X es) := ⟨fun p pins s σ H Q I ⟨t, h, ht⟩ => h.run p pins s σ H Q I ht⟩
def tAw (ρ : En) (μ : Mu) (post : List Sl → Mu → Prop) : TA := fun σ H Q => W H σ ρ μ ∧ ∀ vs H' xs μ', post xs μ' → W H' σ ρ μ' → Ext H μ H' μ' → Paired (SR (hide H' μ')) vs xs → Q vs H'
abbrev PAw (X : Cx) (es : List Expr) (ρ : En) (μ : Mu) (post : List Sl → Mu → Prop) : Prop := PA X es (tAw ρ μ post)
theorem aw_of {post : List Sl → Mu → Prop} (h : PAv X es ρ μ xs μ1) (hp : post xs μ1) : PAw X es ρ μ post := pa_weak h fun σ H Q ⟨w, k⟩ => ⟨w, fun vs H' w1 e1 r => k vs H' xs μ1 hp w1 e1 r⟩
theorem aw_cons {p1 : Sl → Mu → Prop} {post : List Sl → Mu → Prop} (ha : PEw X e ρ μ p1) (hr : ∀ x μ1, p1 x μ1 → PAw X es ρ μ1 (fun xs ν => post (x :: xs) ν)) (hs : starEach (e :: es) X.env = (false, eval e X.env) :: starEach es X.env := by rfl) : PAw X (e :: es) ρ μ post :=
  pa_weak (pa_cons ha pa_wp hs) fun σ H Q ⟨w0, k⟩ => ⟨w0, fun v H1 x μ1 hp w1 e1 r1 => ⟨_, hr x μ1 hp, w1, fun vs H2 xs μ2 hq w2 e2 r2 => k (v :: vs) H2 (x :: xs) μ2 hq w2 (e1.trans e2) (.cons (r1.ext e2) r2)⟩⟩
/-- a call with such arguments -/
theorem v_callW {k j : Nat} {dx : List Sl} {R : Rel} {post : Sl → Mu → Prop} {pa : List Sl → Mu → Prop} (C : Cal X.prog X.w X.K X.mg X.base n k dx R) (hr : Room j X.A) (hk : k ≤ j) (ha : PAw X (e :: es) ρ μ pa)
    (h : ∀ xs μ1, pa xs μ1 → ∀ post' : Sl → Mu → Prop, (∀ r ν, post r ν → post' r ν) → R (xs ++ dx) μ1 post') (hg : Gl X n := by rfl) (hdb : (n == ("__debug__" : Str)) = false := by decide)
    (he : starEach (e :: es) X.env = (false, eval e X.env) :: starEach es X.env := by rfl) (hpl : (backTo pos (starEach es X.env)).any (·.1) = false := by rfl) : PEw X (.Call (.Name n p) (e :: es) [] pos) ρ μ post := by
  obtain ⟨f, fd, ps, ds, dvs, F, hm, hkp, hb, hd, hdx⟩ := C.ex
  refine pe_weak (pe_call (E := E0) F (hr.mono hk) hg hm hkp hb hd pass0 ha hdb he hpl) fun σ H Q ⟨w, kk⟩ => ⟨w, fun vs H1 xs μ1 hp w1 e1 r1 => ?_⟩
  exact ⟨xs ++ dx, μ1, paired_app r1 (hdx _), w1.mu, h xs μ1 hp _ fun r ν hq v H' m' e' sr => kk v H' r ν hq (w1.ext m' e') (e1.trans e') sr⟩
/-- a method of an object that may be one of several -/
theorem v_methW {k j : Nat} {R : Rel} {post : Sl → Mu → Prop} {po : Sl → Mu → Prop} {C : Addr} {m : Str} {apos : Pos} {pl : Sem Bool} (M : CalM X.prog X.w X.K X.mg X.base C m k R) (hr : Room j X.A) (hk : k ≤ j) (ho : PEw X o ρ μ po)
    (h : ∀ y μ1, po y μ1 → ∃ q fs xs μ2, y = .m q ∧ mget μ1 q = some (.ins C fs) ∧ fs.lookup m = none ∧ PAv X (e :: es) ρ μ1 xs μ2 ∧ ∀ post' : Sl → Mu → Prop, (∀ r ν, post r ν → post' r ν) → R (.m q :: xs) μ2 post')
    (hst : starEach (e :: es) X.env = (false, eval e X.env) :: starEach es X.env := by rfl) (hpl : (backTo pos (starEach es X.env)).any (·.1) = false := by rfl)
    (ht : eval (.Call (.Attribute o m apos) (e :: es) [] pos) X.env = (do
      let ov ← eval o X.env
      standAt apos.atName
      let (f, first) ← holding [ov] (getMethod ov m pl)
      callWith pos f first (backTo pos (starEach (e :: es) X.env)) (backToKw pos (keywordEach [] X.env))) := by rfl) : PEw X (.Call (.Attribute o m apos) (e :: es) [] pos) ρ μ post := by
  obtain ⟨f, fd, ps, F, hm, hb⟩ := M.ex
  refine pe_weak (pe_meth (E := E0) (dvs := []) (pl := pl) ho M.cl hm F (hr.mono hk) hb .nil pass0 pa_wp hst hpl ht) fun σ H Q ⟨w, kk⟩ => ⟨w, fun v H1 y μ1 hp w1 e1 r1 => ?_⟩
  obtain ⟨q, fs, xs, μ2, rfl, hg, hf, ha, hR⟩ := h y μ1 hp
  obtain ⟨dx, ws, h1, pp⟩ := w1.mu q _ hg
  have hl := at_look (f := m) pp
  rw [hf] at hl
  refine ⟨q, dx, ws, r1, h1, hl, _, ha, w1, fun vs H2 w2 e2 r2 => ?_⟩
  show spR R (v :: (vs ++ [])) H2 Q E0
  rw [List.append_nil]
  exact ⟨.m q :: xs, μ2, .cons (r1.ext e2) r2, w2.mu, hR _ fun r ν hp v' H' m' e' sr => kk v' H' r ν hp (w2.ext m' e') ((e1.trans e2).trans e') sr⟩
/-- from several ways to the only one -/
theorem PEw.det {post : Sl → Mu → Prop} (h : PEw X e ρ μ post) (k : ∀ r ν, post r ν → r = x ∧ ν = μ1) : PEw X e ρ μ (fun r ν => r = x ∧ ν = μ1) := pe_weak h fun σ H Q ⟨w, kk⟩ => ⟨w, fun v H' r ν hp w1 e1 sr => kk v H' r ν (k r ν hp) w1 e1 sr⟩
theorem PEw.mono {post post' : Sl → Mu → Prop} (h : PEw X e ρ μ post) (k : ∀ r ν, post r ν → post' r ν) : PEw X e ρ μ post' := pe_weak h fun σ H Q ⟨w, kk⟩ => ⟨w, fun v H' r ν hp w1 e1 sr => kk v H' r ν (k r ν hp) w1 e1 sr⟩
def eW (X : Cx) (e : Expr) : TE := fun σ H Q => ∃ t, PE X e t ∧ t σ H Q
theorem pe_wp : PE X e (eW X e) := ⟨fun pins s σ H Q I ⟨t, h, ht⟩ => h.run pins s σ H Q I ht⟩
/-- o.f = e, of several ways -/
theorem go_fldW {post : Sl → Mu → Prop} {q C : Addr} {f : Str} {pos' : Pos} (cl : Cls X.K C) (nf : NoAttr X.K C f) (hv : PEw X e ρ μ post) (ha : ∀ x μ1, post x μ1 → ∃ fs μ2, PEv X o ρ μ1 (.m q) μ2 ∧ mget μ2 q = some (.ins C fs) ∧ fs.length < 1000 ∧ Go X B rest D ρ (mset μ2 q (.ins C (putA f x fs))))
    (hs : swapsWith e (some (.Attribute o f pos')) pos.line X.env = pure false := by rfl) : Go X B (.Assign [.Attribute o f pos'] e pos :: rest) D ρ μ :=
  go_cons (ps_fld pe_wp hv hs) fun σ H w ex => ⟨w, fun v H1 x μ1 hp w1 e1 r1 => by
    obtain ⟨fs, μ2, ho, h, hl, k⟩ := ha x μ1 hp
    refine ⟨_, ho, w1, fun u H2 w2 e2 r2 => ?_⟩
    obtain ⟨dx, ws, h1, pp⟩ := w2.mu q _ h
    refine ⟨q, C, dx, ws, r2, h1, cl, nf, by rw [paired_len pp]; exact hl, ?_⟩
    have es := ext_set (H := H2) (o := .ins C dx (putF f v ws)) (u' := .ins C (putA f x fs)) h
    have m' : MuOk (upd H2 q (.ins C dx (putF f v ws))) (mset μ2 q (.ins C (putA f x fs))) := mu_set w2.mu h ⟨dx, _, upd_same, at_put ((r1.ext e2).ext es) (at_ext pp es)⟩
    exact k σ _ (w2.ext m' es) (ex.trans ((e1.trans e2).trans es))⟩
/-- if with a common state behind it -/
theorem go_ifJ {k : Bool} {body els : List Stmt} (J : En → Mu → Prop) (hc : PTv X c ρ μ k μ1) (hj : ∀ ρ' μ', J ρ' μ' → Go X B rest D ρ' μ')
    (ha : k = true → (∀ ρ' μ', J ρ' μ' → Go X B [] { D with nx := wpR X rest D } ρ' μ') → Go X B body { D with nx := wpR X rest D } ρ μ1)
    (hb : k = false → (∀ ρ' μ', J ρ' μ' → Go X B [] { D with nx := wpR X rest D } ρ' μ') → Go X B els { D with nx := wpR X rest D } ρ μ1) : Go X B (.If c body els pos :: rest) D ρ μ :=
  go_if hc (fun h => ha h fun _ _ j => go_next (hj _ _ j)) (fun h => hb h fun _ _ j => go_next (hj _ _ j))
/-- a, b = two displays and the like -/
theorem go_parw {pa : List Sl → Mu → Prop} (i j : Nat) (ha : PAw X [a, b] ρ μ pa) (k : ∀ xs μ1, pa xs μ1 → ∃ v w, xs = [v, w] ∧ Go X B rest D ((ρ.set i v).set j w) μ1) {xn yn : Str} {px py pt pt2 : Pos} {kt k2 : Nat} (hN : X.N.Nodup) (hc : X.calm = true := by rfl) (hi : X.N[i]? = some xn := by rfl) (hj : X.N[j]? = some yn := by rfl) (hij : i ≠ j := by decide)
    (hx : X.env.scope.names.lookup xn = some .local := by rfl) (hy : X.env.scope.names.lookup yn = some .local := by rfl)
    (hw : swappedStores [.Tuple [.Name xn px, .Name yn py] kt pt] (.Tuple [a, b] k2 pt2) X.env = pure (some [xn, yn]) := by rfl)
    (hs : swapsWithSole [.Tuple [.Name xn px, .Name yn py] kt pt] (.Tuple [a, b] k2 pt2) pos.line X.env = pure false := by rfl) :
    Go X B (.Assign [.Tuple [.Name xn px, .Name yn py] kt pt] (.Tuple [a, b] k2 pt2) pos :: rest) D ρ μ :=
  go_cons (ps_par hc hN hi hj hij hx hy ha hw hs) fun σ H w0 ex => ⟨w0, fun vs H' xs μ1 hp w1 e1 r1 => by
    obtain ⟨v, w, rfl, kk⟩ := k xs μ1 hp
    obtain ⟨u1, u2, rfl, h1, h2⟩ := p2_inv r1
    exact ⟨u1, u2, rfl, kk _ _ ((w1.set h1).set h2) (ex.trans e1)⟩⟩
/-- for over a list of the store that is one of several -/
def tSrcW (ρ : En) (μ : Mu) (post : Nat → (Nat → Sl) → Mu → (Mu → Prop) → Prop) : TI := fun σ H R => W H σ ρ μ ∧ ∀ n item μ1 S J H1, post n item μ1 S → W H1 σ ρ μ1 → Ext H μ H1 μ1 → JOk J n item S H1 μ1 → R J H1
theorem s_mlistW {tg : Expr} {p : Sl → Mu → Prop} (h : PEw X e ρ μ p) (hp : ∀ y μ1, p y μ1 → ∃ q xs, y = .m q ∧ mget μ1 q = some (.lst xs)) :
    PI X tg e (tSrcW ρ μ fun n item μ1 S => ∃ q xs, p (.m q) μ1 ∧ mget μ1 q = some (.lst xs) ∧ n = xs.length ∧ item = (fun i => xs.getD i .no) ∧ S = fun ν => mget ν q = some (.lst xs)) :=
  pi_weak (pi_list h) fun σ H R ⟨w, k⟩ => ⟨w, fun v H1 y μ1 hy w1 e1 r1 => by
    obtain ⟨q, xs, rfl, hq⟩ := hp y μ1 hy
    cases (show v = .ref q from r1)
    obtain ⟨vs, h1, pp⟩ := w1.mu q _ hq
    refine ⟨q, rfl, ⟨vs, SqL.of h1⟩, k _ _ _ _ _ H1 ⟨q, xs, hy, hq, rfl, rfl, rfl⟩ w1 e1 fun i H2 μ2 m2 e2 sm => ?_⟩
    obtain ⟨ws, g2, pp2⟩ := m2 q _ sm
    have hl : ws.length = xs.length := paired_len pp2
    refine ⟨fun hi => ⟨ws, SqL.of g2, by omega⟩, fun hi => ⟨⟨ws, ws[i]'(by omega), SqL.of g2, List.getElem?_eq_getElem (by omega)⟩, fun x H' ⟨eH, hx⟩ => ?_⟩⟩
    subst eH
    refine ⟨Same.refl _, ?_⟩
    obtain ⟨s, g3, g4⟩ := paired_get' (i := i) pp2 (hx ws (SqL.of g2))
    have e3 : xs.getD i .no = s := by rw [List.getD_eq_getElem?_getD, g3]; rfl
    show SR _ x (xs.getD i .no)
    rw [e3]
    exact g4⟩
theorem go_forM {tg iter : Expr} {p : Sl → Mu → Prop} {body : List Stmt} (h : PEw X iter ρ μ p) (hp : PassesOwn (model X.prog X.w) X.A X.env X.xe) (hq : ∀ y μ1, p y μ1 → ∃ q xs, y = .m q ∧ mget μ1 q = some (.lst xs))
    (k : ∀ q xs μ1, p (.m q) μ1 → mget μ1 q = some (.lst xs) → ∃ I : Nat → En → Mu → Prop, I 0 ρ μ1 ∧ (∀ i ρ μ, i ≤ xs.length → I i ρ μ → mget μ q = some (.lst xs)) ∧
      (∀ B', Reb B B' → ∀ i ρ μ, i < xs.length → I i ρ μ → ∃ ρ', PGv X tg (xs.getD i .no) ρ μ ρ' μ ∧ Go X B' body { D with nx := Nxf B' I (i + 1), ct := Nxf B' I (i + 1), bk := wpR X rest D } ρ' μ) ∧ (∀ ρ μ, I xs.length ρ μ → Go X B rest D ρ μ)) (hc : X.calm = true := by rfl)
    (hfs : ∀ x, foldedSetIterable iter X.env x = pure x := by intro _; rfl) : Go X B (.For tg iter body [] pos :: rest) D ρ μ :=
  go_cons (ps_for hp hc (s_mlistW h hq) pg_wp pss_wp hfs) fun σ H w ex => ⟨w, fun n item μ1 S J H1 hpost w1 e1 jok => by
    obtain ⟨q, xs, hy, hqx, rfl, rfl, rfl⟩ := hpost
    obtain ⟨I, h0, hst, turn, done⟩ := k q xs μ1 hy hqx
    refine ⟨fun i m σ H => m = xs.length - i ∧ i ≤ xs.length ∧ ∃ ρ μ, I i ρ μ ∧ W H σ ρ μ ∧ Ext H1 μ1 H μ, ⟨xs.length, by omega, by omega, ρ, μ1, h0, w1, Ext.refl _ _⟩, ?_⟩
    rintro i m σ H ⟨em, hi, ρ, μ, hI, w, e2⟩
    have eB : Ext B.1 B.2 H1 μ1 := ex.trans e1
    obtain ⟨hstop, hgo⟩ := jok i H μ w.mu e2 (hst i ρ μ hi hI)
    by_cases hlt : i < xs.length
    · obtain ⟨g1, g2⟩ := hgo hlt
      obtain ⟨ρ', hg, hb⟩ := turn (H1, μ1) eB i ρ μ hlt hI
      refine .inr ⟨g1, Nxf (H1, μ1) I (i + 1), fun σ' H' ⟨ρ2, μ2, h1, h2, h3⟩ => ⟨xs.length - (i + 1), by omega, rfl, by omega, ρ2, μ2, h1, h2, h3⟩, fun x H' hy => ?_⟩
      obtain ⟨sm, sx⟩ := g2 x H' hy
      intro pins s u I0 r0
      exact hg.run pins s σ H' x u _ I0 r0 ⟨⟨w.same sm, sx⟩, fun σ' H2 w2 e3 => hb σ' H2 w2 (e2.trans ((Ext.same sm).trans e3))⟩
    · have en : i = xs.length := by omega
      subst en
      exact .inl ⟨hstop (Nat.le_refl _), done ρ μ hI σ H w (eB.trans e2)⟩⟩
/-- if c: x = e -/
theorem go_ifset {k : Bool} {spos : Pos} (i : Nat) (hc : PTv X c ρ μ k μ1) (he : k = true → PEv X e ρ μ1 z μ1) (hz : k = false → ρ.set i z = ρ) (kk : Go X B rest D (ρ.set i z) μ1) (hN : X.N.Nodup) (hi : X.N[i]? = some n := by rfl) (hx : Loc X.env.scope n := by first | exact Or.inl rfl | exact Or.inr rfl)
    (hf : X.fn n = true ∨ X.env.scope.names.lookup n = some .local := by first | exact .inl rfl | exact .inr rfl) (hs : swapsWith e (some (.Name n p)) spos.line X.env = pure false := by rfl) : Go X B (.If c [.Assign [.Name n p] e spos] [] pos :: rest) D ρ μ :=
  go_if hc (fun h => go_set i (he h) (go_next kk) hN hi hx hs hf) (fun h => go_next (by rw [hz h] at kk; exact kk))
/-- range(i, j, -1) -/
theorem s_range3 {tg : Expr} {i0 j : Int} {n : Nat} (hm : X.mg "range" = none) (h : PEv X a ρ μ (.d (.int i0)) μ1) (h' : PEv X b ρ μ1 (.d (.int j)) μ2) (h'' : PEv X c ρ μ2 (.d (.int (-1))) μ3) (hb : -(2 ^ 62) ≤ i0 ∧ i0 < 2 ^ 62 ∧ -(2 ^ 62) ≤ j ∧ j < 2 ^ 62) (hn : (i0 - j).toNat = n) (hg : Gl X "range" := by rfl)
    (hs : starEach [a, b, c] X.env = [(false, eval a X.env), (false, eval b X.env), (false, eval c X.env)] := by rfl) (hs2 : starEach [b, c] X.env = [(false, eval b X.env), (false, eval c X.env)] := by rfl) (hs3 : starEach [c] X.env = [(false, eval c X.env)] := by rfl) :
    PIv X tg (.Call (.Name "range" p) [a, b, c] [] pos) ρ μ n (fun i => .d (.int (i0 - (i : Int)))) μ3 Anys :=
  pi_weak (pi_range3 hg hm (a_cons h (a_cons h' (a_cons h'' a_nil (by rw [hs3]; rfl)) (by rw [hs2, hs3])) (by rw [hs, hs2])) (by rw [hs, hs2]) (by rw [hs2]; rfl)) fun σ H R ⟨w, k⟩ => ⟨w, fun vs H1 w1 e1 r1 => by
    cases r1 with
    | cons q1 r1 =>
      obtain ⟨v2, v3, rfl, q2, q3⟩ := p2_inv r1
      subst hn
      refine ⟨i0, j, -1, _, by rw [dp_int q1, dp_int q2, dp_int q3], RgC.neg hb.1 hb.2.1 hb.2.2.1 hb.2.2.2, k _ H1 w1 e1 fun i H2 μ2 m2 e2 _ => ?_⟩
      refine ⟨fun hi => hi, fun hi => ⟨hi, fun x H' ⟨eH, hx⟩ => ?_⟩⟩
      subst eH hx
      refine ⟨Same.refl _, ?_⟩
      have e : i0 + (i : Int) * -1 = i0 - (i : Int) := by omega
      rw [e]
      exact .int _⟩
end
section
variable {P : Program} {w : World} {K : PySem.W.Frag} {mg : Str → Option Value} {base : Heap}
theorem fn_ok {x qual : Str} {st : Stmt} {f : Addr} {fd : FuncData} {N ps : List Str} {k : Nat} {R : Rel} (F : Fun K x qual st f fd) (S : FnScope N ps (defScope st))
    (len : ∀ as μ post, R as μ post → as.length = ps.length)
    (body : ∀ (cdv : Value) (A : Around) (outer : List Env) (s : Shared) (H : Hp) (E : XK) (as : List Sl) (μ : Mu) (post : Sl → Mu → Prop) (D : Ends), Room k (A.deeper (envOfC qual (defScope st) s.heap.objs.size f cdv)) → R as μ post →
      (∀ r μ', post r μ' → RtOk (H, μ) D r μ') → (∀ σ H', D.rt .non H' → D.nx σ H') → Go (cx0 P w K mg base N qual st f cdv A outer s H E) (H, μ) (defBody st) D (startE N as) μ) :
    FnOk P w K mg base CX0 (k + 1) f fd ps (spR R) := by
  refine F.ok S (fun vs H Q E h => ?_) (fun cdv A outer s H vs Q E hr h => ?_)
  · obtain ⟨as, μ, pr, _, hR⟩ := h
    rw [paired_len pr]
    exact len _ _ _ hR
  · obtain ⟨as, μ, pr, m, hR⟩ := h
    refine ⟨_, pss_wp, ?_⟩
    exact body cdv A outer s H E as μ _ { nx := fun _ H' => Q .non H', rt := Q } hr hR (fun r μ' hp v H' m' e' r' => hp v H' m' e' r') (fun _ _ z => z) _ H (w_start m pr) (Ext.refl _ _)
/-- a def with defaults -/
structure FunD (K : PySem.W.Frag) (x qual : Str) (st : Stmt) (f : Addr) (fd : FuncData) : Prop where
  ex : ∃ (oc : Value) (od : Option Addr) (dV kV doc pm : Value) (an : Option Addr) (cdv ct : Value) (osl : Array (Option Value)),
    fd = PySem.W.fnOf x qual (defArgs st) (defBody st) (defScope st) dV kV doc pm an cdv ct ∧ K.lookup f = some ⟨oc, od, .func fd, osl⟩ ∧ PySem.W.codeIn K cdv qual = true
  kp : PySem.W.keepIn K (.ref f) = true
theorem FunD.ok {x qual : Str} {st : Stmt} {f : Addr} {fd : FuncData} {N ps : List Str} {k : Nat} {sp : Sp} (F : FunD K x qual st f fd) (S : FnScope N ps (defScope st)) (len : ∀ vs H Q E, sp vs H Q E → vs.length = ps.length)
    (hbody : ∀ (cdv : Value) (A : Around) (outer : List Env) (s : Shared) (H : Hp) (vs : List V) (Q : VK) (E : XK), Room k (A.deeper (envOfC qual (defScope st) s.heap.objs.size f cdv)) → sp vs H Q E →
      ∃ t, PSs (cxOf CX0 P w K mg base N qual (defScope st) f cdv A outer s H E).nox (defBody st) t ∧ t { nx := fun _ H' => Q .non H', rt := Q } (start N vs) H) : FnOk P w K mg base CX0 (k + 1) f fd ps sp := by
  obtain ⟨oc, od, dV, kV, doc, pm, an, cdv, ct, osl, rfl, lk, hcd⟩ := F.ex
  refine fn_of lk hcd S len fun A outer s H vs Q E hr hsp => ?_
  obtain ⟨t, h, q⟩ := hbody cdv A outer s H vs Q E hr hsp
  exact ⟨t, h.nox, q⟩
theorem cal_okD {x qual : Str} {st : Stmt} {f : Addr} {fd : FuncData} {N ps : List Str} {k : Nat} {dx : List Sl} {ds : List Value} {dvs : List V} {R : Rel} (F : FunD K x qual st f fd) (S : FnScope N ps (defScope st)) (hm : mg x = some (.ref f)) (hb : Binds K fd ps ds) (hd : Vals dvs ds) (hdx : ∀ H, Paired (SR H) dvs dx)
    (len : ∀ as μ post, R as μ post → as.length = ps.length)
    (body : ∀ (cdv : Value) (A : Around) (outer : List Env) (s : Shared) (H : Hp) (E : XK) (as : List Sl) (μ : Mu) (post : Sl → Mu → Prop) (D : Ends), Room k (A.deeper (envOfC qual (defScope st) s.heap.objs.size f cdv)) → R as μ post →
      (∀ r μ', post r μ' → RtOk (H, μ) D r μ') → (∀ σ H', D.rt .non H' → D.nx σ H') → Go (cx0 P w K mg base N qual st f cdv A outer s H E) (H, μ) (defBody st) D (startE N as) μ) :
    Cal P w K mg base x (k + 1) dx R := by
  refine ⟨f, fd, ps, ds, dvs, ?_, hm, F.kp, hb, hd, hdx⟩
  refine F.ok S (fun vs H Q E h => ?_) (fun cdv A outer s H vs Q E hr h => ?_)
  · obtain ⟨as, μ, pr, _, hR⟩ := h
    rw [paired_len pr]
    exact len _ _ _ hR
  · obtain ⟨as, μ, pr, m, hR⟩ := h
    refine ⟨_, pss_wp, ?_⟩
    exact body cdv A outer s H E as μ _ { nx := fun _ H' => Q .non H', rt := Q } hr hR (fun r μ' hp v H' m' e' r' => hp v H' m' e' r') (fun _ _ z => z) _ H (w_start m pr) (Ext.refl _ _)
theorem calM_ok {m qual : Str} {C : Addr} {st : Stmt} {f : Addr} {fd : FuncData} {N ps : List Str} {k : Nat} {R : Rel} (cl : Cls K C) (me : Meth K C m f) (F : Fun K m qual st f fd) (b : Binds K fd ps []) (S : FnScope N ps (defScope st))
    (len : ∀ as μ post, R as μ post → as.length = ps.length)
    (body : ∀ (cdv : Value) (A : Around) (outer : List Env) (s : Shared) (H : Hp) (E : XK) (as : List Sl) (μ : Mu) (post : Sl → Mu → Prop) (D : Ends), Room k (A.deeper (envOfC qual (defScope st) s.heap.objs.size f cdv)) → R as μ post →
      (∀ r μ', post r μ' → RtOk (H, μ) D r μ') → (∀ σ H', D.rt .non H' → D.nx σ H') → Go (cx0 P w K mg base N qual st f cdv A outer s H E) (H, μ) (defBody st) D (startE N as) μ) :
    CalM P w K mg base C m (k + 1) R := ⟨⟨f, fd, ps, fn_ok F S len body, me, b⟩, cl⟩
theorem calC_ok {n qual : Str} {C : Addr} {st : Stmt} {f : Addr} {fd : FuncData} {N ps : List Str} {k : Nat} {R : Rel} (mk : Mk K C f) (hm : mg n = some (.ref C)) (F : Fun K "__init__" qual st f fd) (b : Binds K fd ps []) (S : FnScope N ps (defScope st))
    (len : ∀ as μ post, R as μ post → as.length = ps.length)
    (body : ∀ (cdv : Value) (A : Around) (outer : List Env) (s : Shared) (H : Hp) (E : XK) (as : List Sl) (μ : Mu) (post : Sl → Mu → Prop) (D : Ends), Room k (A.deeper (envOfC qual (defScope st) s.heap.objs.size f cdv)) → R as μ post →
      (∀ r μ', post r μ' → RtOk (H, μ) D r μ') → (∀ σ H', D.rt .non H' → D.nx σ H') → Go (cx0 P w K mg base N qual st f cdv A outer s H E) (H, μ) (defBody st) D (startE N as) μ) :
    CalC P w K mg base n C (k + 1) R := ⟨⟨f, fd, ps, fn_ok F S len body, mk, b, hm⟩⟩
end
theorem mdrop_new {p : Addr} {o : MO} {μ : Mu} (h : mget μ p = none) : mdrop ((p, o) :: μ) p = μ := by
  unfold mdrop
  rw [if_pos rfl]
  exact mdrop_none h
theorem mset_other {q D : Addr} {o u : MO} {μ : Mu} (h : D ≠ q) : mset ((D, o) :: μ) q u = (D, o) :: mset μ q u := by
  show (if q = D then _ else _) = _
  rw [if_neg (fun e => h e.symm)]
theorem mget_other {q D : Addr} {o : MO} {μ : Mu} (h : q ≠ D) : mget ((D, o) :: μ) q = mget μ q := by rw [mget_cons, if_neg h]
theorem mget_new {D : Addr} {o : MO} {μ : Mu} : mget ((D, o) :: μ) D = some o := by rw [mget_cons, if_pos rfl]
theorem new_ne {q D : Addr} {o : MO} {μ : Mu} (h : mget ((D, o) :: μ) q = none) : q ≠ D ∧ mget μ q = none := by
  by_cases e : q = D
  · rw [mget_cons, if_pos e] at h; cases h
  · rw [mget_cons, if_neg e] at h; exact ⟨e, h⟩
end Fw

namespace Fw
open PySem PySem.Spec PyProof.Rows L2
/-! ### sorted(set(a list of ints)), any number of them -/
section
variable {P : Program} {w : World} {A : Around} {E : Value → Shared → Prop} {s : Shared}
/-- a new set -/
abbrev newSet (w : World) : Obj := { cls := .type "set", dict := none, data := .set #[] 0 (.fresh 0 0 (!w.params.followText "set-order")) }
set_option maxHeartbeats 3200000 in
theorem setOfListI {l : Addr} {items : Array Value} (ns : List Int) {Q : Value → Shared → Prop} (hh : A.handled = none) (hl : s.heap.IsList l items) (hit : IntsAre items.toList ns) (hb : ns.length + 1 < scanBound)
    (h : ∀ (h' : Heap) (tk c : Nat), SetR w h' s.heap.objs.size (fun j => decide (j ∈ ns)) c → c ≤ ns.length → (∀ b o, s.heap.get? b = some o → h'.get? b = some o) → Q (.ref s.heap.objs.size) { s with heap := h', toks := tk }) :
    wpAny (model P w) A (call (.type "set") [.ref l]) Q E s := by
  have hisz : items.size = ns.length := by
    have q := IntsAre.length hit
    rwa [Array.length_toList] at q
  obtain ⟨c, tl, hmro⟩ := F.called_set.mro
  have hmade := F.called_set.made
  have hsub := F.called_set.sub
  refine wpAny_call (codeAny_of_tree ?_)
  show wpAny _ _ (callAny (.type "set") _) _ _ _
  refine wpAny_pure ⟨Code.quiet_builtin _ (by decide +kernel), codeAny_builtin F.entry_type_call ?_⟩
  rw [Around.under_plain (weight_type_call_type "set" [.ref l] []) rfl]
  have h1 := F.called_set.notType
  have h2 := F.called_set.canCreate
  have hct := F.typeCall_set_1 (.ref l)
  repeat (any_goals (first | assumption | wp_step))
  refine codeAny_mono (code_set_led1 (.ref l) (E := E) (Q₁ := fun obj s₁ => obj = .ref s.heap.objs.size ∧ s₁ = { s with heap := s.heap.push (newSet w) }) ⟨rfl, rfl⟩) fun r s₁ hr => ?_
  match r, hr with
  | .error e, hr => exact hr
  | .ok (.ret obj), hr =>
    obtain ⟨rfl, rfl⟩ := hr
    have hS : (s.heap.push (newSet w)).get? s.heap.objs.size = some (newSet w) := Heap.get?_push_size _ rfl
    have hT : Shared.TypeIs { s with heap := s.heap.push (newSet w) } (.ref s.heap.objs.size) "set" := ⟨_, hS, rfl⟩
    have hli := F.called_set.init.lookup
    have hbi := F.called_set.init.bind (.ref s.heap.objs.size)
    repeat (any_goals (first | assumption | wp_step))
    refine codeAny_mono (codeAny_call_builtin (R := wants (fun r s₂ => r = .none ∧ ∃ h' tk c, s₂ = { s with heap := h', toks := tk } ∧ SetR w h' s.heap.objs.size (fun j => decide (j ∈ ns)) c ∧ c ≤ ns.length ∧
        (∀ b o, s.heap.get? b = some o → h'.get? b = some o)) E) F.called_set.init.plain F.entry_set_init (check_set_init_1 hT ?_)) fun r₂ s₂ hr₂ => ?_
    · obtain ⟨ol, hol, hcl, nl, hdl⟩ := hl
      obtain ⟨ocls, odict, odata, oslots⟩ := ol
      simp only at hcl hdl
      subst hcl; subst hdl
      have hol' : (s.heap.push (newSet w)).get? l = some { cls := .type "list", dict := odict, data := .seq items nl, slots := oslots } := Heap.get?_push_of_some _ hol
      have hsls := F.sub_list_set
      have hslf := F.sub_list_frozenset
      have hne : (Value.type "list" == Value.type "dict") = false := by decide
      have hl1 : (s.heap.push (newSet w)).IsList l items := ⟨_, hol', rfl, nl, rfl⟩
      unfold Builtin.«set.__init__» noKeywords Builtin.Frozenset.updateFrom
      generalize hPI : pyIter = PI
      wp_walk
      subst hPI
      refine wpAny_pyIter_list hl1 ?_
      refine wpAny_bind (wpAny_runValue ?_)
      have hlS : l < s.heap.objs.size := Heap.lt_size hol
      have hh3 : A.in1.in1.in1.handled = none := by simp [hh]
      have hneI : l ≠ (s.heap.push (newSet w)).objs.size := by
        rw [Heap.size_push]; exact Nat.ne_of_lt (Nat.lt_succ_of_lt hlS)
      have hSf : s.heap.objs.size ∉ [(s.heap.push (newSet w)).objs.size, l] := by
        rw [Heap.size_push]; simp only [List.mem_cons, List.mem_singleton, List.not_mem_nil, or_false, not_or]
        exact ⟨Nat.ne_of_lt (Nat.lt_succ_self _), Nat.ne_of_gt hlS⟩
      have hval : ∀ (i : Nat) (v : Value), items[i]? = some v → ∃ k t, ns[i]? = some k ∧ v = .int k t := fun i v hv => by
        have hi : i < ns.length := by rw [← hisz]; exact (Array.getElem?_eq_some_iff.mp hv).1
        obtain ⟨t, e⟩ := PyProof.Rows.IntsAre.int_at hit i v (by rw [Array.getElem?_toList]; exact hv)
        refine ⟨ns[i], t, List.getElem?_eq_getElem hi, ?_⟩
        rw [e, List.getD_eq_getElem?_getD, List.getElem?_eq_getElem hi] <;> rfl
      refine set_update_ints ((Walks.list hh3 _ l hneI items).toS) s.heap.objs.size hSf ns hisz hb hval (items.size - 0) 0 _ (by omega) (Nat.zero_le _)
        ⟨⟨_, Heap.get?_push_size _ rfl, rfl, rfl⟩, (hl1.push _)⟩ ?hS0 ?hR
      case hS0 => exact ⟨0, Nat.le_refl 0, setR_new_at (Heap.get?_push_of_some _ hS)⟩
      case hR =>
        intro s' c' hm hc' hS'
        obtain ⟨h', g2, d', tk', os'⟩ := s'
        have eg : g2 = s.gens := hm.gens
        have ed : d' = s.drawn := hm.drawn
        have eo : os' = s.os := hm.os
        subst eg; subst ed; subst eo
        show wpAny _ _ _ _ _ _
        refine wpAny_pure ?_
        show wpAny _ _ (ret Value.none) _ _ _
        rw [hisz] at hc'
        refine wpAny_pure ⟨rfl, h', tk', c', rfl, hS', hc', fun b o e => ?_⟩
        have hb0 : b < s.heap.objs.size := Heap.lt_size e
        have hb1 : b ≠ s.heap.objs.size := Nat.ne_of_lt hb0
        have hb2 : b ≠ (s.heap.push (newSet w)).objs.size := by
          rw [Heap.size_push]; exact Nat.ne_of_lt (Nat.lt_succ_of_lt hb0)
        exact hm.heap b o (by simp only [List.mem_cons, List.mem_singleton, List.not_mem_nil, or_false, not_or]; exact ⟨hb1, hb2⟩) (Heap.get?_push_of_some _ (Heap.get?_push_of_some _ e))
    · match r₂, hr₂ with
      | .error e, hr₂ => exact hr₂
      | .ok (.ret r), hr₂ =>
        obtain ⟨rfl, h', tk, c', rfl, hS', hc', hk'⟩ := hr₂
        repeat (any_goals (first | assumption | wp_step))
        exact h _ _ _ hS' hc' hk'
      | .ok .next, hr₂ => exact hr₂.elim
      | .ok .brk, hr₂ => exact hr₂.elim
      | .ok .cont, hr₂ => exact hr₂.elim
  | .ok .next, hr => exact hr.elim
  | .ok .brk, hr => exact hr.elim
  | .ok .cont, hr => exact hr.elim
/-- sorted of such a set -/
theorem sortedSetI {a : Addr} {S : Int → Bool} {n : Nat} {Q : Value → Shared → Prop} (R : SetR w s.heap a S n) (hh : A.handled = none) (hn0 : n ≤ 100000)
    (hQ : ∀ s' p (out : Array Value) (c : Nat) (ns : List Int), (∀ b o, s.heap.get? b = some o → s'.heap.get? b = some o) → s'.gens = s.gens → s'.os = s.os → s.heap.objs.size ≤ p →
      s'.heap.get? p = some (seqObj "list" out c) → IntsAre out.toList ns → ns.Pairwise (· < ·) → (∀ k, k ∈ ns ↔ S k = true) → ns.length = n → Q (.ref p) s') :
    wpAny (model P w) A (call (.builtin "sorted") [.ref a]) Q E s := by
  obtain ⟨o, es, ep, t, ho, hex, hd, g, nd, hm, hb, hf, hn, hr, hl⟩ := R
  refine Calls.call_function_entry kind_sorted plain_sorted entry_sorted (args_sorted1 _) ?_
  unfold Builtin.«sorted»
  refine wpAny_bind (m := checkCount "sorted" 1 1 _) (wpAny_pure ?_)
  refine wpAny_bind (collect_set (A := A.in1) hh ⟨o, ho, hex.1, hd⟩ hf hb hr hl fun s1 vs k1 hz g1 o1 pm => ?_)
  have hvl : vs.length = n := by rw [pm.length_eq, List.length_map, Array.length_toList]; exact hn
  have hI : IntsAre vs (vs.map Builtin.Re.reRawOf) := L2.ints_of vs fun v hv => by
    obtain ⟨e, he, q⟩ := List.mem_map.mp (pm.mem_iff.mp hv)
    obtain ⟨k, tk, h1, _⟩ := g e he
    exact ⟨k, tk, by rw [← q]; exact h1⟩
  have pk : (vs.map Builtin.Re.reRawOf).Perm (es.toList.map keyOf) := by
    have q := pm.map Builtin.Re.reRawOf
    rwa [List.map_map] at q
  refine wpAny_bind (wpAny_newList ?_ (by rw [hvl, sizeLine_eq]; omega))
  have hoL : (s1.heap.push (seqObj "list" vs.toArray 0)).get? s1.heap.objs.size = some (seqObj "list" vs.toArray 0) := Heap.get?_push_size _ rfl
  refine wpAny_bind (wpAny_holding (wpAny_call_entry slot_list_sort ⟨_, hoL, rfl⟩ entry_list_sort
    (SrtO.list_sort_ord SrtO.swo_int hoL (by rw [hvl, sizeLine_eq]; omega) (fun h2 => SrtO.ints_sortable hI h2) fun out b1 b2 => ⟨_, rfl, ?_⟩) (args_list_sort _)))
  obtain ⟨a1, a2, a3⟩ := SrtO.ints_out hI b1 b2
  obtain ⟨c, hc⟩ := sortedHeap_at (vs := vs) (out := out.toArray) hoL
  have pn : (out.map SrtO.iv).Perm (es.toList.map keyOf) := a2.trans pk
  refine wpAny_pure ⟨_, rfl, hQ _ s1.heap.objs.size out.toArray c (out.map SrtO.iv) (fun b u e => ?_) g1 o1 hz hc a1 (lt_of_le_nodup _ a3 (pn.nodup_iff.mpr nd)) (fun k => by rw [pn.mem_iff, ← hm k]) ?_⟩
  · have q := k1 b u e
    have hlt := Heap.lt_size q
    show (sortedHeap (s1.heap.push (seqObj "list" vs.toArray 0)) s1.heap.objs.size vs out.toArray).get? b = some u
    rw [sortedHeap_old (Nat.ne_of_lt hlt) (by rw [size_push']; exact Nat.lt_succ_of_lt hlt)]
    exact Heap.get?_push_of_some _ q
  · rw [pn.length_eq, List.length_map, Array.length_toList]; exact hn
end
theorem sorted_uniq : ∀ {l l' : List Int}, l.Pairwise (· < ·) → l'.Pairwise (· < ·) → (∀ k, k ∈ l ↔ k ∈ l') → l = l'
  | [], [], _, _, _ => rfl
  | [], y :: r, _, _, h => by have := (h y).mpr (by simp); cases this
  | x :: r, [], _, _, h => by have := (h x).mp (by simp); cases this
  | x :: r, y :: r', h1, h2, h => by
    have p1 := List.pairwise_cons.mp h1
    have p2 := List.pairwise_cons.mp h2
    have exy : x = y := by
      have a1 := (h x).mp (by simp)
      have a2 := (h y).mpr (by simp)
      rcases List.mem_cons.mp a1 with e | e
      · exact e
      · rcases List.mem_cons.mp a2 with e' | e'
        · exact e'.symm
        · have := p2.1 x e; have := p1.1 y e'; omega
    subst exy
    rw [sorted_uniq p1.2 p2.2 fun k => ?_]
    constructor
    · intro hk
      have := p1.1 k hk
      rcases List.mem_cons.mp ((h k).mp (List.mem_cons_of_mem _ hk)) with e | e
      · omega
      · exact e
    · intro hk
      have := p2.1 k hk
      rcases List.mem_cons.mp ((h k).mpr (List.mem_cons_of_mem _ hk)) with e | e
      · omega
      · exact e
section
variable {X : Cx} {a : Expr} {ρ : En} {μ μ1 : Mu} {x : Sl} {p p2 q pos : Pos}
/-- sorted(set(a)) of ints that rise -/
theorem v_sortedSet {ns : List Int} (hc : X.calm = true) (hm : X.mg "sorted" = none) (hm2 : X.mg "set" = none) (ha : PEv X a ρ μ x μ1) (hx : NowL μ1 x ((ns.map PyData.int).map Sl.d)) (hl : ns.length ≤ 4000) (hs : ns.Pairwise (· < ·)) (hg : Gl X "sorted" := by rfl) (hg2 : Gl X "set" := by rfl)
    (na : starEach [a] X.env = (false, eval a X.env) :: starEach [] X.env := by rfl) : PEv X (.Call (.Name "sorted" p) [.Call (.Name "set" p2) [a] [] q] [] pos) ρ μ (.d (.list (ns.map .int))) μ1 := by
  refine ⟨fun pins s σ H Q I h => ?_⟩
  obtain ⟨w, kk⟩ := h
  refine Call_ (ld_blt I hg hm (by decide +kernel : bootBuiltins "sorted" = some (.builtin "sorted")) ?_)
  refine PyProof.Rows.callWith_builtin1 (PyProof.Rows.args_cons ?_ rfl) rfl rfl
  refine Call_ (ld_blt I hg2 hm2 boot_set ?_)
  refine PyProof.Rows.callWith_type1 (PyProof.Rows.args_cons (thn (ha.run pins s σ H (fun v H1 => W H1 σ ρ μ1 ∧ Ext H μ H1 μ1 ∧ SR (hide H1 μ1) v x) I ⟨w, fun v H' w1 e1 r1 => ⟨w1, e1, r1⟩⟩) fun v s1 ⟨x', H1, I1, r1, w1, e1, sr⟩ => PyProof.Rows.args_nil ?_) na) na rfl
  obtain ⟨l, rfl, h1⟩ := nowI hx w1.mu sr
  cases r1
  obtain ⟨its, r, pl, hz⟩ := I1.list (SqL.of h1)
  have hi : IntsAre its ns := ints_of_vals r
  refine setOfListI ns (I1.ok.hd hc) pl.isList (by simpa using hi) (by unfold scanBound; omega) fun h' tk c R1 hc' hk => ?_
  refine PyProof.Rows.args_nil ?_
  refine sortedSetI R1 (I1.ok.hd hc) (by omega) fun s' p out c' ns' k1 g1 o1 hz' hc1 a1 lt mem _ => ?_
  have hlt : s1.heap.objs.size < h'.objs.size := R1.lt
  have e : ns' = ns := sorted_uniq lt hs fun k => by rw [mem k, decide_eq_true_eq]
  subst e
  have kall : ∀ b u, s1.heap.get? b = some u → s'.heap.get? b = some u := fun b u e => k1 b u (hk b u e)
  have hp : s1.heap.objs.size ≤ p := Nat.le_trans (Nat.le_of_lt hlt) hz'
  have hn : H1 p = none := I1.hok.fresh hp
  have hlen : (ns'.map V.int).length ≤ sizeLine := by rw [List.length_map, sizeLine_eq]; omega
  have J : Inv X pins σ (upd H1 p (.lst (ns'.map V.int))) s' :=
    I1.call' (ch := []) o1 (Un.laid kall hp hn) (I1.hok.laid kall hp ⟨hlen, out.toList, c', vals_of_ints a1, hc1⟩) (by rw [g1]; exact I1.bare) (fun _ z => nomatch z)
  exact ⟨.ref p, _, J, rfl, kk _ _ (w1.same (same_upd hn)) (e1.trans (Ext.same (same_upd hn))) (new_lst w1.mu hn (ints_sr _))⟩
/-! ### in, for ints -/
variable {b : Expr} {μ2 : Mu} {y : Sl}
theorem inV_ints (k : Int) : ∀ ns : List Int, inV (.int k) (ns.map V.int) = decide (k ∈ ns)
  | [] => rfl
  | n :: r => by
    have ih := inV_ints k r
    unfold inV at ih ⊢
    rw [List.map_cons, List.any_cons, ih]
    show (n == k || _) = _
    rw [Bool.eq_iff_iff, Bool.or_eq_true, beq_iff_eq, decide_eq_true_eq, decide_eq_true_eq, List.mem_cons]
    exact ⟨fun h => h.imp Eq.symm id, fun h => h.imp Eq.symm id⟩
theorem flat_ints : ∀ ns : List Int, (ns.map V.int).all flatV = true
  | [] => rfl
  | n :: r => by rw [List.map_cons, List.all_cons, flat_ints r]; rfl
theorem t_inI {ns : List Int} {k : Int} (ha : PEv X a ρ μ (.d (.int k)) μ1) (hb : PEv X b ρ μ1 y μ2) (h : NowL μ2 y ((ns.map PyData.int).map Sl.d)) (hm : behindInMarks .In b = false := by with_unfolding_all rfl) : PTv X (.Compare a [.In] [b] pos) ρ μ (decide (k ∈ ns)) μ2 :=
  t_cmp op_in_seq ha hb (fun H v w Q m r1 r2 kk => by
    obtain ⟨l, rfl, h1⟩ := nowI h m r2
    refine ⟨l, _, rfl, .inl (SqL.of h1), by rw [dp_int r1]; rfl, flat_ints ns, ?_⟩
    rw [dp_int r1, inV_ints]
    exact kk _ H (Same.refl H) (.bl _)) hm
theorem t_notinI {ns : List Int} {k : Int} (ha : PEv X a ρ μ (.d (.int k)) μ1) (hb : PEv X b ρ μ1 y μ2) (h : NowL μ2 y ((ns.map PyData.int).map Sl.d)) (hm : behindInMarks .NotIn b = false := by with_unfolding_all rfl) : PTv X (.Compare a [.NotIn] [b] pos) ρ μ (!decide (k ∈ ns)) μ2 :=
  t_cmp op_notIn_seq ha hb (fun H v w Q m r1 r2 kk => by
    obtain ⟨l, rfl, h1⟩ := nowI h m r2
    refine ⟨l, _, rfl, .inl (SqL.of h1), by rw [dp_int r1]; rfl, flat_ints ns, ?_⟩
    rw [dp_int r1, inV_ints]
    exact kk _ H (Same.refl H) (.bl _)) hm
end
/-! ### a, b, c = x, y, z -/
section
variable {X : Cx} {a b c : Expr} {pos : Pos} {ρ : En} {μ μ1 : Mu} {B : Hp × Mu} {D : Ends} {rest : List Stmt}
theorem go_par3 {u v w : Sl} (i j k : Nat) (ha : PAv X [a, b, c] ρ μ [u, v, w] μ1) (kk : Go X B rest D (((ρ.set i u).set j v).set k w) μ1) {xn yn zn : Str} {px py pz pt pt2 : Pos} {kt k2 : Nat} (hN : X.N.Nodup) (hc : X.calm = true := by rfl) (hi : X.N[i]? = some xn := by rfl) (hj : X.N[j]? = some yn := by rfl) (hk : X.N[k]? = some zn := by rfl) (hij : i ≠ j ∧ i ≠ k ∧ j ≠ k := by decide)
    (hx : X.env.scope.names.lookup xn = some .local := by rfl) (hy : X.env.scope.names.lookup yn = some .local := by rfl) (hz : X.env.scope.names.lookup zn = some .local := by rfl)
    (hw : swappedStores [.Tuple [.Name xn px, .Name yn py, .Name zn pz] kt pt] (.Tuple [a, b, c] k2 pt2) X.env = pure (some [xn, yn, zn]) := by rfl)
    (hs : swapsWithSole [.Tuple [.Name xn px, .Name yn py, .Name zn pz] kt pt] (.Tuple [a, b, c] k2 pt2) pos.line X.env = pure false := by rfl) :
    Go X B (.Assign [.Tuple [.Name xn px, .Name yn py, .Name zn pz] kt pt] (.Tuple [a, b, c] k2 pt2) pos :: rest) D ρ μ :=
  go_cons (ps_par3 hc hN hi hj hk hij.1 hij.2.1 hij.2.2 hx hy hz ha hw hs) fun σ H w0 ex => ⟨w0, fun vs H' w1 e1 r1 => by
    cases r1 with
    | cons h1 r1 =>
      obtain ⟨u2, u3, rfl, h2, h3⟩ := p2_inv r1
      exact ⟨_, u2, u3, rfl, kk _ _ (((w1.set h1).set h2).set h3) (ex.trans e1)⟩⟩
end
end Fw

namespace Fw
open PySem PySem.Spec PyProof.Rows L2
section
variable {X : Cx} {a b c e o : Expr} {es : List Expr} {ρ : En} {μ μ1 μ2 : Mu} {x y z : Sl} {xs : List Sl} {pos p : Pos} {n : Str}
/-! ### list(x) as a new mutable list -/
theorem w_list {ds : List PyData} (hm : X.mg "list" = none) (ha : PEv X a ρ μ x μ1) (h : NowD μ1 x ds) (hg : Gl X "list" := by rfl)
    (he : starEach [a] X.env = [(false, eval a X.env)] := by rfl) : PEw X (.Call (.Name "list" p) [a] [] pos) ρ μ (fun y ν => ∃ q, mget μ1 q = none ∧ y = .m q ∧ ν = (q, .lst (ds.map .d)) :: μ1) :=
  pe_weak (pe_callTy call_list_of hg hm (by decide +kernel : bootBuiltins "list" = some (.type "list")) (a_cons ha a_nil (by rw [he]; rfl)) (by decide) (by decide) (by rw [he]; rfl) (by rfl)) fun σ H Q ⟨w, k⟩ => ⟨w, fun vs H1 w1 e1 r1 => by
    obtain ⟨v, rfl, hh⟩ := p1_inv r1
    have fin : ∀ (q : Addr) (vs : List V), H1 q = none → Paired (SR (hide H1 μ1)) vs (ds.map Sl.d) → Q (.ref q) (upd H1 q (.lst vs)) := fun q vs nq pp => by
      have ex := ext_new (μ := μ1) (o := .lst vs) (u := .lst (ds.map .d)) nq
      have m2 : MuOk (upd H1 q (.lst vs)) ((q, .lst (ds.map .d)) :: μ1) := mu_new w1.mu nq ⟨vs, upd_same, Paired.mapL pp fun _ _ z => z.ext ex⟩
      exact k _ _ (.m q) _ ⟨q, w1.mu.fresh nq, rfl, rfl⟩ (w1.ext m2 ex) (e1.trans ex) rfl
    rcases h with h | h
    · obtain ⟨q, vs, rfl, h1, pp⟩ := h.sq w1.mu hh
      exact ⟨q, vs, rfl, .inl (SqL.of h1), fun l nl => fin l vs nl pp⟩
    · obtain ⟨q, vs, rfl, h1, pp⟩ := h.sq hh
      exact ⟨q, vs, rfl, .inr (SqT.of h1), fun l nl => fin l vs nl pp⟩⟩
/-! ### repr(a bool) -/
theorem call_repr_bool : CallR X (.builtin "repr") (fun xs H Q => ∃ i, xs = [.bl i] ∧ Q (.str (if i then "True" else "False")) H) := by
  intro pins s σ H xs us Q I r h
  obtain ⟨i, rfl, q⟩ := h
  obtain ⟨u, rfl, hu⟩ := vals1 r
  cases (show u = Value.bool i from hu)
  exact PySem.P.repr_of_bool ⟨.str _, H, I.tok _, ⟨_, rfl⟩, q⟩
theorem v_repB {k : Bool} (hm : X.mg "repr" = none) (ha : PEv X a ρ μ (.d (.bool k)) μ1) (hg : Gl X "repr" := by rfl)
    (he : starEach [a] X.env = [(false, eval a X.env)] := by rfl) : PEv X (.Call (.Name "repr" p) [a] [] pos) ρ μ (.d (.str (if k then "True" else "False"))) μ1 :=
  v_cb call_repr_bool (by decide +kernel) hm (a_cons ha a_nil (by rw [he]; rfl)) (fun H vs Q m r kk => by
    obtain ⟨v, rfl, hh⟩ := p1_inv r
    exact ⟨k, by rw [dp_bl hh], kk _ H (Same.refl H) (.str _)⟩) hg (by decide) (by decide) (by rw [he]; rfl) (by rfl)
/-! ### is True, is False -/
theorem od_isB {j k : Bool} : OpD μ rIsB (.d (.bool j)) (.d (.bool k)) (.d (.bool (decide (j = k)))) := fun H v w Q m r1 r2 kk => ⟨j, k, dp_bl r1, dp_bl r2, kk _ H (Same.refl H) (.bl _)⟩
theorem od_notB {j k : Bool} : OpD μ rNotB (.d (.bool j)) (.d (.bool k)) (.d (.bool (!decide (j = k)))) := fun H v w Q m r1 r2 kk => ⟨j, k, dp_bl r1, dp_bl r2, kk _ H (Same.refl H) (.bl _)⟩
theorem v_isB {j k : Bool} (ha : PEv X a ρ μ (.d (.bool j)) μ1) (hb : PEv X b ρ μ1 (.d (.bool k)) μ2) : PEv X (.Compare a [.Is] [b] pos) ρ μ (.d (.bool (decide (j = k)))) μ2 := v_cmp op_isBl ha hb od_isB (nomark _)
theorem t_isB {j k : Bool} (ha : PEv X a ρ μ (.d (.bool j)) μ1) (hb : PEv X b ρ μ1 (.d (.bool k)) μ2) : PTv X (.Compare a [.Is] [b] pos) ρ μ (decide (j = k)) μ2 := t_cmp op_isBl ha hb od_isB (nomark _)
theorem t_notB {j k : Bool} (ha : PEv X a ρ μ (.d (.bool j)) μ1) (hb : PEv X b ρ μ1 (.d (.bool k)) μ2) : PTv X (.Compare a [.IsNot] [b] pos) ρ μ (!decide (j = k)) μ2 := t_cmp op_notBl ha hb od_notB (nomark _)
/-! ### tuple * int -/
theorem v_repT {ds : List PyData} {k : Int} (ha : PEv X a ρ μ (.d (.tuple ds)) μ1) (hb : PEv X b ρ μ1 (.d (.int k)) μ2) (hd : ds ≠ []) (h2 : 2 ≤ k) (h3 : k ≤ 1000) (hl : ds.length ≤ 1000) : PEv X (.BinOp a .Mult b pos) ρ μ (.d (.tuple (List.replicate k.toNat ds).flatten)) μ2 :=
  v_bin op_repT ha hb fun H v w Q m r1 r2 kk => by
    obtain ⟨q, vs, rfl, h1, pp⟩ := NowT.sq (μ := μ2) rfl r1
    have hl' := paired_len pp
    rw [List.length_map] at hl'
    have rep : ∀ j : Nat, Paired (SR (hide H μ2)) (List.replicate j vs).flatten (((List.replicate j ds).flatten).map Sl.d) := fun j => by
      induction j with
      | zero => exact .nil
      | succ j ih =>
        rw [List.replicate_succ, List.flatten_cons, List.replicate_succ, List.flatten_cons, List.map_append]
        exact paired_app pp ih
    refine ⟨q, k, vs, rfl, dp_int r2, SqT.of h1, fun e => hd ?_, h2, h3, by omega, fun l nl => kk _ _ (same_upd nl) (new_tup m nl (rep _))⟩
    subst e
    exact List.eq_nil_of_length_eq_zero (by simpa using hl'.symm)
end
end Fw

namespace Fw
open PySem PySem.Spec PyProof.Rows L2
section
variable {P : Program} {w : World} {A : Around} {E : Value → Shared → Prop} {s : Shared}
/-- the items of a tuple, in a new list of the collector's own -/
theorem collectTup {t : Addr} {o : Obj} {items : Array Value} {n : Nat} {Q : List Value → Shared → Prop} (ho : s.heap.get? t = some o) (hc : o.cls = .type "tuple") (hd : o.data = .seq items n) (hsz : items.size ≤ sizeLine)
    (hQ : ∀ h', (∀ b u, s.heap.get? b = some u → h'.get? b = some u) → s.heap.objs.size ≤ h'.objs.size → Q items.toList { s with heap := h' }) : wpAny (model P w) A (collect (.ref t)) Q E s := by
  let h0 : Heap := s.heap.push { cls := .type "list", data := .seq ([] : List Value).toArray }
  let h2 : Heap := h0.update s.heap.objs.size (Obj.mapSeq (· ++ items))
  have g0 : h0.get? s.heap.objs.size = some { cls := .type "list", data := .seq #[] 0 } := Heap.get?_push_size _ rfl
  have g2 := Heap.get?_update_self (Obj.mapSeq (· ++ items)) g0 rfl
  have z2 : h2.objs.size = s.heap.objs.size + 1 := by
    show (h0.update _ _).objs.size = _
    rw [Heap.size_update]
    exact Heap.size_push _ _
  have last : wpAny (model P w) A (load s.heap.objs.size >>= fun o => match o.data with
      | Data.seq xs _ => pure xs.toList
      | _ => unsupported "internal:collect") Q E { s with heap := h2 } := by
    refine wpAny_bind (wpAny_load g2 (wpAny_pure ?_))
    show Q ((#[] : Array Value) ++ items).toList _
    rw [show ((#[] : Array Value) ++ items).toList = items.toList by simp]
    exact hQ h2 (fun b u e => (Heap.get?_update_other _ _ (Nat.ne_of_gt (Heap.lt_size e))).trans (Heap.get?_push_of_some _ e)) (by omega)
  have ext := wpAny_extend_seq (prog := P) (w := w) (hsz := hsz) (A := A) (R := fun r s' => r = .ok (.ret (.ref s.heap.objs.size)) ∧ s' = { s with heap := h2 }) (s := { s with heap := h0 }) s.heap.objs.size t (.ref s.heap.objs.size) 0 (.inr rfl) g0 (Heap.get?_push_of_some _ ho) hc hd ⟨rfl, rfl⟩
  unfold collect
  refine wpAny_bind (wpAny_runValue (codeAny_builtin F.entry_proto_collect ?_))
  rw [Around.under_plainId F.plain_proto_collect _]
  refine wpAny_bind (m := newList []) (wpAny_newObj_type (wpAny_pure ⟨plainId_quiet F.plain_list_iadd _, codeAny_builtin F.entry_list_iadd ?_⟩))
  rw [Around.under_plainId F.plain_list_iadd _]
  refine wpAny_mono ext (fun fin s' h => ?_) (fun e s' h => absurd h.1 (by simp))
  cases fin with
  | done f =>
    obtain ⟨e, rfl⟩ := h
    cases e
    exact last
  | again c' => exact ⟨h.1, codeAny_mono h.2 fun r s'' hr => by obtain ⟨rfl, rfl⟩ := hr; exact last⟩
/-- sorted(a tuple of ints) -/
theorem sortedTupI {t : Addr} {items : Array Value} {ns : List Int} {Q : Value → Shared → Prop} (ht : IsTup s.heap t items) (hi : IntsAre items.toList ns) (hn : ns.length ≤ 100000)
    (hQ : ∀ h' p (out : Array Value) (c : Nat) (ns' : List Int), (∀ b o, s.heap.get? b = some o → h'.get? b = some o) → s.heap.objs.size ≤ p → h'.get? p = some (seqObj "list" out c) → IntsAre out.toList ns' → ns'.Perm ns → ns'.Pairwise (· ≤ ·) → Q (.ref p) { s with heap := h' }) :
    wpAny (model P w) A (call (.builtin "sorted") [.ref t]) Q E s := by
  have hl : items.toList.length = ns.length := IntsAre.length hi
  have hsz : items.size ≤ sizeLine := by rw [← Array.length_toList, hl, sizeLine_eq]; omega
  obtain ⟨o, ho, hc, n, hd⟩ := ht
  refine Calls.call_function_entry kind_sorted plain_sorted entry_sorted (args_sorted1 _) (wpAny_bind (m := checkCount "sorted" 1 1 _) (wpAny_pure ?_))
  refine wpAny_bind (collectTup ho hc hd hsz fun h1 k1 hz => ?_)
  refine wpAny_bind (wpAny_newList ?_ (by rw [Array.length_toList]; exact hsz))
  have hoL : (h1.push (seqObj "list" items.toList.toArray 0)).get? h1.objs.size = some (seqObj "list" items.toList.toArray 0) := Heap.get?_push_size _ rfl
  refine wpAny_bind (wpAny_holding (wpAny_call_entry slot_list_sort ⟨_, hoL, rfl⟩ entry_list_sort
    (SrtO.list_sort_ord SrtO.swo_int hoL (by rw [Array.length_toList]; exact hsz) (fun h2 => SrtO.ints_sortable hi h2) fun out b1 b2 => ⟨_, rfl, ?_⟩) (args_list_sort _)))
  obtain ⟨a1, a2, a3⟩ := SrtO.ints_out hi b1 b2
  obtain ⟨c, hc'⟩ := sortedHeap_at (vs := items.toList) (out := out.toArray) hoL
  refine wpAny_pure ⟨_, rfl, hQ _ h1.objs.size out.toArray c (out.map SrtO.iv) (fun b u e => ?_) hz hc' a1 a2 a3⟩
  have q := k1 b u e
  have hlt := Heap.lt_size q
  rw [sortedHeap_old (Nat.ne_of_lt hlt) (by rw [size_push']; exact Nat.lt_succ_of_lt hlt)]
  exact Heap.get?_push_of_some _ q
end
section
variable {X : Cx} {a b c e o : Expr} {ρ : En} {μ μ1 μ2 μ3 : Mu} {x y z : Sl} {pos p p2 : Pos} {n : Str}
theorem cr_sortedTup : CallR X (.builtin "sorted") (fun vs H Q => ∃ (a : Addr) (ns : List Int), vs = [V.ref a] ∧ SqT X.K H a (ns.map V.int) ∧ ns.length ≤ 100000 ∧ ∀ (ns' : List Int) (q : Addr), ns'.Perm ns → ns'.Pairwise (· ≤ ·) → H q = none → Q (.ref q) (upd H q (.lst (ns'.map V.int)))) := by
  intro pins s σ H vs us Q I r h
  obtain ⟨a, ns, rfl, hs, hl, k⟩ := h
  obtain ⟨its, rv, pt, hz⟩ := I.tuple hs
  rw [Vals.ref1 r]
  refine sortedTupI pt (by simpa using ints_of_vals rv) hl fun h' q out c ns' kp hq hg hi pm srt => ?_
  have hlen : (ns'.map V.int).length ≤ sizeLine := by rw [List.length_map, pm.length_eq, sizeLine_eq]; omega
  exact ⟨.ref q, _, I.laid (t' := s.toks) kp hq (show ObjOk X.prog X.w _ h' _ (.lst (ns'.map V.int)) from ⟨hlen, out.toList, c, vals_of_ints hi, hg⟩), rfl, k ns' q pm srt (I.hok.fresh hq)⟩
theorem v_sortedT {ns : List Int} (hm : X.mg "sorted" = none) (ha : PEv X a ρ μ (.d (.tuple (ns.map .int))) μ1) (hl : ns.length ≤ 100000) (hg : Gl X "sorted" := by rfl)
    (he : starEach [a] X.env = [(false, eval a X.env)] := by rfl) : PEv X (.Call (.Name "sorted" p) [a] [] pos) ρ μ (.d (.list ((sortI ns).map .int))) μ1 :=
  v_cb cr_sortedTup (by decide +kernel) hm (a_cons ha a_nil (by rw [he]; rfl)) (fun H vs Q m r kk => by
    obtain ⟨v, rfl, hh⟩ := p1_inv r
    obtain ⟨q, vs, rfl, h1, pp⟩ := NowT.sq (μ := μ1) rfl hh
    rw [ints_of pp] at h1
    refine ⟨q, ns, rfl, SqT.of h1, hl, fun ns' q' pm srt nq => ?_⟩
    rw [sortI_eq pm srt]
    exact kk _ _ (same_upd nq) (new_lst m nq (ints_sr _))) hg (by decide) (by decide) (by rw [he]; rfl) (by rfl)
/-- isinstance(a, (S, T)) -/
theorem v_isi2 {d : PyData} {S T : String} {j k : Bool} {kk : Nat} (hm : X.mg "isinstance" = none) (ha : PEv X a ρ μ (.d d) μ1) (hb : PEv X b ρ μ1 (.v (.ty S)) μ1) (hc : PEv X c ρ μ1 (.v (.ty T)) μ1) (hj : kitB (tyN d) S = some j) (hk : kitB (tyN d) T = some k) (hg : Gl X "isinstance" := by rfl)
    (he : starEach [a, .Tuple [b, c] kk p2] X.env = [(false, eval a X.env), (false, eval (.Tuple [b, c] kk p2) X.env)] := by rfl) (he2 : starEach [.Tuple [b, c] kk p2] X.env = [(false, eval (.Tuple [b, c] kk p2) X.env)] := by rfl) (he3 : starEach [b, c] X.env = [(false, eval b X.env), (false, eval c X.env)] := by rfl) (he4 : starEach [c] X.env = [(false, eval c X.env)] := by rfl) :
    PEv X (.Call (.Name "isinstance" p) [a, .Tuple [b, c] kk p2] [] pos) ρ μ (.d (.bool (j || k))) μ1 :=
  pe_weak (pe_callB call_isiT hg hm (by decide +kernel : bootBuiltins "isinstance" = some (.builtin "isinstance")) (pa_cons ha (pa_cons (pe_tup (pa_cons hb (pa_cons hc pa_nil (by rw [he4]; rfl)) (by rw [he3, he4]))) pa_nil (by rw [he2]; rfl)) (by rw [he, he2])) (by decide) (by decide) (by rw [he, he2]) (by rw [he2]; rfl)) fun σ H Q ⟨w, kf⟩ => ⟨w, fun v H1 w1 e1 r1 => by
    refine ⟨w1, fun v2 H2 w2 e2 r2 => ⟨w2, fun v3 H3 w3 e3 r3 => ?_⟩⟩
    cases (show v2 = .ty S from r2)
    cases (show v3 = .ty T from r3)
    show _ ≤ sizeLine ∧ ∀ q, H3 q = none → _
    refine ⟨sz, fun q nq => ?_⟩
    have rr := (r1.ext e2).ext e3
    have s3 : Same H3 (upd H3 q (.tup [.ty S, .ty T])) := same_upd nq
    have ty := (tyx_of (K := X.K) (dr_le hide_le d v (SR.ext (x := .d d) rr (Ext.same s3))))
    refine (⟨v, q, [.ty S, .ty T], .type (tyN d), [.type S, .type T], j || k, rfl, upd_same, .cons (.ty S) (.cons (.ty T) .nil), ty, ?_, ?_⟩ : rIsiT X.K _ _ _)
    · refine kitAny_cons (kit_ty hj) (fun ej => kitAny_cons (kit_ty hk) (fun ek => ?_) (fun ek => by rw [ek]; simp)) (fun ej => by rw [ej]; rfl)
      rw [ej, ek]; exact kitAny_nil
    · exact kf _ _ (w3.same s3) ((e1.trans (e2.trans e3)).trans (Ext.same s3)) (.bl _)⟩
end
end Fw

namespace Fw
open PySem PySem.Spec PyProof.Rows L2
/-! ### t[::-1] -/
section
variable {P : Program} {w : World} {A : Around} {E : Value → Shared → Prop} {s : Shared}
theorem rev_places (n : Nat) : Builtin.Slice.slicePlaces ((n : Int) - 1) (-1) (-1) = n := by
  unfold Builtin.Slice.slicePlaces
  rw [if_neg (by decide)]
  split
  · have e : (n : Int) - 1 - -1 - 1 = n - 1 := by omega
    rw [e]
    have e2 : ((n : Int) - 1) / (- -1) = n - 1 := by
      have : (- -1 : Int) = 1 := by decide
      rw [this, Int.ediv_one]
    rw [e2]; omega
  · omega
theorem rev_applied {sl : Addr} {vl vu vs : Value} {n : Nat} {Q : Int × Int × Nat → Shared → Prop} (hs : s.heap.IsSliceOf sl vl vu vs) (pl : IsPart vl none) (pu : IsPart vu none) (ps : IsPart vs (some (-1)))
    (h : Q ((n : Int) - 1, -1, n) s) : wpAny (model P w) A (Builtin.Slice.sliceApplied (.ref sl) (pure (n : Int))) Q E s := by
  obtain ⟨os, hos, hcs, hds⟩ := id hs
  unfold Builtin.Slice.sliceApplied Builtin.Slice.sliceFields
  refine wpAny_bind (wpAny_bind (wpAny_field hos hds (x := vl) rfl (wpAny_bind (wpAny_field hos hds (x := vu) rfl (wpAny_bind (wpAny_field hos hds (x := vs) rfl (wpAny_pure ?_)))))))
  refine wpAny_bind (HT.slicePart_ ps ?_)
  show wpAny _ _ (if ((-1 : Int) == 0) = true then _ else _) _ _ s
  rw [if_neg (by decide)]
  refine wpAny_bind (HT.slicePart_ pl (wpAny_bind (HT.slicePart_ pu (wpAny_bind (wpAny_pure ?_)))))
  show wpAny _ _ (pure ((n : Int) - 1, (-1 : Int), Builtin.Slice.slicePlaces ((n : Int) - 1) (-1) (-1))) _ _ s
  rw [rev_places]
  exact wpAny_pure h
theorem rev_pick (xs : List Value) : ((List.range xs.length).filterMap fun (m : Nat) => xs.toArray[(((xs.length : Nat) : Int) - 1 + (m : Int) * -1).toNat]?).toArray = xs.reverse.toArray := by
  congr 1
  refine List.ext_getElem? fun i => ?_
  have key : ∀ (k : Nat), k ≤ xs.length → (List.range k).filterMap (fun (m : Nat) => xs.toArray[(((xs.length : Nat) : Int) - 1 + (m : Int) * -1).toNat]?) = xs.reverse.take k := by
    intro k
    induction k with
    | zero => intro _; rfl
    | succ k ih =>
      intro hk
      have e1 : (((xs.length : Nat) : Int) - 1 + (k : Int) * -1).toNat = xs.length - 1 - k := by omega
      have hr : k < xs.reverse.length := by rw [List.length_reverse]; omega
      rw [List.range_succ, List.filterMap_append, ih (by omega), take_succ_get hr]
      congr 1
      have e2 : xs.toArray[(((xs.length : Nat) : Int) - 1 + (k : Int) * -1).toNat]? = some xs.reverse[k] := by
        rw [e1, List.getElem?_toArray, List.getElem?_eq_getElem (show xs.length - 1 - k < xs.length by omega), List.getElem_reverse]
      rw [List.filterMap_cons, e2]; rfl
  rw [key xs.length (Nat.le_refl _), List.take_of_length_le (by rw [List.length_reverse]; exact Nat.le_refl _)]
theorem getItem_rev {t sl : Addr} {items : List Value} {vl vu vs : Value} {Q : Value → Shared → Prop} (ht : IsTup s.heap t items.toArray) (hs : s.heap.IsSliceOf sl vl vu vs) (pl : IsPart vl none) (pu : IsPart vu none) (ps : IsPart vs (some (-1)))
    (h : Q (.ref s.heap.objs.size) { s with heap := s.heap.push { cls := .type "tuple", data := .seq items.reverse.toArray } }) (hsz : items.length ≤ sizeLine) : wpAny (model P w) A (getItem (.ref t) (.ref sl)) Q E s := by
  have hz : sizeOk (.seq items.reverse.toArray) := by
    show items.reverse.toArray.size ≤ sizeLine
    rw [List.size_toArray, List.length_reverse]; exact hsz
  obtain ⟨os, hos, hcs, hds⟩ := id hs
  have hTs : s.TypeIs (.ref sl) "slice" := ⟨os, hos, hcs⟩
  unfold getItem
  try with_reducible refine wpAny_holding ?_
  first | refine wpAny_bind (wpAny_pure ?_) | skip
  refine wpAny_bind (wpAny_sequenceKey ht.typeIs (by decide) (wpAny_bind (wpAny_callSpecial?_slot (name := Str.ofString "__getitem__") ht.typeIs PyProof.Rows.slot_tuple_getitem
    (wpAny_call_entry PyProof.Rows.slot_tuple_getitem ht.typeIs entry_tuple_getitem ?_ (args_tuple_getitem _ _)))))
  show wpAny _ _ (Builtin.Tuple.tupleItemsOf (.ref t) >>= _) _ _ s
  refine wpAny_bind (tupleItemsOf_ ht (wpAny_bind (wpAny_typeOf hTs ?_)))
  rw [if_pos (by decide)]
  have e0 : items.toArray.size = items.length := by rw [List.size_toArray]
  refine wpAny_bind (rev_applied (n := items.toArray.size) hs pl pu ps ?_)
  show wpAny _ _ (if (((items.toArray.size : Int) - 1) == 0 && (-1 : Int) == 1 && items.toArray.size == items.toArray.size) = true then _ else _) _ _ s
  rw [if_neg (by simp), e0, rev_pick]
  first
    | exact wpAny_bind (m := Builtin.Tuple.tupleExact _) (wpAny_newObj_type (wpAny_pure ⟨_, rfl, wpAny_pure h⟩) hz)
    | exact wpAny_bind (m := Builtin.Tuple.tupleExact _) (wpAny_newObj_type (wpAny_bind (wpAny_pure (wpAny_pure ⟨_, rfl, wpAny_pure h⟩))) hz)
    | exact wpAny_bind (wpAny_bind (m := Builtin.Tuple.tupleExact _) (wpAny_newObj_type (wpAny_pure (wpAny_pure ⟨_, rfl, wpAny_pure h⟩)) hz))
    | exact wpAny_bind (wpAny_bind (m := Builtin.Tuple.tupleExact _) (wpAny_newObj_type (wpAny_pure ⟨_, rfl, wpAny_pure h⟩) hz))
end
section
variable {X : Cx} {a : Expr} {ρ : En} {μ μ1 : Mu} {pos p1 p2 p3 : Pos}
/-- a tuple from behind -/
theorem v_revT {ds : List PyData} {k : Nat} (ha : PEv X a ρ μ (.d (.tuple ds)) μ1) : PEv X (.Subscript a (.Slice none none (some (.UnaryOp .USub (.Constant (.int 1) k p1) p2)) p3) pos) ρ μ (.d (.tuple ds.reverse)) μ1 := by
  refine ⟨fun pins s σ H Q I h => ?_⟩
  obtain ⟨w, kk⟩ := h
  refine Subscript_ (thn (ha.run pins s σ H (fun v H1 => W H1 σ ρ μ1 ∧ Ext H μ H1 μ1 ∧ SR (hide H1 μ1) v (.d (.tuple ds))) I ⟨w, fun v H' w1 e1 r1 => ⟨w1, e1, r1⟩⟩) fun v s1 ⟨x', H1, I1, r1, w1, e1, sr⟩ => ?_)
  obtain ⟨l, vs0, rfl, h1, pp⟩ := NowT.sq (μ := μ1) rfl sr
  cases r1
  have hst : PO X (some (.UnaryOp .USub (.Constant (.int 1) k p1) p2)) (tPart (tUn (rU fun i => .int (-i)) (tC (.int 1)))) := po_some (pe_un un_neg pe_int)
  refine wpAny_Slice (thn (po_none.run pins s1 σ H1 (fun o H2 => o = none ∧ H2 = H1) I1 ⟨rfl, rfl⟩) fun vl s2 ⟨lo, H2, I2, pl, el, e2⟩ => ?_)
  subst el e2
  refine thn (po_none.run pins s2 σ H2 (fun o H3 => o = none ∧ H3 = H2) I2 ⟨rfl, rfl⟩) fun vu s3 ⟨u, H3, I3, pu, eu, e3⟩ => ?_
  subst eu e3
  refine thn (hst.run pins s3 σ H3 (fun o H4 => o = some (-1) ∧ H4 = H3) I3 ⟨1, rfl, -1, rfl, rfl, rfl⟩) fun vs s4 ⟨o, H4, I4, ps, eo, e4⟩ => ?_
  subst eo e4
  have I5 : Inv X pins σ H4 { s4 with heap := s4.heap.push { cls := .type "slice", data := .fields #[vl, vu, vs] } } := I4.kept (t' := s4.toks) fun b ob q => Heap.get?_push_of_some _ q
  obtain ⟨its, r, ht, hz⟩ := I5.tuple (SqT.of h1)
  have hlen := r.length
  have ll := paired_len pp
  show wpAny (model X.prog X.w) X.A (subscriptTail a (.Slice none none (some (.UnaryOp .USub (.Constant (.int 1) k p1) p2)) p3) (.ref l) (.ref s4.heap.objs.size)) (EP X pins σ Q) X.xe { s4 with heap := s4.heap.push { cls := .type "slice", data := .fields #[vl, vu, vs] } }
  refine tail_any (ops := [.ref l, .ref s4.heap.objs.size]) ht.typeIs PyProof.Rows.slot_tuple_getitem.lookup ?_ (by with_unfolding_all rfl)
  refine getItem_rev ht (Heap.IsSliceOf.new _ vl vu vs) pl pu ps ?_ (by omega)
  have nq := I5.hok.fresh (Nat.le_refl _)
  refine ⟨.ref _, _, I5.laid (t' := s4.toks) (o := .tup vs0.reverse) (fun b ob q => Heap.get?_push_of_some _ q) (Nat.le_refl _) ⟨by rw [List.length_reverse]; exact hz, _, r.reverse, IsTup.new _ _⟩, rfl, kk _ _ (w1.same (same_upd nq)) (e1.trans (Ext.same (same_upd nq))) (new_tup w1.mu nq ?_)⟩
  rw [List.map_reverse]
  have rev : ∀ {us : List V} {ys : List Sl}, Paired (SR (hide H4 μ1)) us ys → Paired (SR (hide H4 μ1)) us.reverse ys.reverse := by
    intro us ys h
    induction h with
    | nil => exact .nil
    | cons h t ih => rw [List.reverse_cons, List.reverse_cons]; exact paired_app ih (.cons h .nil)
  exact rev pp
end
end Fw

/-! ### while an exception is handled: the end of a list's and of a tuple's iterator, unpacking -/
namespace HotF
open PySem PySem.Spec PyProof.Rows HotX
section
variable {prog : Program} {w : World} {A : Around} {E : Value → Shared → Prop} {s : Shared}
theorem HotAt.ext {x1 : Addr} {h h' : Heap} (hot : HotAt A x1 h) (k : ∀ o, h.get? x1 = some o → h'.get? x1 = some o) : HotAt A x1 h' := by
  obtain ⟨hh, o1, vs1, h1, d1, c1⟩ := hot
  exact ⟨hh, o1, vs1, k _ h1, d1, c1⟩
theorem pyNext_list_end_hot {it l x1 : Addr} {i : Nat} {items : Array Value} {Q : Option Value → Shared → Prop} (hot : HotAt A x1 s.heap) (hne : x1 ≠ it)
    (hit : s.heap.IsListIter it l i) (hl : s.heap.IsList l items) (hx : items[i]? = none)
    (hQ : ∀ h', Heap.ExtBut it s.heap h' → Q none { s with heap := h' }) : wpAny (model prog w) A (pyNext (.ref it)) Q E s := by
  obtain ⟨o, ho, hc, hd⟩ := id hit
  obtain ⟨ol, hol, _, nl, hdl⟩ := hl
  obtain ⟨hh, o1, vs1, h1, d1, c1⟩ := hot
  unfold pyNext
  refine wpAny_bind (wpAny_attempt (wpAny_callSpecial?_slot (name := Str.ofString "__next__") hit.typeIs slot_listiter_next
    (wpAny_call_entry slot_listiter_next hit.typeIs entry_listiter_next ?_ (args_listiter_next _))))
  show wpAny _ _ (field (.ref it) 0 >>= _) _ _ s
  refine wpAny_bind (wpAny_field ho hd (x := .ref l) rfl ?_)
  show wpAny _ _ (if (Value.ref l == Value.none) = true then _ else _) _ _ s
  rw [if_neg (show ¬ ((Value.ref l == Value.none) = true) from Bool.false_ne_true)]
  show wpAny _ _ (field (.ref it) 1 >>= _) _ _ s
  refine wpAny_bind (wpAny_field ho hd (x := .int i 0) rfl ?_)
  show wpAny _ _ (seqItems? (.ref l) >>= _) _ _ s
  refine wpAny_bind (wpAny_seqItems hol hdl ?_)
  simp only [Int.toNat_natCast, hx]
  refine wpAny_bind (wpAny_rule (wpAny_bind (wpAny_setField ho hd (by simp) ?_)))
  show wpAny _ _ (newExc (.type "StopIteration") [] >>= _) _ _ _
  refine wpAny_bind ?_
  simp only [newExc, newTuple]
  refine wpAny_bind (wpAny_newObj_type ?_ (by size_fits))
  refine wpAny_bind (m := firstArgMember _ _) (wpAny_of_eq (a := Value.none) (by first | rfl | (simp only [firstArgMember]; rfl)) ?_)
  refine wpAny_newObj_type ?_ (by size_fits)
  have h1' : (s.heap.update it (Obj.mapFields (·.setIfInBounds 0 Value.none))).get? x1 = some o1 := (Heap.get?_update_other _ _ (fun z => hne z.symm)).trans h1
  refine raiseNew_hot ⟨hh, o1, vs1, Heap.get?_push_of_some _ (Heap.get?_push_of_some _ h1'), d1, c1⟩ (Nat.ne_of_lt (Heap.lt_size (Heap.get?_push_of_some _ h1'))) (Heap.get?_push_size _ rfl) rfl (by first | (simp; done) | (simp; omega) | (simp only [Array.size_append]; simp; omega)) ?_
  refine wpAny_bind (wpAny_isInstance (T := "StopIteration") (b := true) ⟨_, Heap.get?_update_self _ (Heap.get?_push_size _ rfl) rfl, rfl⟩ isSubtype_stop ?_)
  refine wpAny_pure (hQ _ fun b ob hb e => ?_)
  have e1 : (s.heap.update it (Obj.mapFields (·.setIfInBounds 0 Value.none))).get? b = some ob := (Heap.get?_update_other _ _ (fun z => hb z.symm)).trans e
  rw [Heap.get?_update_other _ _ (Nat.ne_of_gt (Heap.lt_size (Heap.get?_push_of_some _ e1)))]
  exact Heap.get?_push_of_some _ (Heap.get?_push_of_some _ e1)
theorem pyNext_tuple_end_hot {it t x1 : Addr} {i : Nat} {items : Array Value} {Q : Option Value → Shared → Prop} (hot : HotAt A x1 s.heap) (hne : x1 ≠ it)
    (hit : s.heap.IsTupleIter it t i) (ht : s.heap.IsTuple t items) (hx : items[i]? = none)
    (hQ : ∀ h', Heap.ExtBut it s.heap h' → Q none { s with heap := h' }) : wpAny (model prog w) A (pyNext (.ref it)) Q E s := by
  obtain ⟨o, ho, hc, hd⟩ := id hit
  obtain ⟨ol, hol, _, nl, hdl⟩ := ht
  obtain ⟨hh, o1, vs1, h1, d1, c1⟩ := hot
  unfold pyNext
  refine wpAny_bind (wpAny_attempt (wpAny_callSpecial?_slot (name := Str.ofString "__next__") hit.typeIs F.slot_tuple_iterator_next
    (wpAny_call_entry F.slot_tuple_iterator_next hit.typeIs F.entry_tuple_iterator_next ?_ (F.args_tuple_iterator_next_1 _))))
  show wpAny _ _ (field (.ref it) 0 >>= _) _ _ s
  refine wpAny_bind (wpAny_field ho hd (x := .ref t) rfl ?_)
  show wpAny _ _ (if (Value.ref t == Value.none) = true then _ else _) _ _ s
  rw [if_neg (show ¬ ((Value.ref t == Value.none) = true) from Bool.false_ne_true)]
  show wpAny _ _ (field (.ref it) 1 >>= _) _ _ s
  refine wpAny_bind (wpAny_field ho hd (x := .int i 0) rfl ?_)
  show wpAny _ _ (seqItems? (.ref t) >>= _) _ _ s
  refine wpAny_bind (wpAny_seqItems hol hdl ?_)
  simp only [Int.toNat_natCast, hx]
  refine wpAny_bind (wpAny_rule (wpAny_bind (wpAny_setField ho hd (by simp) ?_)))
  show wpAny _ _ (newExc (.type "StopIteration") [] >>= _) _ _ _
  refine wpAny_bind ?_
  simp only [newExc, newTuple]
  refine wpAny_bind (wpAny_newObj_type ?_ (by size_fits))
  refine wpAny_bind (m := firstArgMember _ _) (wpAny_of_eq (a := Value.none) (by first | rfl | (simp only [firstArgMember]; rfl)) ?_)
  refine wpAny_newObj_type ?_ (by size_fits)
  have h1' : (s.heap.update it (Obj.mapFields (·.setIfInBounds 0 Value.none))).get? x1 = some o1 := (Heap.get?_update_other _ _ (fun z => hne z.symm)).trans h1
  refine raiseNew_hot ⟨hh, o1, vs1, Heap.get?_push_of_some _ (Heap.get?_push_of_some _ h1'), d1, c1⟩ (Nat.ne_of_lt (Heap.lt_size (Heap.get?_push_of_some _ h1'))) (Heap.get?_push_size _ rfl) rfl (by first | (simp; done) | (simp; omega) | (simp only [Array.size_append]; simp; omega)) ?_
  refine wpAny_bind (wpAny_isInstance (T := "StopIteration") (b := true) ⟨_, Heap.get?_update_self _ (Heap.get?_push_size _ rfl) rfl, rfl⟩ isSubtype_stop ?_)
  refine wpAny_pure (hQ _ fun b ob hb e => ?_)
  have e1 : (s.heap.update it (Obj.mapFields (·.setIfInBounds 0 Value.none))).get? b = some ob := (Heap.get?_update_other _ _ (fun z => hb z.symm)).trans e
  rw [Heap.get?_update_other _ _ (Nat.ne_of_gt (Heap.lt_size (Heap.get?_push_of_some _ e1)))]
  exact Heap.get?_push_of_some _ (Heap.get?_push_of_some _ e1)
theorem unpackItems_hot {t x1 : Addr} {items : Array Value} {Q : List Value → Shared → Prop} (hot : HotAt A x1 s.heap) (ht : s.heap.IsTuple t items)
    (hQ : ∀ h', Heap.ExtBut s.heap.objs.size s.heap h' → Q items.toList { s with heap := h' }) : wpAny (model prog w) A (unpackItems (.ref t) items.size none) Q E s := by
  have hlt : t ≠ s.heap.objs.size := by obtain ⟨o, ho, _⟩ := ht; exact Nat.ne_of_lt (Heap.lt_size ho)
  have hx1 : x1 ≠ s.heap.objs.size := by obtain ⟨_, o1, vs1, h1, _⟩ := hot; exact Nat.ne_of_lt (Heap.lt_size h1)
  unfold unpackItems
  refine wpAny_bind ?_
  · unfold notIterableAtAll
    refine wpAny_bind (wpAny_specialOf ht.typeIs F.slot_tuple_iter.lookup ?_)
    refine wpAny_pure ?_
    simp only [Bool.false_eq_true, if_false]
    refine wpAny_bind (wpAny_holding (wpAny_pyIter_tuple ht ?_))
    refine wpAny_bind (wpAny_holding (wpAny_draw_tuple hlt items.size 0 _ _ ⟨_, Heap.get?_push_size _ rfl, rfl, rfl⟩ (ht.push _) (by omega) fun h₁ hit₁ hs₁ => ?_))
    have hall : List.take items.size (List.drop 0 items.toList) = items.toList := by
      rw [List.drop_zero]; exact List.take_of_length_le (by simp)
    rw [hall]
    rw [if_neg (by simp)]
    have ht₁ : h₁.IsTuple t items := (ht.push _).extBut hs₁.extBut hlt
    refine wpAny_bind (wpAny_holding (pyNext_tuple_end_hot (x1 := x1) (HotAt.ext hot fun o e => hs₁.extBut _ _ hx1 (Heap.get?_push_of_some _ e)) hx1 hit₁ ht₁ (by simp) fun h₂ he₂ => ?_))
    simp only [Option.isSome_none, Bool.false_eq_true, if_false]
    refine wpAny_pure (hQ h₂ fun b o hb e => he₂ b o hb (hs₁.extBut b o hb (Heap.get?_push_of_some _ e)))
theorem assign_Tuple_hot {env : Env} {elts : List Expr} {x2} {pos : Pos} {t x1 : Addr} {items : Array Value} {Q : Unit → Shared → Prop} (hot : HotAt A x1 s.heap) (ht : s.heap.IsTuple t items)
    (hn : (assignEach elts env).length = items.size) (hstar : (assignEach elts env).findIdx? (·.1) = none)
    (h : ∀ h', Heap.ExtBut s.heap.objs.size s.heap h' → wpAny (model prog w) A (assignInOrder ((assignEach elts env).map (·.2)) items.toList) Q E { s with heap := h' }) :
    wpAny (model prog w) A (assign (.Tuple elts x2 pos) env (.ref t)) Q E s := by
  rw [arm_assign_Tuple]
  refine wpAny_bind (wpAny_standAt ?_)
  unfold unpack
  rw [hn, hstar]
  exact wpAny_bind (wpAny_holding (unpackItems_hot hot ht h))
end
end HotF

/-! ### a comprehension over a list while an exception is handled -/
namespace HotF
open PySem PySem.Spec PyProof.Rows L2 L2H HotX
/-- a comprehension's block that bears the handled exception q -/
abbrev blkH (X : Cx) (q : Addr × Obj) (s : Shared) (H : Hp) (scope : Scope) (cenv : Env) (fp : List Addr) : Cx := { X.blk s H scope cenv fp with pn := [q] }
theorem hotC_blk {X : Cx} {q : Addr × Obj} {s : Shared} {H : Hp} {scope : Scope} {cenv : Env} {fp : List Addr} (h : Hot1 X.A q) : HotC (blkH X q s H scope cenv fp) := ⟨q, h, List.mem_cons_self⟩
theorem turn_listH {P : Program} {w : World} {K : PySem.W.Frag} {tg : Expr} (a it : Addr) : TurnH P w K tg (Itl K a) [it] it (fun i h => h.IsListIter it a i) where
  mem := by simp
  obj := fun i h st b hb => by
    have e : b = it := by simpa using hb
    subst e
    obtain ⟨o, e, c, d⟩ := st
    exact ⟨o, e, fun v z => by rw [d] at z; cases z⟩
  keep := fun i h h' st k => st.at fun o e => k it (by simp) o e
  item := by
    intro X hP hw hK hc i pins s σ H E I hf st hg
    subst hP hw hK
    obtain ⟨xs, x, hq, hx⟩ := hg
    obtain ⟨its, rv, p, hz⟩ := I.list hq
    obtain ⟨u, hu, ru⟩ := rv.get hx
    obtain ⟨f0, f1, f2, f3, f4, f5⟩ := hf it (by simp)
    refine wpAny_pyNext_list_item st p.isList (x := u) (by simpa using hu) fun h' st' sb => ?_
    have I1 : Inv X pins σ H { s with heap := h' } := I.turned (t' := s.toks) (fun b o hb e => (sb.2 b hb).trans e) f0 f1 f3 f4 f5
    obtain ⟨o, e, c, d⟩ := id st'
    exact ⟨u, rfl, go_of (s := { s with heap := h' }) e c d (by decide) ⟨x, H, I1, ru, ⟨rfl, fun ys hy => by rw [I.list_inj hy hq]; exact hx⟩, st', fun b hb => (hf b hb).1⟩⟩
  done := by
    intro X hP hw hK hc i pins s σ H E I hf st hg
    subst hP hw hK
    obtain ⟨xs, hq, hx⟩ := hg
    obtain ⟨its, rv, p, hz⟩ := I.list hq
    obtain ⟨f0, f1, f2, f3, f4, f5⟩ := hf it (by simp)
    have hl := rv.length
    obtain ⟨q, ⟨hh, v1, e1, c1⟩, hp⟩ := hc
    have hot : HotAt X.A q.1 s.heap := ⟨hh, q.2, v1, (I.pin q (List.mem_append_left _ hp)).1, e1, c1⟩
    exact pyNext_list_end_hot hot (f5 q (List.mem_append_left _ hp)) st p.isList (by simp; omega) fun h' eb => ⟨rfl, I.turned (t' := s.toks) (fun b o hb e => eb b o hb e) f0 f1 f3 f4 f5⟩
  self := fun _ _ _ _ _ st h => wpAny_pyIter_listiter st h
section
variable {X : Cx} {tg : Expr}
theorem pi_listH {l : Expr} {tl : TE} (hl : PE X l tl) : PIH X tg l (iList X.K tl) := by
  refine ⟨fun pins s σ H R I h => ?_⟩
  refine thn (hl.run pins s σ H _ I h) fun v s1 ⟨x, H1, I1, r1, q1⟩ => ?_
  obtain ⟨a, e, ⟨xs, hq⟩, q⟩ := q1
  subst e
  cases r1
  obtain ⟨its, rv, p, hz⟩ := I1.list hq
  refine wpAny_pyIter_list p.isList ?_
  refine ⟨s1.heap.objs.size, [s1.heap.objs.size], _, _, H1, rfl, I1.kept (t' := s1.toks) fun b o e => Heap.get?_push_of_some _ e, turn_listH a _, ⟨_, Heap.get?_push_size _ rfl, rfl, rfl⟩, fun b hb => ?_, q⟩
  have e : b = s1.heap.objs.size := by simpa using hb
  subst e
  exact I1.fpOk (Nat.le_refl _) (I1.hok.fresh (Nat.le_refl _))
theorem pg_tupH {es : List Expr} {k : Nat} {t : TGs} {n : Nat} {pos : Pos} (hc : HotC X) (h : PGs X es t)
    (hn : (assignEach es X.env).length = n := by rfl) (hst : (assignEach es X.env).findIdx? (·.1) = none := by rfl) : PG X (.Tuple es k pos) (gTup X.K n t) := by
  refine ⟨fun pins s σ H v u Q I r hw => ?_⟩
  obtain ⟨a, xs, e1, hq, hl, hw⟩ := hw
  subst e1
  cases r
  obtain ⟨its, rv, ht, hz⟩ := I.tuple hq
  obtain ⟨x1, hot⟩ := hc.at I
  refine assign_Tuple_hot hot (show s.heap.IsTuple a its.toArray from ht) (by simp [hn, ← hl, rv.length]) hst fun h' hx => ?_
  have I1 : Inv X pins σ H { s with heap := h' } := I.kept (t' := s.toks) fun b o e => hx b o (Nat.ne_of_lt (Heap.lt_size e)) e
  exact h.run pins _ σ H xs _ Q I1 (by simpa using rv) hw
theorem lc_coreH {q0 : Addr × Obj} {pins : List (Addr × Obj)} {s : Shared} {σ : L2.St} {H : Hp} {Q : VK} {elt tg iter : Expr} {ifs : List Expr} {scope : Scope} {own : List (Str × Nat)} {pos pos' : Pos} {wi : TI} {g : TG} {tt : TT} {te : TE} {use : Option (Value → Sem Unit)} {Qf : Value → Shared → Prop}
    (hot : Hot1 X.A q0) (hq0 : q0 ∈ X.pn) (hN : X.N.Nodup) (I : Inv X pins σ H s) (hi : PIH X tg iter wi) (ok : BlkOk X.N X.env.scope scope own)
    (hg : ∀ (s : Shared) (H : Hp) (C : Addr) (cl : List (Str × Addr)) (fp : List Addr), PG (blkH X q0 s H scope (compEnvC scope cl C X.env) fp) tg g) (ht : ∀ (s : Shared) (H : Hp) (C : Addr) (cl : List (Str × Addr)) (fp : List Addr), PTs (blkH X q0 s H scope (compEnvC scope cl C X.env) fp) ifs tt)
    (he : ∀ (s : Shared) (H : Hp) (C : Addr) (cl : List (Str × Addr)) (fp : List Addr), PE (blkH X q0 s H scope (compEnvC scope cl C X.env) fp) elt te) (hs : ∀ x, foldedSetIterable iter X.env x = pure x)
    (h : tLc wi g tt te (own.map (·.2)) σ H Q)
    (hRR : ∀ D C s' m H', Inv X pins σ H' s' → Q (.ref D) H' → s'.heap.Ns C m → FpOk X pins H' C → compPost (model X.prog X.w) X.A X.xe use Qf (.ref D) C (.ok .next) s') :
    wpAny (model X.prog X.w) X.A (comprehension (.ListComp elt [⟨tg, iter, ifs, 0⟩] scope pos) scope X.env pos' (newList []) false (eval iter X.env) use) Qf X.xe s := by
  have hfree : ∀ y ∈ scope.names, y.2 = .free → ∃ c, X.env.cells.lookup y.1 = some c := fun y hy e => by
    rcases ok.free y hy e with k | k
    · exact I.ok.has _ (.inl k)
    · exact I.ok.has _ (.inr k)
  refine wpAny_comprehension_free (use := use) rfl hs (closure_ok hfree) ok.kind (fun y hy e => by rw [ok.uniq y hy, e])
    (thn (hi.run pins s σ H _ I h) fun xv s1 hx => thn hx fun itv s2 h2 => ?_)
  obtain ⟨it, fp, tn, J, H2, e, I2, T, st2, f2, q⟩ := h2
  subst e
  refine wpAny_newObj_type (newEnv_comp ?_) (by show 0 ≤ sizeLine; decide)
  generalize hD : s2.heap.objs.size = D
  have hDn : H2 D = none := I2.hok.fresh (Nat.le_of_eq hD)
  obtain ⟨W, ⟨m0, w0⟩, turn⟩ := q D hDn
  generalize hs3 : ({ s2 with heap := s2.heap.push { cls := .type "list", data := .seq ([] : List Value).toArray } } : Shared) = s3
  have I3 : Inv X pins σ (upd H2 D (.lst [])) s3 := by
    rw [← hs3]
    refine I2.laid (t' := s2.toks) (fun b o e => Heap.get?_push_of_some _ e) (Nat.le_of_eq hD) ⟨Nat.zero_le _, [], 0, .nil, ?_⟩
    rw [← hD]
    exact Heap.get?_push_size _ rfl
  have h3 : s3.heap = s2.heap.push { cls := .type "list", data := .seq ([] : List Value).toArray } := by rw [← hs3]
  have sz : ∀ b ∈ fp, b < s2.heap.objs.size := fun b hb => by
    obtain ⟨o, e, _⟩ := T.obj _ _ st2 b hb
    exact Heap.lt_size e
  have f3 : ∀ b ∈ fp, FpOk X pins (upd H2 D (.lst [])) b ∧ b < s3.heap.objs.size := fun b hb => by
    have hlt := sz b hb
    refine ⟨⟨?_, (f2 b hb).2⟩, by rw [h3, Heap.size_push]; exact Nat.lt_succ_of_lt hlt⟩
    rw [upd_ne (by rw [← hD]; exact Nat.ne_of_lt hlt)]
    exact (f2 b hb).1
  have st3 : tn 0 s3.heap := T.keep _ _ _ st2 fun b _ o e => by rw [h3]; exact Heap.get?_push_of_some _ e
  have I4 := block_start I3 ok hN f3
  have pg := hg s3 (upd H2 D (.lst [])) s3.heap.objs.size (cellsFrom (s3.heap.objs.size + 1) scope.names (cloFrom X.env.cells scope.names [])) fp
  have pt := ht s3 (upd H2 D (.lst [])) s3.heap.objs.size (cellsFrom (s3.heap.objs.size + 1) scope.names (cloFrom X.env.cells scope.names [])) fp
  have pe := he s3 (upd H2 D (.lst [])) s3.heap.objs.size (cellsFrom (s3.heap.objs.size + 1) scope.names (cloFrom X.env.cells scope.names [])) fp
  show codeAny _ _ (.compStart (.ListComp elt [⟨tg, iter, ifs, 0⟩] scope pos) 0 (.ref it) (.ref D) (compEnvC scope (cellsFrom (s3.heap.objs.size + 1) scope.names (cloFrom X.env.cells scope.names [])) s3.heap.objs.size X.env)) (compPost (model X.prog X.w) X.A X.xe use Qf (.ref D) s3.heap.objs.size) { s3 with heap := pushCells (s3.heap.push { cls := .type "dict", data := .dict #[] }) scope.names }
  have nfp : ∀ b ∈ fp, (upd H2 D (.lst [])) b = none := fun b hb => (f3 b hb).1.1
  -- the handled exception, seen from the block
  have P3 := I3.pin q0 (List.mem_append_left _ hq0)
  have hqfp : ∀ b ∈ fp, q0.1 ≠ b := fun b hb => (f3 b hb).1.2.2.2.2.2 q0 (List.mem_append_left _ hq0)
  have qst : q0.1 ∉ frs X.stack := fun z => by
    rcases List.mem_cons.mp (I3.stkSub q0.1 z) with e | e
    · exact P3.2.2.1 e
    · exact P3.2.2.2.1 e
  generalize hce : compEnvC scope (cellsFrom (s3.heap.objs.size + 1) scope.names (cloFrom X.env.cells scope.names [])) s3.heap.objs.size X.env = ce at I4 pg pt pe ⊢
  have cL : ce.locals = s3.heap.objs.size := by subst hce; rfl
  generalize hH3 : upd H2 D (.lst []) = H3 at I3 I4 pg pt pe w0 nfp f3 P3
  generalize hs4 : ({ s3 with heap := pushCells (s3.heap.push { cls := .type "dict", data := .dict #[] }) scope.names } : Shared) = s4 at I4 ⊢
  have I4' : Inv (blkH X q0 s3 H3 scope ce fp) [] (wipe σ (own.map (·.2))) H3 s4 := by
    refine ⟨⟨I4.ok.mod, I4.ok.kind, I4.ok.glob, I4.ok.blt, I4.ok.above, I4.ok.inj, I4.ok.has, I4.ok.cab, I4.ok.hd, I4.ok.frames, I4.ok.stk, I4.ok.exf, I4.ok.bs, I4.ok.bsz, I4.ok.noex, I4.ok.exfs, I4.ok.funs, I4.ok.frf⟩, I4.os, I4.bare, I4.base, I4.loc, I4.cell, I4.free, I4.freeC, fun p hp => ?_, I4.hok, I4.len⟩
    have ep : p = q0 := by simpa using (show p ∈ [q0] ++ ([] : List (Addr × Obj)) from hp)
    subst ep
    refine ⟨?_, P3.2.1, ?_, qst, P3.2.2.2.2⟩
    · rw [← hs4]
      exact pushCells_keeps _ _ _ _ (Heap.get?_push_of_some _ P3.1)
    · show p.1 ≠ ce.locals
      rw [cL]
      exact Nat.ne_of_lt (Heap.lt_size P3.1)
  have hc : HotC (blkH X q0 s3 H3 scope ce fp) := hotC_blk hot
  have st4 : tn 0 s4.heap := T.keep _ _ _ st3 fun b _ o e => by rw [← hs4]; exact pushCells_keeps _ _ _ _ (Heap.get?_push_of_some _ e)
  have stat : ∀ {σ' : L2.St} {H' : Hp} {s' : Shared}, Inv (blkH X q0 s3 H3 scope ce fp) [] σ' H' s' → (∀ b ∈ fp, H' b = none) → ∀ b ∈ fp, FpOk (blkH X q0 s3 H3 scope ce fp) [] H' b := fun {σ' H' s'} I' hn b hb =>
    ⟨hn b hb, (I'.ok.exf b hb).1, I'.ok.exfs b hb, .inl hb, fun x c e => (I'.ok.exf b hb).2 x c e, fun p hp => by
      have ep : p = q0 := by simpa using (show p ∈ [q0] ++ ([] : List (Addr × Obj)) from hp)
      rw [ep]
      exact hqfp b hb⟩
  have loop : codeAny (model X.prog X.w) X.A (.compLoop (.ListComp elt [⟨tg, iter, ifs, 0⟩] scope pos) 0 (.ref it) (.ref D) ce) (compPost (model X.prog X.w) X.A X.xe use Qf (.ref D) s3.heap.objs.size) s4 := by
    refine compLoop_any (fun n s' => ∃ i H', Inv (blkH X q0 s3 H3 scope ce fp) [] (wipe σ (own.map (·.2))) H' s' ∧ tn i s'.heap ∧ (∀ b ∈ fp, H' b = none) ∧ W i n H') ?_ m0 ⟨0, H3, I4', st4, nfp, w0⟩
    rintro n s5 ⟨i, H5, I5, st5, n5, w5⟩
    rcases turn i n H5 w5 with ⟨stop, qq⟩ | ⟨go, Nx, hNx, step⟩
    · have td := T.done (blkH X q0 s3 H3 scope ce fp) rfl rfl rfl hc i [] s5 _ H5 (fun _ _ => False) I5 (stat I5 n5) st5 stop
      refine thnF td fun r s6 ⟨hr, I6⟩ => ?_
      subst hr
      have I7 : Inv X pins σ H5 s6 := I3.call' (ch := fp) I6.os I6.base I6.hok I6.bare fun b hb => ⟨(f3 b hb).1.2.2.2.1, (f3 b hb).1.2.1, (f3 b hb).1.2.2.2.2.1, (f3 b hb).1.2.2.2.2.2⟩
      have nC : H5 s3.heap.objs.size = none := by
        have z : H5 ce.locals = none := I6.free
        rw [cL] at z
        exact z
      obtain ⟨m, hn, _⟩ := I6.loc
      have hn : s6.heap.Ns ce.locals m := hn
      rw [cL] at hn
      exact hRR D s3.heap.objs.size s6 m H5 I7 qq hn (I3.fpOk (Nat.le_refl _) nC)
    · have ti := T.item (blkH X q0 s3 H3 scope ce fp) rfl rfl rfl hc i [] s5 _ H5 (fun _ _ => False) I5 (stat I5 n5) st5 go
      refine thnF ti fun r s6 ⟨u, hr, h6⟩ => ?_
      subst hr
      refine thnF h6 fun _ s7 ⟨x, H7, I7, r7, y7, st7, n7⟩ => ?_
      have I7' := I7.pinned (stat I7 n7) (T.obj _ _ st7)
      refine thnF (pg.run _ s7 _ H7 x u _ I7' r7 (step x H7 y7)) fun _ s8 ⟨σ8, H8, I8, hw8, q8⟩ => ?_
      refine thnF (pt.run _ s8 σ8 H8 _ I8 q8) fun b s9 ⟨H9, I9, q9⟩ => ?_
      have fin : ∀ {s' : Shared} {H' : Hp}, Inv (blkH X q0 s3 H3 scope ce fp) ([] ++ pinsAt fp s7.heap) σ8 H' s' → Nx H' → ∃ m, m < n ∧ ∃ i H', Inv (blkH X q0 s3 H3 scope ce fp) [] (wipe σ (own.map (·.2))) H' s' ∧ tn i s'.heap ∧ (∀ b ∈ fp, H' b = none) ∧ W i m H' := fun {s' H'} I' nx => by
        obtain ⟨m', hm, w'⟩ := hNx H' nx
        have pin' : ∀ b ∈ fp, ∀ o, s7.heap.get? b = some o → s'.heap.get? b = some o ∧ H' b = none := fun b hb o e =>
          let z := I'.pin (b, o) (List.mem_append_right _ (List.mem_append_right _ (mem_pinsAt hb e)))
          ⟨z.1, z.2.1⟩
        have hl : (wipe σ (own.map (·.2))).length = σ8.length := by rw [← hw8, wipe_length]
        refine ⟨m', hm, i + 1, H', (I'.unpinned (pins := [])).weak hl (fun j v e => ?_), T.keep _ _ _ st7 fun b hb o e => (pin' b hb o e).1, fun b hb => ?_, w'⟩
        · rw [← hw8] at e
          exact (wipe_some e).1
        · obtain ⟨o, e, _⟩ := T.obj _ _ st7 b hb
          exact (pin' b hb o e).2
      cases b with
      | false =>
        simp only [Bool.false_eq_true, if_false] at q9 ⊢
        exact fin I9 q9
      | true =>
        simp only [if_true] at q9 ⊢
        refine thnF (pe.run _ s9 σ8 H9 _ I9 q9) fun z s10 ⟨yv, H10, I10, r10, acc, hD10, hz10, nx⟩ => ?_
        exact app_ok (X := blkH X q0 s3 H3 scope ce fp) I10 hD10 hz10 r10 fun s11 I11 => fin I11 nx
  exact codeAny_compStart_list loop (T.self X.A 0 _ _ _ st4 loop)
theorem pe_lcH {q0 : Addr × Obj} {elt tg iter : Expr} {ifs : List Expr} {scope : Scope} {own : List (Str × Nat)} {pos : Pos} {wi : TI} {g : TG} {tt : TT} {te : TE} (hot : Hot1 X.A q0) (hq0 : q0 ∈ X.pn) (hN : X.N.Nodup) (hi : PIH X tg iter wi) (ok : BlkOk X.N X.env.scope scope own)
    (hg : ∀ (s : Shared) (H : Hp) (C : Addr) (cl : List (Str × Addr)) (fp : List Addr), PG (blkH X q0 s H scope (compEnvC scope cl C X.env) fp) tg g) (ht : ∀ (s : Shared) (H : Hp) (C : Addr) (cl : List (Str × Addr)) (fp : List Addr), PTs (blkH X q0 s H scope (compEnvC scope cl C X.env) fp) ifs tt)
    (he : ∀ (s : Shared) (H : Hp) (C : Addr) (cl : List (Str × Addr)) (fp : List Addr), PE (blkH X q0 s H scope (compEnvC scope cl C X.env) fp) elt te) (hs : ∀ x, foldedSetIterable iter X.env x = pure x := by intro _; rfl) :
    PE X (.ListComp elt [⟨tg, iter, ifs, 0⟩] scope pos) (tLc wi g tt te (own.map (·.2))) := by
  refine ⟨fun pins s σ H Q I h => ?_⟩
  rw [eval_ListComp]
  refine lc_coreH hot hq0 hN I hi ok hg ht he hs h fun D C s' m H' I' q hn f => ⟨m, hn, fun h'' sb => ?_⟩
  obtain ⟨f0, f1, f2, f3, f4, f5⟩ := f
  exact ⟨.ref D, H', I'.turned (t' := s'.toks) (fun b o hb e => (sb.2 b hb).trans e) f0 f1 f3 f4 f5, rfl, q⟩
end
end HotF
namespace Fw
open PySem PySem.Spec PyProof.Rows L2 HotF L2H
section
variable {X : Cx} {B : Hp × Mu} {D : Ends} {a b c e : Expr} {es : List Expr} {st : Stmt} {sts rest body els : List Stmt} {ρ : En} {μ μ1 μ2 μ3 : Mu} {x y z : Sl} {xs : List Sl} {pos p : Pos} {n : Str} {q0 : Addr × Obj}
theorem gc_tupH {js : List Nat} {ds : List PyData} {ρ' : En} {kk nn : Nat} (hc : HotC X) (h : PGs X es (tTcs js (ds.map .d) ρ μ ρ')) (hl : ds.length = nn)
    (hn : (assignEach es X.env).length = nn := by rfl) (hst : (assignEach es X.env).findIdx? (·.1) = none := by rfl) : PGc X js (.Tuple es kk pos) (.d (.tuple ds)) ρ μ ρ' :=
  pg_weak (pg_tupH hc h hn hst) fun v σ H Q ⟨⟨w, r⟩, k⟩ => by
    obtain ⟨q, vs, rfl, h1, pp⟩ := NowT.sq (μ := μ) rfl r
    exact ⟨q, vs, rfl, SqT.of h1, by rw [paired_len pp, List.length_map]; exact hl, ⟨w, pp⟩, k⟩
/-- the weakest readings in a hot block -/
def bGH (X : Cx) (q0 : Addr × Obj) (scope : Scope) (tg : Expr) : TG := fun v σ H Q => ∀ (s0 : Shared) (H0 : Hp) (C : Addr) (cl : List (Str × Addr)) (fp : List Addr) pins s u, Inv (blkH X q0 s0 H0 scope (compEnvC scope cl C X.env) fp) pins σ H s → RelV v u →
  wpAny (model X.prog X.w) X.A (assign tg (compEnvC scope cl C X.env) u) (fun _ s' => ∃ σ' H', Inv (blkH X q0 s0 H0 scope (compEnvC scope cl C X.env) fp) pins σ' H' s' ∧ Q σ' H') (fun _ _ => False) s
def bTH (X : Cx) (q0 : Addr × Obj) (scope : Scope) (ifs : List Expr) : TT := fun σ H Q => ∀ (s0 : Shared) (H0 : Hp) (C : Addr) (cl : List (Str × Addr)) (fp : List Addr), ∃ t, PTs (blkH X q0 s0 H0 scope (compEnvC scope cl C X.env) fp) ifs t ∧ t σ H Q
def bEH (X : Cx) (q0 : Addr × Obj) (scope : Scope) (elt : Expr) : TE := fun σ H Q => ∀ (s0 : Shared) (H0 : Hp) (C : Addr) (cl : List (Str × Addr)) (fp : List Addr), ∃ t, PE (blkH X q0 s0 H0 scope (compEnvC scope cl C X.env) fp) elt t ∧ t σ H Q
abbrev BlkHt (X : Cx) (q0 : Addr × Obj) (scope : Scope) (P : Cx → Prop) : Prop := ∀ (s : Shared) (H : Hp) (C : Addr) (cl : List (Str × Addr)) (fp : List Addr), P (blkH X q0 s H scope (compEnvC scope cl C X.env) fp)
structure LcOkH (X : Cx) (q0 : Addr × Obj) (elt tg : Expr) (ifs : List Expr) (scope : Scope) (vs : List Nat) (ρ : En) (n : Nat) (item : Nat → Sl) (μ1 : Mu) (S : Mu → Prop) (acc : Nat → List PyData) (ms : Nat → Mu) : Prop where
  a0 : acc 0 = []
  m0 : ms 0 = μ1
  al : ∀ i, i ≤ n → (acc i).length ≤ i
  nz : n ≤ sizeLine
  fr : ∀ i (D : Addr), i < n → mget (ms i) D = none → mget (ms (i + 1)) D = none
  st : ∀ i (D : Addr), i ≤ n → mget (ms i) D = none → S ((D, .lst ((acc i).map .d)) :: ms i)
  turn : ∀ i (D : Addr), i < n → mget (ms i) D = none → ∃ (ρ' : En) (k : Bool) (ν : Mu), BlkHt X q0 scope (fun Y => PGc Y vs tg (item i) (forg ρ vs) ((D, .lst ((acc i).map .d)) :: ms i) ρ') ∧
    BlkHt X q0 scope (fun Y => PTsv Y ifs ρ' ((D, .lst ((acc i).map .d)) :: ms i) k ((D, .lst ((acc i).map .d)) :: ν)) ∧
    (k = true → ∃ d, BlkHt X q0 scope (fun Y => PEv Y elt ρ' ((D, .lst ((acc i).map .d)) :: ν) (.d d) ((D, .lst ((acc i).map .d)) :: ms (i + 1))) ∧ acc (i + 1) = acc i ++ [d]) ∧
    (k = false → ms (i + 1) = ν ∧ acc (i + 1) = acc i)
theorem lc_readH {elt tg : Expr} {ifs : List Expr} {scope : Scope} {vs : List Nat} {n : Nat} {item : Nat → Sl} {S : Mu → Prop} {acc : Nat → List PyData} {ms : Nat → Mu} (L : LcOkH X q0 elt tg ifs scope vs ρ n item μ1 S acc ms)
    {σ : L2.St} {H : Hp} {Q : VK} (w : W H σ ρ μ) (fin : ∀ D H', W H' σ ρ ((D, .lst ((acc n).map .d)) :: ms n) → Ext H μ H' ((D, .lst ((acc n).map .d)) :: ms n) → mget (ms n) D = none → Q (.ref D) H') :
    tLc (tSrc ρ μ n item μ1 S) (bGH X q0 scope tg) (bTH X q0 scope ifs) (bEH X q0 scope elt) vs σ H Q := by
  refine ⟨w, fun J H1 w1 e1 jok D nD => ?_⟩
  have mD : mget μ1 D = none := w1.mu.fresh nD
  have ex0 : Ext H1 μ1 (upd H1 D (.lst [])) ((D, .lst []) :: μ1) := ext_new nD
  have mu0 : MuOk (upd H1 D (.lst [])) ((D, .lst []) :: μ1) := mu_new w1.mu nD ⟨[], upd_same, .nil⟩
  refine ⟨fun i m H => m = n - i ∧ i ≤ n ∧ mget (ms i) D = none ∧ W H σ ρ ((D, .lst ((acc i).map .d)) :: ms i) ∧ Ext H1 μ1 H ((D, .lst ((acc i).map .d)) :: ms i), ⟨n, by omega, by omega, ?_, ?_, ?_⟩, ?_⟩
  · rw [L.m0]; exact mD
  · rw [L.m0, L.a0]; exact w1.ext mu0 ex0
  · rw [L.m0, L.a0]; exact ex0
  rintro i m H2 ⟨em, hi, nDi, w2, e2⟩
  obtain ⟨hstop, hgo⟩ := jok i H2 _ w2.mu e2 (L.st i D hi nDi)
  by_cases hlt : i < n
  · obtain ⟨g1, g2⟩ := hgo hlt
    obtain ⟨ρ', k, ν, hg, ht, hk1, hk2⟩ := L.turn i D hlt nDi
    refine .inr ⟨g1, fun H' => mget (ms (i + 1)) D = none ∧ W H' σ ρ ((D, .lst ((acc (i + 1)).map .d)) :: ms (i + 1)) ∧ Ext H1 μ1 H' ((D, .lst ((acc (i + 1)).map .d)) :: ms (i + 1)), fun H' ⟨h1, h2, h3⟩ => ⟨n - (i + 1), by omega, rfl, by omega, h1, h2, h3⟩, fun x H' hy => ?_⟩
    obtain ⟨sm, sx⟩ := g2 x H' hy
    have w3 := w2.same sm
    have e3 := e2.trans (Ext.same sm)
    intro s0 H0 C cl fp pins s u I0 r0
    refine (hg s0 H0 C cl fp).run pins s (wipe σ vs) H' x u _ I0 r0 ⟨⟨w3.wipe vs, sx⟩, fun σ2 H4 w4 e4 s4 => ⟨s4.trans wipe_wipe, ?_⟩⟩
    refine fun s0 H0 C cl fp => ⟨_, ht s0 H0 C cl fp, w4, fun H5 w5 e5 => ?_⟩
    cases k with
    | true =>
      obtain ⟨d, he, ea⟩ := hk1 rfl
      refine iteT fun s0 H0 C cl fp => ⟨_, he s0 H0 C cl fp, w5, fun v H6 w6 e6 r6 => ?_⟩
      have hget : mget ((D, MO.lst ((acc i).map Sl.d)) :: ms (i + 1)) D = some (.lst ((acc i).map .d)) := by rw [mget_cons, if_pos rfl]
      obtain ⟨ws, h6, pp⟩ := w6.mu D _ hget
      have e36 := e4.trans (e5.trans e6)
      have wσ : W H6 σ ρ ((D, .lst ((acc i).map .d)) :: ms (i + 1)) := w3.ext w6.mu e36
      have ex := ext_set (H := H6) (o := .lst (ws ++ [v])) (u' := .lst ((acc i).map .d ++ [.d d])) hget
      have m' : MuOk (upd H6 D (.lst (ws ++ [v]))) (mset ((D, MO.lst ((acc i).map Sl.d)) :: ms (i + 1)) D (.lst ((acc i).map .d ++ [.d d]))) :=
        mu_set w6.mu hget ⟨_, upd_same, paired_app (Paired.mapL pp fun _ _ z => z.ext ex) (.cons (r6.ext ex) .nil)⟩
      rw [mset_cons] at ex m'
      have eacc : (acc (i + 1)).map Sl.d = (acc i).map .d ++ [.d d] := by rw [ea, List.map_append]; rfl
      have nD2 : mget (ms (i + 1)) D = none := L.fr i D hlt nDi
      refine ⟨ws, h6, by rw [paired_len pp, List.length_map]; have := L.al i hi; have := L.nz; omega, nD2, ?_, ?_⟩
      · rw [eacc]; exact wσ.ext m' ex
      · rw [eacc]; exact (e3.trans e36).trans ex
    | false =>
      obtain ⟨em, ea⟩ := hk2 rfl
      have e35 := e4.trans e5
      refine iteF ⟨?_, ?_, ?_⟩
      · exact L.fr i D hlt nDi
      · rw [em, ea]; exact w3.ext w5.mu e35
      · rw [em, ea]; exact e3.trans e35
  · have en : i = n := by omega
    subst en
    exact .inl ⟨hstop (Nat.le_refl _), fin D H2 w2 (e1.trans e2) nDi⟩
theorem bg_okH {scope : Scope} {tg : Expr} : ∀ (s : Shared) (H : Hp) (C : Addr) (cl : List (Str × Addr)) (fp : List Addr), PG (blkH X q0 s H scope (compEnvC scope cl C X.env) fp) tg (bGH X q0 scope tg) := fun s H C cl fp => ⟨fun pins s' σ H' v u Q I r h => h s H C cl fp pins s' u I r⟩
theorem bt_okH {scope : Scope} {ifs : List Expr} : ∀ (s : Shared) (H : Hp) (C : Addr) (cl : List (Str × Addr)) (fp : List Addr), PTs (blkH X q0 s H scope (compEnvC scope cl C X.env) fp) ifs (bTH X q0 scope ifs) := fun s H C cl fp => ⟨fun pins s' σ H' Q I h => by
  obtain ⟨t, h1, h2⟩ := h s H C cl fp
  exact h1.run pins s' σ H' Q I h2⟩
theorem be_okH {scope : Scope} {elt : Expr} : ∀ (s : Shared) (H : Hp) (C : Addr) (cl : List (Str × Addr)) (fp : List Addr), PE (blkH X q0 s H scope (compEnvC scope cl C X.env) fp) elt (bEH X q0 scope elt) := fun s H C cl fp => ⟨fun pins s' σ H' Q I h => by
  obtain ⟨t, h1, h2⟩ := h s H C cl fp
  exact h1.run pins s' σ H' Q I h2⟩
abbrev PIHv (X : Cx) (tg iter : Expr) (ρ : En) (μ : Mu) (n : Nat) (item : Nat → Sl) (μ1 : Mu) (S : Mu → Prop) : Prop := PIH X tg iter (tSrc ρ μ n item μ1 S)
theorem pih_weak {tg iter : Expr} {t t' : TI} (h : PIH X tg iter t) (w : ∀ σ H R, t' σ H R → t σ H R) : PIH X tg iter t' := ⟨fun pins s σ H R I q => h.run pins s σ H R I (w σ H R q)⟩
theorem s_mlistH {tg : Expr} {q : Addr} (h : PEv X e ρ μ (.m q) μ1) (hq : mget μ1 q = some (.lst xs)) : PIHv X tg e ρ μ xs.length (fun i => xs.getD i .no) μ1 (fun ν => mget ν q = some (.lst xs)) :=
  pih_weak (pi_listH h) fun σ H R ⟨w, k⟩ => ⟨w, fun v H1 w1 e1 r1 => by
    cases (show v = .ref q from r1)
    obtain ⟨vs, h1, pp⟩ := w1.mu q _ hq
    refine ⟨q, rfl, ⟨vs, SqL.of h1⟩, k _ H1 w1 e1 fun i H2 μ2 m2 e2 sm => ?_⟩
    obtain ⟨ws, g2, pp2⟩ := m2 q _ sm
    have hl : ws.length = xs.length := paired_len pp2
    refine ⟨fun hi => ⟨ws, SqL.of g2, by omega⟩, fun hi => ⟨⟨ws, ws[i]'(by omega), SqL.of g2, List.getElem?_eq_getElem (by omega)⟩, fun x H' ⟨eH, hx⟩ => ?_⟩⟩
    subst eH
    refine ⟨Same.refl _, ?_⟩
    obtain ⟨s, g3, g4⟩ := paired_get' (i := i) pp2 (hx ws (SqL.of g2))
    have e3 : xs.getD i .no = s := by rw [List.getD_eq_getElem?_getD, g3]; rfl
    show SR _ x (xs.getD i .no)
    rw [e3]
    exact g4⟩
theorem v_lcH {elt tg iter : Expr} {ifs : List Expr} {scope : Scope} {own : List (Str × Nat)} {nn : Nat} {item : Nat → Sl} {S : Mu → Prop} {acc : Nat → List PyData} {ms : Nat → Mu} (hot : Hot1 X.A q0) (hq0 : q0 ∈ X.pn) (hi : PIHv X tg iter ρ μ nn item μ1 S) (ok : BlkOk X.N X.env.scope scope own) (L : LcOkH X q0 elt tg ifs scope (own.map (·.2)) ρ nn item μ1 S acc ms) (hN : X.N.Nodup) (hs : ∀ x, foldedSetIterable iter X.env x = pure x := by intro _; rfl) :
    PEv X (.ListComp elt [⟨tg, iter, ifs, 0⟩] scope pos) ρ μ (.d (.list (acc nn))) (ms nn) :=
  pe_weak (pe_lcH hot hq0 hN hi ok bg_okH bt_okH be_okH hs) fun σ H Q ⟨w, k⟩ => lc_readH L w fun D H' w' e' nD => by
    obtain ⟨h1, h2, h3⟩ := lc_drop w' nD
    exact k _ H' h1 (e'.trans h2) h3
end
end Fw

namespace Fw
open PySem PySem.Spec PyProof.Rows L2 HotF L2H
/-! ### what a def promises that raises -/
abbrev RelX := List Sl → Mu → Addr → Prop
def spX (R : RelX) : Sp := fun vs H Q E => ∃ as μ C, Paired (SR (hide H μ)) vs as ∧ MuOk H μ ∧ R as μ C ∧ ∀ H', MuOk H' μ → Ext H μ H' μ → E (.ref C) none H'
/-- the def of the name raises, as R says -/
structure CalX (P : Program) (w : World) (K : PySem.W.Frag) (mg : Str → Option Value) (base : Heap) (n : Str) (k : Nat) (dx : List Sl) (R : RelX) : Prop where
  ex : ∃ (f : Addr) (fd : FuncData) (ps : List Str) (ds : List Value) (dvs : List V), FnOk P w K mg base (L2N.CX P w) k f fd ps (spX R) ∧ mg n = some (.ref f) ∧ PySem.W.keepIn K (.ref f) = true ∧ Binds K fd ps ds ∧ Vals dvs ds ∧ ∀ H, Paired (SR H) dvs dx
/-- an expression that raises -/
def tEz (ρ : En) (μ : Mu) (Wt : WX) (cls : Value) (μ' : Mu) : TE := fun σ H Q => W H σ ρ μ ∧ ∀ H', W H' σ ρ μ' → Ext H μ H' μ' → Wt cls none σ H'
abbrev PEz (X : Cx) (e : Expr) (ρ : En) (μ : Mu) (Wt : WX) (cls : Value) (μ' : Mu) : Prop := PE X e (tEz ρ μ Wt cls μ')
section
variable {X : Cx} {CX : CXT} {k : Nat} {f C : Addr} {fd : FuncData} {ps : List Str} {ds : List Value} {dvs : List V} {sp : Sp} {E : L2.St → XK} {x m : Str} {p pos apos : Pos} {e o : Expr} {es : List Expr} {ta : TE} {t : TA}
theorem run_fnSD {pins : List (Addr × Obj)} {σ : L2.St} {H : Hp} {s : Shared} {Q : VK} {us : List Value} {vs : List V} (F : FnOk X.prog X.w X.K X.mg X.base CX k f fd ps sp) (hr : Room k X.A) (hb : Binds X.K fd ps ds) (hd : Vals dvs ds) (hx : PassesAt CX X σ (E σ))
    (I : Inv X pins σ H s) (r : Vals vs us) (h : sp (vs ++ dvs) H Q (E σ)) : wpAny (model X.prog X.w) X.A (call (.ref f) us) (EP X pins σ Q) X.xe s := by
  have r2 : Vals (vs ++ dvs) (us ++ ds) := r.append hd
  have hl : (us ++ ds).length = ps.length := by rw [← r2.length]; exact F.len _ _ _ _ h
  refine wpAny_call (codeAny_mono (F.run X.A X.stack s H ⟨us, []⟩ (us ++ ds) (vs ++ dvs) Q (E σ) hr I.env0 (hb s us I.kIn hl) r2 h) fun r s' hq => ?_)
  cases r with
  | error e => exact hx pins H s e s' I hq
  | ok fl =>
    cases fl with
    | ret u => exact I.after hq
    | next => exact False.elim hq
    | brk => exact False.elim hq
    | cont => exact False.elim hq
def tCallSD (sp : Sp) (dvs : List V) (E : L2.St → XK) (t : TA) : TE := fun σ H Q => t σ H fun vs H1 => sp (vs ++ dvs) H1 Q (E σ)
theorem pe_callSD (F : FnOk X.prog X.w X.K X.mg X.base CX k f fd ps sp) (hr : Room k X.A) (hg : Gl X x) (hm : X.mg x = some (.ref f)) (hk : PySem.W.keepIn X.K (.ref f) = true) (hb : Binds X.K fd ps ds) (hd : Vals dvs ds) (hx : ∀ σ, PassesAt CX X σ (E σ))
    (ha : PA X (e :: es) t) (hdb : (x == ("__debug__" : Str)) = false := by decide) (he : starEach (e :: es) X.env = (false, eval e X.env) :: starEach es X.env := by rfl) (hpl : (backTo pos (starEach es X.env)).any (·.1) = false := by rfl) :
    PE X (.Call (.Name x p) (e :: es) [] pos) (tCallSD sp dvs E t) := by
  refine ⟨fun pins s σ H Q I h => ?_⟩
  refine wpAny_Call_Name_kw (ld_glob I hg hm ?_ hdb)
  refine PySem.W.callWith_K (h₀ := X.base) I.ok.mod.kin hk (thn (ha.run pos pins s σ H _ I h) fun us s1 ⟨vs, H1, I1, r, q⟩ => ⟨I1.kIn, ?_⟩) he hpl
  exact run_fnSD F hr hb hd (hx σ) I1 r q
end
section
variable {X : Cx} {B : Hp × Mu} {D : Ends} {a b c e o : Expr} {es : List Expr} {st : Stmt} {sts rest body els : List Stmt} {ρ : En} {μ μ1 μ2 μ3 : Mu} {x y z : Sl} {xs ys : List Sl} {pos p p2 pos2 : Pos} {n : Str} {Wt : WX} {cls : Value}
theorem v_callX {k j : Nat} {dx : List Sl} {R : RelX} {C : Addr} (F : CalX X.prog X.w X.K X.mg X.base n k dx R) (tk : L2N.Takes X Wt) (hr : Room j X.A) (hk : k ≤ j) (ha : PAv X (e :: es) ρ μ xs μ1) (hR : R (xs ++ dx) μ1 C) (hg : Gl X n := by rfl) (hdb : (n == ("__debug__" : Str)) = false := by decide)
    (he : starEach (e :: es) X.env = (false, eval e X.env) :: starEach es X.env := by rfl) (hpl : (backTo pos (starEach es X.env)).any (·.1) = false := by rfl) : PEz X (.Call (.Name n p) (e :: es) [] pos) ρ μ Wt (.ref C) μ1 := by
  obtain ⟨f, fd, ps, ds, dvs, F, hm, hkp, hb, hd, hdx⟩ := F.ex
  refine pe_weak (pe_callSD F (hr.mono hk) hg hm hkp hb hd (fun σ => L2N.passAt tk σ) ha hdb he hpl) fun σ H Q ⟨w, kk⟩ => ⟨w, fun vs H1 w1 e1 r1 => ?_⟩
  exact ⟨xs ++ dx, μ1, C, paired_app r1 (hdx _), w1.mu, hR, fun H' m' e' => kk H' (w1.ext m' e') (e1.trans e')⟩
theorem go_exprz (h : PEz X e ρ μ Wt cls μ1) (k : ∀ σ H, W H σ ρ μ1 → Ext B.1 B.2 H μ1 → Wt cls none σ H) (hs : swapsWith e none pos.line X.env = pure false := by rfl) : Go X B (.Expr e pos :: rest) D ρ μ :=
  go_cons (ps_expr h hs) fun σ H w ex => ⟨w, fun H' w1 e1 => k σ H' w1 (ex.trans e1)⟩
theorem go_retz (h : PEz X e ρ μ Wt cls μ1) (k : ∀ σ H, W H σ ρ μ1 → Ext B.1 B.2 H μ1 → Wt cls none σ H) : Go X B (.Return (some e) pos :: rest) D ρ μ :=
  go_cons (ps_ret h) fun σ H w ex => ⟨w, fun H' w1 e1 => k σ H' w1 (ex.trans e1)⟩
/-- what is known of an own error's class C named n -/
structure ErrC (K : PySem.W.Frag) (mg : Str → Option Value) (n : Str) (C : Addr) : Prop where
  g : mg n = some (.ref C)
  x : PySem.W.excIn K C [.type "ValueError", .type "Exception", .type "BaseException", .type "object"] "ValueError.__new__" = true
  k : PySem.W.keepIn K (.ref C) = true
  b : PySem.W.subIn K (.ref C) (.type "BaseException") = some true
  t : PySem.W.typeIn K (.ref C) = some (.type "type")
/-- raise n("m") -/
theorem go_raise {C : Addr} {msg : Str} {j : Nat} (Ec : ErrC X.K X.mg n C) (tk : L2N.Takes X Wt) (k : ∀ σ H, W H σ ρ μ → Ext B.1 B.2 H μ → Wt (.ref C) none σ H) (hc : X.calm = true := by rfl) (hg : Gl X n := by rfl) (hdb : (n == ("__debug__" : Str)) = false := by decide) :
    Go X B (.Raise (some (.Call (.Name n p) [.Constant (.str msg) j p2] [] pos2)) none pos :: rest) D ρ μ :=
  go_cons (L2N.ps_raise hc tk (L2N.pmk_own PySem.F.excBase_ValueError Ec.x Ec.g Ec.k (raises_own Ec.b Ec.t) hg hdb)) fun σ H w ex => k σ H w ex
theorem takes0N {X : Cx} : L2N.Takes X (fun _ _ _ _ => False) := fun _ _ x => by
  obtain ⟨_, _, _, _, _, _, _, _, _, _, _, _, _, _, _, _, z⟩ := x
  exact z.elim
/-- the ends of an except suite whose name stands in slot i -/
abbrev suiteD (D : Ends) (i : Nat) : Ends := { nx := fun σ' H' => D.nx (σ'.set i none) H', rt := D.rt, bk := fun σ' H' => D.bk (σ'.set i none) H', ct := fun σ' H' => D.ct (σ'.set i none) H' }
/-- try: body except n as x: suite, where the body raises or not -/
theorem go_try {x n : Str} {c : Value} {i : Nat} {b₀ : Stmt} {suite : List Stmt} {np pos' : Pos} (Z : Addr → En → Mu → Prop) (hN : X.N.Nodup) (hc : Names X x c)
    (hb : ∀ pn xe (Wt : WX), L2N.Takes (X.tr pn xe) Wt → PassesOwn (model X.prog X.w) X.A X.env xe → (∀ C ρ1 μ1 σ H, Z C ρ1 μ1 → W H σ ρ1 μ1 → Ext B.1 B.2 H μ1 → Wt (.ref C) none σ H) → Go (X.tr pn xe) B body { D with nx := wpR X rest D } ρ μ)
    (hsu : ∀ C ρ1 μ1, Z C ρ1 μ1 → PySem.W.exmOne X.K (.ref C) c = some true ∧ ∀ a oe pn, L2N.Zn (.ref C) none oe → (∃ vs, oe.data = .fields vs) → Go (X.suite a ((a, oe) :: pn)) B (b₀ :: suite) (suiteD { D with nx := wpR X rest D } i) (ρ1.set i (.v (.ref a))) μ1)
    (hs : X.stack = X.env :: X.outer := by rfl) (hf : X.env.frame = some X.env.locals := by rfl) (hi : X.N[i]? = some n := by rfl) (hln : X.env.kindOf n = some .local := by rfl) :
    Go X B (.Try body [.ExceptHandler (some (.Name x np)) (some n) (b₀ :: suite) pos'] [] [] pos :: rest) D ρ μ :=
  go_cons (L2N.ps_try_as (i := i) (c := c) (Wout := fun _ _ _ _ => False)
      (tb := fun Wt D σ H => ∀ pn xe, L2N.Takes (X.tr pn xe) Wt → PassesOwn (model X.prog X.w) X.A X.env xe → wpR (X.tr pn xe) body D σ H)
      (ts := fun a cls d D σ H => ∀ oe pn, L2N.Zn cls d oe → (∃ vs, oe.data = .fields vs) → wpR (X.suite a ((a, oe) :: pn)) (b₀ :: suite) D σ H)
      hs hf hN hi hln hc takes0N (fun Wt pn xe tk hp => ⟨fun pins s σ H D I h => h pn xe tk hp pins s I⟩) (fun a oe cls d pn hz hf' => ⟨fun pins s σ H D I h => h oe pn hz hf' pins s I⟩))
    fun σ H w ex pn xe tk hp => hb pn xe _ tk hp (fun C ρ1 μ1 σ' H' z w' e' => ⟨true, (hsu C ρ1 μ1 z).1, fun _ a ha oe pn hz hf' => (hsu C ρ1 μ1 z).2 a oe pn hz hf' _ _ (w'.set (x := .v (.ref a)) rfl) e', fun e => by cases e⟩) σ H w ex
theorem W.none {H : Hp} {σ : L2.St} {i : Nat} (w : W H σ ρ μ) : W H (σ.set i none) (ρ.set i .no) μ :=
  ⟨w.mu, by rw [List.length_set, List.length_set, w.len], fun j y h n => by
    by_cases e : i = j
    · subst e
      have hl : i < ρ.length := by
        have := (List.getElem?_eq_some_iff.mp h).1
        rwa [List.length_set] at this
      rw [List.getElem?_set_self hl] at h
      cases h
      exact absurd rfl n
    · rw [List.getElem?_set_ne e] at h ⊢
      exact w.slot j y h n⟩
/-- the suite's end: what follows the try -/
theorem go_suite {Y : Cx} {i : Nat} {D' : Ends} (k : Go X B rest D (ρ.set i .no) μ) : Go Y B [] (suiteD { D' with nx := wpR X rest D } i) ρ μ := go_nil fun σ H w e => k (σ.set i Option.none) H (W.none w) e
/-- xs + ys as a new list of the store -/
theorem w_catL (ha : PEv X a ρ μ x μ1) (hb : PEv X b ρ μ1 y μ2) (n1 : NowL μ2 x xs) (n2 : NowL μ2 y ys) (hz : xs.length + ys.length ≤ sizeLine) : PEw X (.BinOp a .Add b pos) ρ μ (fun z ν => ∃ q, mget μ2 q = none ∧ z = .m q ∧ ν = (q, .lst (xs ++ ys)) :: μ2) :=
  pe_weak (pe_op op_cat ha hb) fun σ H Q ⟨w0, k⟩ => ⟨w0, fun v H1 w1 e1 r1 => ⟨w1, fun u H2 w2 e2 r2 => by
    obtain ⟨a1, vs, rfl, h1, p1⟩ := n1.sq w2.mu (r1.ext e2)
    obtain ⟨a2, ws, rfl, h2, p2⟩ := n2.sq w2.mu r2
    refine ⟨a1, a2, vs, ws, rfl, rfl, h1, h2, by rw [paired_len p1, paired_len p2]; exact hz, fun q nq => ?_⟩
    have ex := ext_new (μ := μ2) (o := .lst (vs ++ ws)) (u := .lst (xs ++ ys)) nq
    have m' : MuOk (upd H2 q (.lst (vs ++ ws))) ((q, .lst (xs ++ ys)) :: μ2) := mu_new w2.mu nq ⟨_, upd_same, Paired.mapL (paired_app p1 p2) fun _ _ z => z.ext ex⟩
    exact k _ _ (.m q) _ ⟨q, w2.mu.fresh nq, rfl, rfl⟩ (w2.ext m' ex) ((e1.trans e2).trans ex) rfl⟩⟩
/-- a class's name -/
theorem v_cls {C : Addr} (hm : X.mg n = some (.ref C)) (hg : Gl X n := by rfl) (hd : (n == ("__debug__" : Str)) = false := by decide) : PEv X (.Name n pos) ρ μ (.v (.ref C)) μ := v_raw (pe_glob hg hm rfl hd)
end
section
variable {X : Cx} {a b : Expr} {ρ : En} {μ μ1 μ2 : Mu} {pos p : Pos}
/-- isinstance(e, T), e the exception that is handled -/
theorem v_isE {ad Dc : Addr} {oe : Obj} {pn : List (Addr × Obj)} {v : V} {cv : Value} {k : Bool} (C : ExcC X.K Dc) (hz : L2N.Zn (.ref Dc) none oe) (hf : ∃ vs, oe.data = .fields vs) (hm : X.mg "isinstance" = none) (ha : PEv (X.suite ad ((ad, oe) :: pn)) a ρ μ (.v (.ref ad)) μ1) (hb : PEv (X.suite ad ((ad, oe) :: pn)) b ρ μ1 (.v v) μ2)
    (hv : ∀ u, RelV v u → u = cv) (hk : PySem.W.kitOne X.K (.ref Dc) cv = some k) (hg : Gl X "isinstance" := by rfl)
    (he : starEach [a, b] X.env = [(false, eval a X.env), (false, eval b X.env)] := by rfl) (he2 : starEach [b] X.env = [(false, eval b X.env)] := by rfl) : PEv (X.suite ad ((ad, oe) :: pn)) (.Call (.Name "isinstance" p) [a, b] [] pos) ρ μ (.d (.bool k)) μ2 :=
  v_cb (X := X.suite ad ((ad, oe) :: pn)) (call_isE C hz.zc hf) (by decide +kernel) hm (a_cons ha (a_cons hb a_nil (by show starEach [b] X.env = _; rw [he2]; rfl)) (by show starEach [a, b] X.env = (false, eval a X.env) :: starEach [b] X.env; rw [he, he2])) (fun H vs Q m r kk => by
    obtain ⟨v1, w1, rfl, h1, h2⟩ := p2_inv r
    cases (show v1 = .ref ad from h1)
    cases (show w1 = v from h2)
    exact ⟨_, cv, k, rfl, hv, hk, kk _ H (Same.refl H) (.bl _)⟩) hg (by decide) (by decide) (by show starEach [a, b] X.env = (false, eval a X.env) :: starEach [b] X.env; rw [he, he2]) (by show (backTo pos (starEach [b] X.env)).any (·.1) = false; rw [he2]; rfl)
theorem relv_ref {C : Addr} : ∀ u, RelV (.ref C) u → u = .ref C := fun u h => h
theorem relv_ty {T : String} : ∀ u, RelV (.ty T) u → u = .type T := fun u h => h
end
/-! ### a def that raises keeps its promise -/
section
variable {P : Program} {w : World} {K : PySem.W.Frag} {mg : Str → Option Value} {base : Heap}
abbrev cxX (P : Program) (w : World) (K : PySem.W.Frag) (mg : Str → Option Value) (base : Heap) (N : List Str) (qual : Str) (st : Stmt) (f : Addr) (cdv : Value) (A : Around) (outer : List Env) (s : Shared) (H : Hp) (E : XK) : Cx := cxOf (L2N.CX P w) P w K mg base N qual (defScope st) f cdv A outer s H E
theorem takesX {N : List Str} {qual : Str} {scope : Scope} {f : Addr} {cdv : Value} {A : Around} {outer : List Env} {s : Shared} {H : Hp} {E : XK} : L2N.Takes (cxOf (L2N.CX P w) P w K mg base N qual scope f cdv A outer s H E) (fun cls d _ H => E cls d H) := L2N.takes_of rfl rfl rfl rfl
theorem Fun.okXN {x qual : Str} {st : Stmt} {f : Addr} {fd : FuncData} {N ps : List Str} {k : Nat} {sp : Sp} (F : Fun K x qual st f fd) (S : FnScope N ps (defScope st)) (len : ∀ vs H Q E, sp vs H Q E → vs.length = ps.length)
    (hbody : ∀ (cdv : Value) (A : Around) (outer : List Env) (s : Shared) (H : Hp) (vs : List V) (Q : VK) (E : XK), Room k (A.deeper (envOfC qual (defScope st) s.heap.objs.size f cdv)) → sp vs H Q E →
      ∃ t, PSs (cxOf (L2N.CX P w) P w K mg base N qual (defScope st) f cdv A outer s H E) (defBody st) t ∧ t { nx := fun _ H' => Q .non H', rt := Q } (L2.start N vs) H) : FnOk P w K mg base (L2N.CX P w) (k + 1) f fd ps sp := by
  obtain ⟨oc, od, kV, doc, pm, an, cdv, ct, osl, rfl, lk, hcd⟩ := F.ex
  exact fn_of lk hcd S len fun A outer s H vs Q E hr hsp => hbody cdv A outer s H vs Q E hr hsp
theorem calX_ok {x qual : Str} {st : Stmt} {f : Addr} {fd : FuncData} {N ps : List Str} {k : Nat} {dx : List Sl} {ds : List Value} {dvs : List V} {R : RelX} (F : Fun K x qual st f fd) (S : FnScope N ps (defScope st)) (hm : mg x = some (.ref f)) (hb : Binds K fd ps ds) (hd : Vals dvs ds) (hdx : ∀ H, Paired (SR H) dvs dx)
    (len : ∀ as μ C, R as μ C → as.length = ps.length)
    (body : ∀ (cdv : Value) (A : Around) (outer : List Env) (s : Shared) (H : Hp) (E : XK) (as : List Sl) (μ : Mu) (C : Addr) (D : Ends), Room k (A.deeper (envOfC qual (defScope st) s.heap.objs.size f cdv)) → R as μ C →
      (∀ H', MuOk H' μ → Ext H μ H' μ → E (.ref C) none H') → Go (cxX P w K mg base N qual st f cdv A outer s H E) (H, μ) (defBody st) D (startE N as) μ) :
    CalX P w K mg base x (k + 1) dx R := by
  refine ⟨f, fd, ps, ds, dvs, ?_, hm, F.kp, hb, hd, hdx⟩
  refine Fun.okXN F S (fun vs H Q E h => ?_) (fun cdv A outer s H vs Q E hr h => ?_)
  · obtain ⟨as, μ, C, pr, _, hR, _⟩ := h
    rw [paired_len pr]
    exact len _ _ _ hR
  · obtain ⟨as, μ, C, pr, m, hR, hE⟩ := h
    refine ⟨_, pss_wp, ?_⟩
    exact body cdv A outer s H E as μ C { nx := fun _ H' => Q .non H', rt := Q } hr hR hE _ H (w_start m pr) (Ext.refl _ _)
/-! ### what may be called by a local name and raises: a def, a lambda -/
/-- the def at f raises -/
structure CalXA (P : Program) (w : World) (K : PySem.W.Frag) (mg : Str → Option Value) (base : Heap) (f : Addr) (k : Nat) (R : RelX) : Prop where
  ex : ∃ (fd : FuncData) (ps : List Str), FnOk P w K mg base (L2N.CX P w) k f fd ps (spX R) ∧ PySem.W.keepIn K (.ref f) = true ∧ Binds K fd ps []
theorem CalX.at {n : Str} {k : Nat} {R : RelX} {f : Addr} (F : CalX P w K mg base n k [] R) (h : mg n = some (.ref f)) : CalXA P w K mg base f k R := by
  obtain ⟨f', fd, ps, ds, dvs, F, hm, hkp, hb, hd, hdx⟩ := F.ex
  have e : f' = f := by rw [h] at hm; exact (Value.ref.inj (Option.some.inj hm)).symm
  subst e
  have h0 := hdx (fun _ => none)
  cases h0
  cases hd
  exact ⟨fd, ps, F, hkp, hb⟩
/-- the lambda raises -/
structure LamX' (P : Program) (w : World) (K : PySem.W.Frag) (mg : Str → Option Value) (base : Heap) (L : LamD) (k : Nat) (R : RelX) : Prop where
  ex : ∃ (N ps : List Str), FnScope N ps L.scope ∧ (∀ (us : List Value) (pm c ct : Value), us.length = ps.length → bindArgs (PySem.W.kla_fn "<lambda>" L.qual L.params L.body L.scope [] pm c ct) ⟨us, []⟩ = pure (ps.zip us)) ∧ (∀ as μ C, R as μ C → as.length = ps.length) ∧
    ∀ (f : Addr) (cdv : Value) (A : Around) (outer : List Env) (s : Shared) (H : Hp) (E : XK) (as : List Sl) (μ : Mu) (C : Addr), Room k (A.deeper (envOfC L.qual L.scope s.heap.objs.size f cdv)) → R as μ C →
      PEz (cxOf (L2N.CX P w) P w K mg base N L.qual L.scope f cdv A outer s H E) L.body (startE N as) μ (fun cls d _ H => E cls d H) (.ref C) μ
/-- what slot may be called and raises -/
inductive CallX (P : Program) (w : World) (K : PySem.W.Frag) (mg : Str → Option Value) (base : Heap) (k : Nat) (R : RelX) : Sl → Prop
  | fn {f : Addr} {j : Nat} : CalXA P w K mg base f j R → j ≤ k → CallX P w K mg base k R (.v (.ref f))
  | lam {L : LamD} {j : Nat} : LamX' P w K mg base L j R → j + 1 ≤ k → CallX P w K mg base k R (.g L)
theorem run_lam {N ps : List Str} {L : LamD} {A : Around} {outer : List Env} {s : Shared} {H : Hp} {E : XK} {us : List Value} {vs : List V} {Q : VK} {k : Nat} {f c' : Addr} {pm ctv : Value} {t : TE} (S : FnScope N ps L.scope) (hr : Room (k + 1) A) (e0 : Env0 P w K mg base A outer s H)
    (hf : s.heap.get? f = some (PySem.W.kla_obj "<lambda>" L.qual L.params L.body L.scope [] pm c' ctv)) (hc : s.heap.CodeRec (.ref c') L.qual) (hbind : bindArgs (PySem.W.kla_fn "<lambda>" L.qual L.params L.body L.scope [] pm (.ref c') ctv) ⟨us, []⟩ = pure (ps.zip us)) (r : Vals vs us) (hl : vs.length = ps.length)
    (hb : PE (cxOf (L2N.CX P w) P w K mg base N L.qual L.scope f (.ref c') A outer s H E) L.body t) (ht : t (L2.start N vs) H Q) : codeAny (model P w) A (.call (.ref f) ⟨us, []⟩) (CR (L2N.CX P w) outer P w H s Q E) s := by
  have lim : s.heap.NoLimit := e0.mod.nolimit.keeps fun b o e => (e0.bs b o e).1
  have hkind : ∀ y ∈ ps.zip us, L.scope.names.lookup y.1 = some .local ∨ (L.scope.names.lookup y.1 = some .cell ∧ ((cellsFrom (s.heap.objs.size + 1) L.scope.names []).lookup y.1).isSome = true) := fun ⟨n, v⟩ hy => by
    rcases S.par n (List.of_mem_zip hy).1 with q | q
    · exact .inl q
    · exact .inr ⟨q, PySem.W.cellsFrom_some _ _ _ (.inl q)⟩
  refine PySem.W.kla_callFunE hr.depth hf rfl S.co S.gen rfl hc ?_
  rw [hbind]
  refine wpAny_pure (wpAny_newFunctionEnv_cells S.kind hkind fun env he s1 x => ?_)
  subst he
  refine ⟨lim.keeps x.toInCall.keep, PySem.W.kla_codeExpr ?_⟩
  have I : Inv (cxOf (L2N.CX P w) P w K mg base N L.qual L.scope f (.ref c') A outer s H E) [] (L2.start N vs) H s1 := inv_start S hr.hd e0 hl r x
  refine wpAny_mono (hb.run [] s1 (L2.start N vs) H Q I ht) (fun v s' hq => ?_) fun e s' hs => hs
  obtain ⟨v', H', J, rv, q⟩ := hq
  exact ⟨v', H', J.os, J.bare, J.base, J.hok, rv, q⟩
end
section
variable {X : Cx} {e : Expr} {es : List Expr} {ρ : En} {μ μ1 : Mu} {x : Sl} {xs : List Sl} {pos p : Pos} {n : Str} {Wt : WX}
/-- n(..), n a local name -/
theorem v_callC {k i : Nat} {R : RelX} {C : Addr} (F : CallX X.prog X.w X.K X.mg X.base k R x) (tk : L2N.Takes X Wt) (hr : Room k X.A) (hi : ρ[i]? = some x) (hN : X.N[i]? = some n) (ha : PAv X (e :: es) ρ μ xs μ1) (hR : R xs μ1 C)
    (hv : Vis X.env.scope n := by first | exact Or.inl rfl | exact Or.inr (Or.inl rfl) | exact Or.inr (Or.inr rfl)) (hdb : (n == ("__debug__" : Str)) = false := by decide) (hcd : (n == ("__classdict__" : Str)) = false := by decide)
    (he : starEach (e :: es) X.env = (false, eval e X.env) :: starEach es X.env := by rfl) (hpl : (backTo pos (starEach es X.env)).any (·.1) = false := by rfl) : PEz X (.Call (.Name n p) (e :: es) [] pos) ρ μ Wt (.ref C) μ1 := by
  refine ⟨fun pins s σ H Q I ⟨w, kk⟩ => ?_⟩
  cases F with
  | @fn f j F hj =>
    obtain ⟨fd, ps, F, hk, hb⟩ := F.ex
    obtain ⟨v, h1, h2⟩ := w.slot i _ hi (by simp)
    cases (show v = .ref f from h2)
    refine wpAny_Call_Name_kw (thn ((pe_var (pos := p) hN hv hdb hcd).run pins s σ H (fun v H1 => v = .ref f ∧ H1 = H) I ⟨.ref f, h1, rfl, rfl⟩) fun u s1 ⟨v, H1, I1, r1, q1⟩ => ?_)
    obtain ⟨rfl, rfl⟩ := q1
    cases r1
    refine PySem.W.callWith_K (h₀ := X.base) I.ok.mod.kin hk (thn (ha.run pos pins s1 σ _ _ I1 ⟨w, fun vs H2 w1 e1 r1 => ?_⟩) fun us s2 ⟨vs, H2, I2, r, q⟩ => ⟨I2.kIn, run_fnSD (E := WE Wt) (dvs := []) F (hr.mono hj) hb .nil (L2N.passAt tk σ) I2 r q⟩) he hpl
    rw [List.append_nil]
    exact ⟨xs, μ1, C, r1, w1.mu, hR, fun H' m' e' => kk H' (w1.ext m' e') (e1.trans e')⟩
  | @lam L j F hj =>
    obtain ⟨N, ps, S, hbind, len, hbody⟩ := F.ex
    obtain ⟨v, h1, f, c', pm, ctv, ev, hf, hcv⟩ := w.slot i _ hi (by simp)
    subst ev
    refine wpAny_Call_Name_kw (thn ((pe_var (pos := p) hN hv hdb hcd).run pins s σ H (fun v H1 => v = .ref f ∧ H1 = H) I ⟨.ref f, h1, rfl, rfl⟩) fun u s1 ⟨v, H1, I1, r1, q1⟩ => ?_)
    obtain ⟨rfl, rfl⟩ := q1
    cases r1
    have objAt : ∀ {σ' : L2.St} {H' : Hp} {s' : Shared} {pn : List (Addr × Obj)}, Inv X pn σ' H' s' → H' f = some (LamO f L c' pm ctv) → s'.heap.get? f = some (PySem.W.kla_obj "<lambda>" L.qual L.params L.body L.scope [] pm c' ctv) := fun I' h => (I'.hok f _ h).1
    refine PySem.W.callWith_F ⟨_, _, _, _, objAt I1 (hide_le _ _ hf)⟩ (thn (ha.run pos pins s1 σ _ (fun vs H2 => ∃ (e1 : Ext H1 μ H2 μ1) (w1 : W H2 σ ρ μ1), Paired (SR (hide H2 μ1)) vs xs) I1 ⟨w, fun vs H2 w1 e1 r1 => ⟨e1, w1, r1⟩⟩) fun us s2 ⟨vs, H2, I2, r, e1, w1, r1⟩ => ?_) he hpl
    have hf2 : hide H2 μ1 f = some (LamO f L c' pm ctv) := e1.hid _ _ hf
    have hc2 : hide H2 μ1 c' = some (LamX.CodeO c' L.qual) := e1.hid _ _ hcv
    have g2 := objAt I2 (hide_le _ _ hf2)
    refine ⟨⟨_, _, _, _, g2⟩, ?_⟩
    obtain ⟨⟨oc, ovs, t, hoc, hdc, hvc⟩, _, _⟩ := I2.hok c' _ (hide_le _ _ hc2)
    have hl : vs.length = ps.length := (paired_len r1).trans (len _ _ _ hR)
    have hlu : us.length = ps.length := by rw [← r.length]; exact hl
    have rr : Room (j + 1) X.A := hr.mono hj
    refine wpAny_call (codeAny_mono (run_lam (P := X.prog) (w := X.w) (K := X.K) (mg := X.mg) (base := X.base) (k := j) (outer := X.stack) (H := H2) (E := WE Wt σ) (Q := Q) S rr I2.env0 g2 ⟨c', oc, ovs, t, rfl, hoc, hdc, hvc⟩ (hbind us pm _ ctv hlu) r hl (hbody f (.ref c') X.A X.stack s2 H2 (WE Wt σ) xs μ1 C (rr.deeper _) hR) ⟨w_start w1.mu r1, fun H' w2 e2 => kk H' (w1.ext w2.mu e2) (e1.trans e2)⟩) fun r s' hq => ?_)
    cases r with
    | error e => exact L2N.passAt tk σ pins H2 s2 e s' I2 hq
    | ok fl =>
      cases fl with
      | ret u => exact I2.after hq
      | next => exact False.elim hq
      | brk => exact False.elim hq
      | cont => exact False.elim hq
end
end Fw

namespace Fw
open PySem PySem.Spec PyProof.Rows L2 HotF L2H
theorem clo_none : ∀ (cells : List (Str × Addr)) (l : List (Str × NameKind)) (acc : List (Str × Addr)), (∀ y ∈ l, y.2 ≠ .free) → cloFrom cells l acc = acc
  | cells, [], acc, _ => rfl
  | cells, (n, k) :: l, acc, h => by
    have hk : k ≠ .free := h (n, k) (by simp)
    have ih := clo_none cells l acc fun y hy => h y (by simp [hy])
    unfold cloFrom
    cases k <;> first | exact ih | exact absurd rfl hk | (simp only []; exact ih) | (simp [ih])
section
variable {X : Cx} {ρ : En} {μ : Mu} {pos : Pos}
/-- a lambda without captured names -/
theorem v_lam {c P : Addr} {q : Str} {params : Arguments} {body : Expr} {scope : Scope} (TB : LamX.TabB X.base X.mg c P) (hP : mget μ P = some (.tbl q)) (hcode : X.env.code = .ref c := by rfl) (hq : X.env.qual ++ "<lambda>" = q := by rfl) (hdef : defaultsOf params X.env = ([], []) := by rfl) (hfr : ∀ y ∈ scope.names, y.2 ≠ .free := by decide +kernel) :
    PEv X (.Lambda params body scope pos) ρ μ (.g ⟨q, params, body, scope⟩) μ := by
  refine ⟨fun pins s σ H Q I ⟨w, kk⟩ => ?_⟩
  obtain ⟨ps, hPt, ht, ha⟩ := w.mu P _ hP
  refine PySem.W.kla_eval hdef ?_
  have bP : s.heap.BuiltinsAt X.mg P := TB.bm.keeps I.bk
  have hP' : s.heap.get? P = some { cls := .none, data := .fields ps } := I.hok P _ hPt
  have hcl : closureFor scope X.env = pure (cloFrom X.env.cells scope.names []) := closure_ok fun y hy e => absurd e (hfr y hy)
  have hcl0 := clo_none X.env.cells scope.names [] hfr
  rw [hcl0] at hcl
  cases hc : codeAmong pos ps.toList with
  | none =>
    refine PySem.W.kla_makeFunction (mg := X.mg) (c := c) (P := P) (ps := ps) hcl I.ok.glob (I.mod.glob.keeps I.bk) hcode (TB.code.keeps I.bk) hP' ht hc TB.gP bP fun c' ctv h' tk hx hge hlt hrec htb => ?_
    obtain ⟨c2, oc, vs, t, e2, hoc, hd, hv⟩ := hrec
    cases e2
    rw [hq] at hv
    have hsz : s.heap.objs.size ≤ h'.objs.size := Nat.le_trans hge (Nat.le_of_lt hlt)
    have nC : H c' = none := I.hok.fresh hge
    have nF : H h'.objs.size = none := I.hok.fresh hsz
    have I1 := LamX.inv_table (t' := tk) (more := #[rawInt pos.line, rawInt pos.col, .ref c']) (h' := h') I hPt hx htb hge ⟨oc, vs, t, hoc, hd, hv⟩
    have I2 := I1.laid (t' := tk) (a := h'.objs.size) (o := LamO h'.objs.size ⟨q, params, body, scope⟩ c' ((X.mg "__name__").getD .none) ctv) (h' := h'.push (PySem.W.kla_obj "<lambda>" (X.env.qual ++ "<lambda>") params body scope [] ((X.mg "__name__").getD .none) c' ctv)) (fun b o e => Heap.get?_push_of_some _ e) (Nat.le_refl _)
      ⟨by rw [hq]; exact Heap.get?_push_size _ rfl, ⟨_, Heap.get?_push_size _ rfl⟩, fun h1 h2 a st => st _ a⟩
    have nPc : P ≠ c' := ne_of_none hPt nC
    have nPf : P ≠ h'.objs.size := ne_of_none hPt nF
    have ncf : c' ≠ h'.objs.size := Nat.ne_of_lt hlt
    have mc : mget μ c' = none := w.mu.fresh nC
    have mf : mget μ h'.objs.size = none := w.mu.fresh nF
    refine ⟨.ref h'.objs.size, _, I2, rfl, ?_⟩
    have ext : Ext H μ (upd (upd (upd H P (.tbl (ps ++ #[rawInt pos.line, rawInt pos.col, .ref c']))) c' (LamX.CodeO c' q)) h'.objs.size (LamO h'.objs.size ⟨q, params, body, scope⟩ c' ((X.mg "__name__").getD .none) ctv)) μ := fun b o hb nb =>
      ⟨by rw [upd_ne (ne_of_none hb nF), upd_ne (ne_of_none hb nC), upd_ne (fun z => by rw [z, hP] at nb; cases nb)]; exact hb, nb⟩
    have hC : hide (upd (upd (upd H P (.tbl (ps ++ #[rawInt pos.line, rawInt pos.col, .ref c']))) c' (LamX.CodeO c' q)) h'.objs.size (LamO h'.objs.size ⟨q, params, body, scope⟩ c' ((X.mg "__name__").getD .none) ctv)) μ c' = some (LamX.CodeO c' q) := hide_of (by rw [upd_ne ncf, upd_same]) mc
    have mu2 : MuOk (upd (upd (upd H P (.tbl (ps ++ #[rawInt pos.line, rawInt pos.col, .ref c']))) c' (LamX.CodeO c' q)) h'.objs.size (LamO h'.objs.size ⟨q, params, body, scope⟩ c' ((X.mg "__name__").getD .none) ctv)) μ := fun b o e => by
      by_cases hb : b = P
      · subst hb
        rw [hP] at e
        cases e
        refine ⟨ps ++ #[rawInt pos.line, rawInt pos.col, .ref c'], by rw [upd_ne nPf, upd_ne nPc, upd_same], ?_, fun p' cv hcv => ?_⟩
        · have eL : (ps ++ #[rawInt pos.line, rawInt pos.col, .ref c']).toList = ps.toList ++ [rawInt pos.line, rawInt pos.col, .ref c'] := by simp
          rw [eL]; exact PySem.TriplesOk_snoc _ _ _ _ ht
        · have eL : (ps ++ #[rawInt pos.line, rawInt pos.col, .ref c']).toList = ps.toList ++ [rawInt pos.line, rawInt pos.col, .ref c'] := by simp
          rw [eL] at hcv
          rcases LamX.among_app _ ht hcv with z | z
          · obtain ⟨c0, e1, e2⟩ := ha p' cv z
            exact ⟨c0, e1, ext.hid _ _ e2⟩
          · exact ⟨c', z, hC⟩
      · have hbc : b ≠ c' := fun z => by rw [z, mc] at e; cases e
        have hbf : b ≠ h'.objs.size := fun z => by rw [z, mf] at e; cases e
        exact (w.mu b o e).le (by rw [upd_ne hbf, upd_ne hbc, upd_ne hb]) ext.hid
    exact kk _ _ (w.ext mu2 ext) ext ⟨h'.objs.size, c', _, ctv, rfl, hide_of upd_same mf, hC⟩
  | some cv =>
    obtain ⟨c', e, hco⟩ := ha pos cv hc
    subst e
    refine PySem.W.kla_makeFunctionHit (mg := X.mg) (c := c) (P := P) (ps := ps) hcl I.ok.glob (I.mod.glob.keeps I.bk) hcode (TB.code.keeps I.bk) hP' ht hc bP fun ctv h' tk hx hsz => ?_
    have nF : H h'.objs.size = none := I.hok.fresh hsz
    have mf : mget μ h'.objs.size = none := w.mu.fresh nF
    have I2 := I.laid (t' := tk) (a := h'.objs.size) (o := LamO h'.objs.size ⟨q, params, body, scope⟩ c' ((X.mg "__name__").getD .none) ctv) (h' := h'.push (PySem.W.kla_obj "<lambda>" (X.env.qual ++ "<lambda>") params body scope [] ((X.mg "__name__").getD .none) c' ctv)) (fun b o e => Heap.get?_push_of_some _ (hx b o e)) hsz
      ⟨by rw [hq]; exact Heap.get?_push_size _ rfl, ⟨_, Heap.get?_push_size _ rfl⟩, fun h1 h2 a st => st _ a⟩
    refine ⟨.ref h'.objs.size, _, I2, rfl, ?_⟩
    have ext : Ext H μ (upd H h'.objs.size (LamO h'.objs.size ⟨q, params, body, scope⟩ c' ((X.mg "__name__").getD .none) ctv)) μ := Ext.same (same_upd nF)
    exact kk _ _ (w.same (same_upd nF)) ext ⟨h'.objs.size, c', _, ctv, rfl, hide_of upd_same mf, ext.hid _ _ hco⟩
end
/-! ### a def whose code object is told -/
structure FunC (K : PySem.W.Frag) (x qual : Str) (st : Stmt) (f : Addr) (fd : FuncData) (c : Addr) : Prop where
  ex : ∃ (oc : Value) (od : Option Addr) (kV doc pm : Value) (an : Option Addr) (ct : Value) (osl : Array (Option Value)),
    fd = PySem.W.fnOf x qual (defArgs st) (defBody st) (defScope st) .none kV doc pm an (.ref c) ct ∧ K.lookup f = some ⟨oc, od, .func fd, osl⟩ ∧ PySem.W.codeIn K (.ref c) qual = true
  kp : PySem.W.keepIn K (.ref f) = true
section
variable {P : Program} {w : World} {K : PySem.W.Frag} {mg : Str → Option Value} {base : Heap}
theorem funC_mk {x qual : Str} {st : Stmt} {f c : Addr} {oc : Value} {od an : Option Addr} {osl : Array (Option Value)} {kV doc pm ct : Value} (l : K.lookup f = some ⟨oc, od, .func (PySem.W.fnOf x qual (defArgs st) (defBody st) (defScope st) .none kV doc pm an (.ref c) ct), osl⟩)
    (cc : PySem.W.codeIn K (.ref c) qual = true) (k : PySem.W.keepIn K (.ref f) = true) : FunC K x qual st f (PySem.W.fnOf x qual (defArgs st) (defBody st) (defScope st) .none kV doc pm an (.ref c) ct) c := ⟨⟨oc, od, kV, doc, pm, an, ct, osl, rfl, l, cc⟩, k⟩
theorem FunC.fun {x qual : Str} {st : Stmt} {f c : Addr} {fd : FuncData} (F : FunC K x qual st f fd c) : Fun K x qual st f fd := by
  obtain ⟨⟨oc, od, kV, doc, pm, an, ct, osl, rfl, l, cc⟩, k⟩ := F
  exact ⟨⟨oc, od, kV, doc, pm, an, _, ct, osl, rfl, l, cc⟩, k⟩
theorem fnC_ok {x qual : Str} {st : Stmt} {f c : Addr} {fd : FuncData} {N ps : List Str} {k : Nat} {R : Rel} (F : FunC K x qual st f fd c) (S : FnScope N ps (defScope st))
    (len : ∀ as μ post, R as μ post → as.length = ps.length)
    (body : ∀ (A : Around) (outer : List Env) (s : Shared) (H : Hp) (E : XK) (as : List Sl) (μ : Mu) (post : Sl → Mu → Prop) (D : Ends), Room k (A.deeper (envOfC qual (defScope st) s.heap.objs.size f (.ref c))) → R as μ post →
      (∀ r μ', post r μ' → RtOk (H, μ) D r μ') → (∀ σ H', D.rt .non H' → D.nx σ H') → Go (cx0 P w K mg base N qual st f (.ref c) A outer s H E) (H, μ) (defBody st) D (startE N as) μ) :
    FnOk P w K mg base CX0 (k + 1) f fd ps (spR R) := by
  obtain ⟨⟨oc, od, kV, doc, pm, an, ct, osl, rfl, lk, hcd⟩, kp⟩ := F
  refine fn_of lk hcd S (fun vs H Q E h => ?_) (fun A outer s H vs Q E hr h => ?_)
  · obtain ⟨as, μ, pr, _, hR⟩ := h
    rw [paired_len pr]
    exact len _ _ _ hR
  · obtain ⟨as, μ, pr, m, hR⟩ := h
    have t : PSs (cx0 P w K mg base N qual st f (.ref c) A outer s H E) (defBody st) (fun D σ H' => wpR (cx0 P w K mg base N qual st f (.ref c) A outer s H E) (defBody st) D σ H') := pss_wp
    refine ⟨_, t.nox, ?_⟩
    exact body A outer s H E as μ _ { nx := fun _ H' => Q .non H', rt := Q } hr hR (fun r μ' hp v H' m' e' r' => hp v H' m' e' r') (fun _ _ z => z) _ H (w_start m pr) (Ext.refl _ _)
theorem calXD_ok {x qual : Str} {st : Stmt} {f : Addr} {fd : FuncData} {N ps : List Str} {k : Nat} {dx : List Sl} {ds : List Value} {dvs : List V} {R : RelX} (F : FunD K x qual st f fd) (S : FnScope N ps (defScope st)) (hm : mg x = some (.ref f)) (hb : Binds K fd ps ds) (hd : Vals dvs ds) (hdx : ∀ H, Paired (SR H) dvs dx)
    (len : ∀ as μ C, R as μ C → as.length = ps.length)
    (body : ∀ (cdv : Value) (A : Around) (outer : List Env) (s : Shared) (H : Hp) (E : XK) (as : List Sl) (μ : Mu) (C : Addr) (D : Ends), Room k (A.deeper (envOfC qual (defScope st) s.heap.objs.size f cdv)) → R as μ C →
      (∀ H', MuOk H' μ → Ext H μ H' μ → E (.ref C) none H') → Go (cxX P w K mg base N qual st f cdv A outer s H E) (H, μ) (defBody st) D (startE N as) μ) :
    CalX P w K mg base x (k + 1) dx R := by
  obtain ⟨⟨oc, od, dV, kV, doc, pm, an, cdv, ct, osl, rfl, lk, hcd⟩, kp⟩ := F
  refine ⟨f, _, ps, ds, dvs, ?_, hm, kp, hb, hd, hdx⟩
  refine fn_of lk hcd S (fun vs H Q E h => ?_) (fun A outer s H vs Q E hr h => ?_)
  · obtain ⟨as, μ, C, pr, _, hR, _⟩ := h
    rw [paired_len pr]
    exact len _ _ _ hR
  · obtain ⟨as, μ, C, pr, m, hR, hE⟩ := h
    refine ⟨_, pss_wp, ?_⟩
    exact body cdv A outer s H E as μ C { nx := fun _ H' => Q .non H', rt := Q } hr hR hE _ H (w_start m pr) (Ext.refl _ _)
end
end Fw

namespace Fw
open PySem PySem.Spec PyProof.Rows L2 GenW
/-! ### for in a generator's body -/
section
variable {M : Model} {A : Around} {R : GenEnd} {Y : Protocol} {n : Nat} {s₀ s : Shared} {c : Code} {fs : List Frame} {env : Env} {K : Flow → Sem PySem.Fin} {J : Value → Sem PySem.Fin} {gd : Bool → Bool} {lv : List Value → List Value}
/-- the frame under a loop's code -/
abbrev loopFr (env : Env) (K : Flow → Sem PySem.Fin) (J : Value → Sem PySem.Fin) (gd : Bool → Bool) (lv : List Value → List Value) (c : Code) (p : Pos) : Frame :=
  .ret (fun r => ((match r with | .ok f => (.pure f : Sem Flow) | .error e => .raise e).onRaise (cameBack env)).wrap K J gd lv) none (gd false) (lv []) c p []
theorem seg_For {tg iter : Expr} {body : List Stmt} {pos : Pos}
    (h : wpAny M (A.over c fs) (eval iter env) (fun x s1 => wpAny M (A.over c fs) (pyIter x) (fun it s2 => ∀ p, Seg M A R Y n s₀ (.forLoop tg it body [] env) (M.den (.forLoop tg it body [] env)) (loopFr env K J gd lv c p :: fs) s2)
      (fun x s' => Seg M A R Y n s₀ c (J x) fs s') s1) (fun x s' => Seg M A R Y n s₀ c (J x) fs s') s)
    (hs : ∀ x, foldedSetIterable iter env x = pure x := by intro _; rfl) : Seg M A R Y n s₀ c ((exec (.For tg iter body [] pos) env).wrap K J gd lv) fs s := by
  rw [exec_For]
  refine seg_bind_wrap (wpAny_standAt ?_)
  refine seg_bind_wrap (wpAny_mono h (fun x s1 h1 => ?_) fun _ _ z => z)
  refine seg_bind_wrap (wpAny_of_eq (hs x) ?_)
  refine seg_bind_wrap (wpAny_standAt ?_)
  refine seg_bind_wrap (wpAny_holding (wpAny_mono h1 (fun it s2 h2 => ?_) fun _ _ z => z))
  exact seg_call h2
/-- what a loop's code does with an exception -/
abbrev loopJ (env : Env) : Value → Sem PySem.Fin := fun e => (do noteFrame e env; theTreesLotGoes e : Sem Unit).bind fun _ => .raise e
end
section
variable {prog : Program} {w : World} {A : Around} {R : GenEnd} {Y : Protocol} {n : Nat} {s₀ s : Shared} {fs : List Frame} {env : Env}
theorem seg_forLoop {tg : Expr} {it : Value} {body : List Stmt}
    (h : wpAny (model prog w) (A.over (.forLoop tg it body [] env) fs) (pyNext it) (fun r s1 => match r with
      | none => Seg (model prog w) A R Y n s₀ (.block [] env) (leafOf (.ok .next)) fs s1
      | some v => wpAny (model prog w) (A.over (.forLoop tg it body [] env) fs) (letOwnedTupleGo tg it v) (fun _ s2 => wpAny (model prog w) (A.over (.forLoop tg it body [] env) fs) (assign tg env v) (fun _ s3 =>
          ∀ (K2 : Flow → Sem PySem.Fin) (J2 : Value → Sem PySem.Fin) (gd : Bool → Bool) (lv : List Value → List Value), gd false = false → K2 .next = .pure (.again (.forLoop tg it body [] env)) → (∀ e, J2 e = loopJ env e) →
            Seg (model prog w) A R Y n s₀ (.forLoop tg it body [] env) ((execs body env).wrap K2 J2 gd lv) fs s3)
          (fun x s' => Seg (model prog w) A R Y n s₀ (.forLoop tg it body [] env) (loopJ env x) fs s') s2) (fun x s' => Seg (model prog w) A R Y n s₀ (.forLoop tg it body [] env) (loopJ env x) fs s') s1)
      (fun x s' => Seg (model prog w) A R Y n s₀ (.forLoop tg it body [] env) (loopJ env x) fs s') s) :
    Seg (model prog w) A R Y n s₀ (.forLoop tg it body [] env) ((model prog w).den (.forLoop tg it body [] env)) fs s := by
  show Seg _ A R Y n s₀ _ ((forTurn tg it body [] env).onRaise (fun x => do noteFrame x env; theTreesLotGoes x)) fs s
  unfold forTurn
  rw [Sem.onRaise_eq_wrap]
  refine seg_bind_wrap (wpAny_standAt ?_)
  refine seg_bind_wrap (wpAny_onRaise (wpAny_mono h (fun r s1 h1 => ?_) fun _ _ z => wpAny_standAt z))
  cases r with
  | none => exact seg_again rfl h1
  | some v =>
    refine seg_bind_wrap (wpAny_mono h1 (fun _ s2 h2 => ?_) fun _ _ z => z)
    refine seg_bind_wrap (wpAny_mono h2 (fun _ s3 h3 => ?_) fun _ _ z => z)
    rw [Sem.bind_eq_wrap', Sem.wrap_wrap]
    exact h3 _ _ _ _ rfl rfl fun _ => rfl
end
/-- who takes what a generator hands out: G tells what stands between two turns -/
structure Feed (X : Cx) (G : List (Addr × Obj) → List V → L2.St → Hp → Shared → Prop) (Y : Protocol) : Prop where
  inv : ∀ {ip ys σ H s}, G ip ys σ H s → ∃ pl, Inv X (pl ++ ip) σ H s ∧ (∀ p ∈ ip, ∀ q ∈ pl, q.1 ≠ p.1) ∧ ∀ ip' σ' H' s', (∀ p ∈ ip', ∀ q ∈ pl, q.1 ≠ p.1) → Inv X (pl ++ ip') σ' H' s' → G ip' ys σ' H' s'
  out : ∀ {n ip ys x v σ H s₀ s} {kap : Resume → Shared → Prop}, n + 1 + ys.length = sizeLine → (∃ i, x = V.int i) → RelV x v → G ip ys σ H s → (∀ s', G ip (ys ++ [x]) σ H s' → kap (.send .none) s') → Y n s₀ v s kap
section
variable {X : Cx} {G : List (Addr × Obj) → List V → L2.St → Hp → Shared → Prop} {Y : Protocol} {A : Around} {R : GenEnd} {c : Code} {fs : List Frame} {K : Flow → Sem PySem.Fin} {J : Value → Sem PySem.Fin} {gd : Bool → Bool} {lv : List Value → List Value}
theorem seg_back {n : Nat} {s₀ s : Shared} {e : Value} (over : A.over c fs = X.A) (exc : ∀ (n : Nat) (s₀ : Shared) (e : Value) (s : Shared), X.xe e s → Seg (model X.prog X.w) A R Y n s₀ c (J e) fs s)
    (h : cameBackBy (model X.prog X.w) X.A X.env X.xe e s) : Seg (model X.prog X.w) A R Y n s₀ c (((Sem.raise e : Sem Flow).onRaise (cameBack X.env)).wrap K J gd lv) fs s := by
  show Seg _ _ _ _ _ _ _ (((cameBack X.env e).bind fun _ => (Sem.raise e : Sem Flow)).wrap K J gd lv) _ _
  rw [Sem.bind_eq_wrap, Sem.wrap_wrap]
  refine seg_wrap ?_
  rw [over]
  exact wpAny_mono h (fun _ s' hx => exc n s₀ e s' hx) fun x s' hx => exc n s₀ x s' hx
/-- for x in e: yield .. -/
theorem seg_forY {tg iter e : Expr} {yp ep pos : Pos} {wi : TI} {g : TG} {te : TE} (Fd : Feed X G Y) (hp : PassesOwn (model X.prog X.w) X.A X.env X.xe) (hc : X.calm = true) (hi : PI X tg iter wi) (hg : PG X tg g) (he : PE X e te)
    (over : A.over c fs = X.A) (split : splitAtGen fs = none) (guard : fs.any Frame.guarded = false) (hgd : gd false = false) {Q : List V → L2.St → Hp → Prop} {ip : List (Addr × Obj)}
    (ok : ∀ n ys s₀ s σ H, n + ys.length = sizeLine → G ip ys σ H s → Q ys σ H → Seg (model X.prog X.w) A R Y n s₀ c (K .next) fs s)
    (exc : ∀ (n : Nat) (s₀ : Shared) (e : Value) (s : Shared), X.xe e s → Seg (model X.prog X.w) A R Y n s₀ c (J e) fs s)
    {n : Nat} {s₀ s : Shared} {ys : List V} {σ : L2.St} {H : Hp} (hn : n + ys.length = sizeLine) (hI : G ip ys σ H s)
    (ht : wi σ H fun It H1 => ∃ W : Nat → Nat → List V → L2.St → Hp → Prop, (∃ m, W 0 m ys σ H1) ∧ ∀ i m ys σ H, W i m ys σ H →
      (It.stop i H ∧ Q ys σ H) ∨ (It.go i H ∧ ys.length < sizeLine ∧ ∀ x H', It.yld i H x H' → g x σ H' fun σ2 H2 => te σ2 H2 fun v H3 => (∃ i, v = V.int i) ∧ ∃ m', m' < m ∧ W (i + 1) m' (ys ++ [v]) σ2 H3))
    (hs : ∀ x, foldedSetIterable iter X.env x = pure x := by intro _; rfl) (hco : X.env.scope.isCoroutine = false := by rfl) (hin : interactive X.env = false := by rfl) :
    Seg (model X.prog X.w) A R Y n s₀ c ((exec (.For tg iter [.Expr (.Yield (some e) yp) ep] [] pos) X.env).wrap K J gd lv) fs s := by
  obtain ⟨pl, I, dj, back⟩ := Fd.inv hI
  refine seg_For ?_ hs
  rw [over]
  refine wpAny_mono (hi.run (pl ++ ip) s σ H _ I ht) (fun v s1 h1 => wpAny_mono h1 (fun itv s2 h2 p => ?_) fun x s' hx => exc n s₀ x s' hx) fun x s' hx => exc n s₀ x s' hx
  obtain ⟨it, fp, tn, It, H2, rfl, I2, T, st2, f2, W, ⟨m0, w0⟩, turn⟩ := h2
  have lover : ∀ {c' : Code} {p : Pos}, c'.weight = 0 → c'.cUnits = 0 → A.over c' (loopFr X.env K J gd lv c p :: fs) = X.A := fun hw hu => (over_loop hw hu).trans over
  have lsplit : ∀ {p : Pos}, splitAtGen (loopFr X.env K J gd lv c p :: fs) = none := fun {p} => by
    show (splitAtGen fs).map _ = none
    rw [split]; rfl
  have lguard : ∀ {p : Pos}, (loopFr X.env K J gd lv c p :: fs).any Frame.guarded = false := fun {p} => by
    show (gd false || fs.any Frame.guarded) = false
    rw [hgd, guard]; rfl
  have ee : ∀ {n : Nat} {s₀ : Shared} {x : Value} {s' : Shared}, X.xe x s' → Seg (model X.prog X.w) A R Y n s₀ (.forLoop tg (.ref it) [.Expr (.Yield (some e) yp) ep] [] X.env) (loopJ X.env x) (loopFr X.env K J gd lv c p :: fs) s' := fun {n s₀ x s'} hx => by
    show Seg _ _ _ _ _ _ _ (Sem.bind _ _) _ _
    rw [Sem.bind_eq_wrap]
    refine seg_wrap ?_
    rw [lover rfl rfl]
    refine wpAny_bind (wpAny_mono (hp x s' hx) (fun _ s'' hcb => wpAny_theTreesLotGoes ?_) fun y s'' hcb => ?_)
    · exact seg_leaf (.error x) (seg_back over exc hcb)
    · exact seg_leaf (.error y) (seg_back over exc hcb)
  have loop : ∀ (m i n : Nat) (ys : List V) (s₀ s : Shared) (σ : L2.St) (H : Hp) (pl : List (Addr × Obj)), n + ys.length = sizeLine → W i m ys σ H → Inv X (pl ++ ip) σ H s →
      (∀ p ∈ ip, ∀ q ∈ pl, q.1 ≠ p.1) → (∀ ip' σ' H' s', (∀ p ∈ ip', ∀ q ∈ pl, q.1 ≠ p.1) → Inv X (pl ++ ip') σ' H' s' → G ip' ys σ' H' s') → (∀ b ∈ fp, FpOk X (pl ++ ip) H b) → tn i s.heap →
      Seg (model X.prog X.w) A R Y n s₀ (.forLoop tg (.ref it) [.Expr (.Yield (some e) yp) ep] [] X.env) ((model X.prog X.w).den (.forLoop tg (.ref it) [.Expr (.Yield (some e) yp) ep] [] X.env)) (loopFr X.env K J gd lv c p :: fs) s := by
    intro m
    induction m using Nat.strongRecOn with
    | ind m ih =>
      intro i n ys s₀ s σ H pl hn w I dj back fr st
      refine seg_forLoop ?_
      rw [lover rfl rfl]
      rcases turn i m ys σ H w with ⟨stop, q⟩ | ⟨go, hlt, step⟩
      · refine wpAny_mono (T.done X rfl rfl rfl hc i (pl ++ ip) s σ H X.xe I fr st stop) (fun r s4 ⟨hr, I4⟩ => ?_) fun x s' hx => ee hx
        subst hr
        exact seg_leaf (.ok .next) (ok n ys s₀ s4 σ H hn (back ip σ H s4 dj I4) q)
      · obtain ⟨n, rfl⟩ : ∃ m, n = m + 1 := ⟨n - 1, by omega⟩
        refine wpAny_mono (T.item X rfl rfl rfl hc i (pl ++ ip) s σ H X.xe I fr st go) (fun r s4 ⟨u, hr, h4⟩ => ?_) fun x s' hx => ee hx
        subst hr
        refine wpAny_mono h4 (fun _ s5 ⟨x, H5, I5, r5, y5, st5, fr5⟩ => ?_) fun x s' hx => ee hx
        have stat : ∀ b ∈ fp, FpOk X (pl ++ ip) H5 b := fun b hb => ⟨fr5 b hb, (fr b hb).2⟩
        have I5' := I5.pinned stat (T.obj _ _ st5)
        refine wpAny_mono (hg.run _ s5 σ H5 x u _ I5' r5 (step x H5 y5)) (fun _ s6 ⟨σ6, H6, I6, q6⟩ => ?_) fun x s' hx => ee hx
        intro K2 J2 gd2 lv2 hgd2 hK2 hJ2
        refine seg_execs_cons (seg_Expr_Yield lsplit hgd2 lguard ?_ hco hin)
        rw [lover rfl rfl]
        refine wpAny_mono (he.run _ s6 σ6 H6 _ I6 q6) (fun v s7 ⟨y, H7, I7, r7, isI, m', hm, w7⟩ => ?_) fun x s' hx => by rw [hJ2]; exact ee hx
        intro kap hk
        rw [List.append_assoc] at I7
        have G7 := back (ip ++ pinsAt fp s5.heap) σ6 H7 s7 (fun q hq => by
          rcases List.mem_append.mp hq with z | z
          · exact dj q z
          · exact fun r hr' => (fr q.1 (of_pinsAt z).1).2.2.2.2.2 r (List.mem_append_right _ (List.mem_append_left _ hr'))) I7
        refine Fd.out hn isI r7 G7 fun s8 G8 => hk .none s8 ?_
        show Seg _ _ _ _ _ _ _ ((execs [] X.env).wrap K2 J2 gd2 lv2) _ _
        refine seg_execs_nil ?_
        rw [hK2]
        refine seg_again rfl ?_
        obtain ⟨pl8, I8, dj8, back8⟩ := Fd.inv G8
        have I8' : Inv X (pl8 ++ ip) σ6 H7 s8 := by
          rw [← List.append_assoc] at I8
          exact I8.unpinned
        have at8 : ∀ b ∈ fp, ∀ o, s5.heap.get? b = some o → s8.heap.get? b = some o ∧ H7 b = none ∧ b ≠ X.env.locals ∧ b ∉ X.fs := fun b hb o eo => by
          obtain ⟨z1, z2, z3, z4, _⟩ := I8.pin (b, o) (List.mem_append_right _ (List.mem_append_right _ (List.mem_append_right _ (mem_pinsAt hb eo))))
          exact ⟨z1, z2, z3, z4⟩
        refine ih m' hm (i + 1) n (ys ++ [y]) s8 s8 σ6 H7 pl8 (by rw [List.length_append, List.length_singleton]; omega) w7 I8' (fun q hq => dj8 q (List.mem_append_left _ hq)) back8 (fun b hb => ?_) (T.keep _ _ _ st5 fun b hb o eo => (at8 b hb o eo).1)
        obtain ⟨o, eo, _⟩ := T.obj _ _ st5 b hb
        obtain ⟨_, z2, z3, z4⟩ := at8 b hb o eo
        obtain ⟨_, _, _, f4, f5, f6⟩ := fr b hb
        refine ⟨z2, z3, z4, f4, f5, fun q hq => ?_⟩
        rcases List.mem_append.mp hq with z | z
        · exact f6 q (List.mem_append_left _ z)
        · rcases List.mem_append.mp z with z | z
          · exact dj8 (b, o) (List.mem_append_right _ (mem_pinsAt hb eo)) q z
          · exact f6 q (List.mem_append_right _ (List.mem_append_right _ z))
  exact loop m0 0 n ys s₀ s2 σ H2 pl hn w0 I2 dj back f2 st2
end
end Fw

namespace Fw
open PySem PySem.Spec PyProof.Rows L2 GenW
/-! ### the list as a taker; for with yield under the hand layer's words -/
section
variable {X : Cx} {S : Addr}
theorem feed_GI (hpn : ∀ p ∈ X.pn, p.1 ≠ S) (hA : Apart X S) : Feed X (fun ip ys σ H s => GI X S ip ys σ H s ∧ ∀ p ∈ ip, p.1 ≠ S) (GY X S) where
  inv := fun {ip ys σ H s} h => by
    obtain ⟨⟨acc, c, r, I⟩, hip⟩ := h
    exact ⟨[(S, lstObj acc c)], I, fun p hp q hq => by rw [List.mem_singleton.mp hq]; exact Ne.symm (hip p hp), fun ip' σ' H' s' d' I' => ⟨⟨acc, c, r, I'⟩, fun p hp => Ne.symm (d' p hp _ (List.mem_singleton.mpr rfl))⟩⟩
  out := fun {n ip ys x v σ H s₀ s kap} hn _ rv h k => ⟨ys, x, ip, σ, H, hn, rv, h.1, fun s' z => k s' ⟨h.1.woken hpn h.2 hA rv z, h.2⟩⟩
/-- a generator's body under whoever takes: Q behind the block -/
def fwp (X : Cx) (G : List (Addr × Obj) → List V → L2.St → Hp → Shared → Prop) (Y : Protocol) (sts : List Stmt) (Q : List V → L2.St → Hp → Prop) (ys : List V) (σ : L2.St) (H : Hp) : Prop :=
  ∀ (A : Around) (ip : List (Addr × Obj)) (R : GenEnd) (n : Nat) (s₀ : Shared) (c : Code) (fs : List Frame) (K : Flow → Sem PySem.Fin) (J : Value → Sem PySem.Fin) (gd : Bool → Bool) (lv : List Value → List Value) (s : Shared),
    A.over c fs = X.A → splitAtGen fs = none → fs.any Frame.guarded = false → gd false = false → n + ys.length = sizeLine →
    (∀ n ys s₀ s σ H, n + ys.length = sizeLine → G ip ys σ H s → Q ys σ H → Seg (model X.prog X.w) A R Y n s₀ c (K .next) fs s) →
    (∀ (n : Nat) (s₀ : Shared) (e : Value) (s : Shared), X.xe e s → Seg (model X.prog X.w) A R Y n s₀ c (J e) fs s) → G ip ys σ H s →
    Seg (model X.prog X.w) A R Y n s₀ c ((execs sts X.env).wrap K J gd lv) fs s
def FGo (X : Cx) (G : List (Addr × Obj) → List V → L2.St → Hp → Shared → Prop) (Y : Protocol) (B : Hp × Mu) (sts : List Stmt) (Q : List V → L2.St → Hp → Prop) (ys : List V) (ρ : En) (μ : Mu) : Prop := ∀ σ H, W H σ ρ μ → Ext B.1 B.2 H μ → fwp X G Y sts Q ys σ H
section
variable {G : List (Addr × Obj) → List V → L2.St → Hp → Shared → Prop} {Y : Protocol} {B : Hp × Mu} {Q : List V → L2.St → Hp → Prop} {ys : List V} {c e iter : Expr} {st : Stmt} {sts rest body : List Stmt} {ρ : En} {μ μ1 : Mu} {x : Sl} {pos p : Pos} {t : TS}
theorem fg_cons (Fd : Feed X G Y) (h : PS X st t) (k : ∀ σ H, W H σ ρ μ → Ext B.1 B.2 H μ → t { nx := fwp X G Y rest Q ys, rt := fun _ _ => False, bk := fun _ _ => False, ct := fun _ _ => False } σ H) : FGo X G Y B (st :: rest) Q ys ρ μ :=
  fun σ H w ex A ip R n s₀ c fs K J gd lv s over split guard hgd hn ok exc hI => by
    obtain ⟨pl, I, dj, back⟩ := Fd.inv hI
    refine seg_execs_cons (seg_wrap ?_)
    rw [over]
    refine wpAny_mono (h.run (pl ++ ip) s σ H _ I (k σ H w ex)) (fun f s' hs => ?_) fun x s' hx => exc n s₀ x s' hx
    cases f with
    | next =>
      obtain ⟨σ', H', I', q⟩ := hs
      exact q A ip R n s₀ c fs K J gd lv s' over split guard hgd hn ok exc (back ip σ' H' s' dj I')
    | brk => obtain ⟨_, _, _, q⟩ := hs; exact q.elim
    | cont => obtain ⟨_, _, _, q⟩ := hs; exact q.elim
    | ret u => obtain ⟨_, _, _, _, _, q⟩ := hs; exact q.elim
theorem fg_expr (Fd : Feed X G Y) (he : PEv X e ρ μ x μ1) (k : FGo X G Y B rest Q ys ρ μ1) (hs : swapsWith e none pos.line X.env = pure false := by rfl) : FGo X G Y B (.Expr e pos :: rest) Q ys ρ μ :=
  fg_cons Fd (ps_expr he hs) fun σ H w ex => ⟨w, fun v H' w1 e1 r1 => k _ _ w1 (ex.trans e1)⟩
theorem fg_ifF {k : Bool} (Fd : Feed X G Y) (hc : PTv X c ρ μ k μ1) (hk : k = false) (kk : FGo X G Y B rest Q ys ρ μ1) : FGo X G Y B (.If c body [] pos :: rest) Q ys ρ μ := by
  subst hk
  exact fg_cons Fd (ps_if hc pss_never pss_nil) fun σ H w ex => ⟨w, fun H' w1 e1 => iteF (kk _ _ w1 (ex.trans e1))⟩
/-- for x in ..: yield an int -/
theorem fg_forY {tn : Str} {tp yp ep : Pos} {nn : Nat} {item : Nat → Sl} {out : Nat → Int} (j : Nat) (Fd : Feed X G Y) (hs : PIv X (.Name tn tp) iter ρ μ nn item μ1 Anys) (hp : PassesOwn (model X.prog X.w) X.A X.env X.xe) (hN : X.N.Nodup) (hj : ρ.set j .no = ρ)
    (turn : ∀ i, i < nn → PEv X e (ρ.set j (item i)) μ1 (.d (.int (out i))) μ1) (hl : ys.length + nn ≤ sizeLine) (k : ∀ σ H, W H σ ρ μ1 → Ext B.1 B.2 H μ1 → Q (ys ++ (List.range nn).map fun i => V.int (out i)) σ H)
    (hi : X.N[j]? = some tn := by rfl) (hx : Loc X.env.scope tn := by first | exact Or.inl rfl | exact Or.inr rfl) (hf : X.fn tn = true ∨ X.env.scope.names.lookup tn = some .local := by first | exact .inl rfl | exact .inr rfl) (hc : X.calm = true := by rfl)
    (hfs : ∀ x, foldedSetIterable iter X.env x = pure x := by intro _; rfl) (hco : X.env.scope.isCoroutine = false := by rfl) (hin : interactive X.env = false := by rfl) : FGo X G Y B [.For (.Name tn tp) iter [.Expr (.Yield (some e) yp) ep] [] pos] Q ys ρ μ :=
  fun σ H w ex A ip R n s₀ c fs K J gd lv s over split guard hgd hn ok exc hI => by
    refine seg_execs_cons ?_
    refine seg_forY (K := fun f => match f with | .next => (execs [] X.env).wrap K J gd lv | f => K f) (te := eW X e) (g := gW X (.Name tn tp)) Fd hp hc hs pg_wp pe_wp over split guard hgd (Q := Q) (ip := ip) (fun n ys s₀ s σ H hn hG q => ok n ys s₀ s σ H hn hG q) exc hn hI ⟨w, fun It H1 w1 e1 jok =>
      ⟨fun i m zs σ H => m = nn - i ∧ i ≤ nn ∧ zs = ys ++ ((List.range i).map fun i => V.int (out i)) ∧ W H σ ρ μ1 ∧ Ext H1 μ1 H μ1, ⟨nn, by omega, by omega, by simp, w1, Ext.refl _ _⟩, fun i m zs σ H ⟨em, hi', ez, w2, e2⟩ => ?_⟩⟩ hfs hco hin
    obtain ⟨hstop, hgo⟩ := jok i H μ1 w2.mu e2 trivial
    by_cases hlt : i < nn
    · obtain ⟨g1, g2⟩ := hgo hlt
      refine .inr ⟨g1, ?_, fun x H' hy => ?_⟩
      · rw [ez, List.length_append, List.length_map, List.length_range]; omega
      obtain ⟨sm, sx⟩ := g2 x H' hy
      intro pins s u I0 r0
      have w3 := w2.same sm
      refine (g_name j hN hi hx hf).run pins s σ H' x u _ I0 r0 ⟨⟨w3, sx⟩, fun σ' H2 w4 e4 => ?_⟩
      refine ⟨_, turn i hlt, w4, fun v H3 w5 e5 r5 => ?_⟩
      have r5 : SR (hide H3 μ1) v (.d (.int (out i))) := r5
      refine ⟨⟨out i, dp_int r5⟩, nn - (i + 1), by omega, rfl, by omega, ?_, ?_, e2.trans ((Ext.same sm).trans (e4.trans e5))⟩
      · rw [ez, dp_int r5, List.range_succ, List.map_append, List.append_assoc]; rfl
      · have z := w5.forget (i := j)
        rw [List.set_set, hj] at z
        exact z
    · have en : i = nn := by omega
      subst en
      refine .inl ⟨hstop (Nat.le_refl _), ?_⟩
      show Q zs σ H
      rw [ez]
      exact k σ H w2 (ex.trans (e1.trans e2))
end
/-- the hand layer's word of a generator's body -/
def gwp (X : Cx) (sts : List Stmt) : TGn := fun D ys σ H => ∀ (A : Around) (S : Addr) (ip : List (Addr × Obj)) (R : GenEnd) (n : Nat) (s₀ : Shared) (c : Code) (fs : List Frame) (K : Flow → Sem PySem.Fin) (J : Value → Sem PySem.Fin) (gd : Bool → Bool) (lv : List Value → List Value) (s : Shared),
  GC X S ip A c fs gd → n + ys.length = sizeLine → GK X S ip A R c fs K J D → GI X S ip ys σ H s → Seg (model X.prog X.w) A R (GY X S) n s₀ c ((execs sts X.env).wrap K J gd lv) fs s
theorem gss_gwp {sts : List Stmt} : GSs X sts (gwp X sts) := ⟨fun A S ip R n ys s₀ c fs K J gd lv s σ H D g hn k hI ht => ht A S ip R n s₀ c fs K J gd lv s g hn k hI⟩
theorem gwp_of {sts : List Stmt} {D : GEnds} {ys : List V} {σ : L2.St} {H : Hp} (h : ∀ G Y, Feed X G Y → fwp X G Y sts D.nx ys σ H) : gwp X sts D ys σ H := fun A S ip R n s₀ c fs K J gd lv s g hn k hI =>
  h _ _ (feed_GI g.pn g.apart) A ip R n s₀ c fs K J gd lv s g.over g.split g.guard g.gd hn (fun n ys s₀ s σ H hn hG q => k.ok n ys s₀ s .next hn ⟨σ, H, hG.1, q⟩) k.exc ⟨hI, g.ip⟩
end
/-! ### generator defs keep their promises -/
abbrev RelG := List Sl → Mu → List Int → Prop
def spGR (R : RelG) : SpG := fun vs H Q _ => ∃ as μ out, Paired (SR (hide H μ)) vs as ∧ MuOk H μ ∧ R as μ out ∧ ∀ H', MuOk H' μ → Ext H μ H' μ → Q (out.map V.int) H'
structure GCal (P : Program) (w : World) (K : PySem.W.Frag) (mg : Str → Option Value) (base : Heap) (n : Str) (k : Nat) (sp : SpG) : Prop where
  ex : ∃ (f : Addr) (fd : FuncData) (ps : List Str), GFn P w K mg base k f fd ps sp ∧ mg n = some (.ref f) ∧ PySem.W.keepIn K (.ref f) = true ∧ Binds K fd ps []
section
variable {P : Program} {w : World} {K : PySem.W.Frag} {mg : Str → Option Value} {base : Heap}
abbrev cxG (P : Program) (w : World) (K : PySem.W.Frag) (mg : Str → Option Value) (base : Heap) (N : List Str) (qual : Str) (st : Stmt) (f : Addr) (cdv : Value) (A : Around) (outer : List Env) (s : Shared) (H : Hp) (E : XK) (pn : List (Addr × Obj)) : Cx := gcxOf P w K mg base N qual (defScope st) f cdv A outer s H E pn
theorem gcal_ok {x qual : Str} {st : Stmt} {f : Addr} {fd : FuncData} {N ps : List Str} {k : Nat} {R : RelG} (F : Fun K x qual st f fd) (S : GScope N ps (defScope st)) (hm : mg x = some (.ref f)) (hb : Binds K fd ps [])
    (len : ∀ as μ out, R as μ out → as.length = ps.length)
    (body : ∀ (cdv : Value) (A : Around) (outer : List Env) (s : Shared) (H : Hp) (E : XK) (pn : List (Addr × Obj)) (as : List Sl) (μ : Mu) (out : List Int) (Q : List V → L2.St → Hp → Prop) (G : List (Addr × Obj) → List V → L2.St → Hp → Shared → Prop) (Y : Protocol), Feed (cxG P w K mg base N qual st f cdv A outer s H E pn) G Y → Room k (A.deeper (envOfC qual (defScope st) s.heap.objs.size f cdv)) → R as μ out →
      (∀ σ H', MuOk H' μ → Ext H μ H' μ → Q (out.map V.int) σ H') → FGo (cxG P w K mg base N qual st f cdv A outer s H E pn) G Y (H, μ) (defBody st) Q [] (startE N as) μ) :
    GCal P w K mg base x (k + 1) (spGR R) := by
  obtain ⟨⟨oc, od, kV, doc, pm, an, cdv, ct, osl, rfl, lk, hcd⟩, kp⟩ := F
  refine ⟨f, _, ps, gfn_of lk hcd S (fun vs H Q E h => ?_) (fun A outer s H vs Q E pn hr h => ?_), hm, kp, hb⟩
  · obtain ⟨as, μ, out, pr, _, hR, _⟩ := h
    rw [paired_len pr]
    exact len _ _ _ hR
  · obtain ⟨as, μ, out, pr, m, hR, hQ⟩ := h
    refine ⟨_, gss_gwp, ?_⟩
    exact gwp_of fun G Y Fd => body cdv A outer s H E pn as μ out _ G Y Fd hr hR (fun σ H' m' e' => hQ H' m' e') _ H (w_start m pr) (Ext.refl _ _)
end
section
variable {X : Cx} {e : Expr} {es : List Expr} {ρ : En} {μ μ1 : Mu} {xs : List Sl} {pos p p2 pos2 : Pos} {n : Str}
/-- list(n(..)), n a generator def -/
theorem v_listG {k j : Nat} {R : RelG} {out : List Int} (F : GCal X.prog X.w X.K X.mg X.base n k (spGR R)) (hr : Room j X.A) (hk : k + 3 ≤ j) (ha : PAv X (e :: es) ρ μ xs μ1) (hR : R xs μ1 out) (hmg : X.mg "list" = none) (hgl : Gl X "list" := by rfl) (hg : Gl X n := by rfl) (hdb : (n == ("__debug__" : Str)) = false := by decide)
    (he : starEach (e :: es) X.env = (false, eval e X.env) :: starEach es X.env := by rfl) (hpl : (backTo pos (starEach es X.env)).any (·.1) = false := by rfl)
    (he2 : starEach [.Call (.Name n p) (e :: es) [] pos] X.env = (false, eval (.Call (.Name n p) (e :: es) [] pos) X.env) :: starEach [] X.env := by rfl) : PEv X (.Call (.Name "list" p2) [.Call (.Name n p) (e :: es) [] pos] [] pos2) ρ μ (.d (.list (out.map .int))) μ1 := by
  obtain ⟨f, fd, ps, F, hm, hkp, hb⟩ := F.ex
  refine pe_weak (pe_listG (E := fun _ _ _ => False) (pgen_call (dvs := []) F (hr.mono (by omega)) hg hm hkp hb .nil ha hdb he hpl) (fun pins σ H s e s' I h => ?_) (fun cls d H h => h.elim) (hr.mono hk) hgl hmg (by decide +kernel) (by decide) (by decide) he2) fun σ H Q ⟨w, kk⟩ => ⟨w, fun vs H1 w1 e1 r1 => ?_⟩
  · obtain ⟨_, _, _, _, _, _, _, _, _, _, _, _, z⟩ := h
    exact z.elim
  · refine ⟨xs, μ1, out, by rw [List.append_nil]; exact r1, w1.mu, hR, fun H' m' e' q nq => ?_⟩
    have w' := w1.ext m' e'
    refine kk _ _ (w'.same (same_upd nq)) ((e1.trans e').trans (Ext.same (same_upd nq))) (new_lst m' nq ?_)
    have z := ints_sr (H := hide H' μ1) out
    exact z
end
end Fw

namespace Fw
open PySem PySem.Spec PyProof.Rows L2
/-! ### defs with *rest -/
def BindsS (fd : FuncData) (ps : List Str) (pv : Str) : Prop := ∀ us rest : List Value, us.length = ps.length → bindArgs fd ⟨us ++ rest, []⟩ = (newTuple rest >>= fun t => pure (ps.zip us ++ [(pv, t)]))
theorem fun_bindsS {K : PySem.W.Frag} {x qual p1 pv : Str} {st : Stmt} {f : Addr} {fd : FuncData} (F : Fun K x qual st f fd)
    (h0 : ∀ kV doc pm an cdv ct a, bindArgs (PySem.W.fnOf x qual (defArgs st) (defBody st) (defScope st) .none kV doc pm an cdv ct) ⟨[a], []⟩ = (newTuple [] >>= fun t => pure [(p1, a), (pv, t)]))
    (h1 : ∀ kV doc pm an cdv ct a r rs, bindArgs (PySem.W.fnOf x qual (defArgs st) (defBody st) (defScope st) .none kV doc pm an cdv ct) ⟨a :: r :: rs, []⟩ = (newTuple (r :: rs) >>= fun t => pure [(p1, a), (pv, t)])) : BindsS fd [p1] pv := by
  obtain ⟨⟨oc, od, kV, doc, pm, an, cdv, ct, osl, rfl, lk, hcd⟩, kp⟩ := F
  exact StX.bind_star1 (B := fun us => bindArgs _ ⟨us, []⟩) (h0 kV doc pm an cdv ct) (h1 kV doc pm an cdv ct)
theorem cxUpN {P : Program} {w : World} : StX.CXUp (L2N.CX P w) := by
  intro outer s H s2 H2 E e s' un kp ho c
  obtain ⟨a, B, H', cls, d, rfl, fl, hok, ub, na, os, ag, he⟩ := c
  have up : UB (frs outer) H H' s.heap B s'.heap := by
    refine ⟨fun b o q n hb => ub.keep b o (kp b o q) (un.free b o q n (by simp)) hb, fun b o q hb => ub.slot b o (kp b o q) hb, fun b o q n => ub.free b o (kp b o q) (un.free b o q n (by simp)), fun b o q hb => ub.there b o (kp b o q) hb,
      fun b xs q => ub.tups b xs (un.tups b xs q), fun b o xs q => ub.frzs b o xs (un.frzs b o xs q), fun b ps q => ?_⟩
    obtain ⟨m1, e1⟩ := un.tbls b ps q
    obtain ⟨m2, e2⟩ := ub.tbls b _ e1
    exact ⟨m1 ++ m2, by rw [e2, Array.append_assoc]⟩
  exact ⟨a, B, H', cls, d, rfl, fl, hok, up, na, os.trans ho, ag, he⟩
/-- the def of the name keeps R, whatever the number of its arguments -/
structure CalS (P : Program) (w : World) (K : PySem.W.Frag) (mg : Str → Option Value) (base : Heap) (n : Str) (k : Nat) (R : Rel) : Prop where
  ex : ∃ f : Addr, FnR P w K mg base CX0 k f (spR R) ∧ mg n = some (.ref f) ∧ PySem.W.keepIn K (.ref f) = true
structure CalSX (P : Program) (w : World) (K : PySem.W.Frag) (mg : Str → Option Value) (base : Heap) (n : Str) (k : Nat) (R : RelX) : Prop where
  ex : ∃ f : Addr, FnR P w K mg base (L2N.CX P w) k f (spX R) ∧ mg n = some (.ref f) ∧ PySem.W.keepIn K (.ref f) = true
theorem paired_cons_inv {α β : Type} {F : α → β → Prop} {xs : List α} {y : β} {ys : List β} (h : Paired F xs (y :: ys)) : ∃ x xs', xs = x :: xs' ∧ F x y ∧ Paired F xs' ys := by
  cases h with
  | cons h t => exact ⟨_, _, rfl, h, t⟩
section
variable {P : Program} {w : World} {K : PySem.W.Frag} {mg : Str → Option Value} {base : Heap}
theorem calS_ok {x qual p1 pv : Str} {st : Stmt} {f : Addr} {fd : FuncData} {N : List Str} {k : Nat} {R : Rel} (F : Fun K x qual st f fd) (S : FnScope N ([p1] ++ [pv]) (defScope st)) (hm : mg x = some (.ref f)) (hb : BindsS fd [p1] pv)
    (len : ∀ as μ post, R as μ post → ∃ (a : Sl) (ds : List PyData), as = a :: ds.map Sl.d ∧ ds.length ≤ sizeLine)
    (body : ∀ (cdv : Value) (A : Around) (outer : List Env) (s : Shared) (H : Hp) (E : XK) (a : Sl) (ds : List PyData) (μ : Mu) (post : Sl → Mu → Prop) (D : Ends), Room k (A.deeper (envOfC qual (defScope st) s.heap.objs.size f cdv)) → R (a :: ds.map .d) μ post →
      (∀ r μ', post r μ' → RtOk (H, μ) D r μ') → (∀ σ H', D.rt .non H' → D.nx σ H') → Go (cx0 P w K mg base N qual st f cdv A outer s H E) (H, μ) (defBody st) D (startE N [a, .d (.tuple ds)]) μ) :
    CalS P w K mg base x (k + 1) R := by
  obtain ⟨⟨oc, od, kV, doc, pm, an, cdv, ct, osl, rfl, lk, hcd⟩, kp⟩ := F
  refine ⟨f, FnR.imp (StX.fn_star (ps := [p1]) (pv := pv) (sp := fun vs H Q _ => ∃ (a : Sl) (ds : List PyData) (μ : Mu) (H0 : Hp), Paired (SR (hide H μ)) vs [a, .d (.tuple ds)] ∧ MuOk H μ ∧ Ext H0 μ H μ ∧ R (a :: ds.map .d) μ fun r μ' => ∀ v H', MuOk H' μ' → Ext H0 μ H' μ' → SR (hide H' μ') v r → Q v H')
    lk hcd S (fun _ _ _ _ _ _ _ _ _ _ _ z => z) hb (fun A outer s H vs Q E hr h => ?_)) (fun vs H Q E h => ?_), hm, kp⟩
  · obtain ⟨a, ds, μ, H0, pr, m, e0, hR⟩ := h
    have t : PSs (cx0 P w K mg base N qual st f cdv A outer s H E) (defBody st) (fun D σ H' => wpR (cx0 P w K mg base N qual st f cdv A outer s H E) (defBody st) D σ H') := pss_wp
    refine ⟨_, t.nox, ?_⟩
    exact body cdv A outer s H E a ds μ _ { nx := fun _ H' => Q .non H', rt := Q } hr hR (fun r μ' hp v H' m' e' r' => hp v H' m' (e0.trans e') r') (fun _ _ z => z) _ H (w_start m pr) (Ext.refl _ _)
  · obtain ⟨as, μ, pr, m, hR⟩ := h
    obtain ⟨a, ds, rfl, hz⟩ := len _ _ _ hR
    obtain ⟨v, vs', rfl, r1, r2⟩ := paired_cons_inv pr
    refine ⟨[v], vs', rfl, rfl, by rw [paired_len r2, List.length_map]; exact hz, fun p np => ?_⟩
    exact ⟨a, ds, μ, H, .cons (r1.ext (Ext.same (same_upd np))) (.cons (new_tup m np r2) .nil), m.same (same_upd np), Ext.same (same_upd np), hR⟩
theorem calSX_ok {x qual p1 pv : Str} {st : Stmt} {f : Addr} {fd : FuncData} {N : List Str} {k : Nat} {R : RelX} (F : Fun K x qual st f fd) (S : FnScope N ([p1] ++ [pv]) (defScope st)) (hm : mg x = some (.ref f)) (hb : BindsS fd [p1] pv)
    (len : ∀ as μ C, R as μ C → ∃ (a : Sl) (ds : List PyData), as = a :: ds.map Sl.d ∧ ds.length ≤ sizeLine)
    (body : ∀ (cdv : Value) (A : Around) (outer : List Env) (s : Shared) (H : Hp) (E : XK) (a : Sl) (ds : List PyData) (μ : Mu) (C : Addr) (D : Ends), Room k (A.deeper (envOfC qual (defScope st) s.heap.objs.size f cdv)) → R (a :: ds.map .d) μ C →
      (∀ H', MuOk H' μ → Ext H μ H' μ → E (.ref C) none H') → Go (cxX P w K mg base N qual st f cdv A outer s H E) (H, μ) (defBody st) D (startE N [a, .d (.tuple ds)]) μ) :
    CalSX P w K mg base x (k + 1) R := by
  obtain ⟨⟨oc, od, kV, doc, pm, an, cdv, ct, osl, rfl, lk, hcd⟩, kp⟩ := F
  refine ⟨f, FnR.imp (StX.fn_star (ps := [p1]) (pv := pv) (sp := fun vs H Q E => ∃ (a : Sl) (ds : List PyData) (μ : Mu) (C : Addr), Paired (SR (hide H μ)) vs [a, .d (.tuple ds)] ∧ MuOk H μ ∧ R (a :: ds.map .d) μ C ∧ ∀ H', MuOk H' μ → Ext H μ H' μ → E (.ref C) none H')
    lk hcd S cxUpN hb (fun A outer s H vs Q E hr h => ?_)) (fun vs H Q E h => ?_), hm, kp⟩
  · obtain ⟨a, ds, μ, C, pr, m, hR, hE⟩ := h
    refine ⟨_, pss_wp, ?_⟩
    exact body cdv A outer s H E a ds μ C { nx := fun _ H' => Q .non H', rt := Q } hr hR hE _ H (w_start m pr) (Ext.refl _ _)
  · obtain ⟨as, μ, C, pr, m, hR, hE⟩ := h
    obtain ⟨a, ds, rfl, hz⟩ := len _ _ _ hR
    obtain ⟨v, vs', rfl, r1, r2⟩ := paired_cons_inv pr
    refine ⟨[v], vs', rfl, rfl, by rw [paired_len r2, List.length_map]; exact hz, fun p np => ?_⟩
    have ex := Ext.same (μ := μ) (same_upd (o := HO.tup vs') np)
    exact ⟨a, ds, μ, C, .cons (r1.ext ex) (.cons (new_tup m np r2) .nil), m.same (same_upd np), hR, fun H' m' e' => hE H' m' (ex.trans e')⟩
end
section
variable {X : Cx} {e : Expr} {es : List Expr} {ρ : En} {μ μ1 μ2 : Mu} {x : Sl} {xs : List Sl} {pos p : Pos} {n : Str} {Wt : WX}
theorem v_callS {k j : Nat} {R : Rel} (F : CalS X.prog X.w X.K X.mg X.base n k R) (hr : Room j X.A) (hk : k ≤ j) (ha : PAv X (e :: es) ρ μ xs μ1) (h : Det R xs μ1 x μ2) (hg : Gl X n := by rfl) (hdb : (n == ("__debug__" : Str)) = false := by decide)
    (he : starEach (e :: es) X.env = (false, eval e X.env) :: starEach es X.env := by rfl) (hpl : (backTo pos (starEach es X.env)).any (·.1) = false := by rfl) : PEv X (.Call (.Name n p) (e :: es) [] pos) ρ μ x μ2 := by
  obtain ⟨f, F, hm, hkp⟩ := F.ex
  refine ⟨fun pins s σ H Q I ⟨w, kk⟩ => ?_⟩
  refine wpAny_Call_Name_kw (ld_glob I hg hm ?_ hdb)
  refine PySem.W.callWith_K (h₀ := X.base) I.ok.mod.kin hkp (thn (ha.run pos pins s σ H _ I ⟨w, fun vs H1 w1 e1 r1 => ?_⟩) fun us s1 ⟨vs, H1, I1, r, q⟩ => ⟨I1.kIn, wpAny_call (run_fnR (E := fun _ _ _ => False) F (hr.mono hk) pass0 I1 r q)⟩) he hpl
  exact ⟨xs, μ1, r1, w1.mu, h _ fun v H' m' e' sr => kk v H' (w1.ext m' e') (e1.trans e') sr⟩
theorem v_callSX {k j : Nat} {R : RelX} {C : Addr} (F : CalSX X.prog X.w X.K X.mg X.base n k R) (tk : L2N.Takes X Wt) (hr : Room j X.A) (hk : k ≤ j) (ha : PAv X (e :: es) ρ μ xs μ1) (hR : R xs μ1 C) (hg : Gl X n := by rfl) (hdb : (n == ("__debug__" : Str)) = false := by decide)
    (he : starEach (e :: es) X.env = (false, eval e X.env) :: starEach es X.env := by rfl) (hpl : (backTo pos (starEach es X.env)).any (·.1) = false := by rfl) : PEz X (.Call (.Name n p) (e :: es) [] pos) ρ μ Wt (.ref C) μ1 := by
  obtain ⟨f, F, hm, hkp⟩ := F.ex
  refine ⟨fun pins s σ H Q I ⟨w, kk⟩ => ?_⟩
  refine wpAny_Call_Name_kw (ld_glob I hg hm ?_ hdb)
  refine PySem.W.callWith_K (h₀ := X.base) I.ok.mod.kin hkp (thn (ha.run pos pins s σ H (fun vs H1 => spX R vs H1 Q (WE Wt σ)) I ⟨w, fun vs H1 w1 e1 r1 => ?_⟩) fun us s1 ⟨vs, H1, I1, r, q⟩ => ⟨I1.kIn, ?_⟩) he hpl
  · exact ⟨xs, μ1, C, r1, w1.mu, hR, fun H' m' e' => kk H' (w1.ext m' e') (e1.trans e')⟩
  · refine wpAny_call (codeAny_mono (F X.A X.stack s1 H1 us vs Q (WE Wt σ) (hr.mono hk) I1.env0 r q) fun r s' hq => ?_)
    cases r with
    | error e => exact L2N.passAt tk σ pins H1 s1 e s' I1 hq
    | ok fl =>
      cases fl with
      | ret u => exact I1.after hq
      | next => exact False.elim hq
      | brk => exact False.elim hq
      | cont => exact False.elim hq
end
end Fw

namespace Fw
open PySem PySem.Spec PyProof.Rows L2 GenW
/-! ### a taker with objects of its own that change while the generator sleeps -/
structure SleptZ (zp zp' : List (Addr × Obj)) (s s' : Shared) : Prop where
  os : s'.os = s.os
  bare : AllBare s'.gens
  keep : ∀ b o, (∀ p ∈ zp, p.1 ≠ b) → s.heap.get? b = some o → s'.heap.get? b = some o
  same : zp'.map (·.1) = zp.map (·.1)
  own : ∀ p ∈ zp', s'.heap.get? p.1 = some p.2 ∧ ∀ v, p.2.data ≠ .cell v
abbrev ZS := List V → List (Addr × Obj) → Prop
def GZ (X : Cx) (Zs : ZS) (ip : List (Addr × Obj)) (ys : List V) (σ : L2.St) (H : Hp) (s : Shared) : Prop := ∃ zp, Zs ys zp ∧ Inv X (zp ++ ip) σ H s ∧ ∀ p ∈ ip, ∀ q ∈ zp, q.1 ≠ p.1
def YZ (X : Cx) (Zs : ZS) : Protocol := fun n s₀ v s kap => ∃ ys x zp ip σ H, n + 1 + ys.length = sizeLine ∧ (∃ i, x = V.int i) ∧ RelV x v ∧ Zs ys zp ∧ Inv X (zp ++ ip) σ H s ∧ ∀ s' zp', SleptZ zp zp' s s' → Zs (ys ++ [x]) zp' → kap (.send .none) s'
/-- where a taker's object may stand -/
def ApartZ (X : Cx) (b : Addr) : Prop := X.s_0.heap.objs.size ≤ b ∧ b ≠ X.env.locals ∧ (∀ x c, X.env.cells.lookup x = some c → c ≠ b) ∧ ∀ p ∈ X.pn, p.1 ≠ b
theorem mem_fst {zp zp' : List (Addr × Obj)} (h : zp'.map (·.1) = zp.map (·.1)) {p : Addr × Obj} (hp : p ∈ zp') : ∃ q ∈ zp, q.1 = p.1 := by
  have z : p.1 ∈ zp'.map (·.1) := List.mem_map.mpr ⟨p, hp, rfl⟩
  rw [h] at z
  exact List.mem_map.mp z
theorem inv_sleptZ {X : Cx} {zp zp' ip : List (Addr × Obj)} {σ : L2.St} {H : Hp} {s s' : Shared} (hA : ∀ p ∈ zp, ApartZ X p.1) (dj : ∀ p ∈ ip, ∀ q ∈ zp, q.1 ≠ p.1) (I : Inv X (zp ++ ip) σ H s) (z : SleptZ zp zp' s s') : Inv X (zp' ++ ip) σ H s' := by
  have I0 : Inv X ip σ H s := I.pins_of fun p hp => I.pin p (List.mem_append_right _ (List.mem_append_right _ hp))
  have zpin := fun (q : Addr × Obj) (hq : q ∈ zp) => I.pin q (List.mem_append_right _ (List.mem_append_left _ hq))
  obtain ⟨hh, g, d, t, o⟩ := s'
  have ho : o = s.os := z.os
  subst ho
  have keep' : ∀ b o, H b ≠ none → s.heap.get? b = some o → hh.get? b = some o := fun b o hb e => z.keep b o (fun p hp q => hb (by rw [← q]; exact (zpin p hp).2.1)) e
  have J : Inv X ip σ H { s with heap := hh, gens := g, drawn := d, toks := t } := by
    refine I0.step (g' := g) (t' := t) (d' := d) (ch := zp.map (·.1)) (fun b hb => ?_) (fun b o _ _ hc e _ => z.keep b o (fun p hp q => hc (List.mem_map.mpr ⟨p, hp, q⟩)) e)
      (fun b o _ _ hc e _ => ⟨o.slots, z.keep b o (fun p hp q => hc (List.mem_map.mpr ⟨p, hp, q⟩)) e⟩) (fun _ _ _ _ n => n) (fun b o hc e => ⟨o, z.keep b o (fun p hp q => hc (List.mem_map.mpr ⟨p, hp, q⟩)) e⟩)
      (fun _ _ q => q) (fun _ _ _ q => q) (fun b ps q => ⟨#[], by rw [q]; simp⟩) (fun m hm => ?_) (fun b u q => ?_) z.bare
    · obtain ⟨p, hp, rfl⟩ := List.mem_map.mp hb
      obtain ⟨a1, a2, a3, a4⟩ := hA p hp
      refine ⟨.inr a1, a2, a3, fun q hq => ?_⟩
      rcases List.mem_append.mp hq with h | h
      · exact a4 q h
      · exact Ne.symm (dj q h p hp)
    · exact hm.at' fun o e => z.keep _ o (fun p hp q => (hA p hp).2.1 q) e
    · refine (I0.hok b u q).stay (fun c v hc y => ?_) (fun _ y => y) fun _ _ y => y
      rcases hc with h | h
      · rw [h] at y ⊢
        exact keep' b v (by rw [q]; exact fun z => by cases z) y
      · exact keep' c v (by rw [h]; exact fun z => by cases z) y
  refine J.pins_of fun p hp => ?_
  rcases List.mem_append.mp hp with h | h
  · obtain ⟨q, hq, e⟩ := mem_fst z.same h
    obtain ⟨_, b1, b2, b3, _⟩ := zpin q hq
    rw [e] at b1 b2 b3
    exact ⟨(z.own p h).1, b1, b2, b3, (z.own p h).2⟩
  · exact J.pin p (List.mem_append_right _ h)
theorem feed_Z {X : Cx} {Zs : ZS} (hA : ∀ ys zp, Zs ys zp → ∀ p ∈ zp, ApartZ X p.1) : Feed X (GZ X Zs) (YZ X Zs) where
  inv := fun {ip ys σ H s} ⟨zp, hz, I, dj⟩ => ⟨zp, I, dj, fun ip' σ' H' s' dj' I' => ⟨zp, hz, I', dj'⟩⟩
  out := fun {n ip ys x v σ H s₀ s kap} hn hi rv ⟨zp, hz, I, dj⟩ k => ⟨ys, x, zp, ip, σ, H, hn, hi, rv, hz, I, fun s' zp' sl hz' => k s' ⟨zp', hz', inv_sleptZ (hA ys zp hz) dj I sl, fun p hp q hq => by
    obtain ⟨r, hr, e⟩ := mem_fst sl.same hq
    rw [← e]
    exact dj p hp r hr⟩⟩
/-! ### a generator def's promise to such a taker -/
abbrev SpZ := List V → Hp → (List V → Hp → Prop) → Prop
/-- the end of the run -/
def EndZ (P : Program) (w : World) (outer : List Env) (H : Hp) (s : Shared) (Zs : ZS) (Q : List V → Hp → Prop) (n : Nat) (s1 : Shared) : Prop :=
  ∃ H' ys zp, n + ys.length = sizeLine ∧ s1.os = s.os ∧ AllBare s1.gens ∧ Un (frs outer) [] H H' s.heap s1.heap ∧ HOk P w H' s1.heap ∧ Zs ys zp ∧ (∀ p ∈ zp, H' p.1 = none ∧ s1.heap.get? p.1 = some p.2) ∧ Q ys H'
abbrev RZ (P : Program) (w : World) (outer : List Env) (H : Hp) (s : Shared) (Zs : ZS) (Q : List V → Hp → Prop) : GenEnd := fun n _ r s1 => ((r = .ok (.ret .none) ∨ r = .ok .next) ∧ EndZ P w outer H s Zs Q n s1) ∨ ∃ e, r = .error e ∧ False
def ItemZ (s : Shared) (Zs : ZS) (a : Addr) (g : Nat) : Protocol := fun n _ v s1 kap => ∃ ys x zp, n + 1 + ys.length = sizeLine ∧ (∃ i, x = V.int i) ∧ RelV x v ∧ s1.os = s.os ∧ AllBare s1.gens ∧ s1.heap.NoLimit ∧ s1.heap.IsGen a g ∧ Zs ys zp ∧
  (∀ p ∈ zp, s1.heap.get? p.1 = some p.2) ∧ ∀ s' zp', SleptZ zp zp' s1 s' → Zs (ys ++ [x]) zp' → kap (.send .none) s'
def MadeZ (P : Program) (w : World) (k : Nat) (outer : List Env) (H : Hp) (s : Shared) (Q : List V → Hp → Prop) (u : Value) (s' : Shared) : Prop :=
  ∃ (a : Addr) (g : Nat) (c : Code), u = .ref a ∧ s.heap.objs.size ≤ a ∧ a < s'.heap.objs.size ∧ s'.heap.IsGen a g ∧ s'.gens[g]? = some (.fresh c) ∧ s'.os = s.os ∧ AllBare s'.gens ∧ s'.heap.NoLimit ∧ (∀ b o, s.heap.get? b = some o → s'.heap.get? b = some o) ∧
    ∀ (A : Around) (Zs : ZS) (zp : List (Addr × Obj)) (s2 : Shared), Room k A → A.frames = some outer → (∀ ys zp, Zs ys zp → ∀ p ∈ zp, s'.heap.objs.size ≤ p.1) → (∀ b o, s'.heap.get? b = some o → s2.heap.get? b = some o) → s2.os = s.os → AllBare s2.gens →
      Zs [] zp → (∀ p ∈ zp, s2.heap.get? p.1 = some p.2 ∧ ∀ v, p.2.data ≠ .cell v) → Seg (model P w) A (RZ P w outer H s Zs Q) (ItemZ s Zs a g) sizeLine s2 c ((model P w).den c) [] s2
structure GFnZ (P : Program) (w : World) (K : PySem.W.Frag) (mg : Str → Option Value) (base : Heap) (k : Nat) (f : Addr) (fd : FuncData) (ps : List Str) (sp : SpZ) : Prop where
  len : ∀ vs H Q, sp vs H Q → vs.length = ps.length
  run : ∀ (A : Around) (outer : List Env) (s : Shared) (H : Hp) (args : Args) (us : List Value) (vs : List V) (Q : List V → Hp → Prop), Room k A → Env0 P w K mg base A outer s H → BindsTo s fd args (ps.zip us) → Vals vs us → sp vs H Q →
    codeAny (model P w) A (.call (.ref f) args) (fun r s' => match r with | .ok (.ret u) => MadeZ P w k outer H s Q u s' | _ => False) s
theorem gfnZ_of {P : Program} {w : World} {K : PySem.W.Frag} {mg : Str → Option Value} {base : Heap} {k : Nat} {f : Addr} {name qual : Str} {params : Arguments} {body : List Stmt} {scope : Scope} {dV kV doc pm cdv ct oc : Value} {an od : Option Addr}
    {osl : Array (Option Value)} {N ps : List Str} {sp : SpZ} (lk : K.lookup f = some ⟨oc, od, .func (PySem.W.fnOf name qual params body scope dV kV doc pm an cdv ct), osl⟩) (hcd : PySem.W.codeIn K cdv qual = true) (S : GScope N ps scope)
    (len : ∀ vs H Q, sp vs H Q → vs.length = ps.length)
    (hbody : ∀ (A : Around) (outer : List Env) (s : Shared) (H : Hp) (vs : List V) (Q : List V → Hp → Prop) (pn : List (Addr × Obj)) (G : List (Addr × Obj) → List V → L2.St → Hp → Shared → Prop) (Y : Protocol), Feed (gcxOf P w K mg base N qual scope f cdv A outer s H (fun _ _ _ => False) pn) G Y → Room k (A.deeper (envOfC qual scope s.heap.objs.size f cdv)) → sp vs H Q →
      fwp (gcxOf P w K mg base N qual scope f cdv A outer s H (fun _ _ _ => False) pn) G Y body (fun ys _ H' => Q ys H') [] (start N vs) H) :
    GFnZ P w K mg base (k + 1) f (PySem.W.fnOf name qual params body scope dV kV doc pm an cdv ct) ps sp := by
  refine ⟨len, fun A outer s H args us vs Q hr e0 hb r hsp => ?_⟩
  have hl := len _ _ _ hsp
  have KX : K.In s.heap := e0.mod.kin.keeps fun b o e => (e0.bs b o e).1
  have lim : s.heap.NoLimit := e0.mod.nolimit.keeps fun b o e => (e0.bs b o e).1
  have hkind : ∀ y ∈ ps.zip us, scope.names.lookup y.1 = some .local ∨ (scope.names.lookup y.1 = some .cell ∧ ((cellsFrom (s.heap.objs.size + 1) scope.names []).lookup y.1).isSome = true) := fun y hy =>
    (S.par y.1 (List.of_mem_zip hy).1).imp id fun q => ⟨q, PySem.W.cellsFrom_some _ _ _ (.inl q)⟩
  refine codeAny_call_generator hr.depth (KX _ _ lk) rfl S.co S.gen rfl (PySem.W.codeRec_of KX hcd) (hb _ _ _ _ ?_)
  refine wpAny_newFunctionEnv_cells S.kind hkind fun env he s1 x => ?_
  subst he
  have kp1 : ∀ b o, s.heap.get? b = some o → s1.heap.get? b = some o := x.toInCall.keep
  have lim1 : s1.heap.NoLimit := lim.keeps kp1
  refine ⟨lim1, ?_⟩
  obtain ⟨os1, gen1⟩ : s1.os = s.os ∧ s1.gens = s.gens := by
    obtain ⟨_, _, e, _⟩ := x.done
    rw [e]
    exact ⟨rfl, rfl⟩
  have lt1 : s.heap.objs.size < s1.heap.objs.size := x.toInCall.ns.lt
  have fin : ∀ (go : Obj) (nm qn : Value) (tk2 : Nat), go.cls = .type "generator" → go.data = .fields #[.int s1.gens.size 0, nm, qn] → go.slots = #[] → (∀ h : Heap, (h.push go).get? h.objs.size = some go) →
      MadeZ P w (k + 1) outer H s Q (.ref s1.heap.objs.size) { s1 with gens := s1.gens.push (.fresh (.func body (envOfC qual scope s.heap.objs.size f cdv))), toks := tk2, heap := s1.heap.push go } := by
    intro go nm qn tk2 hgc hgd hgs hgp
    have isG : ∀ h : Heap, h.get? s1.heap.objs.size = some go → h.IsGen s1.heap.objs.size s1.gens.size := fun h e => ⟨go, nm, qn, e, hgc, hgd, hgs⟩
    have nocell : ∀ v, go.data ≠ .cell v := fun v q => by rw [hgd] at q; cases q
    refine ⟨s1.heap.objs.size, s1.gens.size, _, rfl, Nat.le_of_lt lt1, by show _ < (s1.heap.push go).objs.size; rw [Heap.size_push]; exact Nat.lt_succ_self _, isG _ (hgp _), Array.getElem?_push_size .., os1, AllBare.push (by rw [gen1]; exact e0.bare) rfl,
      lim1.keeps fun b o e => Heap.get?_push_of_some _ e, fun b o e => Heap.get?_push_of_some _ (kp1 b o e), fun Aw Zs zp s2 hrw hfr hZ hk hos hba hz0 hzp => ?_⟩
    have I1 : Inv (gcxOf P w K mg base N qual scope f cdv Aw outer s H (fun _ _ _ => False) []) [] (start N vs) H s1 := inv_startG S hrw.hd ⟨hfr, e0.mod, e0.bs, e0.bsz, e0.funs, e0.frf, e0.hok, e0.bare⟩ hl r x
    have kp2 : ∀ b o, s1.heap.get? b = some o → s2.heap.get? b = some o := fun b o e => hk b o (Heap.get?_push_of_some _ e)
    have I2 : Inv (gcxOf P w K mg base N qual scope f cdv Aw outer s H (fun _ _ _ => False) []) [] (start N vs) H s2 := I1.call' (ch := []) (hos.trans os1.symm) (Un.kept kp2) (I1.hok.kept kp2) hba fun b z => by simp at z
    have big : ∀ ys zp, Zs ys zp → ∀ p ∈ zp, s1.heap.objs.size < p.1 := fun ys zp h p hp => by
      have z : (s1.heap.push go).objs.size ≤ p.1 := hZ ys zp h p hp
      rw [Heap.size_push] at z
      exact z
    have young : ∀ b, s1.heap.objs.size ≤ b → H b = none ∧ b ≠ s.heap.objs.size ∧ b ∉ frs outer ∧ s.heap.objs.size ≤ b ∧ ∀ y c, (cellsFrom (s.heap.objs.size + 1) scope.names []).lookup y = some c → c ≠ b := fun b hb => by
      refine ⟨I1.hok.fresh hb, Nat.ne_of_gt (Nat.lt_of_lt_of_le lt1 hb), I1.nofs hb, Nat.le_of_lt (Nat.lt_of_lt_of_le lt1 hb), fun y c e z => ?_⟩
      obtain ⟨v, ob, ho, _⟩ := I1.cell y c e
      have q := Heap.lt_size ho
      rw [z] at q
      exact absurd (Nat.lt_of_lt_of_le q hb) (Nat.lt_irrefl _)
    have hea : s2.heap.get? s1.heap.objs.size = some go := hk _ go (hgp _)
    generalize hX : gcxOf P w K mg base N qual scope f cdv Aw outer s H (fun _ _ _ => False) [(s1.heap.objs.size, go)] = X
    have I3 : Inv X (zp ++ []) (start N vs) H s2 := by
      rw [← hX]
      refine Inv.pinnedG I2 fun p hp => ?_
      rcases List.mem_append.mp hp with z | z
      · rw [List.mem_singleton.mp z]
        obtain ⟨y1, y2, y3, _, _⟩ := young s1.heap.objs.size (Nat.le_refl _)
        exact ⟨hea, y1, y2, y3, nocell⟩
      · rw [List.append_nil] at z
        obtain ⟨y1, y2, y3, _, _⟩ := young p.1 (Nat.le_of_lt (big _ _ hz0 p z))
        exact ⟨(hzp p z).1, y1, y2, y3, (hzp p z).2⟩
    have apart : ∀ ys zp, Zs ys zp → ∀ p ∈ zp, ApartZ X p.1 := fun ys zp h p hp => by
      have b := big ys zp h p hp
      obtain ⟨_, y2, _, y4, y5⟩ := young p.1 (Nat.le_of_lt b)
      subst hX
      exact ⟨y4, y2, y5, fun q hq z => by
        rw [List.mem_singleton.mp hq] at z
        exact absurd (show s1.heap.objs.size = p.1 from z) (Nat.ne_of_lt b)⟩
    have standing : ∀ {pl : List (Addr × Obj)} {σ' : L2.St} {H' : Hp} {s' : Shared}, Inv X pl σ' H' s' → s'.heap.IsGen s1.heap.objs.size s1.gens.size := fun {pl σ' H' s'} I' => by
      subst hX
      exact isG _ (I'.pin (s1.heap.objs.size, go) (List.mem_append_left _ (List.mem_singleton.mpr rfl))).1
    refine seg_func ?_
    refine seg_imp (R := fun n _ r s' => ∃ ys σ' H', n + ys.length = sizeLine ∧ r = .ok (.ret .none) ∧ GZ X Zs [] ys σ' H' s' ∧ Q ys H') (Y := YZ X Zs) (fun n s₀ r s' hend => ?_) (fun n s₀ v s' kap kap' hkk hit => ?_) sizeLine ?_
    · obtain ⟨ys, σ', H', hn, er, ⟨zp', hz', I', _⟩, hQ⟩ := hend
      have hp' := fun (p : Addr × Obj) (hp : p ∈ zp') => I'.pin p (List.mem_append_right _ (List.mem_append_left _ hp))
      subst hX
      exact .inl ⟨.inl er, H', ys, zp', hn, I'.os, I'.bare, I'.base, I'.hok, hz', fun p hp => ⟨(hp' p hp).2.1, (hp' p hp).1⟩, hQ⟩
    · obtain ⟨ys, xx, zp', ip, σ', H', hn, hi, rv, hz', I', h3⟩ := hit
      have g1 := standing I'
      have hp' := fun (p : Addr × Obj) (hp : p ∈ zp') => (I'.pin p (List.mem_append_right _ (List.mem_append_left _ hp))).1
      subst hX
      exact ⟨ys, xx, zp', hn, hi, rv, I'.os, I'.bare, I'.nolimit, g1, hz', hp', fun s'' zp'' sl hz'' => hkk _ _ (h3 s'' zp'' sl hz'')⟩
    · have bd := hbody Aw outer s H vs Q [(s1.heap.objs.size, go)] (GZ X Zs) (YZ X Zs) (by rw [hX]; exact feed_Z apart) (hrw.deeper _) hsp
      rw [hX] at bd
      have bd2 := bd Aw [] (fun n _ r s' => ∃ ys σ' H', n + ys.length = sizeLine ∧ r = .ok (.ret .none) ∧ GZ X Zs [] ys σ' H' s' ∧ Q ys H') sizeLine s2 (.func body (envOfC qual scope s.heap.objs.size f cdv)) []
        (fun f => .pure (.done (.ret (match f with | .ret v => v | _ => .none)))) (fun e => (leaving (envOfC qual scope s.heap.objs.size f cdv) e).wrap (fun _ => .raise e) .raise id id) id id s2
        (by subst hX; exact over_func) rfl rfl rfl (Nat.add_zero _) (fun n ys s₀ s' σ' H' hn hG hQ => seg_end (.ok (.ret .none)) ⟨ys, σ', H', hn, rfl, hG, hQ⟩) (fun n s₀ e s' hx => ?_) ⟨zp, hz0, I3, fun p hp => absurd hp (by simp)⟩
      · subst hX
        exact bd2
      · subst hX
        refine seg_wrap ?_
        rw [over_func]
        refine wpAny_mono (show wpAny (model P w) (Aw.deeper (envOfC qual scope s.heap.objs.size f cdv)) (leaving (envOfC qual scope s.heap.objs.size f cdv) e) (fun _ s'' => CX P w outer H s (fun _ _ _ => False) e s'' ∧ ∀ p ∈ [(s1.heap.objs.size, go)], s''.heap.get? p.1 = some p.2) (fun _ _ => False) s' from hx) (fun _ s'' q => ?_) fun _ s'' q => q.elim
        obtain ⟨⟨_, _, _, _, _, _, _, _, _, _, _, _, z⟩, _⟩ := q
        exact z.elim
  exact fin _ _ _ _ rfl rfl rfl fun h => Heap.get?_push_size _ rfl
end Fw

namespace Fw
open PySem PySem.Spec PyProof.Rows L2 GenW
/-! ### a comprehension over a generator -/
/-- an element over the one int that was stored: i gives gf i -/
structure EltI (P : Program) (w : World) (elt : Expr) (x : Str) (gf : Int → Int) : Prop where
  run : ∀ (A : Around) (env : Env) (s : Shared) (i : Int) (t : Tok) (m : Str → Option Value) (Q : Value → Shared → Prop) (E : Value → Shared → Prop), env.scope.kind = .function → env.kindOf x = some .local → s.heap.Ns env.locals m → m x = some (.int i t) →
    (∀ t' tk, Q (.int (gf i) t') { s with toks := tk }) → wpAny (model P w) A (eval elt env) Q E s
/-- j - x -/
theorem elt_sub {P : Program} {w : World} {x : Str} {j : Int} {k : Nat} {p1 p2 p3 : Pos} (hd : (x == ("__debug__" : Str)) = false := by decide) : EltI P w (.BinOp (.Constant (.int j) k p1) .Sub (.Name x p2) p3) x (fun i => j - i) := by
  refine ⟨fun A env s i t m Q E hk hl hn hm h => ?_⟩
  refine wpAny_BinOp (wpAny_Constant_int (wpAny_Name (wpAny_loadName_local (s := { s with toks := s.toks + 1 }) hk hl hn hm ?_) hd))
  exact sub_int (h _ _)
/-- what stands at the block's namespace C -/
abbrev NsO (C : Addr) (o : Obj) : Prop := (∀ v, o.data ≠ .cell v) ∧ ∃ m, ∀ h : Heap, h.get? C = some o → h.Ns C m
theorem nsO_of {h : Heap} {C : Addr} {m : Str → Option Value} (n : h.Ns C m) : ∃ o, h.get? C = some o ∧ NsO C o := by
  obtain ⟨o, es, ep, ho, hd, hs, hf⟩ := n
  exact ⟨o, ho, And.intro (fun v q => by rw [hd] at q; cases q) ⟨m, fun h' e => ⟨o, es, ep, e, hd, hs, hf⟩⟩⟩
/-- the comprehension's own objects: the list D so far, the namespace C -/
def ZL (D C : Addr) (gf : Int → Int) : ZS := fun ys zp => ∃ (is : List Int) (acc : Array Value) (c : Nat) (oC : Obj), ys = is.map V.int ∧ zp = [(D, lstObj acc c), (C, oC)] ∧ Vals ((is.map gf).map V.int) acc.toList ∧ NsO C oC
theorem relv_isint {i : Int} {v : Value} (h : RelV (V.int i) v) : ∃ t, v = .int i t := h
section
variable {P : Program} {w : World} {outer : List Env} {H : Hp} {sc : Shared} {Q : List V → Hp → Prop} {A : Around} {R : Result → Shared → Prop} {D C a : Addr} {g : Nat} {elt iter : Expr} {x : Str} {px pos : Pos} {scope : Scope} {cenv : Env} {gf : Int → Int}
/-- the loop of the block -/
theorem compZ (hh : A.handled = none) (hd : A.depth < recursionLimit) (hDC : D ≠ C) (hDa : D ≠ a) (hCa : C ≠ a) (hDs : D ≠ cStatics) (hCs : C ≠ cStatics) (hC : cenv.locals = C) (hk : cenv.scope.kind = .function) (hl : cenv.kindOf x = some .local) (he : EltI P w elt x gf)
    (hend : ∀ s' h', (∃ n, EndZ P w outer H sc (ZL D C gf) Q n s') → (∀ b o, s'.heap.get? b = some o → h'.get? b = some o) → R (.ok .next) { s'.setGen g .finished with heap := h' }) :
    ∀ (m : Nat) (s : Shared), (s.heap.IsGen a g ∧ s.heap.NoLimit ∧ ∃ gs, s.gens[g]? = some gs ∧ gs.Goes (model P w) A.in1 (RZ P w outer H sc (ZL D C gf) Q) (ItemZ sc (ZL D C gf) a g) m (.send .none) (s.setGen g .running)) →
      codeAny (model P w) A (.compLoop (.ListComp elt [⟨.Name x px, iter, [], 0⟩] scope pos) 0 (.ref a) (.ref D) cenv) R s := by
  subst hC
  intro m0 s0 hI0
  refine codeAny_compLoop_list (fun m s => s.heap.IsGen a g ∧ s.heap.NoLimit ∧ ∃ gs, s.gens[g]? = some gs ∧ gs.Goes (model P w) A.in1 (RZ P w outer H sc (ZL D cenv.locals gf) Q) (ItemZ sc (ZL D cenv.locals gf) a g) m (.send .none) (s.setGen g .running)) (fun m s hI => ?_) m0 hI0
  obtain ⟨hg, hlim, gs, hgs, hgo⟩ := hI
  have hgl : g < s.gens.size := (Array.getElem?_eq_some_iff.mp hgs).1
  refine wpAny_gsz (n := g + 1) hgl (next_genG (F := fun n _ s1 => EndZ P w outer H sc (ZL D cenv.locals gf) Q n s1) (Er := fun _ _ => False) hh hlim hd hg hgs hgo (fun v s1 gs' hbare hv hsz => ?_) (fun s1 hp h' hkp hsz => ?_) fun e s1 he => he.elim)
  · obtain ⟨ys, xx, zp, hn, ⟨i, rfl⟩, rv, hos, hba, hlim1, hg1, ⟨is, acc, c, oC, rfl, rfl, hacc, noC⟩, hz, kap⟩ := hv
    obtain ⟨t, rfl⟩ := relv_isint rv
    have eD : s1.heap.get? D = some (lstObj acc c) := hz _ List.mem_cons_self
    have eC : s1.heap.get? cenv.locals = some oC := hz (cenv.locals, oC) (List.mem_cons_of_mem _ List.mem_cons_self)
    obtain ⟨noc, mC, hmC⟩ := noC
    have hsz1 : g < s1.gens.size := by
      have q : (s1.setGen g gs').gens.size = s1.gens.size := setGen_size _ _ _
      have z : g + 1 ≤ (s1.setGen g gs').gens.size := hsz
      omega
    have hacl : acc.size = is.length := by
      have e1 := hacc.length
      rw [List.length_map, List.length_map] at e1
      have e2 : acc.toList.length = acc.size := by simp
      omega
    rw [List.length_map] at hn
    refine wpAny_assign_Name (wpAny_storeName_local (s := s1.setGen g gs') hl (hmC _ eC) (fun h2 n2 sb2 => ?_) (by rw [hk]; rfl))
    refine he.run A cenv _ i t _ _ _ hk hl n2 (by rw [if_pos rfl]) fun t' tk => ?_
    have eD2 : h2.get? D = some (lstObj acc c) := (sb2.2 D hDC).trans eD
    refine append_at (hsz := by omega) eD2 fun h3 sb3 eD3 => ?_
    obtain ⟨o2, eC2, noC2⟩ := nsO_of n2
    have eC3 : h3.get? cenv.locals = some o2 := (sb3.2 _ (Ne.symm hDC)).trans eC2
    have keep3 : ∀ b o, b ≠ D → b ≠ cenv.locals → s1.heap.get? b = some o → h3.get? b = some o := fun b o n1 n2 e => (sb3.2 b n1).trans ((sb2.2 b n2).trans e)
    cases m with
    | zero =>
      refine absurd (kap { (s1.setGen g gs').setGen g .running with heap := h3, toks := tk } [(D, lstObj (acc.push (.int (gf i) t')) (c + 1)), (cenv.locals, o2)] ⟨hos.trans hos.symm, allBare_setGen (allBare_setGen hba hbare) rfl, fun b o hb e => keep3 b o (fun z => hb _ List.mem_cons_self z.symm) (fun z => hb _ (List.mem_cons_of_mem _ List.mem_cons_self) z.symm) e, rfl, fun p hp => ?_⟩ ⟨is ++ [i], _, _, _, by rw [List.map_append]; rfl, rfl, ?_, noC2⟩) (fun z => z)
      · rcases List.mem_cons.mp hp with e | hp
        · rw [e]; exact ⟨eD3, fun v q => by cases q⟩
        · rw [List.mem_singleton.mp hp]; exact ⟨eC3, noC2.1⟩
      · rw [List.map_append, List.map_append, Array.toList_push]
        exact hacc.append (.cons ⟨t', rfl⟩ .nil)
    | succ m =>
      refine ⟨m, Nat.lt_succ_self _, ?_, ?_, gs', setGen_at hsz1, ?_⟩
      · obtain ⟨o, nm, qn, ho, r⟩ := hg1
        exact ⟨o, nm, qn, keep3 a o (Ne.symm hDa) (Ne.symm hCa) ho, r⟩
      · obtain ⟨mc, hns, hnn⟩ := hlim1
        exact ⟨mc, hns.at' fun o e => keep3 _ o (Ne.symm hDs) (Ne.symm hCs) e, hnn⟩
      · refine kap { (s1.setGen g gs').setGen g .running with heap := h3, toks := tk } [(D, lstObj (acc.push (.int (gf i) t')) (c + 1)), (cenv.locals, o2)] ⟨rfl, allBare_setGen (allBare_setGen hba hbare) rfl, fun b o hb e => keep3 b o (fun z => hb _ List.mem_cons_self z.symm) (fun z => hb _ (List.mem_cons_of_mem _ List.mem_cons_self) z.symm) e, rfl, fun p hp => ?_⟩ ⟨is ++ [i], _, _, _, by rw [List.map_append]; rfl, rfl, ?_, noC2⟩
        · rcases List.mem_cons.mp hp with e | hp
          · rw [e]; exact ⟨eD3, fun v q => by cases q⟩
          · rw [List.mem_singleton.mp hp]; exact ⟨eC3, noC2.1⟩
        · rw [List.map_append, List.map_append, Array.toList_push]
          exact hacc.append (.cons ⟨t', rfl⟩ .nil)
  · exact hend s1 h' ⟨_, hp⟩ hkp
end
section
variable {X : Cx}
theorem pe_lcZ {k : Nat} {f : Addr} {fd : FuncData} {ps : List Str} {sp : SpZ} {n x : Str} {px p cpos pos : Pos} {e elt : Expr} {es : List Expr} {t : TA} {scope : Scope} {own : List (Str × Nat)} {gf : Int → Int} (F : GFnZ X.prog X.w X.K X.mg X.base k f fd ps sp) (hr : Room (k + 1) X.A) (hg : Gl X n) (hm : X.mg n = some (.ref f)) (hk : PySem.W.keepIn X.K (.ref f) = true) (hb : Binds X.K fd ps [])
    (ha : PA X (e :: es) t) (ok : BlkOk X.N X.env.scope scope own) (hx : scope.names.lookup x = some .local) (helt : EltI X.prog X.w elt x gf) (hdb : (n == ("__debug__" : Str)) = false := by decide) (he : starEach (e :: es) X.env = (false, eval e X.env) :: starEach es X.env := by rfl) (hpl : (backTo cpos (starEach es X.env)).any (·.1) = false := by rfl)
    (hs : ∀ y, foldedSetIterable (.Call (.Name n p) (e :: es) [] cpos) X.env y = pure y := by intro _; rfl) :
    PE X (.ListComp elt [⟨.Name x px, .Call (.Name n p) (e :: es) [] cpos, [], 0⟩] scope pos) (fun σ H Q => t σ H fun vs H1 => sp vs H1 fun ys H2 => ∀ (D : Addr) (is : List Int), H2 D = none → ys = is.map V.int → Q (.ref D) (upd H2 D (.lst ((is.map gf).map V.int)))) := by
  refine ⟨fun pins s σ H Q I h => ?_⟩
  rw [eval_ListComp]
  have hfree : ∀ y ∈ scope.names, y.2 = .free → ∃ c, X.env.cells.lookup y.1 = some c := fun y hy e => (ok.free y hy e).elim (fun q => I.ok.has _ (.inl q)) fun q => I.ok.has _ (.inr q)
  refine wpAny_comprehension_free (use := none) rfl hs (closure_ok hfree) ok.kind (fun y hy e => by rw [ok.uniq y hy, e]) ?_
  show wpAny _ _ (eval (.Call (.Name n p) (e :: es) [] cpos) X.env) _ _ _
  refine wpAny_Call_Name_kw (ld_glob I hg hm ?_ hdb)
  refine PySem.W.callWith_K (h₀ := X.base) I.ok.mod.kin hk (thn (ha.run cpos pins s σ H _ I h) fun us s1 ⟨vs, H1, I1, r, q⟩ => ⟨I1.kIn, ?_⟩) he hpl
  have hl : us.length = ps.length := by rw [← r.length]; exact F.len _ _ _ q
  have hbt := hb s1 us I1.kIn (by rw [List.append_nil]; exact hl)
  rw [List.append_nil] at hbt
  refine wpAny_call (codeAny_mono (F.run X.A X.stack s1 H1 ⟨us, []⟩ us vs _ (hr.mono (Nat.le_succ _)) I1.env0 hbt r q) fun rr s2 hq => ?_)
  rcases rr with e | fl
  · exact False.elim hq
  cases fl with
  | next => exact False.elim hq
  | brk => exact False.elim hq
  | cont => exact False.elim hq
  | ret u =>
  obtain ⟨a, g, c, rfl, ha1, ha2, isg, hgs, hos, hba, hlim, kp2, wake⟩ := hq
  show wpAny _ _ (pyIter (.ref a)) _ _ s2
  refine wpAny_pyIter_gen isg ?_
  refine wpAny_newObj_type (newEnv_comp ?_) (by show 0 ≤ sizeLine; decide)
  generalize hD : s2.heap.objs.size = D
  generalize hs3 : ({ s2 with heap := s2.heap.push { cls := .type "list", data := .seq ([] : List Value).toArray } } : Shared) = s3
  have h3 : s3.heap = s2.heap.push { cls := .type "list", data := .seq ([] : List Value).toArray } := by rw [← hs3]
  have z3 : s3.heap.objs.size = D + 1 := by rw [h3, Heap.size_push, hD]
  show codeAny _ _ (.compStart (.ListComp elt [⟨.Name x px, .Call (.Name n p) (e :: es) [] cpos, [], 0⟩] scope pos) 0 (.ref a) (.ref D) (compEnvC scope (cellsFrom (s3.heap.objs.size + 1) scope.names (cloFrom X.env.cells scope.names [])) s3.heap.objs.size X.env)) (compPost (model X.prog X.w) X.A X.xe none (EP X pins σ Q) (.ref D) s3.heap.objs.size) { s3 with heap := pushCells (s3.heap.push { cls := .type "dict", data := .dict #[] }) scope.names }
  generalize hCC : s3.heap.objs.size = C
  generalize hce : compEnvC scope (cellsFrom (C + 1) scope.names (cloFrom X.env.cells scope.names [])) C X.env = ce
  have cL : ce.locals = C := by rw [← hce]; rfl
  have cK : ce.scope.kind = .function := by rw [← hce]; exact ok.kind
  have cX : ce.kindOf x = some .local := by rw [← hce]; exact lookup_relabel_local hx
  have eC : C = D + 1 := by rw [← hCC]; exact z3
  generalize hs4 : ({ s3 with heap := pushCells (s3.heap.push { cls := .type "dict", data := .dict #[] }) scope.names } : Shared) = s4
  have h4 : s4.heap = pushCells (s3.heap.push { cls := .type "dict", data := .dict #[] }) scope.names := by rw [← hs4]
  have g4 : s4.gens = s2.gens ∧ s4.os = s2.os := by rw [← hs4, ← hs3]; exact ⟨rfl, rfl⟩
  have kp34 : ∀ b o, (s3.heap.push { cls := .type "dict", data := .dict #[] }).get? b = some o → s4.heap.get? b = some o := fun b o e => by rw [h4]; exact pushCells_keeps _ _ _ _ e
  have kp24 : ∀ b o, s2.heap.get? b = some o → s4.heap.get? b = some o := fun b o e => kp34 b o (Heap.get?_push_of_some _ (by rw [h3]; exact Heap.get?_push_of_some _ e))
  have eD4 : s4.heap.get? D = some (lstObj #[] 0) := kp34 D _ (Heap.get?_push_of_some _ (by rw [h3, ← hD]; exact Heap.get?_push_size _ rfl))
  have nsC : s4.heap.Ns C (fun _ => none) := by
    rw [h4, ← hCC]
    exact Heap.Ns.keeps (Heap.Ns.new ..) fun b o e => pushCells_keeps _ _ _ _ e
  obtain ⟨oC, eC4, noC⟩ := nsO_of nsC
  have hcs : cStatics < s2.heap.objs.size := by
    obtain ⟨_, hn, _⟩ := hlim
    exact hn.lt
  have hsD : s1.heap.objs.size ≤ D := by rw [← hD]; exact Nat.le_trans ha1 (Nat.le_of_lt ha2)
  have haD : a < D := by rw [← hD]; exact ha2
  have isg4 : s4.heap.IsGen a g := isg.keeps kp24
  have hDC : D < C := by omega
  have haC : a < C := Nat.lt_trans haD hDC
  have hsD2 : cStatics < D := Nat.lt_of_lt_of_le hcs (Nat.le_of_eq hD)
  have hsC : cStatics < C := Nat.lt_trans hsD2 hDC
  have loop : codeAny (model X.prog X.w) X.A (.compLoop (.ListComp elt [⟨.Name x px, .Call (.Name n p) (e :: es) [] cpos, [], 0⟩] scope pos) 0 (.ref a) (.ref D) ce) (compPost (model X.prog X.w) X.A X.xe none (EP X pins σ Q) (.ref D) C) s4 := by
    refine compZ (C := C) (outer := X.stack) (H := H1) (sc := s1) (Q := fun ys H2 => ∀ (D : Addr) (is : List Int), H2 D = none → ys = is.map V.int → Q (.ref D) (upd H2 D (.lst ((is.map gf).map V.int)))) hr.hd (by have := hr.dp; omega) (Nat.ne_of_lt hDC) (Nat.ne_of_gt haD) (Nat.ne_of_gt haC) (Nat.ne_of_gt hsD2) (Nat.ne_of_gt hsC) cL cK cX helt (fun s' h' hend hkp => ?_) sizeLine s4 ⟨isg4, hlim.keeps kp24, .fresh c, by rw [g4.1]; exact hgs, rfl, ?_⟩
    · obtain ⟨nn, H', ys, zp, hn, os', ba', un', hok', ⟨is, acc, cc, oC', rfl, rfl, hacc, noC'⟩, hz, hQ⟩ := hend
      obtain ⟨nD, eD'⟩ := hz _ List.mem_cons_self
      obtain ⟨nC, eC'⟩ := hz (C, oC') (List.mem_cons_of_mem _ List.mem_cons_self)
      rw [List.length_map] at hn
      have I' : Inv X pins σ (upd H' D (.lst ((is.map gf).map V.int))) { s'.setGen g .finished with heap := h' } := I1.drained (s' := { s'.setGen g .finished with heap := h' }) hsD (by rw [List.length_map, List.length_map]; omega) (hkp _ _ eD') hacc ExOk.nil os' (allBare_setGen ba' rfl) (un'.trans (Un.kept hkp)) (hok'.kept hkp) nD
      obtain ⟨mC, hmC⟩ := noC'.2
      refine ⟨mC, hmC _ (hkp _ _ eC'), fun h'' sb => ?_⟩
      obtain ⟨f0, f1, f2, f3, f4, f5⟩ := I1.fpOk (H' := upd H' D (.lst ((is.map gf).map V.int))) (b := C) (Nat.le_trans hsD (Nat.le_of_lt hDC)) (by rw [upd_ne (Nat.ne_of_gt hDC)]; exact nC)
      exact ⟨.ref D, _, I'.turned (t' := s'.toks) (fun b o hb e => (sb.2 b hb).trans e) f0 f1 f3 f4 f5, rfl, hQ D is nD rfl⟩
    · refine wake X.A.in1 (ZL D C gf) [(D, lstObj #[] 0), (C, oC)] (s4.setGen g .running) hr.in1 ?_ (fun ys zp hz p hp => ?_) kp24 (g4.2.trans hos) (allBare_setGen (by rw [g4.1]; exact hba) rfl) ⟨[], #[], 0, oC, rfl, rfl, .nil, noC⟩ (fun p hp => ?_)
      · exact I1.ok.frames
      · obtain ⟨_, _, _, _, _, rfl, _, _⟩ := hz
        rcases List.mem_cons.mp hp with z | z
        · rw [z]; exact Nat.le_of_eq hD
        · rw [List.mem_singleton.mp z]; show s2.heap.objs.size ≤ C; omega
      · rcases List.mem_cons.mp hp with z | z
        · rw [z]; exact ⟨eD4, fun v q => by cases q⟩
        · rw [List.mem_singleton.mp z]; exact ⟨eC4, noC.1⟩
  exact codeAny_compStart_list loop (wpAny_pyIter_gen isg4 loop)
end
end Fw

namespace Fw
open PySem PySem.Spec PyProof.Rows L2 GenW
def spZR (R : RelG) : SpZ := fun vs H Q => ∃ as μ out, Paired (SR (hide H μ)) vs as ∧ MuOk H μ ∧ R as μ out ∧ ∀ H', MuOk H' μ → Ext H μ H' μ → Q (out.map V.int) H'
/-- the generator def of the name hands out what R says, whoever takes -/
structure GCal2 (P : Program) (w : World) (K : PySem.W.Frag) (mg : Str → Option Value) (base : Heap) (n : Str) (k : Nat) (R : RelG) : Prop where
  l : GCal P w K mg base n k (spGR R)
  z : ∃ (f : Addr) (fd : FuncData) (ps : List Str), GFnZ P w K mg base k f fd ps (spZR R) ∧ mg n = some (.ref f) ∧ PySem.W.keepIn K (.ref f) = true ∧ Binds K fd ps []
section
variable {P : Program} {w : World} {K : PySem.W.Frag} {mg : Str → Option Value} {base : Heap}
theorem gcal2_ok {x qual : Str} {st : Stmt} {f : Addr} {fd : FuncData} {N ps : List Str} {k : Nat} {R : RelG} (F : Fun K x qual st f fd) (S : GScope N ps (defScope st)) (hm : mg x = some (.ref f)) (hb : Binds K fd ps [])
    (len : ∀ as μ out, R as μ out → as.length = ps.length)
    (body : ∀ (cdv : Value) (A : Around) (outer : List Env) (s : Shared) (H : Hp) (E : XK) (pn : List (Addr × Obj)) (as : List Sl) (μ : Mu) (out : List Int) (Q : List V → L2.St → Hp → Prop) (G : List (Addr × Obj) → List V → L2.St → Hp → Shared → Prop) (Y : Protocol), Feed (cxG P w K mg base N qual st f cdv A outer s H E pn) G Y → Room k (A.deeper (envOfC qual (defScope st) s.heap.objs.size f cdv)) → R as μ out →
      (∀ σ H', MuOk H' μ → Ext H μ H' μ → Q (out.map V.int) σ H') → FGo (cxG P w K mg base N qual st f cdv A outer s H E pn) G Y (H, μ) (defBody st) Q [] (startE N as) μ) :
    GCal2 P w K mg base x (k + 1) R := by
  refine ⟨gcal_ok F S hm hb len body, ?_⟩
  obtain ⟨⟨oc, od, kV, doc, pm, an, cdv, ct, osl, rfl, lk, hcd⟩, kp⟩ := F
  refine ⟨f, _, ps, gfnZ_of lk hcd S (fun vs H Q h => ?_) (fun A outer s H vs Q pn G Y Fd hr h => ?_), hm, kp, hb⟩
  · obtain ⟨as, μ, out, pr, _, hR, _⟩ := h
    rw [paired_len pr]
    exact len _ _ _ hR
  · obtain ⟨as, μ, out, pr, m, hR, hQ⟩ := h
    exact body cdv A outer s H _ pn as μ out _ G Y Fd hr hR (fun σ H' m' e' => hQ H' m' e') _ H (w_start m pr) (Ext.refl _ _)
end
theorem vint_inj : ∀ {a b : List Int}, a.map V.int = b.map V.int → a = b
  | [], [], _ => rfl
  | [], _ :: _, h => by cases h
  | _ :: _, [], h => by cases h
  | x :: a, y :: b, h => by
    rw [List.map_cons, List.map_cons] at h
    injection h with h1 h2
    injection h1 with h1
    rw [h1, vint_inj h2]
section
variable {X : Cx} {e elt : Expr} {es : List Expr} {ρ : En} {μ μ1 : Mu} {xs : List Sl} {pos cpos p px : Pos} {n x : Str} {scope : Scope} {own : List (Str × Nat)} {gf : Int → Int}
theorem v_lcZ {k j : Nat} {R : RelG} {out : List Int} (F : GCal2 X.prog X.w X.K X.mg X.base n k R) (hr : Room j X.A) (hk : k + 1 ≤ j) (ha : PAv X (e :: es) ρ μ xs μ1) (hR : R xs μ1 out) (ok : BlkOk X.N X.env.scope scope own) (helt : EltI X.prog X.w elt x gf) (hx : scope.names.lookup x = some .local := by rfl) (hg : Gl X n := by rfl) (hdb : (n == ("__debug__" : Str)) = false := by decide)
    (he : starEach (e :: es) X.env = (false, eval e X.env) :: starEach es X.env := by rfl) (hpl : (backTo cpos (starEach es X.env)).any (·.1) = false := by rfl)
    (hs : ∀ y, foldedSetIterable (.Call (.Name n p) (e :: es) [] cpos) X.env y = pure y := by intro _; rfl) :
    PEv X (.ListComp elt [⟨.Name x px, .Call (.Name n p) (e :: es) [] cpos, [], 0⟩] scope pos) ρ μ (.d (.list ((out.map gf).map .int))) μ1 := by
  obtain ⟨f, fd, ps, F, hm, hkp, hb⟩ := F.z
  refine pe_weak (pe_lcZ F (hr.mono hk) hg hm hkp hb ha ok hx helt hdb he hpl hs) fun σ H Q ⟨w, kk⟩ => ⟨w, fun vs H1 w1 e1 r1 => ?_⟩
  refine ⟨xs, μ1, out, r1, w1.mu, hR, fun H' m' e' D is nD ei => ?_⟩
  obtain rfl := vint_inj ei
  have w' := w1.ext m' e'
  exact kk _ _ (w'.same (same_upd nD)) ((e1.trans e').trans (Ext.same (same_upd nD))) (new_lst m' nD (ints_sr _))
end
end Fw

namespace Fw
open PySem PySem.Spec PyProof.Rows L2 GenW
/-! ### a generator that raises before it hands out anything; the exception's context is None -/
/-- an exception leaves a frame; what is pinned stays -/
theorem leaveN {X : Cx} {W : WX} {E : XK} {s' : Shared} {u : Value} {E₁ : Value → Shared → Prop} (hs : X.stack = X.env :: X.outer) (hf : X.env.frame = some X.env.locals) (hex : X.ex = []) (hW : ∀ cls d σ H, W cls d σ H → E cls d H) (x : L2N.XE X W u s') :
    wpAny (model X.prog X.w) X.A (leaving X.env u) (fun _ s'' => L2N.CX X.prog X.w X.outer X.H_0 X.s_0 E u s'' ∧ ∀ p ∈ X.pn, s''.heap.get? p.1 = some p.2) E₁ s' := by
  obtain ⟨a, B, sI, pins, σ, H, cls, d, rfl, I, nb, up, sky, na, os, ag, hw⟩ := x
  have frames : X.A.frames = some (X.env :: X.outer) := by rw [I.ok.frames, hs]
  have none_ex : ∀ b, b ∉ X.ex := fun b hb => by rw [hex] at hb; cases hb
  have outside : ∀ b o, X.s_0.heap.get? b = some o → b ∉ X.fs → b ∉ frs X.stack := fun b o e hb hm => (List.mem_cons.mp (I.stkSub b hm)).elim (fun z => by
    have q := Nat.lt_of_lt_of_le (Heap.lt_size e) I.ok.above
    rw [z] at q
    exact Nat.lt_irrefl _ q) hb
  have pinned : ∀ p ∈ X.pn, B.get? p.1 = some p.2 := fun p hp => by
    obtain ⟨q1, _, q3, q4, _⟩ := I.pin p (List.mem_append_left _ hp)
    exact nb _ _ q1 fun hm => (List.mem_cons.mp (I.stkSub _ hm)).elim q3 q4
  have ground := I.inGround nb
  have done : ∀ h', HandSPX.FlyingZ B X.outer a (L2N.Zn cls d) h' → s'.heap.UpToSlots h' → L2N.CX X.prog X.w X.outer X.H_0 X.s_0 E (.ref a) { s' with heap := h' } ∧ ∀ p ∈ X.pn, ({ s' with heap := h' } : Shared).heap.get? p.1 = some p.2 := fun h' fl up' => by
    refine ⟨⟨a, B, H, cls, d, rfl, fl, ground, ⟨fun b o e n hb => nb b o (I.base.keep b o e n hb (none_ex b)) (outside b o e hb), fun b o e hb => ?_, fun b o e n => I.base.free b o e n (none_ex b), fun b o e hb => ?_, I.base.tups, I.base.frzs, I.base.tbls⟩, na, os.trans I.os, ag, hW _ _ _ _ hw⟩, fun p hp => fl.1 _ _ (pinned p hp)⟩
    · obtain ⟨_, o0, e0, nf⟩ := I.ok.funs.mem hb
      rw [e] at e0; cases e0
      obtain ⟨sl1, e1⟩ := I.base.slot b o e (I.ok.frf b hb) hb (none_ex b)
      obtain ⟨sl2, e2⟩ := up b _ e1 nf
      obtain ⟨sl3, e3⟩ := up' b _ e2 nf
      exact ⟨sl3, e3⟩
    · obtain ⟨o', e1⟩ := I.base.there b o e (none_ex b)
      exact ⟨o', nb b o' e1 (outside b o e hb)⟩
  rw [hs] at sky
  rcases sky with ⟨hB, hn, hl, oe, vs, he, hz, hd, h1⟩ | fl | held
  · exact PXN.leaving_firstZ L2N.Zn.steady frames hl hf he hB hn hd h1 hz done
  · exact PXN.leaves_onZ L2N.Zn.steady frames hf fl done
  · exact HandSPX.leaves_heldZ hf held done
/-- the context of a generator def's body that raises -/
def cxGN (P : Program) (w : World) (K : PySem.W.Frag) (mg : Str → Option Value) (base : Heap) (N : List Str) (qual : Str) (scope : Scope) (f : Addr) (cd : Value) (A : Around) (outer : List Env) (s : Shared) (H : Hp) (E : XK) (pn : List (Addr × Obj)) : Cx :=
  { gcxOf P w K mg base N qual scope f cd A outer s H E pn with
    xe := fun e s' => wpAny (model P w) (A.deeper (envOfC qual scope s.heap.objs.size f cd)) (leaving (envOfC qual scope s.heap.objs.size f cd) e) (fun _ s'' => L2N.CX P w outer H s E e s'' ∧ ∀ p ∈ pn, s''.heap.get? p.1 = some p.2) (fun _ _ => False) s' }
section
variable {P : Program} {w : World} {K : PySem.W.Frag} {mg : Str → Option Value} {base : Heap} {N : List Str} {qual : Str} {scope : Scope} {f : Addr} {cd : Value} {A : Around} {outer : List Env} {s : Shared} {H : Hp} {E : XK} {pn : List (Addr × Obj)}
theorem takesGN : L2N.Takes (cxGN P w K mg base N qual scope f cd A outer s H E pn) (fun cls d _ H' => E cls d H') := fun u s' x => leaveN (X := cxGN P w K mg base N qual scope f cd A outer s H E pn) (W := fun cls d _ H' => E cls d H') (E := E) rfl rfl rfl (fun _ _ _ _ h => h) x
theorem inv_GN {pins : List (Addr × Obj)} {σ : L2.St} {H' : Hp} {s' : Shared} (I : Inv (gcxOf P w K mg base N qual scope f cd A outer s H E pn) pins σ H' s') : Inv (cxGN P w K mg base N qual scope f cd A outer s H E pn) pins σ H' s' :=
  ⟨⟨I.ok.mod, I.ok.kind, I.ok.glob, I.ok.blt, I.ok.above, I.ok.inj, I.ok.has, I.ok.cab, I.ok.hd, I.ok.frames, I.ok.stk, I.ok.exf, I.ok.bs, I.ok.bsz, I.ok.noex, I.ok.exfs, I.ok.funs, I.ok.frf⟩, I.os, I.bare, I.base, I.loc, I.cell, I.free, I.freeC, I.pin, I.hok, I.len⟩
end
/-- a generator that raises when it is asked first -/
abbrev RXN (P : Program) (w : World) (outer : List Env) (H : Hp) (s : Shared) (a : Addr) (g : Nat) (E : XK) : GenEnd := fun _ _ r s1 => ((r = .ok (.ret .none) ∨ r = .ok .next) ∧ False) ∨ ∃ e, r = .error e ∧ L2N.CX P w outer H s E e s1 ∧ s1.heap.IsGen a g
def MadeX (P : Program) (w : World) (k : Nat) (outer : List Env) (H : Hp) (s : Shared) (E : XK) (u : Value) (s' : Shared) : Prop :=
  ∃ (a : Addr) (g : Nat) (c : Code), u = .ref a ∧ s.heap.objs.size ≤ a ∧ a < s'.heap.objs.size ∧ s'.heap.IsGen a g ∧ s'.gens[g]? = some (.fresh c) ∧ s'.os = s.os ∧ AllBare s'.gens ∧ s'.heap.NoLimit ∧ (∀ b o, s.heap.get? b = some o → s'.heap.get? b = some o) ∧
    ∀ (A : Around) (s2 : Shared), Room k A → A.frames = some outer → (∀ b o, s'.heap.get? b = some o → s2.heap.get? b = some o) → s2.os = s.os → AllBare s2.gens → Seg (model P w) A (RXN P w outer H s a g E) (fun _ _ _ _ _ => False) sizeLine s2 c ((model P w).den c) [] s2
abbrev SpGX := List V → Hp → XK → Prop
structure GFnX (P : Program) (w : World) (K : PySem.W.Frag) (mg : Str → Option Value) (base : Heap) (k : Nat) (f : Addr) (fd : FuncData) (ps : List Str) (sp : SpGX) : Prop where
  len : ∀ vs H E, sp vs H E → vs.length = ps.length
  run : ∀ (A : Around) (outer : List Env) (s : Shared) (H : Hp) (args : Args) (us : List Value) (vs : List V) (E : XK), Room k A → Env0 P w K mg base A outer s H → BindsTo s fd args (ps.zip us) → Vals vs us → sp vs H E →
    codeAny (model P w) A (.call (.ref f) args) (fun r s' => match r with | .ok (.ret u) => MadeX P w k outer H s E u s' | _ => False) s
theorem gfnX_of {P : Program} {w : World} {K : PySem.W.Frag} {mg : Str → Option Value} {base : Heap} {k : Nat} {f : Addr} {name qual : Str} {params : Arguments} {body : List Stmt} {scope : Scope} {dV kV doc pm cdv ct oc : Value} {an od : Option Addr}
    {osl : Array (Option Value)} {N ps : List Str} {sp : SpGX} (lk : K.lookup f = some ⟨oc, od, .func (PySem.W.fnOf name qual params body scope dV kV doc pm an cdv ct), osl⟩) (hcd : PySem.W.codeIn K cdv qual = true) (S : GScope N ps scope)
    (len : ∀ vs H E, sp vs H E → vs.length = ps.length)
    (hbody : ∀ (A : Around) (outer : List Env) (s : Shared) (H : Hp) (vs : List V) (E : XK) (pn : List (Addr × Obj)), Room k (A.deeper (envOfC qual scope s.heap.objs.size f cdv)) → sp vs H E → wpR (cxGN P w K mg base N qual scope f cdv A outer s H E pn) body { nx := fun _ _ => False, rt := fun _ _ => False } (start N vs) H) :
    GFnX P w K mg base (k + 1) f (PySem.W.fnOf name qual params body scope dV kV doc pm an cdv ct) ps sp := by
  refine ⟨len, fun A outer s H args us vs E hr e0 hb r hsp => ?_⟩
  have hl := len _ _ _ hsp
  have KX : K.In s.heap := e0.mod.kin.keeps fun b o e => (e0.bs b o e).1
  have lim : s.heap.NoLimit := e0.mod.nolimit.keeps fun b o e => (e0.bs b o e).1
  refine codeAny_call_generator hr.depth (KX _ _ lk) rfl S.co S.gen rfl (PySem.W.codeRec_of KX hcd) (hb _ _ _ _ (wpAny_newFunctionEnv_cells S.kind (fun y hy => (S.par y.1 (List.of_mem_zip hy).1).imp id fun q => ⟨q, PySem.W.cellsFrom_some _ _ _ (.inl q)⟩) fun env he s1 x => ?_))
  subst he
  have kp1 : ∀ b o, s.heap.get? b = some o → s1.heap.get? b = some o := x.toInCall.keep
  have lim1 : s1.heap.NoLimit := lim.keeps kp1
  refine ⟨lim1, ?_⟩
  obtain ⟨os1, gen1⟩ : s1.os = s.os ∧ s1.gens = s.gens := by
    obtain ⟨_, _, e, _⟩ := x.done
    rw [e]
    exact ⟨rfl, rfl⟩
  have lt1 : s.heap.objs.size < s1.heap.objs.size := x.toInCall.ns.lt
  have fin : ∀ (go : Obj) (nm qn : Value) (tk2 : Nat), go.cls = .type "generator" → go.data = .fields #[.int s1.gens.size 0, nm, qn] → go.slots = #[] → (∀ h : Heap, (h.push go).get? h.objs.size = some go) →
      MadeX P w (k + 1) outer H s E (.ref s1.heap.objs.size) { s1 with gens := s1.gens.push (.fresh (.func body (envOfC qual scope s.heap.objs.size f cdv))), toks := tk2, heap := s1.heap.push go } := by
    intro go nm qn tk2 hgc hgd hgs hgp
    refine ⟨s1.heap.objs.size, s1.gens.size, _, rfl, Nat.le_of_lt lt1, by show _ < (s1.heap.push go).objs.size; rw [Heap.size_push]; exact Nat.lt_succ_self _, ⟨go, nm, qn, hgp _, hgc, hgd, hgs⟩, Array.getElem?_push_size .., os1, AllBare.push (by rw [gen1]; exact e0.bare) rfl,
      lim1.keeps fun b o e => Heap.get?_push_of_some _ e, fun b o e => Heap.get?_push_of_some _ (kp1 b o e), fun Aw s2 hrw hfr hk hos hba => ?_⟩
    have I1 : Inv (gcxOf P w K mg base N qual scope f cdv Aw outer s H E []) [] (start N vs) H s1 := inv_startG S hrw.hd ⟨hfr, e0.mod, e0.bs, e0.bsz, e0.funs, e0.frf, e0.hok, e0.bare⟩ hl r x
    have kp2 : ∀ b o, s1.heap.get? b = some o → s2.heap.get? b = some o := fun b o e => hk b o (Heap.get?_push_of_some _ e)
    have I2 := I1.call' (ch := []) (hos.trans os1.symm) (Un.kept kp2) (I1.hok.kept kp2) hba fun b z => by simp at z
    have I3 : Inv (cxGN P w K mg base N qual scope f cdv Aw outer s H E [(s1.heap.objs.size, go)]) [] (start N vs) H s2 := inv_GN (Inv.pinnedG I2 fun p hp => by
      rw [List.append_nil] at hp
      rw [List.mem_singleton.mp hp]
      exact ⟨hk _ go (hgp _), I1.hok.fresh (Nat.le_refl _), Nat.ne_of_gt lt1, I1.nofs (Nat.le_refl _), fun v q => by rw [hgd] at q; cases q⟩)
    refine seg_func (seg_wrap ?_)
    rw [over_func]
    refine wpAny_mono (hbody Aw outer s H vs E [(s1.heap.objs.size, go)] (hrw.deeper _) hsp [] s2 I3) (fun fl s' hs => ?_) fun e s' hx => ?_
    · cases fl with
      | next => obtain ⟨_, _, _, q⟩ := hs; exact q.elim
      | brk => obtain ⟨_, _, _, q⟩ := hs; exact q.elim
      | cont => obtain ⟨_, _, _, q⟩ := hs; exact q.elim
      | ret u => obtain ⟨_, _, _, _, _, q⟩ := hs; exact q.elim
    · refine seg_wrap ?_
      rw [over_func]
      refine wpAny_mono (show wpAny (model P w) (Aw.deeper (envOfC qual scope s.heap.objs.size f cdv)) (leaving (envOfC qual scope s.heap.objs.size f cdv) e) (fun _ s'' => L2N.CX P w outer H s E e s'' ∧ ∀ p ∈ [(s1.heap.objs.size, go)], s''.heap.get? p.1 = some p.2) (fun _ _ => False) s' from hx) (fun _ s'' q => ?_) fun _ s'' q => q.elim
      exact seg_end (.error e) (.inr ⟨e, rfl, q.1, go, nm, qn, q.2 _ (List.mem_singleton.mpr rfl), hgc, hgd, hgs⟩)
  exact fin _ _ _ _ rfl rfl rfl fun h => Heap.get?_push_size _ rfl
theorem notStopN {P : Program} {w : World} {K : PySem.W.Frag} {outer : List Env} {H : Hp} {s s' : Shared} {E : XK} {e : Value} (hE : ∀ cls d H, E cls d H → PySem.W.subIn K cls (.type "StopIteration") = some false) (kin : K.In s'.heap) (c : L2N.CX P w outer H s E e s') : NotStop (model P w) e s'.heap := by
  obtain ⟨a, B, H', cls, d, rfl, fl, _, _, _, _, _, hW⟩ := c
  obtain ⟨oe, vs, he, hz, _⟩ := fl.there
  intro A Q E' s2 hs hq
  have L := PySem.W.looks_subIn (M := model P w) kin (hE _ _ _ hW)
  unfold isInstance
  refine wpAny_bind (wpAny_typeOf_ref (o := oe) (by rw [hs]; exact he) ?_)
  rw [hz.1]
  exact L A Q E' s2 (fun b o z => by rw [hs]; exact z) hq
/-- list(g) of such a generator raises -/
theorem list_raises {P : Program} {w : World} {outer : List Env} {H : Hp} {sc s : Shared} {EX : XK} {A : Around} {k : Nat} {u : Value} {Q' : Value → Shared → Prop} {E : Value → Shared → Prop} (hr : Room (k + 3) A) (hfr : A.frames = some outer) (made : MadeX P w k outer H sc EX u s)
    (hexc : ∀ e s' g, L2N.CX P w outer H sc EX e s' → NotStop (model P w) e s'.heap ∧ E e (s'.setGen g .finished)) : wpAny (model P w) A (call (.type "list") [u]) Q' E s := by
  obtain ⟨a, g, c, rfl, ha1, ha2, isg, hgs, hos, hba, hlim, _, wake⟩ := made
  generalize hL : s.heap.objs.size = L
  have aL : L ≠ a := by rw [← hL]; exact Nat.ne_of_gt ha2
  -- the loop, wherever the heap has grown
  have loop : ∀ h', (∀ b o, s.heap.get? b = some o → h'.get? b = some o) → codeAny (model P w) A.in1 (.builtin "list.extend.loop" ⟨[.ref L, .ref a, .none], []⟩) (fun r s' => match r with | .ok _ => False | .error e => E e s') { s with heap := h' } := fun h' kp => by
    refine codeAny_builtin F.entry_extend_loop ?_
    rw [Around.under_plainId F.plain_extend_loop _]
    show wpAny _ A.in1.in1 (pyNext (.ref a) >>= _) _ _ _
    refine wpAny_bind (next_genG (A := A.in1.in1) (s := { s with heap := h' }) (F := fun _ _ _ => False) (Y := fun _ _ _ _ _ => False) (Er := fun e s1 => L2N.CX P w outer H sc EX e s1 ∧ s1.heap.IsGen a g) (n := sizeLine) hr.hd (hlim.keeps kp) (by have := hr.dp; show A.depth < _; omega) (isg.keeps kp) (gs := .fresh c) hgs ⟨rfl, ?_⟩ (fun v s1 gs' hb hv => False.elim hv) (fun s1 z => False.elim z) fun e s1 he => ?_)
    · refine wake A.in1.in1.in1 _ ⟨hr.hd, ?_, ?_⟩ hfr kp hos (allBare_setGen (s := { s with heap := h' }) hba rfl)
      · have := hr.dp
        show A.depth + 3 * k + 5 < _
        omega
      · have := hr.un
        show A.units + 1 + 1 + 1 + 16 * k + 200 < _
        omega
    · obtain ⟨q1, q2⟩ := hexc e s1 g he.1
      exact ⟨he.2, q1, q2⟩
  refine callType_codes (Q₁ := fun obj s₁ => obj = .ref L ∧ s₁ = { s with heap := s.heap.push { cls := .type "list", data := .seq #[] } }) F.called_list (F.typeCall_list_1 _) F.entry_list_init (code_list_new _ ⟨by rw [hL], rfl⟩) fun obj s₁ h₁ => ?_
  obtain ⟨rfl, rfl⟩ := h₁
  have g0 : (s.heap.push { cls := .type "list", data := .seq #[] }).get? L = some { cls := .type "list", data := .seq #[] } := by rw [← hL]; exact Heap.get?_push_size _ rfl
  have kp0 : ∀ b o, s.heap.get? b = some o → (s.heap.push { cls := .type "list", data := .seq #[] }).get? b = some o := fun b o e => Heap.get?_push_of_some _ e
  have old : ∀ {h : Heap} (fo : Obj → Obj), (∀ b o, s.heap.get? b = some o → h.get? b = some o) → ∀ b o, s.heap.get? b = some o → (h.update L fo).get? b = some o := fun fo q b o e => by
    refine (Heap.get?_update_other _ _ (fun z => ?_)).trans (q b o e)
    have := Heap.lt_size e
    rw [← z, ← hL] at this
    exact Nat.lt_irrefl _ this
  refine ⟨⟨_, g0, rfl⟩, F.args_list_init_2 _ _, ?_⟩
  show wpAny _ A.in1.in1 (Builtin.List.listItems (.ref L) >>= fun old => Builtin.List.listUpdate (.ref L) (fun _ => #[]) >>= fun _ => letGo old.toList.reverse >>= fun _ => Builtin.List.listExtendWith (.ref L) (.ref a) .none) _ _ _
  refine wpAny_bind (show wpAny _ _ (Builtin.List.listItems (.ref L)) _ _ _ from ?_)
  unfold Builtin.List.listItems
  refine wpAny_bind (wpAny_seqItems g0 rfl (wpAny_pure ?_))
  show wpAny _ A.in1.in1 (updateSeq L (fun _ => #[]) >>= fun _ => letGo (#[] : Array Value).toList.reverse >>= fun _ => Builtin.List.listExtendWith (.ref L) (.ref a) .none) _ _ _
  refine wpAny_bind (wpAny_updateSeq g0 rfl (wpAny_bind (wpAny_letGo ?_)))
  have g1 := Heap.get?_update_self (Obj.mapSeq (fun _ => (#[] : Array Value))) g0 rfl
  have kp1 := old (Obj.mapSeq (fun _ => (#[] : Array Value))) kp0
  have isg1 := isg.keeps kp1
  unfold Builtin.List.listExtendWith
  refine wpAny_bind (wpAny_typeOf (Heap.IsGen.typeIs (s := { s with heap := _ }) isg1) ?_)
  have q1 : Builtin.List.listSameRef (.ref L) (.ref a) = false := by simp [Builtin.List.listSameRef, aL]
  simp only [q1, show (Value.type "generator" == Value.type "list") = false by decide, show (Value.type "generator" == Value.type "tuple") = false by decide, Bool.or_false, Bool.false_eq_true, if_false]
  refine wpAny_bind (wpAny_pyIter_gen (s := { s with heap := _ }) isg1 (wpAny_bind (wpAny_holding ?_)))
  unfold Builtin.List.listLengthHint
  refine wpAny_bind (wpAny_specialOf (Heap.IsGen.typeIs (s := { s with heap := _ }) isg1) F.gen_no_len ?_)
  show wpAny _ A.in1.in1 (specialOf (Value.ref a) (Str.ofString "__length_hint__") >>= _) _ _ _
  refine wpAny_bind (wpAny_specialOf (Heap.IsGen.typeIs (s := { s with heap := _ }) isg1) F.gen_no_hint (wpAny_pure ?_))
  show wpAny _ A.in1.in1 (rule "list.extend.makes-room" >>= fun _ => Builtin.List.listTouch (.ref L) >>= fun _ => again (.builtin "list.extend.loop" ⟨[.ref L, .ref a, .none], []⟩)) _ _ _
  refine wpAny_bind (wpAny_rule (wpAny_bind ?_))
  show wpAny _ A.in1.in1 (updateSeq L (·.push .none) >>= fun _ => updateSeq L (·.pop)) _ _ _
  refine wpAny_bind (wpAny_updateSeq g1 rfl ?_)
  have g2 := Heap.get?_update_self (Obj.mapSeq (·.push Value.none)) g1 rfl
  refine wpAny_updateSeq (hz := by seq_fits) g2 rfl (wpAny_pure ⟨plainId_quiet F.plain_extend_loop _, ?_⟩)
  have kp2 := old (Obj.mapSeq (·.pop)) (old (Obj.mapSeq (·.push Value.none)) kp1)
  refine codeAny_mono (loop _ kp2) fun r s' hq => ?_
  cases r with
  | ok fl => exact hq.elim
  | error e => exact hq
/-! the def's promise, the call -/
def spGX (R : RelX) : SpGX := fun vs H E => ∃ as μ C, Paired (SR (hide H μ)) vs as ∧ MuOk H μ ∧ R as μ C ∧ ∀ H', MuOk H' μ → Ext H μ H' μ → E (.ref C) none H'
structure GCalX (P : Program) (w : World) (K : PySem.W.Frag) (mg : Str → Option Value) (base : Heap) (n : Str) (k : Nat) (R : RelX) : Prop where
  ex : ∃ (f : Addr) (fd : FuncData) (ps : List Str), GFnX P w K mg base k f fd ps (spGX R) ∧ mg n = some (.ref f) ∧ PySem.W.keepIn K (.ref f) = true ∧ Binds K fd ps []
section
variable {P : Program} {w : World} {K : PySem.W.Frag} {mg : Str → Option Value} {base : Heap}
theorem gcalX_ok {x qual : Str} {st : Stmt} {f : Addr} {fd : FuncData} {N ps : List Str} {k : Nat} {R : RelX} (F : Fun K x qual st f fd) (S : GScope N ps (defScope st)) (hm : mg x = some (.ref f)) (hb : Binds K fd ps [])
    (len : ∀ as μ C, R as μ C → as.length = ps.length)
    (body : ∀ (cdv : Value) (A : Around) (outer : List Env) (s : Shared) (H : Hp) (E : XK) (pn : List (Addr × Obj)) (as : List Sl) (μ : Mu) (C : Addr) (D : Ends), Room k (A.deeper (envOfC qual (defScope st) s.heap.objs.size f cdv)) → R as μ C →
      (∀ H', MuOk H' μ → Ext H μ H' μ → E (.ref C) none H') → Go (cxGN P w K mg base N qual (defScope st) f cdv A outer s H E pn) (H, μ) (defBody st) D (startE N as) μ) :
    GCalX P w K mg base x (k + 1) R := by
  obtain ⟨⟨oc, od, kV, doc, pm, an, cdv, ct, osl, rfl, lk, hcd⟩, kp⟩ := F
  refine ⟨f, _, ps, gfnX_of lk hcd S (fun vs H E h => ?_) (fun A outer s H vs E pn hr h => ?_), hm, kp, hb⟩
  · obtain ⟨as, μ, C, pr, _, hR, _⟩ := h
    rw [paired_len pr]
    exact len _ _ _ hR
  · obtain ⟨as, μ, C, pr, m, hR, hE⟩ := h
    exact body cdv A outer s H E pn as μ C _ hr hR hE _ H (w_start m pr) (Ext.refl _ _)
end
section
variable {X : Cx} {e : Expr} {es : List Expr} {ρ : En} {μ μ1 : Mu} {xs : List Sl} {pos p p2 pos2 : Pos} {n : Str}
/-- list(n(..)), where n raises at once -/
theorem v_listGX {k j : Nat} {R : RelX} {C : Addr} {E : XK} (F : GCalX X.prog X.w X.K X.mg X.base n k R) (tk : L2N.Takes X (fun cls d _ H => E cls d H)) (hns : PySem.W.subIn X.K (.ref C) (.type "StopIteration") = some false) (hr : Room j X.A) (hk : k + 3 ≤ j) (ha : PAv X (e :: es) ρ μ xs μ1) (hR : R xs μ1 C) (hmg : X.mg "list" = none) (hgl : Gl X "list" := by rfl) (hg : Gl X n := by rfl) (hdb : (n == ("__debug__" : Str)) = false := by decide)
    (he : starEach (e :: es) X.env = (false, eval e X.env) :: starEach es X.env := by rfl) (hpl : (backTo pos (starEach es X.env)).any (·.1) = false := by rfl)
    (he2 : starEach [.Call (.Name n p) (e :: es) [] pos] X.env = (false, eval (.Call (.Name n p) (e :: es) [] pos) X.env) :: starEach [] X.env := by rfl) : PEz X (.Call (.Name "list" p2) [.Call (.Name n p) (e :: es) [] pos] [] pos2) ρ μ (fun cls d _ H => E cls d H) (.ref C) μ1 := by
  obtain ⟨f, fd, ps, F, hm, hkp, hb⟩ := F.ex
  refine ⟨fun pins s σ H Q I ⟨w, kk⟩ => ?_⟩
  have hbl : bootBuiltins ("list" : Str) = some (.type "list") := by decide +kernel
  refine wpAny_Call_Name_kw (ld_blt I hgl hmg hbl ?_ (by decide) (by decide))
  refine PyProof.Rows.callWith_type1 ?_ he2 rfl
  rw [he2]
  show wpAny _ _ (spliced ((false, eval (.Call (.Name n p) (e :: es) [] pos) X.env) :: backTo pos2 (starEach [] X.env))) _ _ s
  refine Calls.spliced_cons ?_
  refine wpAny_Call_Name_kw (ld_glob I hg hm ?_ hdb)
  refine PySem.W.callWith_K (h₀ := X.base) I.ok.mod.kin hkp (thn (ha.run pos pins s σ H (fun vs H1 => spGX R vs H1 (fun cls d H => cls = .ref C ∧ E cls d H)) I ⟨w, fun vs H1 w1 e1 r1 => ?_⟩) fun us s1 ⟨vs, H1, I1, r, q⟩ => ⟨I1.kIn, ?_⟩) he hpl
  · exact ⟨xs, μ1, C, r1, w1.mu, hR, fun H' m' e' => ⟨rfl, kk H' (w1.ext m' e') (e1.trans e')⟩⟩
  have hl : us.length = ps.length := by rw [← r.length]; exact F.len _ _ _ q
  have hbt := hb s1 us I1.kIn (by rw [List.append_nil]; exact hl)
  rw [List.append_nil] at hbt
  refine wpAny_call (codeAny_mono (F.run X.A X.stack s1 H1 ⟨us, []⟩ us vs _ (hr.mono (by omega)) I1.env0 hbt r q) fun rr s2 hq => ?_)
  rcases rr with z | fl
  · exact hq.elim
  cases fl with
  | next => exact hq.elim
  | brk => exact hq.elim
  | cont => exact hq.elim
  | ret u =>
  show wpAny _ _ (spliced _) _ _ s2
  refine Calls.spliced_nil ?_
  refine list_raises (hr.mono hk) I1.ok.frames hq fun e' s' g hc => ?_
  have kin : X.K.In s'.heap := by
    obtain ⟨a, B, H', cls, d, _, fl, _, ub, _⟩ := id hc
    refine I1.ok.mod.kin.keeps fun b o eb => fl.1 b o (ub.keep b o (I1.bs b o eb).1 (I1.bs b o eb).2 fun hm => ?_)
    rcases List.mem_cons.mp (I1.stkSub b hm) with z | z
    · have h2 := Nat.lt_of_lt_of_le (Heap.lt_size eb) (Nat.le_trans I1.ok.bsz I1.ok.above)
      rw [z] at h2
      exact absurd h2 (Nat.lt_irrefl _)
    · exact I1.ok.nofr eb z
  refine ⟨notStopN (fun cls d H h => by rw [h.1]; exact hns) kin hc, L2N.passes_call (E := fun cls d H => cls = .ref C ∧ E cls d H) tk (fun _ _ _ _ h => h.2) pins σ H1 s1 e' _ I1 ?_⟩
  obtain ⟨a, B, H', cls, d, z1, fl, z2, ub, z3, z4, z5, z6⟩ := hc
  exact ⟨a, B, H', cls, d, z1, fl, z2, ub, z3, z4, allBare_setGen z5 rfl, z6⟩
end
end Fw

namespace Hk
open PySem PySem.Spec PyProof.Rows L2 Fw
def topS (i : Nat) : Stmt := PySem.Challenge.pw_holdkeys_k02_distances_and_times_of_ways.main.body.getD i (.Pass ⟨0, 0, 0, 0⟩)
abbrev s_p_is_integer : Stmt := topS 12
abbrev s_p_is_steps : Stmt := topS 13
abbrev s_p_is_rule : Stmt := topS 14
abbrev s_p_is_hold : Stmt := topS 15
abbrev s_p_is_way : Stmt := topS 16
abbrev s_p_need_rule : Stmt := topS 17
abbrev s_p_need_way : Stmt := topS 18
abbrev s_p_moved : Stmt := topS 19
abbrev s_p_hold_distance : Stmt := topS 20
abbrev s_p_way_distance : Stmt := topS 21
abbrev s_p_way_time : Stmt := topS 22
abbrev s_p_distance_of : Stmt := topS 23
abbrev s_p_time_of : Stmt := topS 24
abbrev s_p_track : Stmt := topS 25
abbrev s_cell_at : Stmt := topS 27
abbrev s_draws : Stmt := topS 28
abbrev s_bag : Stmt := topS 29
abbrev s_bags : Stmt := topS 30
abbrev s_take : Stmt := topS 31
abbrev s_far_draw : Stmt := topS 32
abbrev s_rule : Stmt := topS 33
abbrev s_span : Stmt := topS 34
abbrev s_moves : Stmt := topS 35
abbrev s_goes : Stmt := topS 36
abbrev s_lasts : Stmt := topS 37
abbrev s_error : Stmt := topS 38
abbrev s_hold : Stmt := topS 39
abbrev s_law : Stmt := topS 40
section
variable {P : Program} {w : World} {K : PySem.W.Frag} {mg : Str → Option Value} {base : Heap}
/-! _law_cell_at -/
theorem sc_cell_at : FnScope ["script", "k"] ["script", "k"] (defScope s_cell_at) := ⟨rfl, rfl, rfl, by decide +kernel, rfl, by decide +kernel, by decide +kernel⟩
def cellOf (ns : List Int) (k : Int) : Int := ns.getD k.toNat 0
def rCell (K : PySem.W.Frag) : Rel := fun as μ post => ∃ ns k, as = [.f K ns, .d (.int k)] ∧ 0 ≤ k ∧ post (.d (.int (cellOf ns k))) μ
theorem atI_cell' {ns : List Int} {k : Int} (h0 : 0 ≤ k) (h : k < ns.length) : atI ns k = some (cellOf ns k) := by
  have e : k = ((k.toNat : Nat) : Int) := by omega
  have h1 : k.toNat < ns.length := by omega
  have h2 : ns[k.toNat]? = some (cellOf ns k) := by
    unfold cellOf
    rw [List.getD_eq_getElem?_getD, List.getElem?_eq_getElem h1]; rfl
  rw [e]
  have := atI_nat (xs := ns) (j := k.toNat) h2
  rw [← e] at this ⊢
  exact this
theorem ok_cell_at {f : Addr} {fd : FuncData} (F : Fun K "_law_cell_at" "_law_cell_at" s_cell_at f fd) (hm : mg "_law_cell_at" = some (.ref f)) (b : Binds K fd ["script", "k"] []) (m_len : mg "len" = none) : Cal P w K mg base "_law_cell_at" 1 [] (rCell K) := by
  refine cal_ok F sc_cell_at hm b .nil (fun _ => .nil) (fun as μ post h => ?_) (fun cdv A outer s H E as μ post D hr h hq hn => ?_)
  · obtain ⟨ns, k, rfl, _⟩ := h; rfl
  · obtain ⟨ns, k, rfl, h0, hp⟩ := h
    refine go_if (t_lt (vl 1 rfl rfl) (v_lenF rfl m_len (vl 0 rfl rfl))) (fun hk => ?_) (fun hk => ?_)
    · have hk := of_decide_eq_true hk
      exact go_ret (v_ixF rfl (vl 0 rfl rfl) (vl 1 rfl rfl) (atI_cell' h0 hk)) (hq _ _ hp)
    · have hk := of_decide_eq_false hk
      refine go_next (go_ret v_int (hq _ _ ?_))
      have e : cellOf ns k = 0 := by
        unfold cellOf
        rw [List.getD_eq_getElem?_getD, List.getElem?_eq_none (by omega)]; rfl
      rw [e] at hp
      exact hp
end
section
variable {P : Program} {w : World} {K : PySem.W.Frag} {mg : Str → Option Value} {base : Heap}
/-! _law_draws: the draws of a cell -/
theorem sc_draws : FnScope ["cell", "many", "size", "found", "rest", "stirred", "k"] ["cell", "many", "size"] (defScope s_draws) := ⟨rfl, rfl, rfl, by decide +kernel, rfl, by decide +kernel, by decide +kernel⟩
structure DrS where
  fd : List Int
  rs : Int
  st : Int
def drM : Int := 2305843009213693951
def drStep (s : DrS) (k : Int) : DrS :=
  let st := (s.st * s.st + 48271 * s.st + k + 1) % drM
  if 2 < k ∧ 0 < s.rs then ⟨s.fd ++ [s.rs % 1000], s.rs / 1000, st⟩ else if 2 < k then ⟨s.fd ++ [st / 4096 % 1000], s.rs, st⟩ else ⟨s.fd, s.rs, st⟩
def drRun (cell : Int) : Nat → DrS
  | 0 => ⟨[], cell * (if decide (1000000000000000000 ≤ cell) = true then 1 else 0), cell % drM⟩
  | i + 1 => drStep (drRun cell i) (i : Int)
theorem drRun_ok (cell : Int) : ∀ i : Nat, (drRun cell i).fd.length = i - 3 ∧ (∀ d ∈ (drRun cell i).fd, 0 ≤ d ∧ d < 1000) ∧ 0 ≤ (drRun cell i).st ∧ (drRun cell i).st < drM
  | 0 => ⟨rfl, fun d h => absurd h (by simp [drRun]), Int.emod_nonneg _ (by decide), Int.emod_lt_of_pos _ (by decide)⟩
  | i + 1 => by
    obtain ⟨h1, h2, h3, h4⟩ := drRun_ok cell i
    have hs0 : 0 ≤ ((drRun cell i).st * (drRun cell i).st + 48271 * (drRun cell i).st + (i : Int) + 1) % drM := Int.emod_nonneg _ (by decide)
    have hs1 : ((drRun cell i).st * (drRun cell i).st + 48271 * (drRun cell i).st + (i : Int) + 1) % drM < drM := Int.emod_lt_of_pos _ (by decide)
    show (drStep (drRun cell i) (i : Int)).fd.length = i + 1 - 3 ∧ (∀ d ∈ (drStep (drRun cell i) (i : Int)).fd, 0 ≤ d ∧ d < 1000) ∧ 0 ≤ (drStep (drRun cell i) (i : Int)).st ∧ (drStep (drRun cell i) (i : Int)).st < drM
    unfold drStep
    have r1 : ∀ z : Int, 0 ≤ z % 1000 ∧ z % 1000 < 1000 := fun z => ⟨Int.emod_nonneg _ (by decide), Int.emod_lt_of_pos _ (by decide)⟩
    by_cases c1 : 2 < (i : Int) ∧ 0 < (drRun cell i).rs
    · simp only [if_pos c1]
      refine ⟨by rw [List.length_append, h1, List.length_singleton]; omega, fun d hd => ?_, hs0, hs1⟩
      rcases List.mem_append.mp hd with q | q
      · exact h2 d q
      · rw [List.mem_singleton.mp q]; exact r1 _
    · by_cases c2 : 2 < (i : Int)
      · simp only [if_neg c1, if_pos c2]
        refine ⟨by rw [List.length_append, h1, List.length_singleton]; omega, fun d hd => ?_, hs0, hs1⟩
        rcases List.mem_append.mp hd with q | q
        · exact h2 d q
        · rw [List.mem_singleton.mp q]; exact r1 _
      · simp only [if_neg c1, if_neg c2]
        exact ⟨by rw [h1]; omega, h2, hs0, hs1⟩
def drawsOf (cell : Int) : List Int := (drRun cell 403).fd
structure GoodDs (ds : List Int) : Prop where
  len : ds.length = 400
  rng : ∀ d ∈ ds, 0 ≤ d ∧ d < 1000
theorem drawsOf_ok (cell : Int) : GoodDs (drawsOf cell) := ⟨(drRun_ok cell 403).1, (drRun_ok cell 403).2.1⟩
def rDraws : Rel := fun as μ post => ∃ cell, as = [.d (.int cell), .d (.int 400), .d (.int 1000)] ∧ post (.d (.list ((drawsOf cell).map .int))) μ
theorem ok_draws {f : Addr} {fd : FuncData} (F : Fun K "_law_draws" "_law_draws" s_draws f fd) (hm : mg "_law_draws" = some (.ref f)) (b : Binds K fd ["cell", "many", "size"] []) (m_int : mg "int" = none) (m_range : mg "range" = none) : Cal P w K mg base "_law_draws" 1 [] rDraws := by
  refine cal_ok F sc_draws hm b .nil (fun _ => .nil) (fun as μ post h => ?_) (fun cdv A outer s H E as μ post D hr h hq hn => ?_)
  · obtain ⟨cell, rfl, _⟩ := h; rfl
  · obtain ⟨cell, rfl, hp⟩ := h
    refine go_setw 3 (w_lst a_nil (by decide)) (fun x ν ⟨q, nq, ex, eν⟩ => ?_) sc_draws.nd
    subst ex eν
    have hI0 : (1000000000000000000 : Int) = 10 ^ (18 : Int).toNat := by decide
    refine go_set 4 (v_mul (vl 0 rfl rfl) (v_intB m_int (v_ge (vl 0 rfl rfl) (v_pow v_int v_int (by decide)))) (.inr (by split <;> decide))) ?_ sc_draws.nd
    refine go_set 5 (v_mod (vl 0 rfl rfl) v_int (by decide)) ?_ sc_draws.nd
    refine go_for (s_range1 m_range (v_add (vl 1 rfl rfl) v_int) (by decide) (by decide) (n := 403) (by decide)) (fun i ρ ν => ∃ y, ρ = [.d (.int cell), .d (.int 400), .d (.int 1000), .m q, .d (.int (drRun cell i).rs), .d (.int (drRun cell i).st), y] ∧ ν = (q, .lst (((drRun cell i).fd.map PyData.int).map .d)) :: μ)
      PassesOwn.never ⟨.no, rfl, rfl⟩ (fun _ _ _ _ _ => trivial) (fun B' hB i ρ ν hi hI => ?_) (fun ρ ν hI => ?_)
    · obtain ⟨y, rfl, rfl⟩ := hI
      obtain ⟨h1, h2, h3, h4⟩ := drRun_ok cell i
      have h4' : (drRun cell i).st < 2305843009213693951 := h4
      have hget : mget ((q, MO.lst (((drRun cell i).fd.map PyData.int).map Sl.d)) :: μ) q = some (.lst (((drRun cell i).fd.map PyData.int).map .d)) := by rw [mget_cons, if_pos rfl]
      refine ⟨_, g_name 6 sc_draws.nd, ?_⟩
      refine go_set 5 (v_mod (v_add (v_add (v_add (v_mul (vl 5 rfl rfl) (vl 5 rfl rfl) (.inl (by omega))) (v_mul v_int (vl 5 rfl rfl) (.inl (by decide)))) (vl 6 rfl rfl)) v_int) v_int (by decide)) ?_ sc_draws.nd
      have est : ∀ k : Int, k = i → ((drRun cell i).st * (drRun cell i).st + 48271 * (drRun cell i).st + k + 1) % 2305843009213693951 = (drRun cell (i + 1)).st := fun k ek => by
        subst ek
        show _ = (drStep (drRun cell i) (i : Int)).st
        unfold drStep
        by_cases c1 : 2 < (i : Int) ∧ 0 < (drRun cell i).rs
        · simp only [if_pos c1]; rfl
        · by_cases c2 : 2 < (i : Int)
          · simp only [if_neg c1, if_pos c2]; rfl
          · simp only [if_neg c1, if_neg c2]; rfl
      rw [est _ rfl]
      have hlen : (((drRun cell i).fd.map PyData.int).map Sl.d).length < sizeLine := by rw [List.length_map, List.length_map, h1]; exact small1000 (by omega)
      refine go_if (t_w (w_and (t_gt (vl 6 rfl rfl) v_int) (fun _ => w_and1 (t_gt (vl 4 rfl rfl) v_int)) (fun _ => rfl))) (fun hk => ?_) (fun hk => ?_)
      · obtain ⟨hk1, hk2⟩ := Bool.and_eq_true_iff.mp hk
        have hk1 := of_decide_eq_true hk1
        have hk2 := of_decide_eq_true hk2
        have hst : drRun cell (i + 1) = ⟨(drRun cell i).fd ++ [(drRun cell i).rs % 1000], (drRun cell i).rs / 1000, (drRun cell (i + 1)).st⟩ := by
          show drStep (drRun cell i) (i : Int) = _
          have e0 : (drRun cell (i + 1)).st = (drStep (drRun cell i) (i : Int)).st := rfl
          rw [e0]
          unfold drStep
          simp only [if_pos (show 2 < (i : Int) ∧ 0 < (drRun cell i).rs from ⟨hk1, hk2⟩)]
        refine go_expr (v_append (vl 3 rfl rfl) (v_mod (vl 4 rfl rfl) (vl 2 rfl rfl) (by decide)) ⟨_, hget⟩ hget hlen) ?_
        refine go_set 4 (v_fdiv (vl 4 rfl rfl) (vl 2 rfl rfl) (by decide)) ?_ sc_draws.nd
        refine go_next ?_
        refine go_nxf ⟨.d (.int i), ?_, ?_⟩
        · rw [show (drRun cell (i + 1)).rs = (drRun cell i).rs / 1000 by rw [hst]]; rfl
        · rw [show (drRun cell (i + 1)).fd = (drRun cell i).fd ++ [(drRun cell i).rs % 1000] by rw [hst], mset_cons, List.map_append, List.map_append]; rfl
      · refine go_if (t_gt (vl 6 rfl rfl) v_int) (fun hk2 => ?_) (fun hk2 => ?_)
        · have hk2 := of_decide_eq_true hk2
          have hrs : ¬ 0 < (drRun cell i).rs := fun z => by
            rw [decide_eq_true hk2, decide_eq_true z] at hk; cases hk
          have hst : drRun cell (i + 1) = ⟨(drRun cell i).fd ++ [(drRun cell (i + 1)).st / 4096 % 1000], (drRun cell i).rs, (drRun cell (i + 1)).st⟩ := by
            show drStep (drRun cell i) (i : Int) = _
            have e0 : (drRun cell (i + 1)).st = (drStep (drRun cell i) (i : Int)).st := rfl
            rw [e0]
            unfold drStep
            have c1 : ¬ (2 < (i : Int) ∧ 0 < (drRun cell i).rs) := fun z => hrs z.2
            simp only [if_neg c1, if_pos hk2]
          refine go_expr (v_append (vl 3 rfl rfl) (v_mod (v_fdiv (vl 5 rfl rfl) v_int (by decide)) (vl 2 rfl rfl) (by decide)) ⟨_, hget⟩ hget hlen) ?_
          refine go_next (go_next (go_nxf ⟨.d (.int i), ?_, ?_⟩))
          · rw [show (drRun cell (i + 1)).rs = (drRun cell i).rs by rw [hst]]; rfl
          · rw [show (drRun cell (i + 1)).fd = (drRun cell i).fd ++ [(drRun cell (i + 1)).st / 4096 % 1000] by rw [hst], mset_cons, List.map_append, List.map_append]; rfl
        · have hk2 := of_decide_eq_false hk2
          have hst : (drRun cell (i + 1)).fd = (drRun cell i).fd ∧ (drRun cell (i + 1)).rs = (drRun cell i).rs := by
            show (drStep (drRun cell i) (i : Int)).fd = _ ∧ (drStep (drRun cell i) (i : Int)).rs = _
            unfold drStep
            have c1 : ¬ (2 < (i : Int) ∧ 0 < (drRun cell i).rs) := fun z => hk2 z.1
            simp only [if_neg c1, if_neg hk2]
            exact ⟨trivial, trivial⟩
          refine go_next (go_next (go_nxf ⟨.d (.int i), ?_, ?_⟩))
          · rw [hst.2]; rfl
          · rw [hst.1]
    · obtain ⟨y, rfl, rfl⟩ := hI
      refine go_ret (vl 3 rfl rfl) (rt_pub (ds := (drRun cell 403).fd.map PyData.int) (by rw [mget_cons, if_pos rfl]) (hq _ _ ?_))
      have e : mdrop ((q, MO.lst (((drRun cell 403).fd.map PyData.int).map Sl.d)) :: μ) q = mdrop μ q := by
        show (if q = q then mdrop μ q else _) = _
        rw [if_pos rfl]
      rw [e, mdrop_none nq]
      exact hp
end
section
variable {P : Program} {w : World} {K : PySem.W.Frag} {mg : Str → Option Value} {base : Heap}
/-! _law_bag, _law_bags, _law_take: a bag is a list of draws and a counter -/
theorem sc_bag : FnScope ["script", "k"] ["script", "k"] (defScope s_bag) := ⟨rfl, rfl, rfl, by decide +kernel, rfl, by decide +kernel, by decide +kernel⟩
/-- the n-th draw -/
def drw (ds : List Int) (n : Int) : Int := ds.getD (n % 400).toNat 0
def bagO (ds : List Int) (n : Int) : MO := .lst [.d (.list (ds.map .int)), .d (.int n)]
def rBag (K : PySem.W.Frag) : Rel := fun as μ post => ∃ ns k, as = [.f K ns, .d (.int k)] ∧ 0 ≤ k ∧ ∀ p, mget μ p = none → post (.m p) ((p, bagO (drawsOf (cellOf ns k)) 0) :: μ)
theorem ok_bag {f : Addr} {fd : FuncData} (F : Fun K "_law_bag" "_law_bag" s_bag f fd) (hm : mg "_law_bag" = some (.ref f)) (b : Binds K fd ["script", "k"] [])
    (c_draws : Cal P w K mg base "_law_draws" 1 [] rDraws) (c_cell : Cal P w K mg base "_law_cell_at" 1 [] (rCell K)) : Cal P w K mg base "_law_bag" 2 [] (rBag K) := by
  refine cal_ok F sc_bag hm b .nil (fun _ => .nil) (fun as μ post h => ?_) (fun cdv A outer s H E as μ post D hr h hq hn => ?_)
  · obtain ⟨ns, k, rfl, _⟩ := h; rfl
  · obtain ⟨ns, k, rfl, h0, hp⟩ := h
    refine go_retw (w_lst (a_cons (v_call c_draws hr (by decide) (a_cons (v_call c_cell hr (by decide) (a_cons (vl 0 rfl rfl) (a_cons (vl 1 rfl rfl) a_nil)) (fun post hp => ⟨ns, k, rfl, h0, hp⟩)) (a_cons v_int (a_cons v_int a_nil))) (fun post hp => ⟨_, rfl, hp⟩)) (a_cons v_int a_nil)) sz) (fun x ν ⟨p, np, ex, eν⟩ => ?_)
    subst ex eν
    exact hq _ _ (hp p np)
/-- the bags stand in the store -/
structure BagsAt (L : Addr) (bs : List (Addr × List Int)) (ν : Mu) : Prop where
  at_ : mget ν L = some (.lst (bs.map fun b => .m b.1))
  nd : (bs.map (·.1)).Nodup
  nL : ∀ b ∈ bs, b.1 ≠ L
  ok : ∀ b ∈ bs, GoodDs b.2 ∧ mget ν b.1 = some (bagO b.2 0)
theorem sc_bags : FnScope ["script", "limit", "k"] ["script", "limit"] (defScope s_bags) := ⟨rfl, rfl, rfl, by decide +kernel, rfl, by decide +kernel, by decide +kernel⟩
def rBags (K : PySem.W.Frag) : Rel := fun as μ post => ∃ ns l, as = [.f K ns, .d (.int l)] ∧ 0 ≤ l ∧ l ≤ 1000 ∧ ns.length ≤ 63 ∧ ∀ L bs ν, BagsAt L bs ν → post (.m L) ν
theorem ok_bags {f : Addr} {fd : FuncData} (F : Fun K "_law_bags" "_law_bags" s_bags f fd) (hm : mg "_law_bags" = some (.ref f)) (b : Binds K fd ["script", "limit"] [])
    (c_bag : Cal P w K mg base "_law_bag" 2 [] (rBag K)) (m_len : mg "len" = none) (m_min : mg "min" = none) (m_max : mg "max" = none) (m_range : mg "range" = none) : Cal P w K mg base "_law_bags" 3 [] (rBags K) := by
  refine cal_ok F sc_bags hm b .nil (fun _ => .nil) (fun as μ post h => ?_) (fun cdv A outer s H E as μ post D hr h hq hn => ?_)
  · obtain ⟨ns, l, rfl, _⟩ := h; rfl
  · obtain ⟨ns, l, rfl, h0, h1, hl, hp⟩ := h
    refine go_retw (w_lcW (own := [("k", 2)]) (s_range1 m_range (v_max2 rfl m_max v_int (v_min2 rfl m_min (vl 1 rfl rfl) (v_lenF rfl m_len (vl 0 rfl rfl)))) (by omega) (by omega) (n := (max 1 (min l (ns.length : Int))).toNat) rfl) (blkOk_by (N := ["script", "limit", "k"]) (sc := defScope s_bags) (own := [("k", 2)]) (by decide +kernel))
      (I := fun i acc m => ∃ bs : List (Addr × List Int), acc = bs.map (fun b => .m b.1) ∧ bs.length = i ∧ (bs.map (·.1)).Nodup ∧ ∀ b ∈ bs, GoodDs b.2 ∧ mget m b.1 = some (bagO b.2 0)) ⟨?_, ?_, ?_, ?_, ?_⟩ sc_bags.nd) (fun x ν hx => ?_)
    · exact ⟨[], rfl, rfl, List.nodup_nil, fun b hb => absurd hb (by simp)⟩
    · rintro i acc m ⟨bs, rfl, e, _⟩
      rw [List.length_map, e]
      exact Nat.le_refl _
    · exact Nat.le_trans (show _ ≤ 1000 by omega) (by decide)
    · intros; trivial
    · rintro i acc m D' hi ⟨bs, rfl, e, nd, hb⟩ nD
      refine ⟨_, true, _, fun s H C cl fp => gc_name 2 (by decide) sc_bags.nd, fun s H C cl fp => ts_nil, fun _ => ⟨_, fun s H C cl fp => v_callG (post := fun x κ => ∃ q, mget ((D', MO.lst (bs.map fun b => Sl.m b.1)) :: m) q = none ∧ x = .m q ∧ κ = (q, bagO (drawsOf (cellOf ns (i : Int))) 0) :: (D', MO.lst (bs.map fun b => Sl.m b.1)) :: m) c_bag hr (by decide) (a_cons (vl 0 rfl rfl) (a_cons (vl 2 rfl rfl) a_nil)) (fun post' hp' => ?_), ?_⟩, fun h => by cases h⟩
      · exact ⟨ns, (i : Int), rfl, by omega, fun q nq => hp' _ _ ⟨q, nq, rfl, rfl⟩⟩
      · rintro x κ ⟨q, nq, rfl, rfl⟩
        have hqD : q ≠ D' := fun z => by
          rw [mget_cons, if_pos z] at nq; cases nq
        have nq' : mget m q = none := by rw [mget_cons, if_neg hqD] at nq; exact nq
        refine ⟨_, MuEq.swap hqD, by rw [mget_cons, if_neg hqD.symm]; exact nD, bs ++ [(q, drawsOf (cellOf ns (i : Int)))], by rw [List.map_append]; rfl, by rw [List.length_append, e]; rfl, ?_, ?_⟩
        · rw [List.map_append]
          refine List.nodup_append.mpr ⟨nd, by simp, fun a ha b hb' => ?_⟩
          have hb2 : b = q := by simpa using hb'
          rw [hb2]
          obtain ⟨b0, hb0, rfl⟩ := List.mem_map.mp ha
          intro z
          have := (hb b0 hb0).2
          rw [z, nq'] at this
          cases this
        · intro b0 hb0
          rcases List.mem_append.mp hb0 with z | z
          · refine ⟨(hb b0 z).1, ?_⟩
            have ne : b0.1 ≠ q := fun e => by
              have := (hb b0 z).2
              rw [e, nq'] at this
              cases this
            rw [mget_cons, if_neg ne]
            exact (hb b0 z).2
          · rw [List.mem_singleton.mp z]
            exact ⟨drawsOf_ok _, by rw [mget_cons, if_pos rfl]⟩
    · obtain ⟨L, acc, m, ⟨bs, rfl, e, nd, hb⟩, nL, rfl, rfl⟩ := hx
      refine hq _ _ (hp L bs _ ⟨by rw [mget_cons, if_pos rfl], nd, fun b0 hb0 z => ?_, fun b0 hb0 => ⟨(hb b0 hb0).1, ?_⟩⟩)
      · have := (hb b0 hb0).2
        rw [z, nL] at this
        cases this
      · have ne : b0.1 ≠ L := fun z => by
          have := (hb b0 hb0).2
          rw [z, nL] at this
          cases this
        rw [mget_cons, if_neg ne]
        exact (hb b0 hb0).2
theorem sc_take : FnScope ["bag", "many"] ["bag", "many"] (defScope s_take) := ⟨rfl, rfl, rfl, by decide +kernel, rfl, by decide +kernel, by decide +kernel⟩
def rTake : Rel := fun as μ post => ∃ p ds n m, as = [.m p, .d (.int m)] ∧ mget μ p = some (bagO ds n) ∧ ds.length = 400 ∧ 0 < m ∧ post (.d (.int (drw ds (n + 1) % m))) (mset μ p (bagO ds (n + 1)))
theorem atI_drw {ds : List Int} {n : Int} (h : ds.length = 400) : atI (List.map Sl.d (ds.map PyData.int)) (n % 400) = some (.d (.int (drw ds n))) := by
  have h1 : 0 ≤ n % 400 := Int.emod_nonneg _ (by decide)
  have h2 : n % 400 < 400 := Int.emod_lt_of_pos _ (by decide)
  have e : n % 400 = (((n % 400).toNat : Nat) : Int) := by omega
  rw [e]
  refine atI_nat ?_
  have h3 : (n % 400).toNat < ds.length := by omega
  rw [List.getElem?_map, List.getElem?_map, List.getElem?_eq_getElem h3]
  unfold drw
  rw [List.getD_eq_getElem?_getD, List.getElem?_eq_getElem h3]
  rfl
theorem drw_rng {ds : List Int} (g : GoodDs ds) (n : Int) : 0 ≤ drw ds n ∧ drw ds n < 1000 := by
  have h1 : 0 ≤ n % 400 := Int.emod_nonneg _ (by decide)
  have h2 : n % 400 < 400 := Int.emod_lt_of_pos _ (by decide)
  have h3 : (n % 400).toNat < ds.length := by rw [g.len]; omega
  unfold drw
  rw [List.getD_eq_getElem?_getD, List.getElem?_eq_getElem h3]
  exact g.rng _ (List.getElem_mem h3)
theorem ok_take {f : Addr} {fd : FuncData} (F : Fun K "_law_take" "_law_take" s_take f fd) (hm : mg "_law_take" = some (.ref f)) (b : Binds K fd ["bag", "many"] []) (m_len : mg "len" = none) : Cal P w K mg base "_law_take" 1 [] rTake := by
  refine cal_ok F sc_take hm b .nil (fun _ => .nil) (fun as μ post h => ?_) (fun cdv A outer s H E as μ post D hr h hq hn => ?_)
  · obtain ⟨p, ds, n, m, rfl, _⟩ := h; rfl
  · obtain ⟨p, ds, n, m, rfl, hg, hl, hm0, hp⟩ := h
    refine go_asg (v_add (v_ix (vl 0 rfl rfl) v_int (nowS_m hg) rfl) v_int) (g_ix (vl 0 rfl rfl) v_int hg rfl) ?_
    have hg2 := mget_mset_same (u := bagO ds (n + 1)) hg
    exact go_ret (v_mod (v_ix (v_ix (vl 0 rfl rfl) v_int (nowS_m hg2) rfl) (v_mod (v_ix (vl 0 rfl rfl) v_int (nowS_m hg2) rfl) (v_len m_len (v_ix (vl 0 rfl rfl) v_int (nowS_m hg2) rfl) nowS_l (k := 400) (by simp [hl])) (by decide)) nowS_l (atI_drw hl)) (vl 1 rfl rfl) hm0) (hq _ _ hp)
/-- the store with the bag at p behind n draws -/
abbrev bg (μ : Mu) (p : Addr) (ds : List Int) (n : Int) : Mu := mset μ p (bagO ds n)
theorem bg_get {μ : Mu} {p : Addr} {ds : List Int} {n : Int} (h : (mget μ p).isSome = true) : mget (bg μ p ds n) p = some (bagO ds n) := by
  obtain ⟨o, ho⟩ := Option.isSome_iff_exists.mp h
  exact mget_mset_same ho
theorem det_take {μ : Mu} {p : Addr} {ds : List Int} {n m : Int} (h : (mget μ p).isSome = true) (g : GoodDs ds) (hm : 0 < m) : Det rTake [.m p, .d (.int m)] (bg μ p ds n) (.d (.int (drw ds (n + 1) % m))) (bg μ p ds (n + 1)) :=
  fun post hp => ⟨p, ds, n, m, rfl, bg_get h, g.len, hm, by rw [mset_mset]; exact hp⟩
/-- a draw -/
theorem v_take {X : Cx} {ρ : En} {μ : Mu} {q : Addr} {ds : List Int} {n m : Int} {a b : Expr} {pos p : Pos} {k j : Nat} (C : Cal X.prog X.w X.K X.mg X.base "_law_take" k [] rTake) (hr : Room j X.A) (hk : k ≤ j) (h : (mget μ q).isSome = true) (g : GoodDs ds)
    (ha : PEv X a ρ (bg μ q ds n) (.m q) (bg μ q ds n)) (hb : PEv X b ρ (bg μ q ds n) (.d (.int m)) (bg μ q ds n)) (hm : 0 < m) (hg : Gl X "_law_take" := by rfl)
    (he : starEach [a, b] X.env = [(false, eval a X.env), (false, eval b X.env)] := by rfl) (he2 : starEach [b] X.env = [(false, eval b X.env)] := by rfl) :
    PEv X (.Call (.Name "_law_take" p) [a, b] [] pos) ρ (bg μ q ds n) (.d (.int (drw ds (n + 1) % m))) (bg μ q ds (n + 1)) :=
  v_call C hr hk (a_cons ha (a_cons hb a_nil (by rw [he2]; rfl)) (by rw [he, he2])) (det_take h g hm) hg (by decide) (by rw [he, he2]) (by rw [he2]; rfl)
end
section
variable {P : Program} {w : World} {K : PySem.W.Frag} {mg : Str → Option Value} {base : Heap}
/-! the loop of a law over its bags -/
theorem bg_bg {μ : Mu} {p : Addr} {ds : List Int} {n m : Int} : bg (bg μ p ds n) p ds m = bg μ p ds m := mset_mset ..
/-- the bags from i on are fresh -/
structure BagsFrom (L : Addr) (bs : List (Addr × List Int)) (i : Nat) (ν : Mu) : Prop where
  at_ : mget ν L = some (.lst (bs.map fun b => .m b.1))
  nd : (bs.map (·.1)).Nodup
  nL : ∀ b ∈ bs, b.1 ≠ L
  good : ∀ b ∈ bs, GoodDs b.2
  ok : ∀ j (h : j < bs.length), i ≤ j → mget ν (bs[j]).1 = some (bagO (bs[j]).2 0)
theorem BagsAt.from0 {L : Addr} {bs : List (Addr × List Int)} {ν : Mu} (h : BagsAt L bs ν) : BagsFrom L bs 0 ν :=
  ⟨h.at_, h.nd, h.nL, fun b hb => (h.ok b hb).1, fun j hj _ => (h.ok _ (List.getElem_mem hj)).2⟩
theorem BagsFrom.next {L : Addr} {bs : List (Addr × List Int)} {i : Nat} {ν : Mu} (h : BagsFrom L bs i ν) (hi : i < bs.length) (n : Int) : BagsFrom L bs (i + 1) (bg ν (bs[i]).1 (bs[i]).2 n) := by
  refine ⟨?_, h.nd, h.nL, h.good, fun j hj hij => ?_⟩
  · rw [mget_mset, if_neg (fun e => h.nL _ (List.getElem_mem hi) e.symm)]; exact h.at_
  · have ne : (bs[j]).1 ≠ (bs[i]).1 := fun e => by
      have h1 : (bs.map (·.1))[j]'(by rw [List.length_map]; exact hj) = (bs.map (·.1))[i]'(by rw [List.length_map]; exact hi) := by
        rw [List.getElem_map, List.getElem_map]; exact e
      have h2 := List.pairwise_iff_getElem.mp h.nd i j (by rw [List.length_map]; exact hi) (by rw [List.length_map]; exact hj) (by omega)
      exact h2 h1.symm
    rw [mget_mset, if_neg ne]
    exact h.ok j hj (by omega)
section
variable {X : Cx} {B : Hp × Mu} {D : Ends} {ρ : En} {μ : Mu} {sts rest body : List Stmt} {iter : Expr} {n : Str} {p pos : Pos}
theorem go_keep (ρ' : En) (hl : ρ'.length = ρ.length) (h : ∀ (i : Nat) (x : Sl), ρ'[i]? = some x → x ≠ .no → ρ[i]? = some x) (k : Go X B sts D ρ' μ) : Go X B sts D ρ μ := fun σ H w e =>
  k σ H ⟨w.mu, by rw [hl]; exact w.len, fun i x hi nx => w.slot i x (h i x hi nx) nx⟩ e
/-- for bag in bags: the other slots are forgotten at each turn -/
theorem go_bags {s : Sl} (m : Nat) (h0 : ρ[0]? = some s) (hm : ρ.length = m + 2) (h : PEw X iter ρ μ (fun y ν => ∃ L bs, y = .m L ∧ BagsAt L bs ν)) (hp : PassesOwn (model X.prog X.w) X.A X.env X.xe) (hN : X.N.Nodup)
    (turn : ∀ B', Reb B B' → ∀ (Nx : L2.St → Hp → Prop) (ν : Mu) (q : Addr) (ds : List Int), GoodDs ds → mget ν q = some (bagO ds 0) → (∀ k ρ2, ρ2[0]? = some s → ρ2.length = m + 2 → ∀ D' : Ends, D'.nx = Nx → Go X B' [] D' ρ2 (bg ν q ds k)) →
      Go X B' body { D with nx := Nx, ct := Nx, bk := wpR X rest D } (s :: .m q :: List.replicate m .no) ν)
    (done : ∀ ρ ν, ρ[0]? = some s → ρ.length = m + 2 → Go X B rest D ρ ν) (hi : X.N[1]? = some n := by rfl) (hx : Loc X.env.scope n := by first | exact Or.inl rfl | exact Or.inr rfl) (hf : X.fn n = true ∨ X.env.scope.names.lookup n = some .local := by first | exact .inl rfl | exact .inr rfl) (hc : X.calm = true := by rfl)
    (hfs : ∀ x, foldedSetIterable iter X.env x = pure x := by intro _; rfl) : Go X B (.For (.Name n p) iter body [] pos :: rest) D ρ μ := by
  refine go_forM h hp (fun y μ1 ⟨L, bs, e, hb⟩ => ⟨L, _, e, hb.at_⟩) (fun q xs μ1 ⟨L, bs, e, hb⟩ hx1 => ?_) hc hfs
  cases e
  have ex : xs = bs.map fun b => Sl.m b.1 := by rw [hb.at_] at hx1; cases hx1; rfl
  subst ex
  refine ⟨fun i ρ ν => ρ[0]? = some s ∧ ρ.length = m + 2 ∧ BagsFrom q bs i ν, ⟨h0, hm, hb.from0⟩, fun i ρ ν _ hI => hI.2.2.at_, fun B' hB i ρ ν hi' hI => ?_, fun ρ ν hI => done ρ ν hI.1 hI.2.1⟩
  obtain ⟨r0, rl, bf⟩ := hI
  rw [List.length_map] at hi'
  have ei : (bs.map fun b => Sl.m b.1).getD i .no = .m (bs[i]).1 := by
    rw [List.getD_eq_getElem?_getD, List.getElem?_map, List.getElem?_eq_getElem hi']; rfl
  rw [ei]
  refine ⟨_, g_name 1 hN hi hx hf, ?_⟩
  refine go_keep (s :: .m (bs[i]).1 :: List.replicate m .no) (by simp [rl]) (fun j x hj nx => ?_) ?_
  · match j with
    | 0 => rw [List.getElem?_set_ne (by decide)]; rw [r0]; exact hj
    | 1 => rw [List.getElem?_set_self (by omega)]; exact hj
    | j + 2 =>
      have hj : (List.replicate m Sl.no)[j]? = some x := hj
      rw [List.getElem?_replicate] at hj
      split at hj
      · cases hj; exact absurd rfl nx
      · cases hj
  · exact turn B' hB _ ν _ _ (bf.good _ (List.getElem_mem hi')) (bf.ok i hi' (Nat.le_refl _)) fun k ρ2 h0' hm' D' hD => go_nil fun σ H w e => by
      rw [hD]
      exact ⟨ρ2, _, ⟨h0', hm', bf.next hi' k⟩, w, e⟩
end
end
section
variable {P : Program} {w : World} {K : PySem.W.Frag} {mg : Str → Option Value} {base : Heap}
/-! the distance of t ticks, in plain Lean -/
def lastOf (st : List Int) : Int := st.getLastD 0
def spanOf (st : List Int) (t : Int) : Int := (st.take t.toNat).sum + max 0 (t - (st.length : Int)) * lastOf st
theorem getLastD_of {st : List Int} (h : st ≠ []) : lastOf st = st.getLast h := by
  unfold lastOf
  rw [List.getLastD_eq_getLast?, List.getLast?_eq_some_getLast h]; rfl
end
section
variable {P : Program} {w : World} {K : PySem.W.Frag} {mg : Str → Option Value} {base : Heap}
/-! _law_rule: a random rule -/
theorem sc_rule : FnScope ["bag", "top", "steps", "turn"] ["bag"] (defScope s_rule) := ⟨rfl, rfl, rfl, by decide +kernel, rfl, by decide +kernel, by decide +kernel⟩
/-- steps and a pause as rules have them -/
structure GoodR (st : List Int) (pa : Int) : Prop where
  l1 : 1 ≤ st.length
  l3 : st.length ≤ 3
  rng : ∀ x ∈ st, 1 ≤ x ∧ x ≤ 9
  srt : st.Pairwise (· ≤ ·)
  p0 : 0 ≤ pa
  p5 : pa ≤ 5
def ruleD (st : List Int) (pa : Int) : PyData := .tuple [.tuple (st.map .int), .int pa]
def ruleTop (ds : List Int) (n : Int) : Int := if drw ds (n + 1) % 3 = 0 then 3 else 9
def ruleMany (ds : List Int) (n : Int) : Nat := (1 + drw ds (n + 1 + 1) % 3).toNat
def ruleItem (ds : List Int) (n : Int) (i : Nat) : Int := 1 + drw ds (n + 1 + 1 + (i : Int) + 1) % ruleTop ds n
def ruleSt (ds : List Int) (n : Int) : List Int := sortI ((List.range (ruleMany ds n)).map (ruleItem ds n))
def ruleN1 (ds : List Int) (n : Int) : Int := n + 1 + 1 + (ruleMany ds n : Int)
def rulePa (ds : List Int) (n : Int) : Int := if drw ds (ruleN1 ds n + 1 + 1) % 3 = 0 then 0 else if drw ds (ruleN1 ds n + 1 + 1) % 3 = 1 then 1 else drw ds (ruleN1 ds n + 1) % 6
def ruleN (ds : List Int) (n : Int) : Int := ruleN1 ds n + 1 + 1
theorem rule_ok {ds : List Int} (g : GoodDs ds) (n : Int) : GoodR (ruleSt ds n) (rulePa ds n) := by
  have hm : 1 ≤ ruleMany ds n ∧ ruleMany ds n ≤ 3 := by
    unfold ruleMany
    have := drw_rng g (n + 1 + 1)
    omega
  have hl : (ruleSt ds n).length = ruleMany ds n := by
    unfold ruleSt
    rw [(sortI_perm _).length_eq, List.length_map, List.length_range]
  refine ⟨by omega, by omega, fun x hx => ?_, sortI_srt _, ?_, ?_⟩
  · have hx2 := (sortI_perm _).mem_iff.mp hx
    obtain ⟨i, _, rfl⟩ := List.mem_map.mp hx2
    unfold ruleItem ruleTop
    split
    · have := drw_rng g (n + 1 + 1 + (i : Int) + 1)
      omega
    · have := drw_rng g (n + 1 + 1 + (i : Int) + 1)
      omega
  · unfold rulePa
    have := drw_rng g (ruleN1 ds n + 1)
    split
    · omega
    · split <;> omega
  · unfold rulePa
    have := drw_rng g (ruleN1 ds n + 1)
    split
    · omega
    · split <;> omega
theorem bg_cons {μ : Mu} {D p : Addr} {o : MO} {ds : List Int} {n : Int} (h : p ≠ D) : bg ((D, o) :: μ) p ds n = (D, o) :: bg μ p ds n := by
  show (if p = D then _ else _) = _
  rw [if_neg h]
theorem bg_ne {μ : Mu} {D p : Addr} {ds : List Int} {n : Int} (hp : (mget μ p).isSome = true) (h : mget (bg μ p ds n) D = none) : p ≠ D := fun e => by
  rw [← e, bg_get hp] at h; cases h
def rRule : Rel := fun as μ post => ∃ p ds n, as = [.m p] ∧ mget μ p = some (bagO ds n) ∧ GoodDs ds ∧ post (.d (ruleD (ruleSt ds n) (rulePa ds n))) (bg μ p ds (ruleN ds n))
theorem at3 {a b c : Sl} {i : Int} {z : Sl} (h0 : i = 0 → z = a) (h1 : i = 1 → z = b) (h2 : i = 2 → z = c) (hi : 0 ≤ i ∧ i < 3) : atI [a, b, c] i = some z := by
  have h : i = 0 ∨ i = 1 ∨ i = 2 := by omega
  rcases h with e | e | e
  · rw [h0 e, e]; rfl
  · rw [h1 e, e]; rfl
  · rw [h2 e, e]; rfl
theorem mod_rng {ds : List Int} (g : GoodDs ds) (n m : Int) (h : 0 < m) : 0 ≤ drw ds n % m ∧ drw ds n % m < m := ⟨Int.emod_nonneg _ (by omega), Int.emod_lt_of_pos _ h⟩
theorem ok_rule {f : Addr} {fd : FuncData} (F : Fun K "_law_rule" "_law_rule" s_rule f fd) (hm : mg "_law_rule" = some (.ref f)) (b : Binds K fd ["bag"] []) (c_take : Cal P w K mg base "_law_take" 1 [] rTake) (m_sorted : mg "sorted" = none) (m_range : mg "range" = none) (m_tuple : mg "tuple" = none) : Cal P w K mg base "_law_rule" 2 [] rRule := by
  refine cal_ok F sc_rule hm b .nil (fun _ => .nil) (fun as μ post h => ?_) (fun cdv A outer s H E as μ post D hr h hq hn => ?_)
  · obtain ⟨p, ds, n, rfl, _⟩ := h; rfl
  · obtain ⟨p, ds, n, rfl, hg, g, hp⟩ := h
    have hs : (mget μ p).isSome = true := by rw [hg]; rfl
    have em : μ = bg μ p ds n := (mset_self μ p _ hg).symm
    refine go_mu em ?_
    -- top
    refine go_set 1 (v_ix (v_lst (ad_cons v_int (ad_cons v_int (ad_cons v_int ad_nil))) sz) (v_take c_take hr (by decide) hs g (vl 0 rfl rfl) v_int (by decide)) nowS_l (at3 (z := .d (.int (ruleTop ds n))) (fun e => by unfold ruleTop; rw [if_pos e]) (fun e => by unfold ruleTop; rw [if_neg (by omega)]) (fun e => by unfold ruleTop; rw [if_neg (by omega)]) (mod_rng g _ _ (by decide)))) ?_ sc_rule.nd
    have htop : 0 < ruleTop ds n := by unfold ruleTop; split <;> decide
    have hm3 := mod_rng g (n + 1 + 1) 3 (by decide)
    -- steps
    refine go_set 2 (v_sorted m_sorted (v_lc (own := [("turn", 3)]) (acc := fun i => ((List.range i).map (ruleItem ds n)).map PyData.int) (ms := fun i => bg μ p ds (n + 1 + 1 + (i : Int)))
        (s_range1 m_range (v_add v_int (v_take c_take hr (by decide) hs g (vl 0 rfl rfl) v_int (by decide))) (by omega) (by omega) (n := ruleMany ds n) rfl)
        (blkOk_by (N := ["bag", "top", "steps", "turn"]) (sc := defScope s_rule) (own := [("turn", 3)]) (by decide +kernel)) ⟨rfl, by simp, fun i _ => by simp, ?_, ?_, fun _ _ _ _ => trivial, ?_⟩ sc_rule.nd) nowL_d) ?_ sc_rule.nd
    · exact Nat.le_trans (show ruleMany ds n ≤ 1000 by unfold ruleMany; omega) (by decide)
    · intro i D' _ nD
      have ne := bg_ne hs nD
      rw [mget_mset_none] at nD
      exact mget_mset_none.mpr nD
    · intro i D' hi nD
      have ne := bg_ne hs nD
      have hs' : ∀ o, (mget ((D', o) :: μ) p).isSome = true := fun o => by rw [mget_cons, if_neg ne]; exact hs
      have ei : n + 1 + 1 + ((i + 1 : Nat) : Int) = n + 1 + 1 + (i : Int) + 1 := by omega
      refine ⟨_, true, _, fun s H C cl fp => gc_name 3 (by decide) sc_rule.nd, fun s H C cl fp => ts_nil, fun _ => ⟨.int (ruleItem ds n i), fun s H C cl fp => ?_, ?_⟩, fun h => by cases h⟩
      · rw [ei, ← bg_cons ne, ← bg_cons ne]
        exact v_add v_int (v_take c_take hr (by decide) (hs' _) g (vl 0 rfl rfl) (vl 1 rfl rfl) htop)
      · rw [List.range_succ, List.map_append, List.map_append]; rfl
    -- return
    have hm4 := mod_rng g (ruleN1 ds n + 1 + 1) 3 (by decide)
    refine go_ret (v_tup (ad_cons (v_tupL m_tuple (vl 2 rfl rfl) nowL_d) (ad_cons (v_ix (v_lst (ad_cons v_int (ad_cons v_int (ad_cons (v_take c_take hr (by decide) hs g (vl 0 rfl rfl) v_int (by decide)) ad_nil))) sz) (v_take c_take hr (by decide) hs g (vl 0 rfl rfl) v_int (by decide)) nowS_l
      (at3 (z := .d (.int (rulePa ds n))) (fun e => ?_) (fun e => ?_) (fun e => ?_) hm4)) ad_nil)) sz) (hq _ _ hp)
    · have e' : drw ds (ruleN1 ds n + 1 + 1) % 3 = 0 := e
      unfold rulePa; rw [if_pos e']
    · have e' : drw ds (ruleN1 ds n + 1 + 1) % 3 = 1 := e
      unfold rulePa; rw [if_neg (by omega), if_pos e']
    · have e' : drw ds (ruleN1 ds n + 1 + 1) % 3 = 2 := e
      unfold rulePa; rw [if_neg (by omega), if_neg (by omega)]; rfl
end
section
variable {P : Program} {w : World} {K : PySem.W.Frag} {mg : Str → Option Value} {base : Heap}
/-! _law_far_draw -/
theorem sc_far_draw : FnScope ["bag", "many", "found", "much"] ["bag", "many"] (defScope s_far_draw) := ⟨rfl, rfl, rfl, by decide +kernel, rfl, by decide +kernel, by decide +kernel⟩
def fdGo (ds : List Int) : Nat → Int → Int → Int → Int × Int
  | 0, found, _, n => (found, n)
  | k + 1, found, much, n => if 0 < much then fdGo ds k (1000 * found + drw ds (n + 1) % 1000) (much / 1000) (n + 1) else (found, n)
def fdV (ds : List Int) (n many : Int) : Int × Int := fdGo ds many.toNat 0 many n
def farV (ds : List Int) (n many : Int) : Int := if drw ds ((fdV ds n many).2 + 1) % 4 = 1 then 0 else if drw ds ((fdV ds n many).2 + 1) % 4 = 2 then many - 1 else (fdV ds n many).1 % many
def farN (ds : List Int) (n many : Int) : Int := (fdV ds n many).2 + 1
theorem farV_rng (ds : List Int) (n : Int) {many : Int} (h : 1 ≤ many) : 0 ≤ farV ds n many ∧ farV ds n many < many := by
  unfold farV
  have h1 := Int.emod_nonneg (fdV ds n many).1 (show many ≠ 0 by omega)
  have h2 := Int.emod_lt_of_pos (fdV ds n many).1 (show 0 < many by omega)
  split
  · omega
  · split <;> omega
def rFarDraw : Rel := fun as μ post => ∃ p ds n m, as = [.m p, .d (.int m)] ∧ mget μ p = some (bagO ds n) ∧ GoodDs ds ∧ 1 ≤ m ∧ post (.d (.int (farV ds n m))) (bg μ p ds (farN ds n m))
theorem at4 {a b c d : Sl} {i : Int} {z : Sl} (h0 : i = 0 → z = a) (h1 : i = 1 → z = b) (h2 : i = 2 → z = c) (h3 : i = 3 → z = d) (hi : 0 ≤ i ∧ i < 4) : atI [a, b, c, d] i = some z := by
  have h : i = 0 ∨ i = 1 ∨ i = 2 ∨ i = 3 := by omega
  rcases h with e | e | e | e
  · rw [h0 e, e]; rfl
  · rw [h1 e, e]; rfl
  · rw [h2 e, e]; rfl
  · rw [h3 e, e]; rfl
theorem ok_far_draw {f : Addr} {fd : FuncData} (F : Fun K "_law_far_draw" "_law_far_draw" s_far_draw f fd) (hm : mg "_law_far_draw" = some (.ref f)) (b : Binds K fd ["bag", "many"] []) (c_take : Cal P w K mg base "_law_take" 1 [] rTake) : Cal P w K mg base "_law_far_draw" 2 [] rFarDraw := by
  refine cal_ok F sc_far_draw hm b .nil (fun _ => .nil) (fun as μ post h => ?_) (fun cdv A outer s H E as μ post D hr h hq hn => ?_)
  · obtain ⟨p, ds, n, m, rfl, _⟩ := h; rfl
  · obtain ⟨p, ds, n, m, rfl, hg, g, h1, hp⟩ := h
    have hs : (mget μ p).isSome = true := by rw [hg]; rfl
    refine go_mu (mset_self μ p _ hg).symm ?_
    refine go_par 2 3 (a_cons v_int (a_cons (vl 1 rfl rfl) a_nil)) ?_ sc_far_draw.nd
    refine go_while (fun k ρ ν => ∃ (found much n' : Int), 0 ≤ much ∧ much ≤ (k : Int) ∧ fdGo ds k found much n' = fdV ds n m ∧ ρ = [.m p, .d (.int m), .d (.int found), .d (.int much)] ∧ ν = bg μ p ds n') m.toNat ⟨0, m, n, by omega, by omega, rfl, rfl, rfl⟩ PassesOwn.never (fun k ρ ν hI => ?_)
    obtain ⟨found, much, n', m0, mk, ev, rfl, rfl⟩ := hI
    refine ⟨_, _, t_gt (vl 3 rfl rfl) v_int, fun hk => ?_, fun hk => ?_⟩
    · have hk := of_decide_eq_true hk
      obtain ⟨k', rfl⟩ : ∃ k', k = k' + 1 := ⟨k - 1, by omega⟩
      have hlt : much / 1000 < much := by omega
      refine go_par 2 3 (a_cons (v_add (v_mul v_int (vl 2 rfl rfl) (.inl (by decide))) (v_take c_take hr (by decide) hs g (vl 0 rfl rfl) v_int (by decide))) (a_cons (v_fdiv (vl 3 rfl rfl) v_int (by decide)) a_nil)) ?_ sc_far_draw.nd
      refine go_nxw (m' := k') (by omega) ⟨_, _, _, by omega, by omega, ?_, rfl, rfl⟩
      rw [← ev]
      show _ = if 0 < much then _ else _
      rw [if_pos hk]
    · have hk := of_decide_eq_false hk
      have ef : fdV ds n m = (found, n') := by
        rw [← ev]
        cases k with
        | zero => rfl
        | succ k' => show (if 0 < much then _ else _) = _; rw [if_neg hk]
      have h4 := mod_rng g (n' + 1) 4 (by decide)
      have e1 : farN ds n m = n' + 1 := by unfold farN; rw [ef]
      rw [e1] at hp
      refine go_ret (v_ix (v_lst (ad_cons (v_mod (vl 2 rfl rfl) (vl 1 rfl rfl) (by omega)) (ad_cons v_int (ad_cons (v_sub (vl 1 rfl rfl) v_int) (ad_cons (v_mod (vl 2 rfl rfl) (vl 1 rfl rfl) (by omega)) ad_nil)))) sz) (v_take c_take hr (by decide) hs g (vl 0 rfl rfl) v_int (by decide)) nowS_l (at4 (z := .d (.int (farV ds n m))) (fun e => ?_) (fun e => ?_) (fun e => ?_) (fun e => ?_) h4)) (hq _ _ hp)
      · unfold farV; rw [ef]; show Sl.d (.int (if drw ds (n' + 1) % 4 = 1 then _ else if drw ds (n' + 1) % 4 = 2 then _ else _)) = _; rw [if_neg (by omega), if_neg (by omega)]
      · unfold farV; rw [ef]; show Sl.d (.int (if drw ds (n' + 1) % 4 = 1 then _ else if drw ds (n' + 1) % 4 = 2 then _ else _)) = _; rw [if_pos e]
      · unfold farV; rw [ef]; show Sl.d (.int (if drw ds (n' + 1) % 4 = 1 then _ else if drw ds (n' + 1) % 4 = 2 then _ else _)) = _; rw [if_neg (by omega), if_pos e]
      · unfold farV; rw [ef]; show Sl.d (.int (if drw ds (n' + 1) % 4 = 1 then _ else if drw ds (n' + 1) % 4 = 2 then _ else _)) = _; rw [if_neg (by omega), if_neg (by omega)]
end
section
variable {P : Program} {w : World} {K : PySem.W.Frag} {mg : Str → Option Value} {base : Heap}
/-! _law_span: the distance of a hold up -/
theorem sc_span : FnScope ["steps", "ticks", "found", "turn"] ["steps", "ticks"] (defScope s_span) := ⟨rfl, rfl, rfl, by decide +kernel, rfl, by decide +kernel, by decide +kernel⟩
def rSpan : Rel := fun as μ post => ∃ st t, as = [.d (.tuple (st.map .int)), .d (.int t)] ∧ GoodR st 0 ∧ -(2 ^ 61) < t ∧ t < 2 ^ 61 ∧ post (.d (.int (spanOf st t))) μ
theorem ok_span {f : Addr} {fd : FuncData} (F : Fun K "_law_span" "_law_span" s_span f fd) (hm : mg "_law_span" = some (.ref f)) (b : Binds K fd ["steps", "ticks"] []) (m_len : mg "len" = none) (m_min : mg "min" = none) (m_max : mg "max" = none) (m_range : mg "range" = none) : Cal P w K mg base "_law_span" 1 [] rSpan := by
  refine cal_ok F sc_span hm b .nil (fun _ => .nil) (fun as μ post h => ?_) (fun cdv A outer s H E as μ post D hr h hq hn => ?_)
  · obtain ⟨st, t, rfl, _⟩ := h; rfl
  · obtain ⟨st, t, rfl, g, h1, h2, hp⟩ := h
    have gl1 := g.l1
    have gl3 := g.l3
    refine go_set 2 v_int ?_ sc_span.nd
    have hne : st ≠ [] := fun e => by rw [e] at gl1; simp at gl1
    refine go_for (s_range1 m_range (v_min2 rfl m_min (vl 1 rfl rfl) (v_len m_len (vl 0 rfl rfl) nowS_t (k := st.length) (by simp))) (by omega) (by omega) (n := min t.toNat st.length) (by omega)) (fun i ρ ν => ∃ y, ρ = [.d (.tuple (st.map .int)), .d (.int t), .d (.int (st.take i).sum), y] ∧ ν = μ)
      PassesOwn.never ⟨.no, rfl, rfl⟩ (fun _ _ _ _ _ => trivial) (fun B' hB i ρ ν hi hI => ?_) (fun ρ ν hI => ?_)
    · obtain ⟨y, rfl, rfl⟩ := hI
      have hi' : i < st.length := by omega
      refine ⟨_, g_name 3 sc_span.nd, ?_⟩
      refine go_set 2 (v_add (vl 2 rfl rfl) (v_ix (vl 0 rfl rfl) (vl 3 rfl rfl) nowS_t (atI_map Sl.d (atI_map PyData.int (atI_nat (List.getElem?_eq_getElem hi')))))) ?_ sc_span.nd
      refine go_nxf ⟨.d (.int i), ?_, rfl⟩
      rw [sum_take (List.getElem?_eq_getElem hi')]
      rfl
    · obtain ⟨y, rfl, rfl⟩ := hI
      have hlast := g.rng _ (List.getLast_mem hne)
      refine go_ret (v_eqd (v_add (vl 2 rfl rfl) (v_mul (v_max2 rfl m_max v_int (v_sub (vl 1 rfl rfl) (v_len m_len (vl 0 rfl rfl) nowS_t (k := st.length) (by simp)))) (v_ix (vl 0 rfl rfl) (v_neg v_int) nowS_t (atI_map Sl.d (atI_map PyData.int (atI_lastD hne)))) (.inr (by omega)))) ?_) (hq _ _ hp)
      unfold spanOf
      rw [getLastD_of hne]
      congr 3
      by_cases h : t.toNat ≤ st.length
      · rw [Nat.min_eq_left h]
      · rw [Nat.min_eq_right (by omega), List.take_length, List.take_of_length_le (by omega)]
end
section
variable {P : Program} {w : World} {K : PySem.W.Frag} {mg : Str → Option Value} {base : Heap}
/-! is_integer, is_steps, is_rule, need_rule, moved -/
theorem sc_p_is_integer : FnScope ["value", "low", "high"] ["value", "low", "high"] (defScope s_p_is_integer) := ⟨rfl, rfl, rfl, by decide +kernel, rfl, by decide +kernel, by decide +kernel⟩
def isInt : PyData → Int → Int → Bool
  | .int i, lo, hi => decide (lo ≤ i) && decide (i ≤ hi)
  | _, _, _ => false
def rIsInt : Rel := fun as μ post => ∃ d lo hi, as = [.d d, .d (.int lo), .d (.int hi)] ∧ post (.d (.bool (isInt d lo hi))) μ
theorem ok_p_is_integer {f : Addr} {fd : FuncData} (F : Fun K "is_integer" "is_integer" s_p_is_integer f fd) (hm : mg "is_integer" = some (.ref f)) (b : Binds K fd ["value", "low", "high"] []) (m_isinstance : mg "isinstance" = none) (m_int : mg "int" = none) (m_bool : mg "bool" = none) : Cal P w K mg base "is_integer" 1 [] rIsInt := by
  refine cal_ok F sc_p_is_integer hm b .nil (fun _ => .nil) (fun as μ post h => ?_) (fun cdv A outer s H E as μ post D hr h hq hn => ?_)
  · obtain ⟨d, lo, hi, rfl, _⟩ := h; rfl
  · obtain ⟨d, lo, hi, rfl, hp⟩ := h
    refine go_ret (x := .d (.bool (isInt d lo hi))) ?_ (hq _ _ hp)
    refine v_eqd (v_and (v_isi m_isinstance (vl 0 rfl rfl) (v_ty m_int (by decide +kernel)) (kit_int d)) (q := !isB d && isInt d lo hi) (fun h1 => v_and (v_not (v_isi m_isinstance (vl 0 rfl rfl) (v_ty m_bool (by decide +kernel)) (kit_bool d))) (fun h2 => v_one ?_) (fun _ => rfl)) (fun _ => rfl)) ?_
    · have hd : ∃ i, d = .int i := by cases d <;> simp [isI, isB] at h1 h2 ⊢
      obtain ⟨i, rfl⟩ := hd
      exact v_chain op_le op_le (vl 1 rfl rfl) (vl 0 rfl rfl) (vl 2 rfl rfl)
    · cases d <;> rfl
theorem sc_p_is_steps : FnScope ["value", "one", "other"] ["value"] (defScope s_p_is_steps) := ⟨rfl, rfl, rfl, by decide +kernel, rfl, by decide +kernel, by decide +kernel⟩
def intsIn (lo hi : Int) (ds : List PyData) : Bool := ds.all fun d => isInt d lo hi
def intOf : PyData → Int
  | .int i => i
  | _ => 0
def ascD : List PyData → Bool
  | [] => true
  | [_] => true
  | x :: y :: r => decide (intOf x ≤ intOf y) && ascD (y :: r)
def isSteps : PyData → Bool
  | .tuple ds => decide (1 ≤ ds.length) && decide (ds.length ≤ 3) && intsIn 1 9 ds && ascD ds
  | _ => false
theorem ascD_all : ∀ ds : List PyData, ((List.range (min ds.length (ds.drop 1).length)).map fun i => decide (intOf (ds.getD i .none) ≤ intOf ((ds.drop 1).getD i .none))).all id = ascD ds
  | [] => rfl
  | [_] => rfl
  | x :: y :: r => by
    have ih := ascD_all (y :: r)
    have e : min (x :: y :: r).length ((x :: y :: r).drop 1).length = min (y :: r).length ((y :: r).drop 1).length + 1 := by
      simp only [List.length_cons, List.length_drop]
      omega
    rw [e, List.range_succ_eq_map, List.map_cons, List.all_cons, List.map_map]
    show (decide (intOf x ≤ intOf y) && _) = _
    rw [show ascD (x :: y :: r) = (decide (intOf x ≤ intOf y) && ascD (y :: r)) from rfl, ← ih]
    rfl
def rIsSteps : Rel := fun as μ post => ∃ d, as = [.d d] ∧ post (.d (.bool (isSteps d))) μ
theorem isInt_int {d : PyData} {lo hi : Int} (h : isInt d lo hi = true) : d = .int (intOf d) := by cases d <;> simp [isInt] at h ⊢; rfl
theorem intsIn_get {lo hi : Int} {ds : List PyData} (h : intsIn lo hi ds = true) {i : Nat} (hi' : i < ds.length) : ds.getD i .none = .int (intOf (ds.getD i .none)) := by
  rw [getD_get hi']
  exact isInt_int (List.all_eq_true.mp h _ (List.getElem_mem hi'))
theorem ok_p_is_steps {f : Addr} {fd : FuncData} (F : Fun K "is_steps" "is_steps" s_p_is_steps f fd) (hm : mg "is_steps" = some (.ref f)) (b : Binds K fd ["value"] []) (c_is_integer : Cal P w K mg base "is_integer" 1 [] rIsInt)
    (m_isinstance : mg "isinstance" = none) (m_tuple : mg "tuple" = none) (m_len : mg "len" = none) (m_all : mg "all" = none) (m_zip : mg "zip" = none) : Cal P w K mg base "is_steps" 2 [] rIsSteps := by
  refine cal_ok F sc_p_is_steps hm b .nil (fun _ => .nil) (fun as μ post h => ?_) (fun cdv A outer s H E as μ post D hr h hq hn => ?_)
  · obtain ⟨d, rfl, _⟩ := h; rfl
  · obtain ⟨d, rfl, hp⟩ := h
    have key : ∀ ds, d = .tuple ds → Go (cx0 P w K mg base ["value", "one", "other"] "is_steps" s_p_is_steps f cdv A outer s H E) (H, μ) (defBody s_p_is_steps) D (startE ["value", "one", "other"] [.d (.tuple ds)]) μ := fun ds e => by
      subst e
      refine go_if (t_w (w_or (t_not (t_val (v_isi m_isinstance (vl 0 rfl rfl) (v_ty m_tuple (by decide +kernel)) (kit_tuple _)))) (q := !(decide (1 ≤ ds.length) && decide (ds.length ≤ 3)) || !(ds.map fun d => isInt d 1 9).all id) (fun _ => w_or (t_not (t_eqb (t_chain op_le op_le v_int (v_len m_len (vl 0 rfl rfl) nowS_t (k := ds.length) (by simp)) v_int) (k' := decide (1 ≤ ds.length) && decide (ds.length ≤ 3)) ?_)) (fun hk => w_or1 (t_not (t_val (v_all (bs := ds.map fun d => isInt d 1 9) rfl m_all (v_lc (own := [("one", 1)]) (acc := fun i => ((ds.take i).map fun d => isInt d 1 9).map PyData.bool) (ms := fun _ => μ) (s_tup (vl 0 rfl rfl)) (blkOk_by (N := ["value", "one", "other"]) (sc := defScope s_p_is_steps) (own := [("one", 1)]) (by decide +kernel)) ⟨rfl, rfl, fun i _ => ?_, ?_, fun _ _ _ h => h, fun _ _ _ _ => trivial, fun i D' hi nD => ?_⟩ sc_p_is_steps.nd) ?_)))) (fun _ => rfl)) (fun _ => rfl))) (fun hk => ?_) (fun hk => ?_)
      · have e1 : decide ((1 : Int) ≤ (ds.length : Int)) = decide (1 ≤ ds.length) := decide_eq_decide.mpr (by omega)
        have e2 : decide ((ds.length : Int) ≤ 3) = decide (ds.length ≤ 3) := decide_eq_decide.mpr (by omega)
        rw [e1, e2]
      · simp only [List.length_map, List.length_take]; omega
      · simp only [Bool.not_eq_false', Bool.and_eq_true, decide_eq_true_eq] at hk
        exact Nat.le_trans (show ds.length ≤ 1000 by omega) (by decide)
      · refine ⟨_, true, _, fun s H C cl fp => gc_name 1 (by decide) sc_p_is_steps.nd, fun s H C cl fp => ts_nil, fun _ => ⟨.bool (isInt (ds.getD i .none) 1 9), fun s H C cl fp => v_call c_is_integer hr (by decide) (a_cons (vl 1 rfl rfl) (a_cons v_int (a_cons v_int a_nil))) (fun post hp => ⟨_, 1, 9, rfl, hp⟩), ?_⟩, fun h => by cases h⟩
        rw [take_succ_get hi, List.map_append, List.map_append, getD_get hi]; rfl
      · rw [List.take_length]; exact nowL_d
      · refine go_ret (x := .d (.bool (isSteps (.tuple ds)))) (v_eqd v_bl ?_) (hq _ _ hp)
        have : isSteps (.tuple ds) = false := by
          simp only [isSteps]
          have e3 : ((ds.map fun d => isInt d 1 9).all id) = intsIn 1 9 ds := by simp [intsIn, List.all_map]
          cases h1 : (decide (1 ≤ ds.length) && decide (ds.length ≤ 3)) <;> cases h2 : intsIn 1 9 ds <;> simp_all [isT]
        rw [this]
      · have e3 : ((ds.map fun d => isInt d 1 9).all id) = intsIn 1 9 ds := by simp [intsIn, List.all_map]
        have hk' : (decide (1 ≤ ds.length) && decide (ds.length ≤ 3)) = true ∧ intsIn 1 9 ds = true := by
          cases h1 : (decide (1 ≤ ds.length) && decide (ds.length ≤ 3)) <;> cases h2 : intsIn 1 9 ds <;> simp_all [isT]
        obtain ⟨hl, hin⟩ := hk'
        have hl2 : ds.length ≤ 3 := by simp only [Bool.and_eq_true, decide_eq_true_eq] at hl; exact hl.2
        refine go_next (go_ret (x := .d (.bool (isSteps (.tuple ds)))) (v_eqd (v_all (bs := (List.range (min ds.length (ds.drop 1).length)).map fun i => decide (intOf (ds.getD i .none) ≤ intOf ((ds.drop 1).getD i .none))) rfl m_all (v_lc (own := [("one", 1), ("other", 2)]) (acc := fun i => ((List.range i).map fun i => decide (intOf (ds.getD i .none) ≤ intOf ((ds.drop 1).getD i .none))).map PyData.bool) (ms := fun _ => μ)
          (s_zipT m_zip (vl 0 rfl rfl) (v_eqd (v_slT (vl 0 rfl rfl) (o_int v_int) o_no rfl) (d' := .tuple (ds.drop 1)) (by rw [show (1 : Int) = ((1 : Nat) : Int) from rfl, cutL_from])) (k := min ds.length (ds.drop 1).length) rfl) (blkOk_by (N := ["value", "one", "other"]) (sc := defScope s_p_is_steps) (own := [("one", 1), ("other", 2)]) (by decide +kernel)) ⟨rfl, rfl, fun i _ => by simp, ?_, fun _ _ _ h => h, fun _ _ _ _ => trivial, fun i D' hi nD => ?_⟩ sc_p_is_steps.nd) nowL_d) ?_) (hq _ _ hp))
        · exact Nat.le_trans (show _ ≤ 1000 by omega) (by decide)
        · have g1 : ds.getD i .none = .int (intOf (ds.getD i .none)) := intsIn_get hin (by omega)
          have g2 : (ds.drop 1).getD i .none = .int (intOf ((ds.drop 1).getD i .none)) := by
            have hi2 : i + 1 < ds.length := by rw [List.length_drop] at hi; omega
            have : (ds.drop 1).getD i .none = ds.getD (i + 1) .none := by
              rw [List.getD_eq_getElem?_getD, List.getElem?_drop, List.getD_eq_getElem?_getD, Nat.add_comm]
            rw [this]
            exact intsIn_get hin hi2
          refine ⟨_, true, _, fun s H C cl fp => gc_tup (gcs_cons (gc_name 1 (by decide) sc_p_is_steps.nd) (gcs_cons (gc_name 2 (by decide) sc_p_is_steps.nd) gcs_nil)) rfl, fun s H C cl fp => ts_nil, fun _ => ⟨.bool (decide (intOf (ds.getD i .none) ≤ intOf ((ds.drop 1).getD i .none))), fun s H C cl fp => v_le (v_eqd (vl 1 rfl rfl) g1) (v_eqd (vl 2 rfl rfl) g2), ?_⟩, fun h => by cases h⟩
          rw [List.range_succ, List.map_append, List.map_append]; rfl
        · rw [ascD_all]
          simp only [isSteps]
          rw [hl, hin]
          rfl
    by_cases ht : isT d = true
    · have : ∃ ds, d = .tuple ds := by cases d <;> simp [isT] at ht ⊢
      obtain ⟨ds, e⟩ := this
      have := key ds e
      rw [e]
      exact this
    · refine go_ifT (t_w (w_or (t_not (t_val (v_isi m_isinstance (vl 0 rfl rfl) (v_ty m_tuple (by decide +kernel)) (kit_tuple _)))) (q := false) (fun h => ?_) (fun _ => rfl))) (by simp [ht]) ?_
      · simp [ht] at h
      · refine go_ret (x := .d (.bool (isSteps d))) (v_eqd v_bl ?_) (hq _ _ hp)
        cases d <;> simp [isT, isSteps] at ht ⊢
end
section
variable {P : Program} {w : World} {K : PySem.W.Frag} {mg : Str → Option Value} {base : Heap}
/-! shapes and comparisons of data -/
theorem can_ints : ∀ ns : List Int, PyData.canLayAll0 (ns.map .int) = true
  | [] => by simp [PyData.canLayAll0]
  | n :: r => by simp [PyData.canLayAll0, PyData.canLay0, can_ints r]
theorem dep_ints : ∀ ns : List Int, PyData.depthAll (ns.map .int) = 0
  | [] => by simp [PyData.depthAll]
  | n :: r => by simp [PyData.depthAll, PyData.depth, dep_ints r]
theorem shaped_ints (ns : List Int) : SeqAt.shaped (.list (ns.map .int)) = true := by
  simp [SeqAt.shaped, PyData.canLay0, can_ints ns, PyData.depth, dep_ints ns]
theorem shaped_intsT (ns : List Int) : SeqAt.shaped (.tuple (ns.map .int)) = true := by
  simp [SeqAt.shaped, PyData.canLay0, can_ints ns, PyData.depth, dep_ints ns]
theorem eqvAll_ints : ∀ l l' : List Int, PyData.eqvAll (l.map .int) (l'.map .int) = decide (l = l')
  | [], [] => by simp [PyData.eqvAll]
  | [], _ :: _ => by simp [PyData.eqvAll]
  | _ :: _, [] => by simp [PyData.eqvAll]
  | x :: r, y :: r' => by
    rw [List.map_cons, List.map_cons, PyData.eqvAll, eqvAll_ints r r', PyData.eqv, Bool.eq_iff_iff]
    simp
theorem eqv_ints (l l' : List Int) : PyData.eqv (.list (l.map .int)) (.list (l'.map .int)) = decide (l = l') := by
  rw [PyData.eqv, eqvAll_ints]
theorem eqv_intsT (l l' : List Int) : PyData.eqv (.tuple (l.map .int)) (.tuple (l'.map .int)) = decide (l = l') := by
  rw [PyData.eqv, eqvAll_ints]
theorem eqv_int (i j : Int) : PyData.eqv (.int i) (.int j) = decide (i = j) := by
  rw [PyData.eqv, Bool.eq_iff_iff]; simp
end
section
variable {P : Program} {w : World} {K : PySem.W.Frag} {mg : Str → Option Value} {base : Heap}
/-! is_rule, need_rule, need_distance, moved, divisor, less, plus -/
theorem sc_p_is_rule : FnScope ["value"] ["value"] (defScope s_p_is_rule) := ⟨rfl, rfl, rfl, by decide +kernel, rfl, by decide +kernel, by decide +kernel⟩
def isRule : PyData → Bool
  | .tuple [s, p] => isSteps s && isInt p 0 5
  | _ => false
def rIsRule : Rel := fun as μ post => ∃ d, as = [.d d] ∧ post (.d (.bool (isRule d))) μ
theorem shaped_int (i : Int) : SeqAt.shaped (.int i) = true := rfl
theorem ok_p_is_rule {f : Addr} {fd : FuncData} (F : Fun K "is_rule" "is_rule" s_p_is_rule f fd) (hm : mg "is_rule" = some (.ref f)) (b : Binds K fd ["value"] []) (c_is_integer : Cal P w K mg base "is_integer" 1 [] rIsInt) (c_is_steps : Cal P w K mg base "is_steps" 2 [] rIsSteps)
    (m_isinstance : mg "isinstance" = none) (m_tuple : mg "tuple" = none) (m_len : mg "len" = none) : Cal P w K mg base "is_rule" 3 [] rIsRule := by
  refine cal_ok F sc_p_is_rule hm b .nil (fun _ => .nil) (fun as μ post h => ?_) (fun cdv A outer s H E as μ post D hr h hq hn => ?_)
  · obtain ⟨d, rfl, _⟩ := h; rfl
  · obtain ⟨d, rfl, hp⟩ := h
    have hu := hr.units
    refine go_ret (x := .d (.bool (isRule d))) ?_ (hq _ _ hp)
    have two : ∀ ds, d = .tuple ds → ds.length = 2 → ∃ a b, d = .tuple [a, b] := fun ds e hl => by
      match ds, hl with
      | [a, b], _ => exact ⟨a, b, e⟩
    refine v_eqd (v_and (v_isi m_isinstance (vl 0 rfl rfl) (v_ty m_tuple (by decide +kernel)) (kit_tuple d)) (q := isRule d) (fun h1 => ?_) (fun _ => rfl)) ?_
    · have : ∃ ds, d = .tuple ds := by cases d <;> simp [isT] at h1 ⊢
      obtain ⟨ds, e⟩ := this
      subst e
      refine v_eqd (v_and (v_eqd (v_eq hu (v_len m_len (vl 0 rfl rfl) nowS_t (k := ds.length) (by simp)) v_int now_d now_d rfl rfl) (d' := .bool (decide (ds.length = 2))) ?_) (q := isRule (.tuple ds)) (fun h2 => ?_) (fun _ => rfl)) ?_
      · show PyData.bool ((ds.length : Int) == 2) = _
        congr 1
        rw [Bool.eq_iff_iff, beq_iff_eq, decide_eq_true_eq]
        omega
      · have h2 := of_decide_eq_true h2
        obtain ⟨a, b', e⟩ := two ds rfl h2
        cases e
        exact v_eqd (v_and (v_call c_is_steps hr (by decide) (a_cons (v_ix (vl 0 rfl rfl) v_int nowS_t rfl) a_nil) (fun post hp => ⟨a, rfl, hp⟩)) (fun _ => v_one (v_call c_is_integer hr (by decide) (a_cons (v_ix (vl 0 rfl rfl) v_int nowS_t rfl) (a_cons v_int (a_cons v_int a_nil))) (fun post hp => ⟨b', 0, 5, rfl, hp⟩))) (fun _ => rfl)) rfl
      · by_cases h : ds.length = 2
        · rw [decide_eq_true h]; rfl
        · rw [decide_eq_false h]
          have : isRule (.tuple ds) = false := by
            match ds, h with
            | [], _ => rfl
            | [_], _ => rfl
            | [_, _], h => exact absurd rfl h
            | _ :: _ :: _ :: _, _ => rfl
          rw [this]; rfl
    · cases d with
      | tuple ds => rfl
      | _ => rfl
theorem ascD_srt : ∀ st : List Int, st.Pairwise (· ≤ ·) → ascD (st.map .int) = true
  | [], _ => rfl
  | [_], _ => rfl
  | x :: y :: r, h => by
    have h1 := List.pairwise_cons.mp h
    show (decide (x ≤ y) && ascD ((y :: r).map .int)) = true
    rw [ascD_srt (y :: r) h1.2, decide_eq_true (h1.1 y (by simp))]
    rfl
theorem good_isSteps {st : List Int} {pa : Int} (g : GoodR st pa) : isSteps (.tuple (st.map .int)) = true := by
  have h1 := g.l1
  have h3 := g.l3
  simp only [isSteps, List.length_map]
  rw [decide_eq_true h1, decide_eq_true h3, ascD_srt st g.srt]
  have : intsIn 1 9 (st.map .int) = true := by
    refine List.all_eq_true.mpr fun d hd => ?_
    obtain ⟨x, hx, rfl⟩ := List.mem_map.mp hd
    have := g.rng x hx
    simp [isInt, this.1, this.2]
  rw [this]; rfl
theorem good_isRule {st : List Int} {pa : Int} (g : GoodR st pa) : isRule (ruleD st pa) = true := by
  show (isSteps (.tuple (st.map .int)) && isInt (.int pa) 0 5) = true
  rw [good_isSteps g]
  simp [isInt, g.p0, g.p5]
end
section
variable {P : Program} {w : World} {K : PySem.W.Frag} {mg : Str → Option Value} {base : Heap}
/-! is_hold, is_way -/
def isHold (d : PyData) : Bool := isInt d (-1000000) 1000000 && decide (intOf d ≠ 0)
def isWay : PyData → Bool
  | .tuple ds => decide (ds.length ≤ 40) && ds.all isHold
  | _ => false
theorem sc_p_is_hold : FnScope ["value"] ["value"] (defScope s_p_is_hold) := ⟨rfl, rfl, rfl, by decide +kernel, rfl, by decide +kernel, by decide +kernel⟩
def rIsHold : Rel := fun as μ post => ∃ d, as = [.d d] ∧ post (.d (.bool (isHold d))) μ
theorem ok_p_is_hold {f : Addr} {fd : FuncData} (F : Fun K "is_hold" "is_hold" s_p_is_hold f fd) (hm : mg "is_hold" = some (.ref f)) (b : Binds K fd ["value"] []) (c_is_integer : Cal P w K mg base "is_integer" 1 [] rIsInt) {t : Tok} (m_MAX_HOLD : mg "MAX_HOLD" = some (.int 1000000 t)) : Cal P w K mg base "is_hold" 2 [] rIsHold := by
  refine cal_ok F sc_p_is_hold hm b .nil (fun _ => .nil) (fun as μ post h => ?_) (fun cdv A outer s H E as μ post D hr h hq hn => ?_)
  · obtain ⟨d, rfl, _⟩ := h; rfl
  · obtain ⟨d, rfl, hp⟩ := h
    have hu := hr.units
    refine go_ret (v_and (v_call c_is_integer hr (by decide) (a_cons (vl 0 rfl rfl) (a_cons (v_neg (v_globI rfl m_MAX_HOLD)) (a_cons (v_globI rfl m_MAX_HOLD) a_nil))) (fun post hp => ⟨d, _, _, rfl, hp⟩)) (q := decide (intOf d ≠ 0)) (fun h1 => ?_) (fun _ => rfl)) (hq _ _ hp)
    have e := isInt_int h1
    rw [e]
    refine v_eqd (v_one (v_ne hu (vl 0 rfl rfl) v_int now_d now_d rfl rfl)) ?_
    rw [eqv_int]
    show PyData.bool (!decide (intOf d = 0)) = .bool (decide (intOf d ≠ 0))
    by_cases c : intOf d = 0
    · rw [decide_eq_true c, decide_eq_false (by simpa using c)]; rfl
    · rw [decide_eq_false c, decide_eq_true c]; rfl
theorem sc_p_is_way : FnScope ["value", "hold"] ["value"] (defScope s_p_is_way) := ⟨rfl, rfl, rfl, by decide +kernel, rfl, by decide +kernel, by decide +kernel⟩
def rIsWay : Rel := fun as μ post => ∃ d, as = [.d d] ∧ post (.d (.bool (isWay d))) μ
/-- [f(x) for x in ds] of bools, nothing left out -/
theorem lc_bools {X : Cx} {ρ : En} {μ : Mu} {elt tg : Expr} {scope : Scope} {vs : List Nat} {ds : List PyData} {g : PyData → Bool} (nz : ds.length ≤ 1000) (turn : ∀ i (D : Addr) (acc : List PyData), i < ds.length → mget μ D = none → ∃ ρ' : En, Blk X scope (fun Y => PGc Y vs tg (.d (ds.getD i .none)) (forg ρ vs) ((D, .lst (acc.map .d)) :: μ) ρ') ∧
      Blk X scope (fun Y => PEv Y elt ρ' ((D, .lst (acc.map .d)) :: μ) (.d (.bool (g (ds.getD i .none)))) ((D, .lst (acc.map .d)) :: μ))) :
    LcOk X elt tg [] scope vs ρ ds.length (fun i => .d (ds.getD i .none)) μ Anys (fun i => ((ds.take i).map g).map .bool) (fun _ => μ) := by
  refine ⟨rfl, rfl, fun i _ => by simp; omega, Nat.le_trans nz (by decide), fun _ _ _ h => h, fun _ _ _ _ => trivial, fun i D hi nD => ?_⟩
  obtain ⟨ρ', h1, h2⟩ := turn i D (((ds.take i).map g).map .bool) hi nD
  refine ⟨ρ', true, μ, h1, fun s H C cl fp => ts_nil, fun _ => ⟨_, h2, ?_⟩, fun h => by cases h⟩
  rw [take_succ_get hi, List.map_append, List.map_append, getD_get hi]; rfl
theorem all_id_map {α : Type} (g : α → Bool) (l : List α) : (l.map g).all id = l.all g := by
  rw [List.all_map]; rfl
theorem ok_p_is_way {f : Addr} {fd : FuncData} (F : Fun K "is_way" "is_way" s_p_is_way f fd) (hm : mg "is_way" = some (.ref f)) (b : Binds K fd ["value"] []) (c_is_hold : Cal P w K mg base "is_hold" 2 [] rIsHold) (m_isinstance : mg "isinstance" = none) (m_tuple : mg "tuple" = none) (m_len : mg "len" = none) (m_all : mg "all" = none) : Cal P w K mg base "is_way" 3 [] rIsWay := by
  refine cal_ok F sc_p_is_way hm b .nil (fun _ => .nil) (fun as μ post h => ?_) (fun cdv A outer s H E as μ post D hr h hq hn => ?_)
  · obtain ⟨d, rfl, _⟩ := h; rfl
  · obtain ⟨d, rfl, hp⟩ := h
    refine go_ret (x := .d (.bool (isWay d))) ?_ (hq _ _ hp)
    refine v_eqd (v_and (v_isi m_isinstance (vl 0 rfl rfl) (v_ty m_tuple (by decide +kernel)) (kit_tuple d)) (q := isWay d) (fun h1 => ?_) (fun _ => rfl)) ?_
    · have : ∃ ds, d = .tuple ds := by cases d <;> simp [isT] at h1 ⊢
      obtain ⟨ds, e⟩ := this
      subst e
      refine v_eqd (v_and (q := ds.all isHold) (p := decide (ds.length ≤ 40)) (v_eqd (v_le (v_len m_len (vl 0 rfl rfl) nowS_t (k := ds.length) (by simp)) v_int) (by rw [decide_eq_decide.mpr (show ((ds.length : Nat) : Int) ≤ 40 ↔ ds.length ≤ 40 by omega)])) (fun h2 => v_one ?_) (fun _ => rfl)) rfl
      have h2 := of_decide_eq_true h2
      refine v_eqd (v_all (bs := (ds.take ds.length).map isHold) rfl m_all (v_lc (own := [("hold", 1)]) (s_tup (vl 0 rfl rfl)) (blkOk_by (N := ["value", "hold"]) (sc := defScope s_p_is_way) (own := [("hold", 1)]) (by decide +kernel)) (lc_bools (g := isHold) (by omega) (fun i D acc hi nD => ⟨_, fun s H C cl fp => gc_name 1 (by decide) sc_p_is_way.nd, fun s H C cl fp => v_call c_is_hold hr (by decide) (a_cons (vl 1 rfl rfl) a_nil) (fun post hp => ⟨_, rfl, hp⟩)⟩)) sc_p_is_way.nd) nowL_d) ?_
      rw [List.take_length, all_id_map]
    · cases d with
      | tuple ds => rfl
      | _ => rfl
end
section
variable {P : Program} {w : World} {K : PySem.W.Frag} {mg : Str → Option Value} {base : Heap}
/-! need_rule, need_distance, moved, less, plus, divisor -/
theorem sc_p_need_rule : FnScope ["value"] ["value"] (defScope s_p_need_rule) := ⟨rfl, rfl, rfl, by decide +kernel, rfl, by decide +kernel, by decide +kernel⟩
def rNeedRule : Rel := fun as μ post => ∃ d, as = [.d d] ∧ isRule d = true ∧ post (.d .none) μ
theorem ok_p_need_rule {f : Addr} {fd : FuncData} (F : Fun K "need_rule" "need_rule" s_p_need_rule f fd) (hm : mg "need_rule" = some (.ref f)) (b : Binds K fd ["value"] []) (c_is_rule : Cal P w K mg base "is_rule" 3 [] rIsRule) : Cal P w K mg base "need_rule" 4 [] rNeedRule := by
  refine cal_ok F sc_p_need_rule hm b .nil (fun _ => .nil) (fun as μ post h => ?_) (fun cdv A outer s H E as μ post D hr h hq hn => ?_)
  · obtain ⟨d, rfl, _⟩ := h; rfl
  · obtain ⟨d, rfl, h1, hp⟩ := h
    refine go_ifF (t_not (t_val (v_call c_is_rule hr (by decide) (a_cons (vl 0 rfl rfl) a_nil) (fun post hp => ⟨d, rfl, hp⟩)))) (by rw [h1]; rfl) (go_end hn (hq _ _ hp))
theorem sc_p_moved : FnScope ["steps", "ticks"] ["steps", "ticks"] (defScope s_p_moved) := ⟨rfl, rfl, rfl, by decide +kernel, rfl, by decide +kernel, by decide +kernel⟩
def rMoved : Rel := fun as μ post => ∃ st t, as = [.d (.tuple (st.map .int)), .d (.int t)] ∧ GoodR st 0 ∧ 0 ≤ t ∧ post (.d (.int (spanOf st t))) μ
theorem ok_p_moved {f : Addr} {fd : FuncData} (F : Fun K "moved" "moved" s_p_moved f fd) (hm : mg "moved" = some (.ref f)) (b : Binds K fd ["steps", "ticks"] []) (m_sum : mg "sum" = none) (m_max : mg "max" = none) (m_len : mg "len" = none) : Cal P w K mg base "moved" 1 [] rMoved := by
  refine cal_ok F sc_p_moved hm b .nil (fun _ => .nil) (fun as μ post h => ?_) (fun cdv A outer s H E as μ post D hr h hq hn => ?_)
  · obtain ⟨st, t, rfl, _⟩ := h; rfl
  · obtain ⟨st, t, rfl, g, h0, hp⟩ := h
    have gl1 := g.l1
    have hne : st ≠ [] := fun e => by rw [e] at gl1; simp at gl1
    have hlast := g.rng _ (List.getLast_mem hne)
    have et : t = ((t.toNat : Nat) : Int) := by omega
    refine go_ret (v_eqd (v_add (v_sumT (ns := st.take t.toNat) rfl m_sum (v_eqd (v_slT (vl 0 rfl rfl) o_no (o_int (vl 1 rfl rfl)) rfl) ?_)) (v_mul (v_max2 rfl m_max v_int (v_sub (vl 1 rfl rfl) (v_len m_len (vl 0 rfl rfl) nowS_t (k := st.length) (by simp)))) (v_ix (vl 0 rfl rfl) (v_neg v_int) nowS_t (atI_map Sl.d (atI_map PyData.int (atI_lastD hne)))) (.inr (by omega)))) ?_) (hq _ _ hp)
    · rw [et, cutL_to, ← List.map_take]; rfl
    · unfold spanOf
      rw [getLastD_of hne]
end
section
variable {P : Program} {w : World} {K : PySem.W.Frag} {mg : Str → Option Value} {base : Heap}
/-! hold_distance, way_distance -/
def movO (st : List Int) (h : Int) : Int := if 0 < h then spanOf st h else -spanOf st (-h)
def wayD (st : List Int) (hs : List Int) : Int := (hs.map (movO st)).sum
theorem sc_p_hold_distance : FnScope ["steps", "hold"] ["steps", "hold"] (defScope s_p_hold_distance) := ⟨rfl, rfl, rfl, by decide +kernel, rfl, by decide +kernel, by decide +kernel⟩
def rHoldD : Rel := fun as μ post => ∃ st h, as = [.d (.tuple (st.map .int)), .d (.int h)] ∧ GoodR st 0 ∧ post (.d (.int (movO st h))) μ
theorem ok_p_hold_distance {f : Addr} {fd : FuncData} (F : Fun K "hold_distance" "hold_distance" s_p_hold_distance f fd) (hm : mg "hold_distance" = some (.ref f)) (b : Binds K fd ["steps", "hold"] []) (c_moved : Cal P w K mg base "moved" 1 [] rMoved) : Cal P w K mg base "hold_distance" 2 [] rHoldD := by
  refine cal_ok F sc_p_hold_distance hm b .nil (fun _ => .nil) (fun as μ post h => ?_) (fun cdv A outer s H E as μ post D hr h hq hn => ?_)
  · obtain ⟨st, h, rfl, _⟩ := h; rfl
  · obtain ⟨st, h, rfl, g, hp⟩ := h
    refine go_ret (x := .d (.int (movO st h))) (v_if (t_gt (vl 1 rfl rfl) v_int) (fun hk => ?_) (fun hk => ?_)) (hq _ _ hp)
    · have hk := of_decide_eq_true hk
      refine v_eqd (v_call c_moved hr (by decide) (a_cons (vl 0 rfl rfl) (a_cons (vl 1 rfl rfl) a_nil)) (fun post hp => ⟨st, h, rfl, g, by omega, hp⟩)) ?_
      unfold movO; rw [if_pos hk]
    · have hk := of_decide_eq_false hk
      refine v_eqd (v_neg (v_call c_moved hr (by decide) (a_cons (vl 0 rfl rfl) (a_cons (v_neg (vl 1 rfl rfl)) a_nil)) (fun post hp => ⟨st, -h, rfl, g, by omega, hp⟩))) ?_
      unfold movO; rw [if_neg hk]
theorem sc_p_way_distance : FnScope ["steps", "way", "hold"] ["steps", "way"] (defScope s_p_way_distance) := ⟨rfl, rfl, rfl, by decide +kernel, rfl, by decide +kernel, by decide +kernel⟩
def rWayD : Rel := fun as μ post => ∃ st hs, as = [.d (.tuple (st.map .int)), .d (.tuple (hs.map .int))] ∧ GoodR st 0 ∧ hs.length ≤ 1000 ∧ post (.d (.int (wayD st hs))) μ
/-- [f(x) for x in ns] of ints, nothing left out -/
theorem lc_ints {X : Cx} {ρ : En} {μ : Mu} {elt tg : Expr} {scope : Scope} {vs : List Nat} {ns : List Int} {g : Int → Int} (nz : ns.length ≤ 1000) (turn : ∀ i (D : Addr) (acc : List PyData) (hi : i < ns.length), mget μ D = none → ∃ ρ' : En, Blk X scope (fun Y => PGc Y vs tg (.d (.int ns[i])) (forg ρ vs) ((D, .lst (acc.map .d)) :: μ) ρ') ∧
      Blk X scope (fun Y => PEv Y elt ρ' ((D, .lst (acc.map .d)) :: μ) (.d (.int (g ns[i]))) ((D, .lst (acc.map .d)) :: μ))) :
    LcOk X elt tg [] scope vs ρ (ns.map PyData.int).length (fun i => .d ((ns.map PyData.int).getD i .none)) μ Anys (fun i => ((ns.take i).map g).map .int) (fun _ => μ) := by
  refine ⟨rfl, rfl, fun i _ => by simp; omega, by rw [List.length_map]; exact Nat.le_trans nz (by decide), fun _ _ _ h => h, fun _ _ _ _ => trivial, fun i D hi nD => ?_⟩
  have hi : i < ns.length := by rw [List.length_map] at hi; exact hi
  obtain ⟨ρ', h1, h2⟩ := turn i D (((ns.take i).map g).map .int) hi nD
  rw [getD_int hi]
  refine ⟨ρ', true, μ, h1, fun s H C cl fp => ts_nil, fun _ => ⟨_, h2, ?_⟩, fun h => by cases h⟩
  rw [take_succ_get hi, List.map_append, List.map_append]; rfl
theorem ok_p_way_distance {f : Addr} {fd : FuncData} (F : Fun K "way_distance" "way_distance" s_p_way_distance f fd) (hm : mg "way_distance" = some (.ref f)) (b : Binds K fd ["steps", "way"] []) (c_hold_distance : Cal P w K mg base "hold_distance" 2 [] rHoldD) (m_sum : mg "sum" = none) : Cal P w K mg base "way_distance" 3 [] rWayD := by
  refine cal_ok F sc_p_way_distance hm b .nil (fun _ => .nil) (fun as μ post h => ?_) (fun cdv A outer s H E as μ post D hr h hq hn => ?_)
  · obtain ⟨st, hs, rfl, _⟩ := h; rfl
  · obtain ⟨st, hs, rfl, g, hl, hp⟩ := h
    refine go_ret (v_eqd (v_sum (ns := (hs.take (hs.map PyData.int).length).map (movO st)) rfl m_sum (v_lc (own := [("hold", 2)]) (s_tup (vl 1 rfl rfl)) (blkOk_by (N := ["steps", "way", "hold"]) (sc := defScope s_p_way_distance) (own := [("hold", 2)]) (by decide +kernel))
      (lc_ints hl (fun i D acc hi nD => ⟨_, fun s H C cl fp => gc_name 2 (by decide) sc_p_way_distance.nd, fun s H C cl fp => v_call c_hold_distance hr (by decide) (a_cons (vl 0 rfl rfl) (a_cons (vl 2 rfl rfl) a_nil)) (fun post hp => ⟨st, _, rfl, g, hp⟩)⟩)) sc_p_way_distance.nd) nowL_d) ?_) (hq _ _ hp)
    rw [List.length_map, List.take_length]; rfl
end
section
variable {P : Program} {w : World} {K : PySem.W.Frag} {mg : Str → Option Value} {base : Heap}
/-! need_way; the defs that raise -/
theorem sc_p_need_way : FnScope ["value"] ["value"] (defScope s_p_need_way) := ⟨rfl, rfl, rfl, by decide +kernel, rfl, by decide +kernel, by decide +kernel⟩
def rNeedWay : Rel := fun as μ post => ∃ d, as = [.d d] ∧ isWay d = true ∧ post (.d .none) μ
theorem ok_p_need_way {f : Addr} {fd : FuncData} (F : Fun K "need_way" "need_way" s_p_need_way f fd) (hm : mg "need_way" = some (.ref f)) (b : Binds K fd ["value"] []) (c_is_way : Cal P w K mg base "is_way" 3 [] rIsWay) : Cal P w K mg base "need_way" 4 [] rNeedWay := by
  refine cal_ok F sc_p_need_way hm b .nil (fun _ => .nil) (fun as μ post h => ?_) (fun cdv A outer s H E as μ post D hr h hq hn => ?_)
  · obtain ⟨d, rfl, _⟩ := h; rfl
  · obtain ⟨d, rfl, h1, hp⟩ := h
    refine go_ifF (t_not (t_val (v_call c_is_way hr (by decide) (a_cons (vl 0 rfl rfl) a_nil) (fun post hp => ⟨d, rfl, hp⟩)))) (by rw [h1]; rfl) (go_end hn (hq _ _ hp))
def xNeedWay (C0 : Addr) : RelX := fun as μ C => ∃ d, as = [.d d] ∧ isWay d = false ∧ C = C0
theorem okx_p_need_way {f : Addr} {fd : FuncData} {C0 : Addr} (F : Fun K "need_way" "need_way" s_p_need_way f fd) (hm : mg "need_way" = some (.ref f)) (b : Binds K fd ["value"] []) (c_is_way : Cal P w K mg base "is_way" 3 [] rIsWay) (e_InvalidWay : ErrC K mg "InvalidWay" C0) : CalX P w K mg base "need_way" 4 [] (xNeedWay C0) := by
  refine calX_ok F sc_p_need_way hm b .nil (fun _ => .nil) (fun as μ C h => ?_) (fun cdv A outer s H E as μ C D hr h hE => ?_)
  · obtain ⟨d, rfl, _⟩ := h; rfl
  · obtain ⟨d, rfl, h1, rfl⟩ := h
    refine go_ifT (t_not (t_val (v_call c_is_way hr (by decide) (a_cons (vl 0 rfl rfl) a_nil) (fun post hp => ⟨d, rfl, hp⟩)))) (by rw [h1]; rfl) ?_
    exact go_raise e_InvalidWay takesX fun σ H w e => hE H w.mu e
end
section
variable {P : Program} {w : World} {K : PySem.W.Frag} {mg : Str → Option Value} {base : Heap}
/-! ways of whole holds -/
def GoodW (hs : List Int) : Prop := hs.length ≤ 40 ∧ ∀ h ∈ hs, h ≠ 0 ∧ -1000000 ≤ h ∧ h ≤ 1000000
theorem good_isWay {hs : List Int} (g : GoodW hs) : isWay (.tuple (hs.map .int)) = true := by
  show (decide ((hs.map PyData.int).length ≤ 40) && (hs.map PyData.int).all isHold) = true
  rw [List.length_map, decide_eq_true g.1, Bool.true_and, List.all_eq_true]
  intro d hd
  obtain ⟨x, hx, rfl⟩ := List.mem_map.mp hd
  obtain ⟨h0, h1, h2⟩ := g.2 x hx
  simp [isHold, isInt, intOf, h0, h1, h2]
theorem GoodR.zero' {st : List Int} {pa : Int} (g : GoodR st pa) : GoodR st 0 := ⟨g.l1, g.l3, g.rng, g.srt, by decide, by decide⟩
end
section
variable {P : Program} {w : World} {K : PySem.W.Frag} {mg : Str → Option Value} {base : Heap}
/-! way_time, distance_of, time_of, track -/
def wayT (pa : Int) (hs : List Int) : Int := (hs.map fun h => (h.natAbs : Int) + pa).sum
theorem sc_p_way_time : FnScope ["pause", "way", "hold"] ["pause", "way"] (defScope s_p_way_time) := ⟨rfl, rfl, rfl, by decide +kernel, rfl, by decide +kernel, by decide +kernel⟩
def rWayT : Rel := fun as μ post => ∃ pa hs, as = [.d (.int pa), .d (.tuple (hs.map .int))] ∧ hs.length ≤ 1000 ∧ post (.d (.int (wayT pa hs))) μ
theorem ok_p_way_time {f : Addr} {fd : FuncData} (F : Fun K "way_time" "way_time" s_p_way_time f fd) (hm : mg "way_time" = some (.ref f)) (b : Binds K fd ["pause", "way"] []) (m_sum : mg "sum" = none) (m_abs : mg "abs" = none) : Cal P w K mg base "way_time" 1 [] rWayT := by
  refine cal_ok F sc_p_way_time hm b .nil (fun _ => .nil) (fun as μ post h => ?_) (fun cdv A outer s H E as μ post D hr h hq hn => ?_)
  · obtain ⟨pa, hs, rfl, _⟩ := h; rfl
  · obtain ⟨pa, hs, rfl, hl, hp⟩ := h
    refine go_ret (v_eqd (v_sum (ns := (hs.take (hs.map PyData.int).length).map fun h => (h.natAbs : Int) + pa) rfl m_sum (v_lc (own := [("hold", 2)]) (s_tup (vl 1 rfl rfl)) (blkOk_by (N := ["pause", "way", "hold"]) (sc := defScope s_p_way_time) (own := [("hold", 2)]) (by decide +kernel))
      (lc_ints (g := fun h => (h.natAbs : Int) + pa) hl (fun i D acc hi nD => ⟨_, fun s H C cl fp => gc_name 2 (by decide) sc_p_way_time.nd, fun s H C cl fp => v_eqd (v_add (i := ((hs[i].natAbs : Nat) : Int)) (j := pa) (v_abs m_abs (vl 2 rfl rfl)) (vl 0 rfl rfl)) rfl⟩)) sc_p_way_time.nd) nowL_d) ?_) (hq _ _ hp)
    rw [List.length_map, List.take_length]; rfl
theorem map_d_inj : ∀ {a b : List PyData}, a.map Sl.d = b.map Sl.d → a = b
  | [], [], _ => rfl
  | [], _ :: _, h => by cases h
  | _ :: _, [], h => by cases h
  | x :: a, y :: b, h => by
    rw [List.map_cons, List.map_cons] at h
    injection h with h1 h2
    injection h1 with h1
    rw [h1, map_d_inj h2]
theorem sc_p_distance_of : FnScope ["rule", "holds"] ([("rule" : Str)] ++ [("holds" : Str)]) (defScope s_p_distance_of) := ⟨rfl, rfl, rfl, by decide +kernel, rfl, by decide +kernel, by decide +kernel⟩
def rDistOf : Rel := fun as μ post => ∃ st pa hs, as = .d (ruleD st pa) :: (hs.map PyData.int).map .d ∧ GoodR st pa ∧ GoodW hs ∧ post (.d (.int (wayD st hs))) μ
theorem ok_p_distance_of {f : Addr} {fd : FuncData} (F : Fun K "distance_of" "distance_of" s_p_distance_of f fd) (hm : mg "distance_of" = some (.ref f)) (bs : BindsS fd ["rule"] "holds") (c_need_rule : Cal P w K mg base "need_rule" 4 [] rNeedRule) (c_need_way : Cal P w K mg base "need_way" 4 [] rNeedWay) (c_way_distance : Cal P w K mg base "way_distance" 3 [] rWayD) : CalS P w K mg base "distance_of" 5 rDistOf := by
  refine calS_ok F sc_p_distance_of hm bs (fun as μ post h => ?_) (fun cdv A outer s H E a ds μ post D hr h hq hn => ?_)
  · obtain ⟨st, pa, hs, rfl, _, gw, _⟩ := h
    exact ⟨_, _, rfl, by rw [List.length_map]; exact Nat.le_trans gw.1 (by decide)⟩
  · obtain ⟨st, pa, hs, e, g, gw, hp⟩ := h
    injection e with e1 e2
    obtain rfl := map_d_inj e2
    subst e1
    refine go_expr (v_call c_need_rule hr (by decide) (a_cons (vl 0 rfl rfl) a_nil) (fun post hp => ⟨_, rfl, good_isRule g, hp⟩)) ?_
    refine go_expr (v_call c_need_way hr (by decide) (a_cons (vl 1 rfl rfl) a_nil) (fun post hp => ⟨_, rfl, good_isWay gw, hp⟩)) ?_
    exact go_ret (v_call c_way_distance hr (by decide) (a_cons (v_ix (vl 0 rfl rfl) v_int nowS_t rfl) (a_cons (vl 1 rfl rfl) a_nil)) (fun post hp => ⟨st, hs, rfl, g.zero', Nat.le_trans gw.1 (by decide), hp⟩)) (hq _ _ hp)
def xDistOf (C0 : Addr) : RelX := fun as μ C => ∃ st pa ds, as = .d (ruleD st pa) :: ds.map .d ∧ GoodR st pa ∧ ds.length ≤ 1000 ∧ isWay (.tuple ds) = false ∧ C = C0
theorem okx_p_distance_of {f : Addr} {fd : FuncData} {C0 : Addr} (F : Fun K "distance_of" "distance_of" s_p_distance_of f fd) (hm : mg "distance_of" = some (.ref f)) (bs : BindsS fd ["rule"] "holds") (c_need_rule : Cal P w K mg base "need_rule" 4 [] rNeedRule) (x_need_way : CalX P w K mg base "need_way" 4 [] (xNeedWay C0)) : CalSX P w K mg base "distance_of" 5 (xDistOf C0) := by
  refine calSX_ok F sc_p_distance_of hm bs (fun as μ C h => ?_) (fun cdv A outer s H E a ds μ C D hr h hE => ?_)
  · obtain ⟨st, pa, ds, rfl, _, hl, _⟩ := h
    exact ⟨_, _, rfl, Nat.le_trans hl (by decide)⟩
  · obtain ⟨st, pa, ds', e, g, hl, hw, rfl⟩ := h
    injection e with e1 e2
    obtain rfl := map_d_inj e2
    subst e1
    refine go_expr (v_call c_need_rule hr (by decide) (a_cons (vl 0 rfl rfl) a_nil) (fun post hp => ⟨_, rfl, good_isRule g, hp⟩)) ?_
    exact go_exprz (v_callX x_need_way takesX hr (by decide) (a_cons (vl 1 rfl rfl) a_nil) ⟨_, rfl, hw, rfl⟩) fun σ H w e => hE H w.mu e
theorem sc_p_time_of : FnScope ["rule", "holds"] ([("rule" : Str)] ++ [("holds" : Str)]) (defScope s_p_time_of) := ⟨rfl, rfl, rfl, by decide +kernel, rfl, by decide +kernel, by decide +kernel⟩
def rTimeOf : Rel := fun as μ post => ∃ st pa hs, as = .d (ruleD st pa) :: (hs.map PyData.int).map .d ∧ GoodR st pa ∧ GoodW hs ∧ post (.d (.int (wayT pa hs))) μ
theorem ok_p_time_of {f : Addr} {fd : FuncData} (F : Fun K "time_of" "time_of" s_p_time_of f fd) (hm : mg "time_of" = some (.ref f)) (bs : BindsS fd ["rule"] "holds") (c_need_rule : Cal P w K mg base "need_rule" 4 [] rNeedRule) (c_need_way : Cal P w K mg base "need_way" 4 [] rNeedWay) (c_way_time : Cal P w K mg base "way_time" 1 [] rWayT) : CalS P w K mg base "time_of" 5 rTimeOf := by
  refine calS_ok F sc_p_time_of hm bs (fun as μ post h => ?_) (fun cdv A outer s H E a ds μ post D hr h hq hn => ?_)
  · obtain ⟨st, pa, hs, rfl, _, gw, _⟩ := h
    exact ⟨_, _, rfl, by rw [List.length_map]; exact Nat.le_trans gw.1 (by decide)⟩
  · obtain ⟨st, pa, hs, e, g, gw, hp⟩ := h
    injection e with e1 e2
    obtain rfl := map_d_inj e2
    subst e1
    refine go_expr (v_call c_need_rule hr (by decide) (a_cons (vl 0 rfl rfl) a_nil) (fun post hp => ⟨_, rfl, good_isRule g, hp⟩)) ?_
    refine go_expr (v_call c_need_way hr (by decide) (a_cons (vl 1 rfl rfl) a_nil) (fun post hp => ⟨_, rfl, good_isWay gw, hp⟩)) ?_
    exact go_ret (v_call c_way_time hr (by decide) (a_cons (v_ix (vl 0 rfl rfl) v_int nowS_t rfl) (a_cons (vl 1 rfl rfl) a_nil)) (fun post hp => ⟨pa, hs, rfl, Nat.le_trans gw.1 (by decide), hp⟩)) (hq _ _ hp)
theorem okx_p_time_of {f : Addr} {fd : FuncData} {C0 : Addr} (F : Fun K "time_of" "time_of" s_p_time_of f fd) (hm : mg "time_of" = some (.ref f)) (bs : BindsS fd ["rule"] "holds") (c_need_rule : Cal P w K mg base "need_rule" 4 [] rNeedRule) (x_need_way : CalX P w K mg base "need_way" 4 [] (xNeedWay C0)) : CalSX P w K mg base "time_of" 5 (xDistOf C0) := by
  refine calSX_ok F sc_p_time_of hm bs (fun as μ C h => ?_) (fun cdv A outer s H E a ds μ C D hr h hE => ?_)
  · obtain ⟨st, pa, ds, rfl, _, hl, _⟩ := h
    exact ⟨_, _, rfl, Nat.le_trans hl (by decide)⟩
  · obtain ⟨st, pa, ds', e, g, hl, hw, rfl⟩ := h
    injection e with e1 e2
    obtain rfl := map_d_inj e2
    subst e1
    refine go_expr (v_call c_need_rule hr (by decide) (a_cons (vl 0 rfl rfl) a_nil) (fun post hp => ⟨_, rfl, good_isRule g, hp⟩)) ?_
    exact go_exprz (v_callX x_need_way takesX hr (by decide) (a_cons (vl 1 rfl rfl) a_nil) ⟨_, rfl, hw, rfl⟩) fun σ H w e => hE H w.mu e
/-! track -/
theorem sc_p_track : GScope ["rule", "hold", "ticks"] ["rule", "hold"] (defScope s_p_track) := ⟨rfl, rfl, rfl, by decide +kernel, rfl, by decide +kernel, by decide +kernel⟩
def trk (st : List Int) (h : Int) (i : Nat) : Int := movO st (if 0 < h then 1 + (i : Int) else -(1 + (i : Int)))
def rTrack : RelG := fun as μ out => ∃ st pa h, as = [.d (ruleD st pa), .d (.int h)] ∧ GoodR st pa ∧ -1000 ≤ h ∧ h ≤ 1000 ∧ h ≠ 0 ∧ out = (List.range h.natAbs).map (trk st h)
theorem ok_p_track {f : Addr} {fd : FuncData} (F : Fun K "track" "track" s_p_track f fd) (hm : mg "track" = some (.ref f)) (b : Binds K fd ["rule", "hold"] []) (c_need_rule : Cal P w K mg base "need_rule" 4 [] rNeedRule) (c_is_integer : Cal P w K mg base "is_integer" 1 [] rIsInt) (c_hold_distance : Cal P w K mg base "hold_distance" 2 [] rHoldD) (m_range : mg "range" = none) (m_abs : mg "abs" = none) : GCal2 P w K mg base "track" 5 rTrack := by
  refine gcal2_ok F sc_p_track hm b (fun as μ out h => ?_) (fun cdv A outer s H E pn as μ out Q G Y Fd hr h hQ => ?_)
  · obtain ⟨st, pa, h, rfl, _⟩ := h; rfl
  · obtain ⟨st, pa, h, rfl, g, h1, h2, h3, rfl⟩ := h
    have hu := hr.units
    have hi : isInt (.int h) (-1000) 1000 = true := by
      show (decide (-1000 ≤ h) && decide (h ≤ 1000)) = true
      rw [decide_eq_true h1, decide_eq_true h2]; rfl
    refine fg_expr Fd (v_call c_need_rule hr (by decide) (a_cons (vl 0 rfl rfl) a_nil) (fun post hp => ⟨_, rfl, good_isRule g, hp⟩)) ?_
    refine fg_ifF Fd (t_w (w_or (p := false) (q := false) (t_eqb (t_not (t_val (v_call c_is_integer hr (by decide) (a_cons (vl 1 rfl rfl) (a_cons (v_neg v_int) (a_cons v_int a_nil))) (fun post hp => ⟨_, _, _, rfl, hp⟩)))) (by rw [hi]; rfl)) (fun _ => w_or1 (t_eqb (t_eq hu (vl 1 rfl rfl) v_int now_d now_d rfl rfl) (by rw [eqv_int, decide_eq_false h3]))) (fun z => by cases z))) rfl ?_
    refine fg_forY 2 Fd (s_range2 m_range v_int (v_add (v_abs m_abs (vl 1 rfl rfl)) v_int) (by omega) (n := h.natAbs) (by omega)) owns_gcx sc_p_track.nd rfl (out := trk st h) (fun i hi => ?_) (by show 0 + h.natAbs ≤ sizeLine; exact Nat.le_trans (show 0 + h.natAbs ≤ 1000 by omega) (by decide)) (fun σ H' w e => ?_)
    · refine v_call c_hold_distance hr (by decide) (a_cons (v_ix (vl 0 rfl rfl) v_int nowS_t rfl) (a_cons (v_if (x := .d (.int (if 0 < h then 1 + (i : Int) else -(1 + (i : Int))))) (t_gt (vl 1 rfl rfl) v_int) (fun hk => ?_) (fun hk => ?_)) a_nil)) (fun post hp => ⟨st, _, rfl, g.zero', hp⟩)
      · rw [if_pos (of_decide_eq_true hk)]; exact vl 2 rfl rfl
      · rw [if_neg (of_decide_eq_false hk)]; exact v_neg (vl 2 rfl rfl)
    · have z := hQ σ H' w.mu e
      rw [List.map_map] at z
      exact z
def xTrack (C0 : Addr) : RelX := fun as μ C => ∃ st pa d, as = [.d (ruleD st pa), .d d] ∧ GoodR st pa ∧ (isInt d (-1000) 1000 = false ∨ d = .int 0) ∧ C = C0
theorem okx_p_track {f : Addr} {fd : FuncData} {C0 : Addr} (F : Fun K "track" "track" s_p_track f fd) (hm : mg "track" = some (.ref f)) (b : Binds K fd ["rule", "hold"] []) (c_need_rule : Cal P w K mg base "need_rule" 4 [] rNeedRule) (c_is_integer : Cal P w K mg base "is_integer" 1 [] rIsInt) (e_InvalidHold : ErrC K mg "InvalidHold" C0) : GCalX P w K mg base "track" 5 (xTrack C0) := by
  refine gcalX_ok F sc_p_track hm b (fun as μ C h => ?_) (fun cdv A outer s H E pn as μ C D hr h hE => ?_)
  · obtain ⟨st, pa, d, rfl, _⟩ := h; rfl
  · obtain ⟨st, pa, d, rfl, g, hd, rfl⟩ := h
    have hu := hr.units
    refine go_expr (v_call c_need_rule hr (by decide) (a_cons (vl 0 rfl rfl) a_nil) (fun post hp => ⟨_, rfl, good_isRule g, hp⟩)) ?_
    refine go_ifT (k := true) ?_ rfl (go_raise e_InvalidHold takesGN fun σ H w e => hE H w.mu e)
    cases hi : isInt d (-1000) 1000 with
    | false => exact t_w (w_or (p := true) (q := true) (t_eqb (t_not (t_val (v_call c_is_integer hr (by decide) (a_cons (vl 1 rfl rfl) (a_cons (v_neg v_int) (a_cons v_int a_nil))) (fun post hp => ⟨_, _, _, rfl, hp⟩)))) (by rw [hi]; rfl)) (fun z => by cases z) (fun _ => rfl))
    | true =>
      rcases hd with z | rfl
      · rw [hi] at z; cases z
      · exact t_w (w_or (p := false) (q := true) (t_eqb (t_not (t_val (v_call c_is_integer hr (by decide) (a_cons (vl 1 rfl rfl) (a_cons (v_neg v_int) (a_cons v_int a_nil))) (fun post hp => ⟨_, _, _, rfl, hp⟩)))) (by rw [hi]; rfl)) (fun _ => w_or1 (t_eqb (t_eq hu (vl 1 rfl rfl) v_int now_d now_d rfl rfl) (by rw [eqv_int]; rfl))) (fun z => by cases z))
end
section
variable {P : Program} {w : World} {K : PySem.W.Frag} {mg : Str → Option Value} {base : Heap}
/-! _law_error: the name of the error that a call raises -/
theorem sc_error : FnScope ["call", "a", "b", "c", "kinds", "e", "rows", "name", "there"] ["call", "a", "b", "c"] (defScope s_error) := ⟨rfl, rfl, rfl, by decide +kernel, rfl, by decide +kernel, by decide +kernel⟩
def errNames : List Str := ["InvalidRule", "InvalidHold", "InvalidWay", "InvalidDistance", "InvalidNumber", "InvalidSteps", "InvalidSightings", "NothingToUndo"]
/-- what must be known of the class C of the name n, so that the law tells its errors -/
structure ErrS (K : PySem.W.Frag) (mg : Str → Option Value) (CH : Addr) (n : Str) (C : Addr) : Prop where
  ec : ExcC K C
  ex : PySem.W.exmOne K (.ref C) (.ref CH) = some true
  kit : ∀ m ∈ errNames, ∃ Cm, mg m = some (.ref Cm) ∧ PySem.W.kitOne K (.ref C) (.ref Cm) = some (decide (m = n))
  kv : PySem.W.kitOne K (.ref C) (.type "ValueError") = some true
  hn : n ∈ errNames
def rError (P : Program) (w : World) (K : PySem.W.Frag) (mg : Str → Option Value) (base : Heap) (CH : Addr) : Rel := fun as μ post => ∃ x a b c n C R, as = [x, a, b, c] ∧ x ≠ .no ∧ a ≠ .no ∧ b ≠ .no ∧ c ≠ .no ∧ CallX P w K mg base 12 R x ∧ R [a, b, c] μ C ∧ ErrS K mg CH n C ∧ post (.d (.list [.str n, .bool true])) μ
def rowD (n m : Str) : PyData := .tuple [.str m, .bool (decide (m = n))]
theorem err_filter {n : Str} (h : n ∈ errNames) : (errNames.filter fun m => decide (m = n)) = [n] := by
  simp only [errNames, List.mem_cons, List.not_mem_nil, or_false] at h
  rcases h with rfl | rfl | rfl | rfl | rfl | rfl | rfl | rfl <;> decide
theorem ok_error {f : Addr} {fd : FuncData} {CH : Addr} (F : Fun K "_law_error" "_law_error" s_error f fd) (hm : mg "_law_error" = some (.ref f)) (b : Binds K fd ["call", "a", "b", "c"] []) (g_HoldError : mg "HoldError" = some (.ref CH)) (m_isinstance : mg "isinstance" = none) (m_ValueError : mg "ValueError" = none) : Cal P w K mg base "_law_error" 13 [] (rError P w K mg base CH) := by
  refine cal_ok F sc_error hm b .nil (fun _ => .nil) (fun as μ post h => ?_) (fun cdv A outer s H E as μ post D hr h hq hn => ?_)
  · obtain ⟨x, a, b, c, n, C, R, rfl, _⟩ := h; rfl
  · obtain ⟨x, a, b, c, n, C, R, rfl, nx, na, nb, nc, hcall, hR, S, hp⟩ := h
    refine go_set 4 (v_lst ad_nil sz) ?_ sc_error.nd
    refine go_try (i := 5) (c := .ref CH) (fun C' ρ1 μ1 => C' = C ∧ ρ1 = [x, a, b, c, .d (.list []), .no, .no, .no, .no] ∧ μ1 = μ) sc_error.nd ⟨rfl, rfl, .inl g_HoldError⟩ (fun pn xe Wt tk hpo hw => ?_) (fun C' ρ1 μ1 hz => ?_)
    · exact go_exprz (v_callC (i := 0) hcall tk hr rfl rfl (a_cons (vl 1 rfl rfl na) (a_cons (vl 2 rfl rfl nb) (a_cons (vl 3 rfl rfl nc) a_nil))) hR) fun σ H w e => hw C _ _ σ H ⟨rfl, rfl, rfl⟩ w e
    · obtain ⟨rfl, rfl, rfl⟩ := hz
      refine ⟨S.ex, fun ad oe pn hz hf => ?_⟩
      obtain ⟨g1, k1, c1⟩ := S.kit "InvalidRule" (by decide)
      obtain ⟨g2, k2, c2⟩ := S.kit "InvalidHold" (by decide)
      obtain ⟨g3, k3, c3⟩ := S.kit "InvalidWay" (by decide)
      obtain ⟨g4, k4, c4⟩ := S.kit "InvalidDistance" (by decide)
      obtain ⟨g5, k5, c5⟩ := S.kit "InvalidNumber" (by decide)
      obtain ⟨g6, k6, c6⟩ := S.kit "InvalidSteps" (by decide)
      obtain ⟨g7, k7, c7⟩ := S.kit "InvalidSightings" (by decide)
      obtain ⟨g8, k8, c8⟩ := S.kit "NothingToUndo" (by decide)
      have hot : L2H.Hot1 ((A.deeper (envOfC "_law_error" (defScope s_error) s.heap.objs.size f cdv)).mark (some (.ref ad))) (ad, oe) := by
        obtain ⟨vs, hv⟩ := hf
        exact ⟨rfl, vs, hv, hz.2.2 vs hv⟩
      refine go_set 6 (v_lst (ds := [rowD n "InvalidRule", rowD n "InvalidHold"]) (ad_cons (v_tup (ad_cons v_str (ad_cons (v_isE S.ec hz hf m_isinstance (vl 5 rfl rfl) (v_cls k1) relv_ref c1) ad_nil)) sz) (ad_cons (v_tup (ad_cons v_str (ad_cons (v_isE S.ec hz hf m_isinstance (vl 5 rfl rfl) (v_cls k2) relv_ref c2) ad_nil)) sz) ad_nil)) sz) ?_ sc_error.nd
      refine go_set 6 (v_catL (es := [rowD n "InvalidWay"]) (vl 6 rfl rfl) (v_lst (ad_cons (v_tup (ad_cons v_str (ad_cons (v_isE S.ec hz hf m_isinstance (vl 5 rfl rfl) (v_cls k3) relv_ref c3) ad_nil)) sz) ad_nil) sz) nowL_d nowL_d sz) ?_ sc_error.nd
      refine go_set 6 (v_catL (es := [rowD n "InvalidDistance"]) (vl 6 rfl rfl) (v_lst (ad_cons (v_tup (ad_cons v_str (ad_cons (v_isE S.ec hz hf m_isinstance (vl 5 rfl rfl) (v_cls k4) relv_ref c4) ad_nil)) sz) ad_nil) sz) nowL_d nowL_d sz) ?_ sc_error.nd
      refine go_set 6 (v_catL (es := [rowD n "InvalidNumber"]) (vl 6 rfl rfl) (v_lst (ad_cons (v_tup (ad_cons v_str (ad_cons (v_isE S.ec hz hf m_isinstance (vl 5 rfl rfl) (v_cls k5) relv_ref c5) ad_nil)) sz) ad_nil) sz) nowL_d nowL_d sz) ?_ sc_error.nd
      refine go_set 6 (v_catL (es := [rowD n "InvalidSteps"]) (vl 6 rfl rfl) (v_lst (ad_cons (v_tup (ad_cons v_str (ad_cons (v_isE S.ec hz hf m_isinstance (vl 5 rfl rfl) (v_cls k6) relv_ref c6) ad_nil)) sz) ad_nil) sz) nowL_d nowL_d sz) ?_ sc_error.nd
      refine go_setw 6 (w_catL (xs := [rowD n "InvalidRule", rowD n "InvalidHold", rowD n "InvalidWay", rowD n "InvalidDistance", rowD n "InvalidNumber", rowD n "InvalidSteps"].map .d) (ys := [rowD n "InvalidSightings"].map .d) (vl 6 rfl rfl) (v_lst (ad_cons (v_tup (ad_cons v_str (ad_cons (v_isE S.ec hz hf m_isinstance (vl 5 rfl rfl) (v_cls k7) relv_ref c7) ad_nil)) sz) ad_nil) sz) nowL_d nowL_d sz) (fun y ν hy => ?_) sc_error.nd
      obtain ⟨q, nq, rfl, rfl⟩ := hy
      have hget : ∀ xs : List Sl, mget ((q, MO.lst xs) :: μ1) q = some (.lst xs) := fun xs => by rw [mget_cons, if_pos rfl]
      refine go_expr (v_append (x := .d (rowD n "NothingToUndo")) (vl 6 rfl rfl) (v_tup (ad_cons v_str (ad_cons (v_isE S.ec hz hf m_isinstance (vl 5 rfl rfl) (v_cls k8) relv_ref c8) ad_nil)) sz) ⟨_, hget _⟩ (hget _) (sz (n := 8))) ?_
      rw [mset_cons]
      have exs : ([rowD n "InvalidRule", rowD n "InvalidHold", rowD n "InvalidWay", rowD n "InvalidDistance", rowD n "InvalidNumber", rowD n "InvalidSteps"].map Sl.d ++ [rowD n "InvalidSightings"].map .d ++ [.d (rowD n "NothingToUndo")]) = (errNames.map (rowD n)).map .d := rfl
      rw [exs]
      refine go_set 4 (v_catL (ds := ((errNames.take 8).filter fun m => decide (m = n)).map .str) (es := [.bool true]) (v_lcH (own := [("name", 7), ("there", 8)]) (nn := 8) (acc := fun i => ((errNames.take i).filter fun m => decide (m = n)).map .str) (ms := fun _ => (q, MO.lst ((errNames.map (rowD n)).map .d)) :: μ1) hot List.mem_cons_self
          (s_mlistH (vl 6 rfl rfl) (hget _)) (blkOk_by (N := ["call", "a", "b", "c", "kinds", "e", "rows", "name", "there"]) (sc := defScope s_error) (own := [("name", 7), ("there", 8)]) (by decide +kernel)) ⟨rfl, rfl, fun i _ => ?_, sz, fun _ _ _ h => h, fun i D' _ nD => ?_, fun i D' hi nD => ?_⟩ sc_error.nd)
        (v_lst (ad_cons (v_isE S.ec hz hf m_isinstance (vl 5 rfl rfl) (v_ty m_ValueError (by decide +kernel)) relv_ty S.kv) ad_nil) sz) nowL_d nowL_d ?_) ?_ sc_error.nd
      · simp only [List.length_map]
        exact Nat.le_trans (List.length_filter_le _ _) (by rw [List.length_take]; exact Nat.min_le_left _ _)
      · have ne : q ≠ D' := fun z => by rw [← z, hget] at nD; cases nD
        rw [mget_cons, if_neg ne]
        exact hget _
      · have hi8 : i < errNames.length := hi
        have eit : ((errNames.map (rowD n)).map Sl.d).getD i .no = .d (.tuple [.str errNames[i], .bool (decide (errNames[i] = n))]) := by
          rw [List.getD_eq_getElem?_getD, List.getElem?_map, List.getElem?_map, List.getElem?_eq_getElem hi8]; rfl
        rw [eit]
        refine ⟨_, decide (errNames[i] = n), _, fun s H C cl fp => gc_tupH (HotF.hotC_blk hot) (gcs_cons (gc_name 7 (by decide) sc_error.nd) (gcs_cons (gc_name 8 (by decide) sc_error.nd) gcs_nil)) rfl, fun s H C cl fp => ts_one (t_val (vl 8 rfl rfl)), fun hk => ⟨.str errNames[i], fun s H C cl fp => vl 7 rfl rfl, ?_⟩, fun hk => ⟨rfl, ?_⟩⟩
        · rw [take_succ_get hi8, List.filter_append, List.map_append]
          congr 1
          rw [List.filter_cons, if_pos hk]; rfl
        · rw [take_succ_get hi8, List.filter_append]
          rw [List.filter_cons, if_neg (by rw [hk]; simp)]; simp
      · rw [List.length_map]
        exact Nat.le_trans (Nat.add_le_add_right (List.length_filter_le _ _) _) (sz (n := 9))
      · refine go_suite ?_
        refine go_ret (vl 4 rfl rfl) (rt_drop (q := q) ?_)
        have e8 : errNames.take 8 = errNames := rfl
        have e : mdrop ((q, MO.lst ((errNames.map (rowD n)).map Sl.d)) :: μ1) q = μ1 := by
          show (if q = q then mdrop μ1 q else _) = _
          rw [if_pos rfl, mdrop_none nq]
        rw [e8, err_filter S.hn, e]
        exact hq _ _ hp
/-! the classes of errors, from what the top has left -/
theorem kit_ref {C Cm : Addr} {b : Bool} (hi : PySem.W.isClsIn K Cm = true) (ht : PySem.W.typeIn K (.ref Cm) = some (.type "type")) (h : PySem.W.subIn K (.ref C) (.ref Cm) = some b) (hs : PySem.W.subIn K (.ref C) (.ref C) = some true) : PySem.W.kitOne K (.ref C) (.ref Cm) = some b := by
  unfold PySem.W.kitOne
  by_cases q : (Value.ref C == Value.ref Cm) = true
  · rw [if_pos q]
    have e : C = Cm := Value.ref.inj (beq_iff_eq.mp q)
    rw [← e, hs] at h
    exact h
  · rw [if_neg q]
    have hi' : (PySem.W.clsIn K Cm).isSome = true := hi
    show (if ((PySem.W.clsIn K Cm).isSome && PySem.W.typeIn K (.ref Cm) == some (.type "type")) = true then PySem.W.subIn K (.ref C) (.ref Cm) else none) = some b
    rw [if_pos (by rw [hi', ht]; rfl)]
    exact h
theorem kit_ve {C : Addr} (h : PySem.W.subIn K (.ref C) (.type "ValueError") = some true) : PySem.W.kitOne K (.ref C) (.type "ValueError") = some true := by
  unfold PySem.W.kitOne
  rw [if_neg (show ¬ (Value.ref C == Value.type "ValueError") = true from fun z => by
    have := beq_iff_eq.mp z
    cases this)]
  show (if PySem.W.kitMeta "ValueError" = true then PySem.W.subIn K (.ref C) (.type "ValueError") else none) = some true
  rw [if_pos (by decide +kernel)]
  exact h
theorem kit_all {C : Addr} {n : Str} {C1 C2 C3 C4 C5 C6 C7 C8 : Addr} (g1 : mg "InvalidRule" = some (.ref C1)) (g2 : mg "InvalidHold" = some (.ref C2)) (g3 : mg "InvalidWay" = some (.ref C3)) (g4 : mg "InvalidDistance" = some (.ref C4)) (g5 : mg "InvalidNumber" = some (.ref C5)) (g6 : mg "InvalidSteps" = some (.ref C6)) (g7 : mg "InvalidSightings" = some (.ref C7)) (g8 : mg "NothingToUndo" = some (.ref C8))
    (k1 : PySem.W.kitOne K (.ref C) (.ref C1) = some (decide (("InvalidRule" : Str) = n))) (k2 : PySem.W.kitOne K (.ref C) (.ref C2) = some (decide (("InvalidHold" : Str) = n))) (k3 : PySem.W.kitOne K (.ref C) (.ref C3) = some (decide (("InvalidWay" : Str) = n))) (k4 : PySem.W.kitOne K (.ref C) (.ref C4) = some (decide (("InvalidDistance" : Str) = n)))
    (k5 : PySem.W.kitOne K (.ref C) (.ref C5) = some (decide (("InvalidNumber" : Str) = n))) (k6 : PySem.W.kitOne K (.ref C) (.ref C6) = some (decide (("InvalidSteps" : Str) = n))) (k7 : PySem.W.kitOne K (.ref C) (.ref C7) = some (decide (("InvalidSightings" : Str) = n))) (k8 : PySem.W.kitOne K (.ref C) (.ref C8) = some (decide (("NothingToUndo" : Str) = n))) :
    ∀ m ∈ errNames, ∃ Cm, mg m = some (.ref Cm) ∧ PySem.W.kitOne K (.ref C) (.ref Cm) = some (decide (m = n)) := fun m hm => by
  simp only [errNames, List.mem_cons, List.not_mem_nil, or_false] at hm
  rcases hm with rfl | rfl | rfl | rfl | rfl | rfl | rfl | rfl
  · exact ⟨_, g1, k1⟩
  · exact ⟨_, g2, k2⟩
  · exact ⟨_, g3, k3⟩
  · exact ⟨_, g4, k4⟩
  · exact ⟨_, g5, k5⟩
  · exact ⟨_, g6, k6⟩
  · exact ⟨_, g7, k7⟩
  · exact ⟨_, g8, k8⟩
end
section
variable {P : Program} {w : World} {K : PySem.W.Frag} {mg : Str → Option Value} {base : Heap}
/-! _law_moves, _law_goes -/
theorem sc_moves : FnScope ["steps", "hold"] ["steps", "hold"] (defScope s_moves) := ⟨rfl, rfl, rfl, by decide +kernel, rfl, by decide +kernel, by decide +kernel⟩
def rMoves : Rel := fun as μ post => ∃ st h, as = [.d (.tuple (st.map .int)), .d (.int h)] ∧ GoodR st 0 ∧ -(2 ^ 61) < h ∧ h < 2 ^ 61 ∧ post (.d (.int (movO st h))) μ
theorem ok_moves {f : Addr} {fd : FuncData} (F : Fun K "_law_moves" "_law_moves" s_moves f fd) (hm : mg "_law_moves" = some (.ref f)) (b : Binds K fd ["steps", "hold"] []) (c_span : Cal P w K mg base "_law_span" 1 [] rSpan) : Cal P w K mg base "_law_moves" 2 [] rMoves := by
  refine cal_ok F sc_moves hm b .nil (fun _ => .nil) (fun as μ post h => ?_) (fun cdv A outer s H E as μ post D hr h hq hn => ?_)
  · obtain ⟨st, h, rfl, _⟩ := h; rfl
  · obtain ⟨st, h, rfl, g, h1, h2, hp⟩ := h
    refine go_ret (x := .d (.int (movO st h))) (v_if (t_gt (vl 1 rfl rfl) v_int) (fun hk => ?_) (fun hk => ?_)) (hq _ _ hp)
    · have hk := of_decide_eq_true hk
      refine v_eqd (v_call c_span hr (by decide) (a_cons (vl 0 rfl rfl) (a_cons (vl 1 rfl rfl) a_nil)) (fun post hp => ⟨st, h, rfl, g, h1, h2, hp⟩)) ?_
      unfold movO; rw [if_pos hk]
    · have hk := of_decide_eq_false hk
      refine v_eqd (v_sub v_int (v_call c_span hr (by decide) (a_cons (vl 0 rfl rfl) (a_cons (v_sub v_int (vl 1 rfl rfl)) a_nil)) (fun post hp => ⟨st, 0 - h, rfl, g, by omega, by omega, hp⟩))) ?_
      unfold movO; rw [if_neg hk, Int.zero_sub, Int.zero_sub]
theorem sc_goes : FnScope ["steps", "way", "hold"] ["steps", "way"] (defScope s_goes) := ⟨rfl, rfl, rfl, by decide +kernel, rfl, by decide +kernel, by decide +kernel⟩
def rGoes : Rel := fun as μ post => ∃ st hs, as = [.d (.tuple (st.map .int)), .d (.tuple (hs.map .int))] ∧ GoodR st 0 ∧ hs.length ≤ 1000 ∧ (∀ h ∈ hs, -(2 ^ 61) < h ∧ h < 2 ^ 61) ∧ post (.d (.int (wayD st hs))) μ
theorem ok_goes {f : Addr} {fd : FuncData} (F : Fun K "_law_goes" "_law_goes" s_goes f fd) (hm : mg "_law_goes" = some (.ref f)) (b : Binds K fd ["steps", "way"] []) (c_moves : Cal P w K mg base "_law_moves" 2 [] rMoves) (m_sum : mg "sum" = none) : Cal P w K mg base "_law_goes" 3 [] rGoes := by
  refine cal_ok F sc_goes hm b .nil (fun _ => .nil) (fun as μ post h => ?_) (fun cdv A outer s H E as μ post D hr h hq hn => ?_)
  · obtain ⟨st, hs, rfl, _⟩ := h; rfl
  · obtain ⟨st, hs, rfl, g, hl, hh, hp⟩ := h
    refine go_ret (v_eqd (v_sum (ns := (hs.take (hs.map PyData.int).length).map (movO st)) rfl m_sum (v_lc (own := [("hold", 2)]) (s_tup (vl 1 rfl rfl)) (blkOk_by (N := ["steps", "way", "hold"]) (sc := defScope s_goes) (own := [("hold", 2)]) (by decide +kernel))
      (lc_ints hl (fun i D acc hi nD => ⟨_, fun s H C cl fp => gc_name 2 (by decide) sc_goes.nd, fun s H C cl fp => v_call c_moves hr (by decide) (a_cons (vl 0 rfl rfl) (a_cons (vl 2 rfl rfl) a_nil)) (fun post hp => ⟨st, _, rfl, g, (hh _ (List.getElem_mem hi)).1, (hh _ (List.getElem_mem hi)).2, hp⟩)⟩)) sc_goes.nd) nowL_d) ?_) (hq _ _ hp)
    rw [List.length_map, List.take_length]; rfl
end
section
variable {P : Program} {w : World} {K : PySem.W.Frag} {mg : Str → Option Value} {base : Heap}
/-! _law_lasts, _law_hold -/
theorem sc_lasts : FnScope ["pause", "way", "hold"] ["pause", "way"] (defScope s_lasts) := ⟨rfl, rfl, rfl, by decide +kernel, rfl, by decide +kernel, by decide +kernel⟩
theorem ok_lasts {f : Addr} {fd : FuncData} (F : Fun K "_law_lasts" "_law_lasts" s_lasts f fd) (hm : mg "_law_lasts" = some (.ref f)) (b : Binds K fd ["pause", "way"] []) (m_sum : mg "sum" = none) (m_abs : mg "abs" = none) : Cal P w K mg base "_law_lasts" 1 [] rWayT := by
  refine cal_ok F sc_lasts hm b .nil (fun _ => .nil) (fun as μ post h => ?_) (fun cdv A outer s H E as μ post D hr h hq hn => ?_)
  · obtain ⟨pa, hs, rfl, _⟩ := h; rfl
  · obtain ⟨pa, hs, rfl, hl, hp⟩ := h
    refine go_ret (v_eqd (v_sum (ns := (hs.take (hs.map PyData.int).length).map fun h => (h.natAbs : Int) + pa) rfl m_sum (v_lc (own := [("hold", 2)]) (s_tup (vl 1 rfl rfl)) (blkOk_by (N := ["pause", "way", "hold"]) (sc := defScope s_lasts) (own := [("hold", 2)]) (by decide +kernel))
      (lc_ints (g := fun h => (h.natAbs : Int) + pa) hl (fun i D acc hi nD => ⟨_, fun s H C cl fp => gc_name 2 (by decide) sc_lasts.nd, fun s H C cl fp => v_eqd (v_add (i := ((hs[i].natAbs : Nat) : Int)) (j := pa) (v_abs m_abs (vl 2 rfl rfl)) (vl 0 rfl rfl)) rfl⟩)) sc_lasts.nd) nowL_d) ?_) (hq _ _ hp)
    rw [List.length_map, List.take_length]; rfl
def lhN (ds : List Int) (n : Int) : Int := farN ds (n + 1) (10 ^ 6) + 1
def lhSize (ds : List Int) (n : Int) : Int := if drw ds (lhN ds n) % 8 / 3 = 0 then 1 + drw ds (n + 1) % 6 else if drw ds (lhN ds n) % 8 / 3 = 1 then 1 + farV ds (n + 1) (10 ^ 6) else 1000000
def lhV (ds : List Int) (n : Int) : Int := lhSize ds n - 2 * lhSize ds n * (drw ds (lhN ds n + 1) % 2)
theorem lhSize_rng {ds : List Int} (g : GoodDs ds) (n : Int) : 1 ≤ lhSize ds n ∧ lhSize ds n ≤ 1000000 := by
  unfold lhSize
  have h1 := mod_rng g (n + 1) 6 (by decide)
  have h2 := farV_rng ds (n + 1) (show (1 : Int) ≤ 10 ^ 6 by decide)
  split
  · omega
  · split <;> omega
theorem lhV_rng {ds : List Int} (g : GoodDs ds) (n : Int) : lhV ds n ≠ 0 ∧ -1000000 ≤ lhV ds n ∧ lhV ds n ≤ 1000000 := by
  have h1 := lhSize_rng g n
  have h2 := mod_rng g (lhN ds n + 1) 2 (by decide)
  unfold lhV
  have h3 : drw ds (lhN ds n + 1) % 2 = 0 ∨ drw ds (lhN ds n + 1) % 2 = 1 := by omega
  rcases h3 with e | e
  · rw [e]; omega
  · rw [e]; omega
theorem sc_hold : FnScope ["bag", "size"] ["bag"] (defScope s_hold) := ⟨rfl, rfl, rfl, by decide +kernel, rfl, by decide +kernel, by decide +kernel⟩
def rLHold : Rel := fun as μ post => ∃ p ds n, as = [.m p] ∧ mget μ p = some (bagO ds n) ∧ GoodDs ds ∧ post (.d (.int (lhV ds n))) (bg μ p ds (lhN ds n + 1))
theorem ok_hold {f : Addr} {fd : FuncData} (F : Fun K "_law_hold" "_law_hold" s_hold f fd) (hm : mg "_law_hold" = some (.ref f)) (b : Binds K fd ["bag"] []) (c_take : Cal P w K mg base "_law_take" 1 [] rTake) (c_far_draw : Cal P w K mg base "_law_far_draw" 2 [] rFarDraw) : Cal P w K mg base "_law_hold" 3 [] rLHold := by
  refine cal_ok F sc_hold hm b .nil (fun _ => .nil) (fun as μ post h => ?_) (fun cdv A outer s H E as μ post D hr h hq hn => ?_)
  · obtain ⟨p, ds, n, rfl, _⟩ := h; rfl
  · obtain ⟨p, ds, n, rfl, hg, g, hp⟩ := h
    have hs : (mget μ p).isSome = true := by rw [hg]; rfl
    refine go_mu (mset_self μ p _ hg).symm ?_
    have h8 := mod_rng g (lhN ds n) 8 (by decide)
    have h3 : 0 ≤ drw ds (lhN ds n) % 8 / 3 ∧ drw ds (lhN ds n) % 8 / 3 < 3 := by omega
    refine go_set 1 (v_ix (v_lst (ad_cons (v_add v_int (v_take c_take hr (by decide) hs g (vl 0 rfl rfl) v_int (by decide))) (ad_cons (v_add v_int (v_call (x := .d (.int (farV ds (n + 1) (10 ^ 6)))) (μ2 := bg μ p ds (farN ds (n + 1) (10 ^ 6))) c_far_draw hr (by decide) (a_cons (vl 0 rfl rfl) (a_cons (v_pow v_int v_int (by decide)) a_nil)) (fun post hp => ⟨p, ds, n + 1, 10 ^ 6, rfl, bg_get hs, g, by decide, by rw [bg_bg]; exact hp⟩))) (ad_cons (v_eqd (d' := .int 1000000) (v_pow v_int v_int (by decide)) rfl) ad_nil))) sz)
      (v_fdiv (v_take c_take hr (by decide) hs g (vl 0 rfl rfl) v_int (by decide)) v_int (by decide)) nowS_l (at3 (z := .d (.int (lhSize ds n))) (fun e => ?_) (fun e => ?_) (fun e => ?_) h3)) ?_ sc_hold.nd
    · have e' : drw ds (lhN ds n) % 8 / 3 = 0 := e
      unfold lhSize; rw [if_pos e']
    · have e' : drw ds (lhN ds n) % 8 / 3 = 1 := e
      unfold lhSize; rw [if_neg (by omega), if_pos e']
    · have e' : drw ds (lhN ds n) % 8 / 3 = 2 := e
      unfold lhSize; rw [if_neg (by omega), if_neg (by omega)]
    have hz := lhSize_rng g n
    exact go_ret (v_sub (vl 1 rfl rfl) (v_mul (v_mul v_int (vl 1 rfl rfl) (.inl (by decide))) (v_take c_take hr (by decide) hs g (vl 0 rfl rfl) v_int (by decide)) (.inl (by omega)))) (hq _ _ hp)
/-! the track of a hold, in plain Lean -/
def stepAt (st : List Int) (i : Nat) : Int := if i < st.length then st.getD i 0 else lastOf st
theorem span_at {st : List Int} (g : GoodR st 0) (i : Nat) : spanOf st ((i + 1 : Nat) : Int) = spanOf st (i : Int) + stepAt st i := by
  unfold spanOf stepAt
  rw [Int.toNat_natCast, Int.toNat_natCast]
  by_cases c : i < st.length
  · rw [if_pos c, take_succ_get c, List.sum_append]
    have e1 : max 0 (((i + 1 : Nat) : Int) - (st.length : Int)) = 0 := by omega
    have e2 : max 0 ((i : Int) - (st.length : Int)) = 0 := by omega
    rw [e1, e2, List.getD_eq_getElem?_getD, List.getElem?_eq_getElem c]
    simp
  · rw [if_neg c, List.take_of_length_le (by omega), List.take_of_length_le (by omega)]
    have e1 : max 0 (((i + 1 : Nat) : Int) - (st.length : Int)) = max 0 ((i : Int) - (st.length : Int)) + 1 := by omega
    rw [e1, Int.add_mul, Int.one_mul, Int.add_assoc]
def dueL (st : List Int) (k : Nat) : List Int := (List.range k).map fun i => spanOf st ((i + 1 : Nat) : Int)
theorem trk_up (st : List Int) (k : Nat) (h : 1 ≤ k) : (List.range ((k : Int)).natAbs).map (trk st (k : Int)) = dueL st k := by
  have e : ((k : Int)).natAbs = k := by omega
  rw [e]
  refine List.map_congr_left fun i _ => ?_
  unfold trk movO
  rw [if_pos (by omega), if_pos (by omega)]
  congr 1
  omega
theorem trk_down (st : List Int) (k : Nat) (h : 1 ≤ k) : ((List.range ((0 - (k : Int))).natAbs).map (trk st (0 - (k : Int)))).map (fun i => 0 - i) = dueL st k := by
  have e : ((0 - (k : Int))).natAbs = k := by omega
  rw [e, List.map_map]
  refine List.map_congr_left fun i _ => ?_
  show 0 - trk st (0 - (k : Int)) i = _
  unfold trk movO
  rw [if_neg (by omega), if_neg (by omega)]
  have e2 : -(-(1 + (i : Int))) = ((i + 1 : Nat) : Int) := by omega
  rw [e2]
  omega
theorem span0 (st : List Int) : spanOf st ((0 : Nat) : Int) = 0 := by
  unfold spanOf
  have e : max 0 (((0 : Nat) : Int) - (st.length : Int)) = 0 := by omega
  rw [e]
  simp
end
section
variable {P : Program} {w : World} {K : PySem.W.Frag} {mg : Str → Option Value} {base : Heap}
/-! bags beside what stood in the store -/
/-- what stands in the store stands in the later one, apart from the bags -/
def Beside (μ : Mu) (L : Addr) (bs : List (Addr × List Int)) (ν : Mu) : Prop := ∀ p o, mget μ p = some o → mget ν p = some o ∧ p ≠ L ∧ ∀ b ∈ bs, b.1 ≠ p
def rBagsT (K : PySem.W.Frag) : Rel := fun as μ post => ∃ ns l, as = [.f K ns, .d (.int l)] ∧ 0 ≤ l ∧ l ≤ 1000 ∧ ns.length ≤ 63 ∧ ∀ L bs ν, BagsAt L bs ν → Beside μ L bs ν → post (.m L) ν
theorem ok_bagsT {f : Addr} {fd : FuncData} (F : Fun K "_law_bags" "_law_bags" s_bags f fd) (hm : mg "_law_bags" = some (.ref f)) (b : Binds K fd ["script", "limit"] [])
    (c_bag : Cal P w K mg base "_law_bag" 2 [] (rBag K)) (m_len : mg "len" = none) (m_min : mg "min" = none) (m_max : mg "max" = none) (m_range : mg "range" = none) : Cal P w K mg base "_law_bags" 3 [] (rBagsT K) := by
  refine cal_ok F sc_bags hm b .nil (fun _ => .nil) (fun as μ post h => ?_) (fun cdv A outer s H E as μ post D hr h hq hn => ?_)
  · obtain ⟨ns, l, rfl, _⟩ := h; rfl
  · obtain ⟨ns, l, rfl, h0, h1, hl, hp⟩ := h
    refine go_retw (w_lcW (own := [("k", 2)]) (s_range1 m_range (v_max2 rfl m_max v_int (v_min2 rfl m_min (vl 1 rfl rfl) (v_lenF rfl m_len (vl 0 rfl rfl)))) (by omega) (by omega) (n := (max 1 (min l (ns.length : Int))).toNat) rfl) (blkOk_by (N := ["script", "limit", "k"]) (sc := defScope s_bags) (own := [("k", 2)]) (by decide +kernel))
      (I := fun i acc m => ∃ bs : List (Addr × List Int), acc = bs.map (fun b => .m b.1) ∧ bs.length = i ∧ (bs.map (·.1)).Nodup ∧ (∀ b ∈ bs, GoodDs b.2 ∧ mget m b.1 = some (bagO b.2 0) ∧ mget μ b.1 = none) ∧ ∀ p o, mget μ p = some o → mget m p = some o) ⟨?_, ?_, ?_, ?_, ?_⟩ sc_bags.nd) (fun x ν hx => ?_)
    · exact ⟨[], rfl, rfl, List.nodup_nil, fun b hb => absurd hb (by simp), fun _ _ h => h⟩
    · rintro i acc m ⟨bs, rfl, e, _⟩
      rw [List.length_map, e]
      exact Nat.le_refl _
    · exact Nat.le_trans (show _ ≤ 1000 by omega) (by decide)
    · intros; trivial
    · rintro i acc m D' hi ⟨bs, rfl, e, nd, hb, hk⟩ nD
      refine ⟨_, true, _, fun s H C cl fp => gc_name 2 (by decide) sc_bags.nd, fun s H C cl fp => ts_nil, fun _ => ⟨_, fun s H C cl fp => v_callG (post := fun x κ => ∃ q, mget ((D', MO.lst (bs.map fun b => Sl.m b.1)) :: m) q = none ∧ x = .m q ∧ κ = (q, bagO (drawsOf (cellOf ns (i : Int))) 0) :: (D', MO.lst (bs.map fun b => Sl.m b.1)) :: m) c_bag hr (by decide) (a_cons (vl 0 rfl rfl) (a_cons (vl 2 rfl rfl) a_nil)) (fun post' hp' => ?_), ?_⟩, fun h => by cases h⟩
      · exact ⟨ns, (i : Int), rfl, by omega, fun q nq => hp' _ _ ⟨q, nq, rfl, rfl⟩⟩
      · rintro x κ ⟨q, nq, rfl, rfl⟩
        have hqD : q ≠ D' := fun z => by
          rw [mget_cons, if_pos z] at nq; cases nq
        have nq' : mget m q = none := by rw [mget_cons, if_neg hqD] at nq; exact nq
        have nqμ : mget μ q = none := by
          cases z : mget μ q with
          | none => rfl
          | some o => rw [hk q o z] at nq'; cases nq'
        refine ⟨_, MuEq.swap hqD, by rw [mget_cons, if_neg hqD.symm]; exact nD, bs ++ [(q, drawsOf (cellOf ns (i : Int)))], by rw [List.map_append]; rfl, by rw [List.length_append, e]; rfl, ?_, ?_, ?_⟩
        · rw [List.map_append]
          refine List.nodup_append.mpr ⟨nd, by simp, fun a ha b hb' => ?_⟩
          have hb2 : b = q := by simpa using hb'
          rw [hb2]
          obtain ⟨b0, hb0, rfl⟩ := List.mem_map.mp ha
          intro z
          have := (hb b0 hb0).2.1
          rw [z, nq'] at this
          cases this
        · intro b0 hb0
          rcases List.mem_append.mp hb0 with z | z
          · refine ⟨(hb b0 z).1, ?_, (hb b0 z).2.2⟩
            have ne : b0.1 ≠ q := fun e => by
              have := (hb b0 z).2.1
              rw [e, nq'] at this
              cases this
            rw [mget_cons, if_neg ne]
            exact (hb b0 z).2.1
          · rw [List.mem_singleton.mp z]
            exact ⟨drawsOf_ok _, by rw [mget_cons, if_pos rfl], nqμ⟩
        · intro p o hpo
          have ne : p ≠ q := fun z => by rw [z, nqμ] at hpo; cases hpo
          rw [mget_cons, if_neg ne]
          exact hk p o hpo
    · obtain ⟨L, acc, m, ⟨bs, rfl, e, nd, hb, hk⟩, nL, rfl, rfl⟩ := hx
      refine hq _ _ (hp L bs _ ⟨by rw [mget_cons, if_pos rfl], nd, fun b0 hb0 z => ?_, fun b0 hb0 => ⟨(hb b0 hb0).1, ?_⟩⟩ fun p o hpo => ?_)
      · have := (hb b0 hb0).2.1
        rw [z, nL] at this
        cases this
      · have ne : b0.1 ≠ L := fun z => by
          have := (hb b0 hb0).2.1
          rw [z, nL] at this
          cases this
        rw [mget_cons, if_neg ne]
        exact (hb b0 hb0).2.1
      · have ne : p ≠ L := fun z => by
          have := hk p o hpo
          rw [z, nL] at this
          cases this
        refine ⟨by rw [mget_cons, if_neg ne]; exact hk p o hpo, ne, fun b0 hb0 z => ?_⟩
        have := (hb b0 hb0).2.2
        rw [z, hpo] at this
        cases this
/-- the bags from i on are fresh, the table stands beside -/
structure BagsFromT (L T : Addr) (tq : Str) (bs : List (Addr × List Int)) (i : Nat) (ν : Mu) : Prop where
  fr : BagsFrom L bs i ν
  tab : mget ν T = some (.tbl tq)
  nT : ∀ b ∈ bs, b.1 ≠ T
section
variable {X : Cx} {B : Hp × Mu} {D : Ends} {ρ : En} {μ : Mu} {sts rest body : List Stmt} {iter : Expr} {n : Str} {p pos : Pos}
/-- go_bags with the table of the law's code object kept -/
theorem go_bagsT {s : Sl} {T : Addr} {tq : Str} (m : Nat) (h0 : ρ[0]? = some s) (hm : ρ.length = m + 2) (h : PEw X iter ρ μ (fun y ν => ∃ L bs, y = .m L ∧ BagsAt L bs ν ∧ Beside μ L bs ν)) (hT : mget μ T = some (.tbl tq)) (hp : PassesOwn (model X.prog X.w) X.A X.env X.xe) (hN : X.N.Nodup)
    (turn : ∀ B', Reb B B' → ∀ (Nx : L2.St → Hp → Prop) (ν : Mu) (q : Addr) (ds : List Int), GoodDs ds → mget ν q = some (bagO ds 0) → mget ν T = some (.tbl tq) → q ≠ T → (∀ k ρ2, ρ2[0]? = some s → ρ2.length = m + 2 → ∀ D' : Ends, D'.nx = Nx → Go X B' [] D' ρ2 (bg ν q ds k)) →
      Go X B' body { D with nx := Nx, ct := Nx, bk := wpR X rest D } (s :: .m q :: List.replicate m .no) ν)
    (done : ∀ ρ ν, ρ[0]? = some s → ρ.length = m + 2 → mget ν T = some (.tbl tq) → Go X B rest D ρ ν) (hi : X.N[1]? = some n := by rfl) (hx : Loc X.env.scope n := by first | exact Or.inl rfl | exact Or.inr rfl) (hf : X.fn n = true ∨ X.env.scope.names.lookup n = some .local := by first | exact .inl rfl | exact .inr rfl) (hc : X.calm = true := by rfl)
    (hfs : ∀ x, foldedSetIterable iter X.env x = pure x := by intro _; rfl) : Go X B (.For (.Name n p) iter body [] pos :: rest) D ρ μ := by
  refine go_forM h hp (fun y μ1 ⟨L, bs, e, hb, _⟩ => ⟨L, _, e, hb.at_⟩) (fun q xs μ1 ⟨L, bs, e, hb, hbe⟩ hx1 => ?_) hc hfs
  cases e
  have ex : xs = bs.map fun b => Sl.m b.1 := by rw [hb.at_] at hx1; cases hx1; rfl
  subst ex
  obtain ⟨t1, t2, t3⟩ := hbe T _ hT
  refine ⟨fun i ρ ν => ρ[0]? = some s ∧ ρ.length = m + 2 ∧ BagsFromT q T tq bs i ν, ⟨h0, hm, hb.from0, t1, t3⟩, fun i ρ ν _ hI => hI.2.2.fr.at_, fun B' hB i ρ ν hi' hI => ?_, fun ρ ν hI => done ρ ν hI.1 hI.2.1 hI.2.2.tab⟩
  obtain ⟨r0, rl, bf, tab, nT⟩ := hI
  rw [List.length_map] at hi'
  have ei : (bs.map fun b => Sl.m b.1).getD i .no = .m (bs[i]).1 := by
    rw [List.getD_eq_getElem?_getD, List.getElem?_map, List.getElem?_eq_getElem hi']; rfl
  rw [ei]
  refine ⟨_, g_name 1 hN hi hx hf, ?_⟩
  have nTi := nT _ (List.getElem_mem hi')
  refine go_keep (s :: .m (bs[i]).1 :: List.replicate m .no) (by simp [rl]) (fun j x hj nx => ?_) ?_
  · match j with
    | 0 => rw [List.getElem?_set_ne (by decide)]; rw [r0]; exact hj
    | 1 => rw [List.getElem?_set_self (by omega)]; exact hj
    | j + 2 =>
      have hj : (List.replicate m Sl.no)[j]? = some x := hj
      rw [List.getElem?_replicate] at hj
      split at hj
      · cases hj; exact absurd rfl nx
      · cases hj
  · exact turn B' hB _ ν _ _ (bf.good _ (List.getElem_mem hi')) (bf.ok i hi' (Nat.le_refl _)) tab nTi fun k ρ2 h0' hm' D' hD => go_nil fun σ H w e => by
      rw [hD]
      exact ⟨ρ2, _, ⟨h0', hm', bf.next hi' k, by rw [mget_mset, if_neg (fun z => nTi z.symm)]; exact tab, nT⟩, w, e⟩
end
end
section
variable {P : Program} {w : World} {K : PySem.W.Frag} {mg : Str → Option Value} {base : Heap}
/-! THE LAW k02 -/
section
variable {X : Cx} {a b c d : Expr} {ρ : En} {μ μ1 μ2 μ3 μ4 : Mu} {p pos : Pos} {st : List Int} {pa : Int}
theorem v_lholdF {q : Addr} {ds : List Int} {n : Int} {j : Nat} (C : Cal X.prog X.w X.K X.mg X.base "_law_hold" 3 [] rLHold) (hr : Room j X.A) (hk : 3 ≤ j) (h : (mget μ q).isSome = true) (g : GoodDs ds) (ha : PEv X a ρ (bg μ q ds n) (.m q) (bg μ q ds n)) (hg : Gl X "_law_hold" := by rfl)
    (he : starEach [a] X.env = [(false, eval a X.env)] := by rfl) : PEv X (.Call (.Name "_law_hold" p) [a] [] pos) ρ (bg μ q ds n) (.d (.int (lhV ds n))) (bg μ q ds (lhN ds n + 1)) :=
  v_call C hr hk (a_cons ha a_nil (by rw [he]; rfl)) (fun post hp => ⟨q, ds, n, rfl, bg_get h, g, by rw [bg_bg]; exact hp⟩) hg (by decide) (by rw [he]; rfl) (by rfl)
end
theorem sc_law : FnScope ["script", "bag", "rule", "steps", "pause", "a", "b", "c", "found", "size", "here", "due", "turn", "odd"] ["script"] (defScope s_law) := ⟨rfl, rfl, rfl, by decide +kernel, rfl, by decide +kernel, by decide +kernel⟩
abbrev lamQ : Str := "law.<locals>.<lambda>"
def rLaw (K : PySem.W.Frag) (T : Addr) : Rel := fun as μ post => ∃ ns, as = [.f K ns] ∧ ns.length ≤ 63 ∧ mget μ T = some (.tbl lamQ) ∧ ∀ ν, post (.d (.bool true)) ν
/-- the sums of the first holds of three, of 0 to 3 of them -/
theorem take4 (g : List Int → Int) (a b c : Int) : (List.range 4).map (fun i => g ([a, b, c].take i)) = [g [], g [a], g [a, b], g [a, b, c]] := rfl
theorem odd_way {x y : PyData} (h : isHold y = false) : isWay (.tuple [x, y]) = false := by
  simp [isWay, h]
theorem odd_way' {x y : PyData} (h : isHold x = false) : isWay (.tuple [x, y]) = false := by
  simp [isWay, h]
/-- what the lambdas hand on -/
def xThree (R : RelX) (f : Sl → Sl → Sl → List Sl) : RelX := fun as μ C => ∃ x y z, as = [x, y, z] ∧ x ≠ .no ∧ y ≠ .no ∧ z ≠ .no ∧ R (f x y z) μ C
theorem ok_law {f : Addr} {fd : FuncData} {cL T CW CI : Addr} (F : FunC K "law" "law" s_law f fd cL) (TB : LamX.TabB base mg cL T) (c_bags : Cal P w K mg base "_law_bags" 3 [] (rBagsT K)) (c_rule : Cal P w K mg base "_law_rule" 2 [] rRule) (c_take : Cal P w K mg base "_law_take" 1 [] rTake)
    (c_hold : Cal P w K mg base "_law_hold" 3 [] rLHold) (c_goes : Cal P w K mg base "_law_goes" 3 [] rGoes) (c_lasts : Cal P w K mg base "_law_lasts" 1 [] rWayT) {CH : Addr} (c_error : Cal P w K mg base "_law_error" 13 [] (rError P w K mg base CH))
    (c_distance_of : CalS P w K mg base "distance_of" 5 rDistOf) (c_time_of : CalS P w K mg base "time_of" 5 rTimeOf) (c_track : GCal2 P w K mg base "track" 5 rTrack) (x_distance_of : CalSX P w K mg base "distance_of" 5 (xDistOf CW)) (x_time_of : CalSX P w K mg base "time_of" 5 (xDistOf CW)) (x_track : GCalX P w K mg base "track" 5 (xTrack CI))
    (s_InvalidWay : ErrS K mg CH "InvalidWay" CW) (s_InvalidHold : ErrS K mg CH "InvalidHold" CI) (n_InvalidHold : PySem.W.subIn K (.ref CI) (.type "StopIteration") = some false)
    (m_range : mg "range" = none) (m_list : mg "list" = none) (m_len : mg "len" = none) : FnOk P w K mg base CX0 14 f fd ["script"] (spR (rLaw K T)) := by
  refine fnC_ok F sc_law (fun as μ post h => ?_) (fun A outer s H E as μ post D hr h hq hn => ?_)
  · obtain ⟨ns, rfl, _⟩ := h; rfl
  · obtain ⟨ns, rfl, hl, hT, hp⟩ := h
    have hu := hr.units
    refine go_bagsT (s := .f K ns) 12 rfl rfl (v_callG c_bags hr (by decide) (a_cons (vl 0 rfl rfl) (a_cons v_int a_nil)) (fun post' hp' => ⟨ns, 10, rfl, by decide, by decide, hl, fun L bs ν hb hbe => hp' _ _ ⟨L, bs, rfl, hb, hbe⟩⟩)) hT PassesOwn.never sc_law.nd (fun B' hB Nx ν q ds gd hbag hTν nqT fin => ?_) (fun ρ ν h0 hm hTν => ?_)
    · have hsm : (mget ν q).isSome = true := by rw [hbag]; rfl
      have tabAt : ∀ n, mget (bg ν q ds n) T = some (.tbl lamQ) := fun n => by rw [mget_mset, if_neg (fun z => nqT z.symm)]; exact hTν
      refine go_mu (mset_self ν q _ hbag).symm ?_
      refine go_set 2 (v_call c_rule hr (by decide) (a_cons (vl 1 rfl rfl) a_nil) (fun post hp => ⟨q, ds, 0, rfl, bg_get hsm, gd, by rw [bg_bg]; exact hp⟩)) ?_ sc_law.nd
      have g := rule_ok gd 0
      generalize ruleSt ds 0 = st at g ⊢
      generalize rulePa ds 0 = pa at g ⊢
      generalize ruleN ds 0 = n1
      have g0 := g.zero'
      refine go_asg (vl 2 rfl rfl) (g_tup (gs_cons (g_name 3 sc_law.nd) (gs_cons (g_name 4 sc_law.nd) gs_nil)) rfl) ?_
      -- three holds
      have ra := lhV_rng gd n1
      have rb := lhV_rng gd (lhN ds n1 + 1)
      have rc := lhV_rng gd (lhN ds (lhN ds n1 + 1) + 1)
      refine go_asg (v_tup (ds := [.int (lhV ds n1), .int (lhV ds (lhN ds n1 + 1)), .int (lhV ds (lhN ds (lhN ds n1 + 1) + 1))]) (ad_cons (v_lholdF c_hold hr (by decide) hsm gd (vl 1 rfl rfl)) (ad_cons (v_lholdF c_hold hr (by decide) hsm gd (vl 1 rfl rfl)) (ad_cons (v_lholdF c_hold hr (by decide) hsm gd (vl 1 rfl rfl)) ad_nil))) sz) (g_tup (gs_cons (g_name 5 sc_law.nd) (gs_cons (g_name 6 sc_law.nd) (gs_cons (g_name 7 sc_law.nd) gs_nil))) rfl) ?_
      generalize lhN ds (lhN ds (lhN ds n1 + 1) + 1) + 1 = n2
      generalize lhV ds (lhN ds (lhN ds n1 + 1) + 1) = c at rc ⊢
      generalize lhV ds (lhN ds n1 + 1) = b at rb ⊢
      generalize lhV ds n1 = a at ra ⊢
      have gw0 : GoodW [] := ⟨by decide, fun h hh => absurd hh (by simp)⟩
      have gw1 : GoodW [a] := ⟨by show 1 ≤ 40; decide, fun h hh => by rw [List.mem_singleton.mp hh]; exact ra⟩
      have gw2 : GoodW [a, b] := ⟨by show 2 ≤ 40; decide, fun h hh => by
        rcases List.mem_cons.mp hh with e | hh
        · rw [e]; exact ra
        · rw [List.mem_singleton.mp hh]; exact rb⟩
      have gw3 : GoodW [a, b, c] := ⟨by show 3 ≤ 40; decide, fun h hh => by
        rcases List.mem_cons.mp hh with e | hh
        · rw [e]; exact ra
        · rcases List.mem_cons.mp hh with e | hh
          · rw [e]; exact rb
          · rw [List.mem_singleton.mp hh]; exact rc⟩
      have tk : ∀ i, ∀ h ∈ [a, b, c].take i, -(2 ^ 61) < h ∧ h < 2 ^ 61 := fun i h hh => by
        obtain ⟨_, z1, z2⟩ := gw3.2 h (List.mem_of_mem_take hh)
        omega
      have tl : ∀ i, ([a, b, c].take i).length ≤ 1000 := fun i => by
        rw [List.length_take]
        exact Nat.le_trans (Nat.min_le_right _ _) (by show 3 ≤ 1000; decide)
      -- distances
      refine go_set 8 (v_lst (ds := ([wayD st [], wayD st [a], wayD st [a, b], wayD st [a, b, c]] : List Int).map .int) (ad_cons (v_callS c_distance_of hr (by decide) (a_cons (vl 2 rfl rfl) a_nil) (fun post hp => ⟨st, pa, [], rfl, g, gw0, hp⟩)) (ad_cons (v_callS c_distance_of hr (by decide) (a_cons (vl 2 rfl rfl) (a_cons (vl 5 rfl rfl) a_nil)) (fun post hp => ⟨st, pa, [a], rfl, g, gw1, hp⟩))
        (ad_cons (v_callS c_distance_of hr (by decide) (a_cons (vl 2 rfl rfl) (a_cons (vl 5 rfl rfl) (a_cons (vl 6 rfl rfl) a_nil))) (fun post hp => ⟨st, pa, [a, b], rfl, g, gw2, hp⟩)) (ad_cons (v_callS c_distance_of hr (by decide) (a_cons (vl 2 rfl rfl) (a_cons (vl 5 rfl rfl) (a_cons (vl 6 rfl rfl) (a_cons (vl 7 rfl rfl) a_nil)))) (fun post hp => ⟨st, pa, [a, b, c], rfl, g, gw3, hp⟩)) ad_nil)))) sz) ?_ sc_law.nd
      refine go_ifF (t_ne hu (vl 8 rfl rfl) (v_lc (own := [("size", 9)]) (acc := fun i => ((List.range i).map fun k => wayD st ([a, b, c].take k)).map PyData.int) (ms := fun _ => bg ν q ds n2) (s_range1 m_range v_int (by decide) (by decide) (n := 4) rfl)
          (blkOk_by (N := ["script", "bag", "rule", "steps", "pause", "a", "b", "c", "found", "size", "here", "due", "turn", "odd"]) (sc := defScope s_law) (own := [("size", 9)]) (by decide +kernel)) ⟨rfl, rfl, fun i _ => by simp, by decide, fun _ _ _ h => h, fun _ _ _ _ => trivial, fun i D' hi nD => ?_⟩ sc_law.nd) now_d now_d (shaped_ints _) (shaped_ints _)) (by rw [take4, eqv_ints, decide_eq_true rfl]; rfl) ?_
      · refine ⟨_, true, _, fun s H C cl fp => gc_name 9 (by decide) sc_law.nd, fun s H C cl fp => ts_nil, fun _ => ⟨.int (wayD st ([a, b, c].take i)), fun s H C cl fp => ?_, ?_⟩, fun h => by cases h⟩
        · exact v_call c_goes hr (by decide) (a_cons (vl 3 rfl rfl) (a_cons (v_eqd (d' := .tuple (([a, b, c].take i).map .int)) (v_slT (ds := ([a, b, c] : List Int).map .int) (v_tup (ad_cons (vl 5 rfl rfl) (ad_cons (vl 6 rfl rfl) (ad_cons (vl 7 rfl rfl) ad_nil))) sz) o_no (o_int (vl 9 rfl rfl)) rfl) (by rw [cutL_to, ← List.map_take])) a_nil)) (fun post hp => ⟨st, _, rfl, g0, tl i, tk i, hp⟩)
        · rw [List.range_succ, List.map_append, List.map_append]; rfl
      -- times
      refine go_set 8 (v_lst (ds := ([wayT pa [], wayT pa [a], wayT pa [a, b], wayT pa [a, b, c]] : List Int).map .int) (ad_cons (v_callS c_time_of hr (by decide) (a_cons (vl 2 rfl rfl) a_nil) (fun post hp => ⟨st, pa, [], rfl, g, gw0, hp⟩)) (ad_cons (v_callS c_time_of hr (by decide) (a_cons (vl 2 rfl rfl) (a_cons (vl 5 rfl rfl) a_nil)) (fun post hp => ⟨st, pa, [a], rfl, g, gw1, hp⟩))
        (ad_cons (v_callS c_time_of hr (by decide) (a_cons (vl 2 rfl rfl) (a_cons (vl 5 rfl rfl) (a_cons (vl 6 rfl rfl) a_nil))) (fun post hp => ⟨st, pa, [a, b], rfl, g, gw2, hp⟩)) (ad_cons (v_callS c_time_of hr (by decide) (a_cons (vl 2 rfl rfl) (a_cons (vl 5 rfl rfl) (a_cons (vl 6 rfl rfl) (a_cons (vl 7 rfl rfl) a_nil)))) (fun post hp => ⟨st, pa, [a, b, c], rfl, g, gw3, hp⟩)) ad_nil)))) sz) ?_ sc_law.nd
      refine go_ifF (t_ne hu (vl 8 rfl rfl) (v_lc (own := [("size", 9)]) (acc := fun i => ((List.range i).map fun k => wayT pa ([a, b, c].take k)).map PyData.int) (ms := fun _ => bg ν q ds n2) (s_range1 m_range v_int (by decide) (by decide) (n := 4) rfl)
          (blkOk_by (N := ["script", "bag", "rule", "steps", "pause", "a", "b", "c", "found", "size", "here", "due", "turn", "odd"]) (sc := defScope s_law) (own := [("size", 9)]) (by decide +kernel)) ⟨rfl, rfl, fun i _ => by simp, by decide, fun _ _ _ h => h, fun _ _ _ _ => trivial, fun i D' hi nD => ?_⟩ sc_law.nd) now_d now_d (shaped_ints _) (shaped_ints _)) (by rw [take4, eqv_ints, decide_eq_true rfl]; rfl) ?_
      · refine ⟨_, true, _, fun s H C cl fp => gc_name 9 (by decide) sc_law.nd, fun s H C cl fp => ts_nil, fun _ => ⟨.int (wayT pa ([a, b, c].take i)), fun s H C cl fp => ?_, ?_⟩, fun h => by cases h⟩
        · exact v_call c_lasts hr (by decide) (a_cons (vl 4 rfl rfl) (a_cons (v_eqd (d' := .tuple (([a, b, c].take i).map .int)) (v_slT (ds := ([a, b, c] : List Int).map .int) (v_tup (ad_cons (vl 5 rfl rfl) (ad_cons (vl 6 rfl rfl) (ad_cons (vl 7 rfl rfl) ad_nil))) sz) o_no (o_int (vl 9 rfl rfl)) rfl) (by rw [cutL_to, ← List.map_take])) a_nil)) (fun post hp => ⟨pa, _, rfl, tl i, hp⟩)
        · rw [List.range_succ, List.map_append, List.map_append]; rfl
      -- the track
      have r60 := mod_rng gd (n2 + 1) 60 (by decide)
      refine go_set 9 (v_add v_int (v_take c_take hr (by decide) hsm gd (vl 1 rfl rfl) v_int (by decide))) ?_ sc_law.nd
      obtain ⟨k, hk, k1, k2⟩ : ∃ k : Nat, 1 + drw ds (n2 + 1) % 60 = (k : Int) ∧ 1 ≤ k ∧ k ≤ 60 := ⟨(1 + drw ds (n2 + 1) % 60).toNat, by omega, by omega, by omega⟩
      rw [hk]
      generalize n2 + 1 = n3
      have gl1 := g.l1
      have hne : st ≠ [] := fun e => by rw [e] at gl1; simp at gl1
      refine go_parw (pa := fun xs κ => ∃ dq, mget (bg ν q ds n3) dq = none ∧ xs = [.d (.int 0), .m dq] ∧ κ = (dq, .lst []) :: bg ν q ds n3) 10 11 (aw_cons v_int.w (fun x μ1 h1 => aw_cons (w_lst a_nil sz) (fun y μ2 h2 => aw_of a_nil ?_))) (fun xs κ hκ => ?_) sc_law.nd
      · obtain ⟨rfl, rfl⟩ := h1
        obtain ⟨dq, nd, rfl, rfl⟩ := h2
        exact ⟨dq, nd, rfl, rfl⟩
      obtain ⟨dq, nd, rfl, rfl⟩ := hκ
      refine ⟨_, _, rfl, ?_⟩
      have hget : ∀ xs : List Sl, mget ((dq, MO.lst xs) :: bg ν q ds n3) dq = some (.lst xs) := fun xs => by rw [mget_cons, if_pos rfl]
      refine go_for (s_range1 m_range (vl 9 rfl rfl) (by omega) (by omega) (n := k) (by omega)) (fun i ρ κ => ∃ y12, ρ = [.f K ns, .m q, .d (ruleD st pa), .d (.tuple (st.map .int)), .d (.int pa), .d (.int a), .d (.int b), .d (.int c), .d (.list (([wayT pa [], wayT pa [a], wayT pa [a, b], wayT pa [a, b, c]] : List Int).map .int)), .d (.int (k : Int)), .d (.int (spanOf st ((i : Nat) : Int))), .m dq, y12, .no] ∧ κ = (dq, .lst (((dueL st i).map PyData.int).map .d)) :: bg ν q ds n3)
        PassesOwn.never ⟨.no, by rw [span0]; rfl, rfl⟩ (fun _ _ _ _ _ => trivial) (fun B2 hB2 i ρ κ hi hI => ?_) (fun ρ κ hI => ?_)
      · obtain ⟨y12, rfl, rfl⟩ := hI
        refine ⟨_, g_name 12 sc_law.nd, ?_⟩
        refine go_set 10 (v_eqd (d' := .int (spanOf st ((i + 1 : Nat) : Int))) (v_add (vl 10 rfl rfl) (v_if (x := .d (.int (stepAt st i))) (μ2 := (dq, .lst (((dueL st i).map PyData.int).map .d)) :: bg ν q ds n3) (t_lt (vl 12 rfl rfl) (v_len m_len (vl 3 rfl rfl) nowS_t (k := st.length) (by simp))) (fun hk => ?_) (fun hk => ?_))) (by rw [span_at g0])) ?_ sc_law.nd
        · have hk := of_decide_eq_true hk
          have hi' : i < st.length := by omega
          refine v_ix (vl 3 rfl rfl) (vl 12 rfl rfl) nowS_t ?_
          unfold stepAt
          rw [if_pos hi', List.getD_eq_getElem?_getD, List.getElem?_eq_getElem hi']
          exact atI_map Sl.d (atI_map PyData.int (atI_nat (List.getElem?_eq_getElem hi')))
        · have hk := of_decide_eq_false hk
          refine v_ix (vl 3 rfl rfl) (v_neg v_int) nowS_t ?_
          unfold stepAt
          rw [if_neg (by omega), getLastD_of hne]
          exact atI_map Sl.d (atI_map PyData.int (atI_lastD hne))
        · refine go_expr (v_append (x := .d (.int (spanOf st ((i + 1 : Nat) : Int)))) (vl 11 rfl rfl) (vl 10 rfl rfl) ⟨_, hget _⟩ (hget _) (Nat.lt_of_lt_of_le (show _ < 1000 by unfold dueL; simp only [List.length_map, List.length_range]; omega) (by decide))) ?_
          rw [mset_cons]
          refine go_nxf ⟨_, rfl, ?_⟩
          have e : ((dueL st (i + 1)).map PyData.int).map Sl.d = ((dueL st i).map PyData.int).map Sl.d ++ [.d (.int (spanOf st ((i + 1 : Nat) : Int)))] := by
            unfold dueL
            rw [List.range_succ, List.map_append, List.map_append, List.map_append]; rfl
          rw [e]
      · obtain ⟨y12, rfl, rfl⟩ := hI
        refine go_pub 11 (ds := (dueL st k).map .int) rfl (hget _) ?_
        rw [mdrop_new nd]
        refine go_ifF (t_w (w_or (p := false) (q := false) (t_eqb (t_ne hu (v_listG c_track.l hr (by decide) (a_cons (vl 2 rfl rfl) (a_cons (vl 9 rfl rfl) a_nil)) ⟨st, pa, (k : Int), rfl, g, by omega, by omega, by omega, rfl⟩ m_list) (vl 11 rfl rfl) now_d now_d (shaped_ints _) (shaped_ints _)) (by rw [trk_up st k k1, eqv_ints, decide_eq_true rfl]; rfl))
          (fun _ => w_or1 (t_eqb (t_ne hu (v_lcZ c_track hr (by decide) (a_cons (vl 2 rfl rfl) (a_cons (v_sub v_int (vl 9 rfl rfl)) a_nil)) ⟨st, pa, 0 - (k : Int), rfl, g, by omega, by omega, by omega, rfl⟩ (blkOk_by (N := ["script", "bag", "rule", "steps", "pause", "a", "b", "c", "found", "size", "here", "due", "turn", "odd"]) (sc := defScope s_law) (own := []) (by decide +kernel)) elt_sub) (vl 11 rfl rfl) now_d now_d (shaped_ints _) (shaped_ints _)) (by rw [trk_down st k k1, eqv_ints, decide_eq_true rfl]; rfl))) (fun z => by cases z))) rfl ?_
        -- the errors
        have eqE : ∀ n : Str, PyData.eqv (.list [.str n, .bool true]) (.list [.str n, .bool true]) = true := fun n => by simp [PyData.eqv, PyData.eqvAll]
        have shE : ∀ n : Str, PyData.strOk n = true → SeqAt.shaped (.list [.str n, .bool true]) = true := fun n h => by simp [SeqAt.shaped, PyData.canLay0, PyData.canLayAll0, PyData.depth, PyData.depthAll, h]
        have hml : mget (bg ν q ds n3) T = some (.tbl lamQ) := tabAt n3
        generalize ([wayT pa [], wayT pa [a], wayT pa [a, b], wayT pa [a, b, c]] : List Int) = found
        generalize spanOf st ((k : Nat) : Int) = here
        refine go_for (s_tup (v_tup (ds := [.int 0, .int (10 ^ 6 + 1), .int (-10 ^ 6 - 1), .none, .bool true, .str "1", .tuple [.int 1]]) (ad_cons v_int (ad_cons (v_add (v_pow v_int v_int (by decide)) v_int) (ad_cons (v_sub (v_neg (v_pow v_int v_int (by decide))) v_int) (ad_cons v_non (ad_cons v_bl (ad_cons v_str (ad_cons (v_tup (ad_cons v_int ad_nil) sz) ad_nil))))))) sz))
          (fun i ρ κ => ∃ y13, ρ = [.f K ns, .m q, .d (ruleD st pa), .d (.tuple (st.map .int)), .d (.int pa), .d (.int a), .d (.int b), .d (.int c), .d (.list (found.map .int)), .d (.int (k : Int)), .d (.int here), .d (.list ((dueL st k).map .int)), y12, y13] ∧ κ = bg ν q ds n3) PassesOwn.never ⟨.no, rfl, rfl⟩ (fun _ _ _ _ _ => trivial) (fun B2 hB2 i ρ κ hi hI => ?_) (fun ρ κ hI => ?_)
        · obtain ⟨y13, rfl, rfl⟩ := hI
          have hodd : ∃ od : PyData, ([.int 0, .int (10 ^ 6 + 1), .int (-10 ^ 6 - 1), .none, .bool true, .str "1", .tuple [.int 1]] : List PyData).getD i .none = od ∧ isHold od = false := by
            have hi7 : i < 7 := hi
            match i, hi7 with
            | 0, _ => exact ⟨_, rfl, by decide⟩
            | 1, _ => exact ⟨_, rfl, by decide⟩
            | 2, _ => exact ⟨_, rfl, by decide⟩
            | 3, _ => exact ⟨_, rfl, rfl⟩
            | 4, _ => exact ⟨_, rfl, rfl⟩
            | 5, _ => exact ⟨_, rfl, rfl⟩
            | 6, _ => exact ⟨_, rfl, rfl⟩
          obtain ⟨od, eo, ho⟩ := hodd
          rw [eo]
          refine ⟨_, g_name 13 sc_law.nd, ?_⟩
          refine go_ifF (t_ne hu (v_call c_error hr (by decide) (a_cons (v_lam TB hml) (a_cons (vl 2 rfl rfl) (a_cons (vl 5 rfl rfl) (a_cons (vl 13 rfl rfl) a_nil)))) (fun post hp => ⟨_, _, _, _, "InvalidWay", CW, xThree (xDistOf CW) (fun x y z => [x, y, z]), rfl, by simp, by simp, by simp, by simp, .lam (j := 6) ⟨["x", "y", "z"], ["x", "y", "z"], ⟨rfl, rfl, rfl, by decide +kernel, rfl, by decide +kernel, by decide +kernel⟩, fun us pm c ct hl => match us, hl with | [_, _, _], _ => rfl, fun as μ C h => (by obtain ⟨x, y, z, rfl, _⟩ := h; rfl), fun f cdv A outer s H E as μ C hr' h => (by
            obtain ⟨x, y, z, rfl, nx, ny, nz, hR⟩ := h
            exact v_callSX x_distance_of takesX hr' (by decide) (a_cons (vl 0 rfl rfl nx) (a_cons (vl 1 rfl rfl ny) (a_cons (vl 2 rfl rfl nz) a_nil))) hR)⟩ (by decide), ⟨_, _, _, rfl, by simp, by simp, by simp, ⟨st, pa, [.int a, od], rfl, g, (by show 2 ≤ 1000; decide), odd_way ho, rfl⟩⟩, s_InvalidWay, hp⟩)) (v_lst (ds := [.str "InvalidWay", .bool true]) (ad_cons v_str (ad_cons v_bl ad_nil)) sz) now_d now_d (shE _ (by decide +kernel)) (shE _ (by decide +kernel))) (by rw [eqE]; rfl) ?_
          refine go_ifF (t_ne hu (v_call c_error hr (by decide) (a_cons (v_lam TB hml) (a_cons (vl 2 rfl rfl) (a_cons (vl 5 rfl rfl) (a_cons (vl 13 rfl rfl) a_nil)))) (fun post hp => ⟨_, _, _, _, "InvalidWay", CW, xThree (xDistOf CW) (fun x y z => [x, z, y]), rfl, by simp, by simp, by simp, by simp, .lam (j := 6) ⟨["x", "y", "z"], ["x", "y", "z"], ⟨rfl, rfl, rfl, by decide +kernel, rfl, by decide +kernel, by decide +kernel⟩, fun us pm c ct hl => match us, hl with | [_, _, _], _ => rfl, fun as μ C h => (by obtain ⟨x, y, z, rfl, _⟩ := h; rfl), fun f cdv A outer s H E as μ C hr' h => (by
            obtain ⟨x, y, z, rfl, nx, ny, nz, hR⟩ := h
            exact v_callSX x_time_of takesX hr' (by decide) (a_cons (vl 0 rfl rfl nx) (a_cons (vl 2 rfl rfl nz) (a_cons (vl 1 rfl rfl ny) a_nil))) hR)⟩ (by decide), ⟨_, _, _, rfl, by simp, by simp, by simp, ⟨st, pa, [od, .int a], rfl, g, (by show 2 ≤ 1000; decide), odd_way' ho, rfl⟩⟩, s_InvalidWay, hp⟩)) (v_lst (ds := [.str "InvalidWay", .bool true]) (ad_cons v_str (ad_cons v_bl ad_nil)) sz) now_d now_d (shE _ (by decide +kernel)) (shE _ (by decide +kernel))) (by rw [eqE]; rfl) ?_
          exact go_nxf ⟨_, rfl, rfl⟩
        · obtain ⟨y13, rfl, rfl⟩ := hI
          refine go_for (s_tup (v_tup (ds := [.int 0, .int 1001, .int (-1001), .none, .bool true, .str "1"]) (ad_cons v_int (ad_cons v_int (ad_cons (v_neg v_int) (ad_cons v_non (ad_cons v_bl (ad_cons v_str ad_nil)))))) sz))
            (fun i ρ κ => ∃ y13, ρ = [.f K ns, .m q, .d (ruleD st pa), .d (.tuple (st.map .int)), .d (.int pa), .d (.int a), .d (.int b), .d (.int c), .d (.list (found.map .int)), .d (.int (k : Int)), .d (.int here), .d (.list ((dueL st k).map .int)), y12, y13] ∧ κ = bg ν q ds n3) PassesOwn.never ⟨y13, rfl, rfl⟩ (fun _ _ _ _ _ => trivial) (fun B2 hB2 i ρ κ hi hI => ?_) (fun ρ κ hI => ?_)
          · obtain ⟨z13, rfl, rfl⟩ := hI
            have hodd : ∃ od : PyData, ([.int 0, .int 1001, .int (-1001), .none, .bool true, .str "1"] : List PyData).getD i .none = od ∧ (isInt od (-1000) 1000 = false ∨ od = .int 0) := by
              have hi6 : i < 6 := hi
              match i, hi6 with
              | 0, _ => exact ⟨_, rfl, .inr rfl⟩
              | 1, _ => exact ⟨_, rfl, .inl (by decide)⟩
              | 2, _ => exact ⟨_, rfl, .inl (by decide)⟩
              | 3, _ => exact ⟨_, rfl, .inl rfl⟩
              | 4, _ => exact ⟨_, rfl, .inl rfl⟩
              | 5, _ => exact ⟨_, rfl, .inl rfl⟩
            obtain ⟨od, eo, ho⟩ := hodd
            rw [eo]
            refine ⟨_, g_name 13 sc_law.nd, ?_⟩
            refine go_ifF (t_ne hu (v_call c_error hr (by decide) (a_cons (v_lam TB hml) (a_cons (vl 2 rfl rfl) (a_cons (vl 13 rfl rfl) (a_cons v_int a_nil)))) (fun post hp => ⟨_, _, _, _, "InvalidHold", CI, xThree (fun as μ C => xTrack CI as μ C ∧ C = CI) (fun x y _ => [x, y]), rfl, by simp, by simp, by simp, by simp, .lam (j := 8) ⟨["x", "y", "z"], ["x", "y", "z"], ⟨rfl, rfl, rfl, by decide +kernel, rfl, by decide +kernel, by decide +kernel⟩, fun us pm c ct hl => match us, hl with | [_, _, _], _ => rfl, fun as μ C h => (by obtain ⟨x, y, z, rfl, _⟩ := h; rfl), fun f cdv A outer s H E as μ C hr' h => (by
              obtain ⟨x, y, z, rfl, nx, ny, nz, hR, eC⟩ := h
              subst eC
              exact v_listGX x_track takesX n_InvalidHold hr' (by decide) (a_cons (vl 0 rfl rfl nx) (a_cons (vl 1 rfl rfl ny) a_nil)) hR m_list)⟩ (by decide), ⟨_, _, _, rfl, by simp, by simp, by simp, ⟨st, pa, od, rfl, g, ho, rfl⟩, rfl⟩, s_InvalidHold, hp⟩)) (v_lst (ds := [.str "InvalidHold", .bool true]) (ad_cons v_str (ad_cons v_bl ad_nil)) sz) now_d now_d (shE _ (by decide +kernel)) (shE _ (by decide +kernel))) (by rw [eqE]; rfl) ?_
            exact go_nxf ⟨_, rfl, rfl⟩
          · obtain ⟨z13, rfl, rfl⟩ := hI
            refine go_ifF (t_ne hu (v_len m_len (v_listG c_track.l hr (by decide) (a_cons (vl 2 rfl rfl) (a_cons (v_neg v_int) a_nil)) ⟨st, pa, -1000, rfl, g, by decide, by decide, by decide, rfl⟩ m_list) nowS_l (k := 1000) (by simp)) v_int now_d now_d rfl rfl) (by rw [eqv_int]; rfl) ?_
            exact fin _ _ rfl rfl _ rfl
    · have h14 : ρ.length = 14 := hm
      have g15 : GoodR [1, 5] 1 := ⟨by decide, by decide, by decide, by decide, by decide, by decide⟩
      have gw : GoodW [3, -1] := ⟨by decide, by decide⟩
      refine go_ifF (t_w (w_or (p := false) (q := false) (t_eqb (t_ne hu (v_callS (x := .d (.int (wayD [1, 5] [3, -1]))) c_distance_of hr (by decide) (a_cons (v_tup (ds := [.tuple [.int 1, .int 5], .int 1]) (ad_cons (v_tup (ad_cons v_int (ad_cons v_int ad_nil)) sz) (ad_cons v_int ad_nil)) sz) (a_cons v_int (a_cons (v_neg v_int) a_nil))) (fun post hp => ⟨[1, 5], 1, [3, -1], rfl, g15, gw, hp⟩)) v_int now_d now_d rfl rfl) (by rw [eqv_int]; decide))
        (fun _ => w_or1 (t_eqb (t_ne hu (v_callS (x := .d (.int (wayT 1 [3, -1]))) c_time_of hr (by decide) (a_cons (v_tup (ds := [.tuple [.int 1, .int 5], .int 1]) (ad_cons (v_tup (ad_cons v_int (ad_cons v_int ad_nil)) sz) (ad_cons v_int ad_nil)) sz) (a_cons v_int (a_cons (v_neg v_int) a_nil))) (fun post hp => ⟨[1, 5], 1, [3, -1], rfl, g15, gw, hp⟩)) v_int now_d now_d rfl rfl) (by rw [eqv_int]; decide))) (fun z => by cases z))) rfl ?_
      refine go_ret (v_eqd (d' := .bool true) (v_eq hu (v_listG c_track.l hr (by decide) (a_cons (v_tup (ds := [.tuple [.int 1, .int 5], .int 1]) (ad_cons (v_tup (ad_cons v_int (ad_cons v_int ad_nil)) sz) (ad_cons v_int ad_nil)) sz) (a_cons (v_neg v_int) a_nil)) ⟨[1, 5], 1, -3, rfl, g15, by decide, by decide, by decide, rfl⟩ m_list) (v_lst (ds := ([-1, -6, -11] : List Int).map .int) (ad_cons (v_neg v_int) (ad_cons (v_neg v_int) (ad_cons (v_neg v_int) ad_nil))) sz) now_d now_d (shaped_ints _) (shaped_ints _)) (by rw [eqv_ints, decide_eq_true (by decide)])) (hq _ _ (hp _))
end
section
variable {P : Program} {w : World} {K : PySem.W.Frag} {mg : Str → Option Value} {base : Heap}
/-! the law's entry, where its code object has a table -/
theorem law_startT {K : PySem.W.Frag} {H : Hp} {a T : Addr} {ns : List Int} (hl : ns.length ≤ 63) (hT : H T = some (.tbl #[])) (hS : SqL K H a (ns.map V.int)) : spR (rLaw K T) [.ref a] H (fun v _ => v = .bl true) fun _ _ _ => False := by
  have hm : mget [(T, MO.tbl lamQ)] T = some (.tbl lamQ) := by
    show (if T = T then _ else _) = _
    rw [if_pos rfl]
  have nm : ∀ b, b ≠ T → mget [(T, MO.tbl lamQ)] b = none := fun b hb => by
    show (if b = T then _ else none) = none
    rw [if_neg hb]
  refine ⟨[.f K ns], [(T, .tbl lamQ)], .cons ⟨a, rfl, ?_⟩ .nil, fun p o e => ?_, ns, rfl, hl, hm, fun ν v H' _ _ r => dp_bl r⟩
  · rcases hS with z | z
    · refine .inl ?_
      rcases z with z | ⟨o, z⟩
      · exact .inl (hide_of z (nm a fun e => by rw [e, hT] at z; cases z))
      · exact .inr ⟨o, hide_of z (nm a fun e => by rw [e, hT] at z; cases z)⟩
    · exact .inr z
  · by_cases hp : p = T
    · subst hp
      rw [hm] at e
      cases e
      exact ⟨#[], hT, trivial, fun pos cv hc => by
        have z : codeAmong pos [] = some cv := hc
        simp [codeAmong] at z⟩
    · rw [nm p hp] at e; cases e
theorem code_hd {K : PySem.W.Frag} {h : Heap} {c T : Addr} {od : Option Addr} {vs : Array Value} {sl : Array (Option Value)} {file : Str} {tf : Tok} {flags : Int} {tg : Tok} {inF : Bool} {text : Int} {tt : Tok} (X : K.In h) (l : K.lookup c = some ⟨.type "code", od, .fields vs, sl⟩) (v11 : vs[11]? = some (.ref T)) (w11 : vs.getD 11 .none = .ref T)
    (w18 : vs.getD 18 .none = .str file tf) (w7 : vs.getD 7 .none = .int flags tg) (w9 : vs.getD 9 .none = .bool inF) (w10 : vs.getD 10 .none = .int text tt) (ne : c ≠ T) : PySem.W.CodeHd h c T :=
  ⟨_, vs, file, tf, flags, tg, inF, text, tt, X _ _ l, rfl, rfl, v11, w11, w18, w7, w9, w10, ne⟩
end
/-! what the top has written -/
theorem all_mk {l : PySem.W.OpenLaw} {w : World} {K : PySem.W.Frag} {h : Heap} {mg : Str → Option Value} {fa : Addr} (X : K.In h) (G : h.Ns mainGlobals mg) (hfa : mg "law" = some (.ref fa)) (own : LamX.OwnTab K fa h)
    {f1 f2 f3 f4 f5 f6 f7 f8 f9 f10 f11 f12 f13 f14 f15 f16 f17 f18 f19 f20 f21 f22 f23 f24 f25 f26 f27 f28 : Addr}
    {od1 an1 od2 an2 od3 an3 od4 an4 od5 an5 od6 an6 od7 an7 od8 an8 od9 an9 od10 an10 od11 an11 od12 an12 od13 an13 od14 an14 od15 an15 od16 an16 od17 an17 od18 an18 od19 an19 od20 an20 od21 an21 od22 an22 od23 an23 od24 an24 od25 an25 od26 an26 od27 an27 od28 an28 : Option Addr} {sl1 sl2 sl3 sl4 sl5 sl6 sl7 sl8 sl9 sl10 sl11 sl12 sl13 sl14 sl15 sl16 sl17 sl18 sl19 sl20 sl21 sl22 sl23 sl24 sl25 sl26 sl27 sl28 : Array (Option Value)}
    {t_MAX_HOLD : Tok}
    {oc1 kV1 dc1 pm1 cd1 ct1 oc2 kV2 dc2 pm2 cd2 ct2 oc3 kV3 dc3 pm3 cd3 ct3 oc4 kV4 dc4 pm4 cd4 ct4 oc5 kV5 dc5 pm5 cd5 ct5 oc6 kV6 dc6 pm6 cd6 ct6 oc7 kV7 dc7 pm7 cd7 ct7 oc8 kV8 dc8 pm8 cd8 ct8 oc9 kV9 dc9 pm9 cd9 ct9 oc10 kV10 dc10 pm10 cd10 ct10 oc11 kV11 dc11 pm11 cd11 ct11 oc12 kV12 dc12 pm12 cd12 ct12 oc13 kV13 dc13 pm13 cd13 ct13 oc14 kV14 dc14 pm14 cd14 ct14 oc15 kV15 dc15 pm15 cd15 ct15 oc16 kV16 dc16 pm16 cd16 ct16 oc17 kV17 dc17 pm17 cd17 ct17 oc18 kV18 dc18 pm18 cd18 ct18 oc19 kV19 dc19 pm19 cd19 ct19 oc20 kV20 dc20 pm20 cd20 ct20 oc21 kV21 dc21 pm21 cd21 ct21 oc22 kV22 dc22 pm22 cd22 ct22 oc23 kV23 dc23 pm23 cd23 ct23 oc24 kV24 dc24 pm24 cd24 ct24 oc25 kV25 dc25 pm25 cd25 ct25 oc26 kV26 dc26 pm26 cd26 ct26 oc27 kV27 dc27 pm27 cd27 ct27 oc28 kV28 dc28 pm28 ct28 : Value}
    {EHoldError EInvalidRule EInvalidHold EInvalidWay EInvalidDistance EInvalidNumber EInvalidSteps EInvalidSightings ENothingToUndo : Addr}
    {cL TL : Addr} {odC : Option Addr} {vsC : Array Value} {slC : Array (Option Value)} {fileC : Str} {tfC : Tok} {flagsC : Int} {tgC : Tok} {inFC : Bool} {textC : Int} {ttC : Tok}
    (a1 : PySem.W.nsIn K mainGlobals "_law_cell_at" = some (some (.ref f1)))
    (l1 : K.lookup f1 = some ⟨oc1, od1, .func (PySem.W.fnOf "_law_cell_at" "_law_cell_at" (defArgs s_cell_at) (defBody s_cell_at) (defScope s_cell_at) .none kV1 dc1 pm1 an1 cd1 ct1), sl1⟩)
    (c1 : PySem.W.codeIn K cd1 "_law_cell_at" = true)
    (k1 : PySem.W.keepIn K (.ref f1) = true)
    (a2 : PySem.W.nsIn K mainGlobals "_law_draws" = some (some (.ref f2)))
    (l2 : K.lookup f2 = some ⟨oc2, od2, .func (PySem.W.fnOf "_law_draws" "_law_draws" (defArgs s_draws) (defBody s_draws) (defScope s_draws) .none kV2 dc2 pm2 an2 cd2 ct2), sl2⟩)
    (c2 : PySem.W.codeIn K cd2 "_law_draws" = true)
    (k2 : PySem.W.keepIn K (.ref f2) = true)
    (a3 : PySem.W.nsIn K mainGlobals "_law_bag" = some (some (.ref f3)))
    (l3 : K.lookup f3 = some ⟨oc3, od3, .func (PySem.W.fnOf "_law_bag" "_law_bag" (defArgs s_bag) (defBody s_bag) (defScope s_bag) .none kV3 dc3 pm3 an3 cd3 ct3), sl3⟩)
    (c3 : PySem.W.codeIn K cd3 "_law_bag" = true)
    (k3 : PySem.W.keepIn K (.ref f3) = true)
    (a4 : PySem.W.nsIn K mainGlobals "_law_bags" = some (some (.ref f4)))
    (l4 : K.lookup f4 = some ⟨oc4, od4, .func (PySem.W.fnOf "_law_bags" "_law_bags" (defArgs s_bags) (defBody s_bags) (defScope s_bags) .none kV4 dc4 pm4 an4 cd4 ct4), sl4⟩)
    (c4 : PySem.W.codeIn K cd4 "_law_bags" = true)
    (k4 : PySem.W.keepIn K (.ref f4) = true)
    (a5 : PySem.W.nsIn K mainGlobals "_law_take" = some (some (.ref f5)))
    (l5 : K.lookup f5 = some ⟨oc5, od5, .func (PySem.W.fnOf "_law_take" "_law_take" (defArgs s_take) (defBody s_take) (defScope s_take) .none kV5 dc5 pm5 an5 cd5 ct5), sl5⟩)
    (c5 : PySem.W.codeIn K cd5 "_law_take" = true)
    (k5 : PySem.W.keepIn K (.ref f5) = true)
    (a6 : PySem.W.nsIn K mainGlobals "_law_far_draw" = some (some (.ref f6)))
    (l6 : K.lookup f6 = some ⟨oc6, od6, .func (PySem.W.fnOf "_law_far_draw" "_law_far_draw" (defArgs s_far_draw) (defBody s_far_draw) (defScope s_far_draw) .none kV6 dc6 pm6 an6 cd6 ct6), sl6⟩)
    (c6 : PySem.W.codeIn K cd6 "_law_far_draw" = true)
    (k6 : PySem.W.keepIn K (.ref f6) = true)
    (a7 : PySem.W.nsIn K mainGlobals "_law_rule" = some (some (.ref f7)))
    (l7 : K.lookup f7 = some ⟨oc7, od7, .func (PySem.W.fnOf "_law_rule" "_law_rule" (defArgs s_rule) (defBody s_rule) (defScope s_rule) .none kV7 dc7 pm7 an7 cd7 ct7), sl7⟩)
    (c7 : PySem.W.codeIn K cd7 "_law_rule" = true)
    (k7 : PySem.W.keepIn K (.ref f7) = true)
    (a8 : PySem.W.nsIn K mainGlobals "_law_span" = some (some (.ref f8)))
    (l8 : K.lookup f8 = some ⟨oc8, od8, .func (PySem.W.fnOf "_law_span" "_law_span" (defArgs s_span) (defBody s_span) (defScope s_span) .none kV8 dc8 pm8 an8 cd8 ct8), sl8⟩)
    (c8 : PySem.W.codeIn K cd8 "_law_span" = true)
    (k8 : PySem.W.keepIn K (.ref f8) = true)
    (a9 : PySem.W.nsIn K mainGlobals "_law_moves" = some (some (.ref f9)))
    (l9 : K.lookup f9 = some ⟨oc9, od9, .func (PySem.W.fnOf "_law_moves" "_law_moves" (defArgs s_moves) (defBody s_moves) (defScope s_moves) .none kV9 dc9 pm9 an9 cd9 ct9), sl9⟩)
    (c9 : PySem.W.codeIn K cd9 "_law_moves" = true)
    (k9 : PySem.W.keepIn K (.ref f9) = true)
    (a10 : PySem.W.nsIn K mainGlobals "_law_goes" = some (some (.ref f10)))
    (l10 : K.lookup f10 = some ⟨oc10, od10, .func (PySem.W.fnOf "_law_goes" "_law_goes" (defArgs s_goes) (defBody s_goes) (defScope s_goes) .none kV10 dc10 pm10 an10 cd10 ct10), sl10⟩)
    (c10 : PySem.W.codeIn K cd10 "_law_goes" = true)
    (k10 : PySem.W.keepIn K (.ref f10) = true)
    (a11 : PySem.W.nsIn K mainGlobals "_law_lasts" = some (some (.ref f11)))
    (l11 : K.lookup f11 = some ⟨oc11, od11, .func (PySem.W.fnOf "_law_lasts" "_law_lasts" (defArgs s_lasts) (defBody s_lasts) (defScope s_lasts) .none kV11 dc11 pm11 an11 cd11 ct11), sl11⟩)
    (c11 : PySem.W.codeIn K cd11 "_law_lasts" = true)
    (k11 : PySem.W.keepIn K (.ref f11) = true)
    (a12 : PySem.W.nsIn K mainGlobals "_law_hold" = some (some (.ref f12)))
    (l12 : K.lookup f12 = some ⟨oc12, od12, .func (PySem.W.fnOf "_law_hold" "_law_hold" (defArgs s_hold) (defBody s_hold) (defScope s_hold) .none kV12 dc12 pm12 an12 cd12 ct12), sl12⟩)
    (c12 : PySem.W.codeIn K cd12 "_law_hold" = true)
    (k12 : PySem.W.keepIn K (.ref f12) = true)
    (a13 : PySem.W.nsIn K mainGlobals "is_integer" = some (some (.ref f13)))
    (l13 : K.lookup f13 = some ⟨oc13, od13, .func (PySem.W.fnOf "is_integer" "is_integer" (defArgs s_p_is_integer) (defBody s_p_is_integer) (defScope s_p_is_integer) .none kV13 dc13 pm13 an13 cd13 ct13), sl13⟩)
    (c13 : PySem.W.codeIn K cd13 "is_integer" = true)
    (k13 : PySem.W.keepIn K (.ref f13) = true)
    (a14 : PySem.W.nsIn K mainGlobals "is_steps" = some (some (.ref f14)))
    (l14 : K.lookup f14 = some ⟨oc14, od14, .func (PySem.W.fnOf "is_steps" "is_steps" (defArgs s_p_is_steps) (defBody s_p_is_steps) (defScope s_p_is_steps) .none kV14 dc14 pm14 an14 cd14 ct14), sl14⟩)
    (c14 : PySem.W.codeIn K cd14 "is_steps" = true)
    (k14 : PySem.W.keepIn K (.ref f14) = true)
    (a15 : PySem.W.nsIn K mainGlobals "is_rule" = some (some (.ref f15)))
    (l15 : K.lookup f15 = some ⟨oc15, od15, .func (PySem.W.fnOf "is_rule" "is_rule" (defArgs s_p_is_rule) (defBody s_p_is_rule) (defScope s_p_is_rule) .none kV15 dc15 pm15 an15 cd15 ct15), sl15⟩)
    (c15 : PySem.W.codeIn K cd15 "is_rule" = true)
    (k15 : PySem.W.keepIn K (.ref f15) = true)
    (a16 : PySem.W.nsIn K mainGlobals "is_hold" = some (some (.ref f16)))
    (l16 : K.lookup f16 = some ⟨oc16, od16, .func (PySem.W.fnOf "is_hold" "is_hold" (defArgs s_p_is_hold) (defBody s_p_is_hold) (defScope s_p_is_hold) .none kV16 dc16 pm16 an16 cd16 ct16), sl16⟩)
    (c16 : PySem.W.codeIn K cd16 "is_hold" = true)
    (k16 : PySem.W.keepIn K (.ref f16) = true)
    (a17 : PySem.W.nsIn K mainGlobals "is_way" = some (some (.ref f17)))
    (l17 : K.lookup f17 = some ⟨oc17, od17, .func (PySem.W.fnOf "is_way" "is_way" (defArgs s_p_is_way) (defBody s_p_is_way) (defScope s_p_is_way) .none kV17 dc17 pm17 an17 cd17 ct17), sl17⟩)
    (c17 : PySem.W.codeIn K cd17 "is_way" = true)
    (k17 : PySem.W.keepIn K (.ref f17) = true)
    (a18 : PySem.W.nsIn K mainGlobals "need_rule" = some (some (.ref f18)))
    (l18 : K.lookup f18 = some ⟨oc18, od18, .func (PySem.W.fnOf "need_rule" "need_rule" (defArgs s_p_need_rule) (defBody s_p_need_rule) (defScope s_p_need_rule) .none kV18 dc18 pm18 an18 cd18 ct18), sl18⟩)
    (c18 : PySem.W.codeIn K cd18 "need_rule" = true)
    (k18 : PySem.W.keepIn K (.ref f18) = true)
    (a19 : PySem.W.nsIn K mainGlobals "need_way" = some (some (.ref f19)))
    (l19 : K.lookup f19 = some ⟨oc19, od19, .func (PySem.W.fnOf "need_way" "need_way" (defArgs s_p_need_way) (defBody s_p_need_way) (defScope s_p_need_way) .none kV19 dc19 pm19 an19 cd19 ct19), sl19⟩)
    (c19 : PySem.W.codeIn K cd19 "need_way" = true)
    (k19 : PySem.W.keepIn K (.ref f19) = true)
    (a20 : PySem.W.nsIn K mainGlobals "moved" = some (some (.ref f20)))
    (l20 : K.lookup f20 = some ⟨oc20, od20, .func (PySem.W.fnOf "moved" "moved" (defArgs s_p_moved) (defBody s_p_moved) (defScope s_p_moved) .none kV20 dc20 pm20 an20 cd20 ct20), sl20⟩)
    (c20 : PySem.W.codeIn K cd20 "moved" = true)
    (k20 : PySem.W.keepIn K (.ref f20) = true)
    (a21 : PySem.W.nsIn K mainGlobals "hold_distance" = some (some (.ref f21)))
    (l21 : K.lookup f21 = some ⟨oc21, od21, .func (PySem.W.fnOf "hold_distance" "hold_distance" (defArgs s_p_hold_distance) (defBody s_p_hold_distance) (defScope s_p_hold_distance) .none kV21 dc21 pm21 an21 cd21 ct21), sl21⟩)
    (c21 : PySem.W.codeIn K cd21 "hold_distance" = true)
    (k21 : PySem.W.keepIn K (.ref f21) = true)
    (a22 : PySem.W.nsIn K mainGlobals "way_distance" = some (some (.ref f22)))
    (l22 : K.lookup f22 = some ⟨oc22, od22, .func (PySem.W.fnOf "way_distance" "way_distance" (defArgs s_p_way_distance) (defBody s_p_way_distance) (defScope s_p_way_distance) .none kV22 dc22 pm22 an22 cd22 ct22), sl22⟩)
    (c22 : PySem.W.codeIn K cd22 "way_distance" = true)
    (k22 : PySem.W.keepIn K (.ref f22) = true)
    (a23 : PySem.W.nsIn K mainGlobals "way_time" = some (some (.ref f23)))
    (l23 : K.lookup f23 = some ⟨oc23, od23, .func (PySem.W.fnOf "way_time" "way_time" (defArgs s_p_way_time) (defBody s_p_way_time) (defScope s_p_way_time) .none kV23 dc23 pm23 an23 cd23 ct23), sl23⟩)
    (c23 : PySem.W.codeIn K cd23 "way_time" = true)
    (k23 : PySem.W.keepIn K (.ref f23) = true)
    (a24 : PySem.W.nsIn K mainGlobals "distance_of" = some (some (.ref f24)))
    (l24 : K.lookup f24 = some ⟨oc24, od24, .func (PySem.W.fnOf "distance_of" "distance_of" (defArgs s_p_distance_of) (defBody s_p_distance_of) (defScope s_p_distance_of) .none kV24 dc24 pm24 an24 cd24 ct24), sl24⟩)
    (c24 : PySem.W.codeIn K cd24 "distance_of" = true)
    (k24 : PySem.W.keepIn K (.ref f24) = true)
    (a25 : PySem.W.nsIn K mainGlobals "time_of" = some (some (.ref f25)))
    (l25 : K.lookup f25 = some ⟨oc25, od25, .func (PySem.W.fnOf "time_of" "time_of" (defArgs s_p_time_of) (defBody s_p_time_of) (defScope s_p_time_of) .none kV25 dc25 pm25 an25 cd25 ct25), sl25⟩)
    (c25 : PySem.W.codeIn K cd25 "time_of" = true)
    (k25 : PySem.W.keepIn K (.ref f25) = true)
    (a26 : PySem.W.nsIn K mainGlobals "track" = some (some (.ref f26)))
    (l26 : K.lookup f26 = some ⟨oc26, od26, .func (PySem.W.fnOf "track" "track" (defArgs s_p_track) (defBody s_p_track) (defScope s_p_track) .none kV26 dc26 pm26 an26 cd26 ct26), sl26⟩)
    (c26 : PySem.W.codeIn K cd26 "track" = true)
    (k26 : PySem.W.keepIn K (.ref f26) = true)
    (a27 : PySem.W.nsIn K mainGlobals "_law_error" = some (some (.ref f27)))
    (l27 : K.lookup f27 = some ⟨oc27, od27, .func (PySem.W.fnOf "_law_error" "_law_error" (defArgs s_error) (defBody s_error) (defScope s_error) .none kV27 dc27 pm27 an27 cd27 ct27), sl27⟩)
    (c27 : PySem.W.codeIn K cd27 "_law_error" = true)
    (k27 : PySem.W.keepIn K (.ref f27) = true)
    (a28 : PySem.W.nsIn K mainGlobals "law" = some (some (.ref f28)))
    (l28 : K.lookup f28 = some ⟨oc28, od28, .func (PySem.W.fnOf "law" "law" (defArgs s_law) (defBody s_law) (defScope s_law) .none kV28 dc28 pm28 an28 (.ref cL) ct28), sl28⟩)
    (c28 : PySem.W.codeIn K (.ref cL) "law" = true)
    (lC : K.lookup cL = some ⟨.type "code", odC, .fields vsC, slC⟩)
    (v11 : vsC[11]? = some (.ref TL))
    (w11 : vsC.getD 11 .none = .ref TL)
    (w18 : vsC.getD 18 .none = .str fileC tfC)
    (w7 : vsC.getD 7 .none = .int flagsC tgC)
    (w9 : vsC.getD 9 .none = .bool inFC)
    (w10 : vsC.getD 10 .none = .int textC ttC)
    (neC : cL ≠ TL)
    (nTL : K.lookup TL = none)
    (k28 : PySem.W.keepIn K (.ref f28) = true)
    (z_ValueError : PySem.W.nsIn K mainGlobals "ValueError" = some none)
    (z_abs : PySem.W.nsIn K mainGlobals "abs" = some none)
    (z_all : PySem.W.nsIn K mainGlobals "all" = some none)
    (z_bool : PySem.W.nsIn K mainGlobals "bool" = some none)
    (z_int : PySem.W.nsIn K mainGlobals "int" = some none)
    (z_isinstance : PySem.W.nsIn K mainGlobals "isinstance" = some none)
    (z_len : PySem.W.nsIn K mainGlobals "len" = some none)
    (z_list : PySem.W.nsIn K mainGlobals "list" = some none)
    (z_max : PySem.W.nsIn K mainGlobals "max" = some none)
    (z_min : PySem.W.nsIn K mainGlobals "min" = some none)
    (z_range : PySem.W.nsIn K mainGlobals "range" = some none)
    (z_sorted : PySem.W.nsIn K mainGlobals "sorted" = some none)
    (z_sum : PySem.W.nsIn K mainGlobals "sum" = some none)
    (z_tuple : PySem.W.nsIn K mainGlobals "tuple" = some none)
    (z_zip : PySem.W.nsIn K mainGlobals "zip" = some none)
    (q_MAX_HOLD : PySem.W.nsIn K mainGlobals "MAX_HOLD" = some (some (.int 1000000 t_MAX_HOLD)))
    (aEHoldError : PySem.W.nsIn K mainGlobals "HoldError" = some (some (.ref EHoldError)))
    (tEHoldError : PySem.W.typeIn K (.ref EHoldError) = some (.type "type"))
    (iEHoldError : PySem.W.isClsIn K EHoldError = true)
    (aEInvalidRule : PySem.W.nsIn K mainGlobals "InvalidRule" = some (some (.ref EInvalidRule)))
    (tEInvalidRule : PySem.W.typeIn K (.ref EInvalidRule) = some (.type "type"))
    (iEInvalidRule : PySem.W.isClsIn K EInvalidRule = true)
    (aEInvalidHold : PySem.W.nsIn K mainGlobals "InvalidHold" = some (some (.ref EInvalidHold)))
    (tEInvalidHold : PySem.W.typeIn K (.ref EInvalidHold) = some (.type "type"))
    (iEInvalidHold : PySem.W.isClsIn K EInvalidHold = true)
    (aEInvalidWay : PySem.W.nsIn K mainGlobals "InvalidWay" = some (some (.ref EInvalidWay)))
    (tEInvalidWay : PySem.W.typeIn K (.ref EInvalidWay) = some (.type "type"))
    (iEInvalidWay : PySem.W.isClsIn K EInvalidWay = true)
    (aEInvalidDistance : PySem.W.nsIn K mainGlobals "InvalidDistance" = some (some (.ref EInvalidDistance)))
    (tEInvalidDistance : PySem.W.typeIn K (.ref EInvalidDistance) = some (.type "type"))
    (iEInvalidDistance : PySem.W.isClsIn K EInvalidDistance = true)
    (aEInvalidNumber : PySem.W.nsIn K mainGlobals "InvalidNumber" = some (some (.ref EInvalidNumber)))
    (tEInvalidNumber : PySem.W.typeIn K (.ref EInvalidNumber) = some (.type "type"))
    (iEInvalidNumber : PySem.W.isClsIn K EInvalidNumber = true)
    (aEInvalidSteps : PySem.W.nsIn K mainGlobals "InvalidSteps" = some (some (.ref EInvalidSteps)))
    (tEInvalidSteps : PySem.W.typeIn K (.ref EInvalidSteps) = some (.type "type"))
    (iEInvalidSteps : PySem.W.isClsIn K EInvalidSteps = true)
    (aEInvalidSightings : PySem.W.nsIn K mainGlobals "InvalidSightings" = some (some (.ref EInvalidSightings)))
    (tEInvalidSightings : PySem.W.typeIn K (.ref EInvalidSightings) = some (.type "type"))
    (iEInvalidSightings : PySem.W.isClsIn K EInvalidSightings = true)
    (aENothingToUndo : PySem.W.nsIn K mainGlobals "NothingToUndo" = some (some (.ref ENothingToUndo)))
    (tENothingToUndo : PySem.W.typeIn K (.ref ENothingToUndo) = some (.type "type"))
    (iENothingToUndo : PySem.W.isClsIn K ENothingToUndo = true)
    (bEHoldError : PySem.W.subIn K (.ref EHoldError) (.type "BaseException") = some true)
    (bEInvalidHold : PySem.W.subIn K (.ref EInvalidHold) (.type "BaseException") = some true)
    (xEInvalidHold : PySem.W.excIn K EInvalidHold [.type "ValueError", .type "Exception", .type "BaseException", .type "object"] "ValueError.__new__" = true)
    (kEInvalidHold : PySem.W.keepIn K (.ref EInvalidHold) = true)
    (bEInvalidWay : PySem.W.subIn K (.ref EInvalidWay) (.type "BaseException") = some true)
    (xEInvalidWay : PySem.W.excIn K EInvalidWay [.type "ValueError", .type "Exception", .type "BaseException", .type "object"] "ValueError.__new__" = true)
    (kEInvalidWay : PySem.W.keepIn K (.ref EInvalidWay) = true)
    (nEInvalidHold : PySem.W.subIn K (.ref EInvalidHold) (.type "StopIteration") = some false)
    (dEHoldError : PySem.W.hasDictIn K EHoldError = true)
    (spcG : PySem.W.specialIn K (.builtin "object.__class__") "__get__" = some (some (.builtin "getset_descriptor.__get__")))
    (tkG : PySem.W.takesIn K (.builtin "object.__class__") = some true)
    (hgEInvalidHold : PySem.W.findIn K (.ref EInvalidHold) "__getattribute__" = some (some (.builtin "BaseException.__getattribute__")))
    (hkEInvalidHold : PySem.W.findIn K (.ref EInvalidHold) "__getattr__" = some none)
    (dEInvalidHold : PySem.W.hasDictIn K EInvalidHold = true)
    (haEInvalidHold : PySem.W.findIn K (.ref EInvalidHold) "__class__" = some (some (.builtin "object.__class__")))
    (moEInvalidHold : PySem.W.mroIn K EInvalidHold (.type "object") = some true)
    (vEInvalidHold : PySem.W.subIn K (.ref EInvalidHold) (.type "ValueError") = some true)
    (uEInvalidHold : PySem.W.subIn K (.ref EInvalidHold) (.ref EHoldError) = some true)
    (sInvalidHold_InvalidRule : PySem.W.subIn K (.ref EInvalidHold) (.ref EInvalidRule) = some false)
    (sInvalidHold_InvalidHold : PySem.W.subIn K (.ref EInvalidHold) (.ref EInvalidHold) = some true)
    (sInvalidHold_InvalidWay : PySem.W.subIn K (.ref EInvalidHold) (.ref EInvalidWay) = some false)
    (sInvalidHold_InvalidDistance : PySem.W.subIn K (.ref EInvalidHold) (.ref EInvalidDistance) = some false)
    (sInvalidHold_InvalidNumber : PySem.W.subIn K (.ref EInvalidHold) (.ref EInvalidNumber) = some false)
    (sInvalidHold_InvalidSteps : PySem.W.subIn K (.ref EInvalidHold) (.ref EInvalidSteps) = some false)
    (sInvalidHold_InvalidSightings : PySem.W.subIn K (.ref EInvalidHold) (.ref EInvalidSightings) = some false)
    (sInvalidHold_NothingToUndo : PySem.W.subIn K (.ref EInvalidHold) (.ref ENothingToUndo) = some false)
    (hgEInvalidWay : PySem.W.findIn K (.ref EInvalidWay) "__getattribute__" = some (some (.builtin "BaseException.__getattribute__")))
    (hkEInvalidWay : PySem.W.findIn K (.ref EInvalidWay) "__getattr__" = some none)
    (dEInvalidWay : PySem.W.hasDictIn K EInvalidWay = true)
    (haEInvalidWay : PySem.W.findIn K (.ref EInvalidWay) "__class__" = some (some (.builtin "object.__class__")))
    (moEInvalidWay : PySem.W.mroIn K EInvalidWay (.type "object") = some true)
    (vEInvalidWay : PySem.W.subIn K (.ref EInvalidWay) (.type "ValueError") = some true)
    (uEInvalidWay : PySem.W.subIn K (.ref EInvalidWay) (.ref EHoldError) = some true)
    (sInvalidWay_InvalidRule : PySem.W.subIn K (.ref EInvalidWay) (.ref EInvalidRule) = some false)
    (sInvalidWay_InvalidHold : PySem.W.subIn K (.ref EInvalidWay) (.ref EInvalidHold) = some false)
    (sInvalidWay_InvalidWay : PySem.W.subIn K (.ref EInvalidWay) (.ref EInvalidWay) = some true)
    (sInvalidWay_InvalidDistance : PySem.W.subIn K (.ref EInvalidWay) (.ref EInvalidDistance) = some false)
    (sInvalidWay_InvalidNumber : PySem.W.subIn K (.ref EInvalidWay) (.ref EInvalidNumber) = some false)
    (sInvalidWay_InvalidSteps : PySem.W.subIn K (.ref EInvalidWay) (.ref EInvalidSteps) = some false)
    (sInvalidWay_InvalidSightings : PySem.W.subIn K (.ref EInvalidWay) (.ref EInvalidSightings) = some false)
    (sInvalidWay_NothingToUndo : PySem.W.subIn K (.ref EInvalidWay) (.ref ENothingToUndo) = some false)
    : LamX.LawAtS l w K CX0 14 63 "script" mg fa h := by
  have e := hfa.symm.trans (PySem.W.mg_of X G a28)
  cases e
  have F__law_cell_at := fun_mk (st := s_cell_at) l1 c1 k1
  have b__law_cell_at := F__law_cell_at.binds (ps := ["script", "k"]) fun _ _ _ _ _ _ us hl => match us, hl with | [_, _], _ => rfl
  have g__law_cell_at := PySem.W.mg_of X G a1
  have F__law_draws := fun_mk (st := s_draws) l2 c2 k2
  have b__law_draws := F__law_draws.binds (ps := ["cell", "many", "size"]) fun _ _ _ _ _ _ us hl => match us, hl with | [_, _, _], _ => rfl
  have g__law_draws := PySem.W.mg_of X G a2
  have F__law_bag := fun_mk (st := s_bag) l3 c3 k3
  have b__law_bag := F__law_bag.binds (ps := ["script", "k"]) fun _ _ _ _ _ _ us hl => match us, hl with | [_, _], _ => rfl
  have g__law_bag := PySem.W.mg_of X G a3
  have F__law_bags := fun_mk (st := s_bags) l4 c4 k4
  have b__law_bags := F__law_bags.binds (ps := ["script", "limit"]) fun _ _ _ _ _ _ us hl => match us, hl with | [_, _], _ => rfl
  have g__law_bags := PySem.W.mg_of X G a4
  have F__law_take := fun_mk (st := s_take) l5 c5 k5
  have b__law_take := F__law_take.binds (ps := ["bag", "many"]) fun _ _ _ _ _ _ us hl => match us, hl with | [_, _], _ => rfl
  have g__law_take := PySem.W.mg_of X G a5
  have F__law_far_draw := fun_mk (st := s_far_draw) l6 c6 k6
  have b__law_far_draw := F__law_far_draw.binds (ps := ["bag", "many"]) fun _ _ _ _ _ _ us hl => match us, hl with | [_, _], _ => rfl
  have g__law_far_draw := PySem.W.mg_of X G a6
  have F__law_rule := fun_mk (st := s_rule) l7 c7 k7
  have b__law_rule := F__law_rule.binds (ps := ["bag"]) fun _ _ _ _ _ _ us hl => match us, hl with | [_], _ => rfl
  have g__law_rule := PySem.W.mg_of X G a7
  have F__law_span := fun_mk (st := s_span) l8 c8 k8
  have b__law_span := F__law_span.binds (ps := ["steps", "ticks"]) fun _ _ _ _ _ _ us hl => match us, hl with | [_, _], _ => rfl
  have g__law_span := PySem.W.mg_of X G a8
  have F__law_moves := fun_mk (st := s_moves) l9 c9 k9
  have b__law_moves := F__law_moves.binds (ps := ["steps", "hold"]) fun _ _ _ _ _ _ us hl => match us, hl with | [_, _], _ => rfl
  have g__law_moves := PySem.W.mg_of X G a9
  have F__law_goes := fun_mk (st := s_goes) l10 c10 k10
  have b__law_goes := F__law_goes.binds (ps := ["steps", "way"]) fun _ _ _ _ _ _ us hl => match us, hl with | [_, _], _ => rfl
  have g__law_goes := PySem.W.mg_of X G a10
  have F__law_lasts := fun_mk (st := s_lasts) l11 c11 k11
  have b__law_lasts := F__law_lasts.binds (ps := ["pause", "way"]) fun _ _ _ _ _ _ us hl => match us, hl with | [_, _], _ => rfl
  have g__law_lasts := PySem.W.mg_of X G a11
  have F__law_hold := fun_mk (st := s_hold) l12 c12 k12
  have b__law_hold := F__law_hold.binds (ps := ["bag"]) fun _ _ _ _ _ _ us hl => match us, hl with | [_], _ => rfl
  have g__law_hold := PySem.W.mg_of X G a12
  have F_is_integer := fun_mk (st := s_p_is_integer) l13 c13 k13
  have b_is_integer := F_is_integer.binds (ps := ["value", "low", "high"]) fun _ _ _ _ _ _ us hl => match us, hl with | [_, _, _], _ => rfl
  have g_is_integer := PySem.W.mg_of X G a13
  have F_is_steps := fun_mk (st := s_p_is_steps) l14 c14 k14
  have b_is_steps := F_is_steps.binds (ps := ["value"]) fun _ _ _ _ _ _ us hl => match us, hl with | [_], _ => rfl
  have g_is_steps := PySem.W.mg_of X G a14
  have F_is_rule := fun_mk (st := s_p_is_rule) l15 c15 k15
  have b_is_rule := F_is_rule.binds (ps := ["value"]) fun _ _ _ _ _ _ us hl => match us, hl with | [_], _ => rfl
  have g_is_rule := PySem.W.mg_of X G a15
  have F_is_hold := fun_mk (st := s_p_is_hold) l16 c16 k16
  have b_is_hold := F_is_hold.binds (ps := ["value"]) fun _ _ _ _ _ _ us hl => match us, hl with | [_], _ => rfl
  have g_is_hold := PySem.W.mg_of X G a16
  have F_is_way := fun_mk (st := s_p_is_way) l17 c17 k17
  have b_is_way := F_is_way.binds (ps := ["value"]) fun _ _ _ _ _ _ us hl => match us, hl with | [_], _ => rfl
  have g_is_way := PySem.W.mg_of X G a17
  have F_need_rule := fun_mk (st := s_p_need_rule) l18 c18 k18
  have b_need_rule := F_need_rule.binds (ps := ["value"]) fun _ _ _ _ _ _ us hl => match us, hl with | [_], _ => rfl
  have g_need_rule := PySem.W.mg_of X G a18
  have F_need_way := fun_mk (st := s_p_need_way) l19 c19 k19
  have b_need_way := F_need_way.binds (ps := ["value"]) fun _ _ _ _ _ _ us hl => match us, hl with | [_], _ => rfl
  have g_need_way := PySem.W.mg_of X G a19
  have F_moved := fun_mk (st := s_p_moved) l20 c20 k20
  have b_moved := F_moved.binds (ps := ["steps", "ticks"]) fun _ _ _ _ _ _ us hl => match us, hl with | [_, _], _ => rfl
  have g_moved := PySem.W.mg_of X G a20
  have F_hold_distance := fun_mk (st := s_p_hold_distance) l21 c21 k21
  have b_hold_distance := F_hold_distance.binds (ps := ["steps", "hold"]) fun _ _ _ _ _ _ us hl => match us, hl with | [_, _], _ => rfl
  have g_hold_distance := PySem.W.mg_of X G a21
  have F_way_distance := fun_mk (st := s_p_way_distance) l22 c22 k22
  have b_way_distance := F_way_distance.binds (ps := ["steps", "way"]) fun _ _ _ _ _ _ us hl => match us, hl with | [_, _], _ => rfl
  have g_way_distance := PySem.W.mg_of X G a22
  have F_way_time := fun_mk (st := s_p_way_time) l23 c23 k23
  have b_way_time := F_way_time.binds (ps := ["pause", "way"]) fun _ _ _ _ _ _ us hl => match us, hl with | [_, _], _ => rfl
  have g_way_time := PySem.W.mg_of X G a23
  have F_distance_of := fun_mk (st := s_p_distance_of) l24 c24 k24
  have bs_distance_of := fun_bindsS F_distance_of (p1 := "rule") (pv := "holds") (fun _ _ _ _ _ _ _ => rfl) (fun _ _ _ _ _ _ _ _ _ => rfl)
  have g_distance_of := PySem.W.mg_of X G a24
  have F_time_of := fun_mk (st := s_p_time_of) l25 c25 k25
  have bs_time_of := fun_bindsS F_time_of (p1 := "rule") (pv := "holds") (fun _ _ _ _ _ _ _ => rfl) (fun _ _ _ _ _ _ _ _ _ => rfl)
  have g_time_of := PySem.W.mg_of X G a25
  have F_track := fun_mk (st := s_p_track) l26 c26 k26
  have b_track := F_track.binds (ps := ["rule", "hold"]) fun _ _ _ _ _ _ us hl => match us, hl with | [_, _], _ => rfl
  have g_track := PySem.W.mg_of X G a26
  have F__law_error := fun_mk (st := s_error) l27 c27 k27
  have b__law_error := F__law_error.binds (ps := ["call", "a", "b", "c"]) fun _ _ _ _ _ _ us hl => match us, hl with | [_, _, _, _], _ => rfl
  have g__law_error := PySem.W.mg_of X G a27
  have F_law := funC_mk (st := s_law) l28 c28 k28
  have g_law := PySem.W.mg_of X G a28
  have m_ValueError := PySem.W.mg_none_of X G z_ValueError
  have m_abs := PySem.W.mg_none_of X G z_abs
  have m_all := PySem.W.mg_none_of X G z_all
  have m_bool := PySem.W.mg_none_of X G z_bool
  have m_int := PySem.W.mg_none_of X G z_int
  have m_isinstance := PySem.W.mg_none_of X G z_isinstance
  have m_len := PySem.W.mg_none_of X G z_len
  have m_list := PySem.W.mg_none_of X G z_list
  have m_max := PySem.W.mg_none_of X G z_max
  have m_min := PySem.W.mg_none_of X G z_min
  have m_range := PySem.W.mg_none_of X G z_range
  have m_sorted := PySem.W.mg_none_of X G z_sorted
  have m_sum := PySem.W.mg_none_of X G z_sum
  have m_tuple := PySem.W.mg_none_of X G z_tuple
  have m_zip := PySem.W.mg_none_of X G z_zip
  have m_MAX_HOLD := PySem.W.mg_of X G q_MAX_HOLD
  have gE_HoldError := PySem.W.mg_of X G aEHoldError
  have gE_InvalidRule := PySem.W.mg_of X G aEInvalidRule
  have gE_InvalidHold := PySem.W.mg_of X G aEInvalidHold
  have gE_InvalidWay := PySem.W.mg_of X G aEInvalidWay
  have gE_InvalidDistance := PySem.W.mg_of X G aEInvalidDistance
  have gE_InvalidNumber := PySem.W.mg_of X G aEInvalidNumber
  have gE_InvalidSteps := PySem.W.mg_of X G aEInvalidSteps
  have gE_InvalidSightings := PySem.W.mg_of X G aEInvalidSightings
  have gE_NothingToUndo := PySem.W.mg_of X G aENothingToUndo
  have E_InvalidHold : ErrC K mg "InvalidHold" EInvalidHold := ⟨gE_InvalidHold, xEInvalidHold, kEInvalidHold, bEInvalidHold, tEInvalidHold⟩
  have E_InvalidWay : ErrC K mg "InvalidWay" EInvalidWay := ⟨gE_InvalidWay, xEInvalidWay, kEInvalidWay, bEInvalidWay, tEInvalidWay⟩
  have S_InvalidHold : ErrS K mg EHoldError "InvalidHold" EInvalidHold := ⟨⟨hgEInvalidHold, hkEInvalidHold, bEInvalidHold, dEInvalidHold, haEInvalidHold, spcG, tkG, moEInvalidHold⟩, PySem.W.exm_ref bEHoldError dEHoldError tEHoldError uEInvalidHold, kit_all gE_InvalidRule gE_InvalidHold gE_InvalidWay gE_InvalidDistance gE_InvalidNumber gE_InvalidSteps gE_InvalidSightings gE_NothingToUndo (kit_ref iEInvalidRule tEInvalidRule sInvalidHold_InvalidRule sInvalidHold_InvalidHold) (kit_ref iEInvalidHold tEInvalidHold sInvalidHold_InvalidHold sInvalidHold_InvalidHold) (kit_ref iEInvalidWay tEInvalidWay sInvalidHold_InvalidWay sInvalidHold_InvalidHold) (kit_ref iEInvalidDistance tEInvalidDistance sInvalidHold_InvalidDistance sInvalidHold_InvalidHold) (kit_ref iEInvalidNumber tEInvalidNumber sInvalidHold_InvalidNumber sInvalidHold_InvalidHold) (kit_ref iEInvalidSteps tEInvalidSteps sInvalidHold_InvalidSteps sInvalidHold_InvalidHold) (kit_ref iEInvalidSightings tEInvalidSightings sInvalidHold_InvalidSightings sInvalidHold_InvalidHold) (kit_ref iENothingToUndo tENothingToUndo sInvalidHold_NothingToUndo sInvalidHold_InvalidHold), kit_ve vEInvalidHold, by decide⟩
  have S_InvalidWay : ErrS K mg EHoldError "InvalidWay" EInvalidWay := ⟨⟨hgEInvalidWay, hkEInvalidWay, bEInvalidWay, dEInvalidWay, haEInvalidWay, spcG, tkG, moEInvalidWay⟩, PySem.W.exm_ref bEHoldError dEHoldError tEHoldError uEInvalidWay, kit_all gE_InvalidRule gE_InvalidHold gE_InvalidWay gE_InvalidDistance gE_InvalidNumber gE_InvalidSteps gE_InvalidSightings gE_NothingToUndo (kit_ref iEInvalidRule tEInvalidRule sInvalidWay_InvalidRule sInvalidWay_InvalidWay) (kit_ref iEInvalidHold tEInvalidHold sInvalidWay_InvalidHold sInvalidWay_InvalidWay) (kit_ref iEInvalidWay tEInvalidWay sInvalidWay_InvalidWay sInvalidWay_InvalidWay) (kit_ref iEInvalidDistance tEInvalidDistance sInvalidWay_InvalidDistance sInvalidWay_InvalidWay) (kit_ref iEInvalidNumber tEInvalidNumber sInvalidWay_InvalidNumber sInvalidWay_InvalidWay) (kit_ref iEInvalidSteps tEInvalidSteps sInvalidWay_InvalidSteps sInvalidWay_InvalidWay) (kit_ref iEInvalidSightings tEInvalidSightings sInvalidWay_InvalidSightings sInvalidWay_InvalidWay) (kit_ref iENothingToUndo tENothingToUndo sInvalidWay_NothingToUndo sInvalidWay_InvalidWay), kit_ve vEInvalidWay, by decide⟩
  have hT : h.get? TL = some { cls := .none, data := .fields #[] } := own cL TL _ _ _ _ _ _ l28 rfl rfl lC v11
  refine ⟨PySem.W.fnOf "law" "law" (defArgs s_law) (defBody s_law) (defScope s_law) .none kV28 dc28 pm28 an28 (.ref cL) ct28, [(cL, TL)], spR (rLaw K TL), fun p hp => (by cases List.mem_singleton.mp hp; exact hT), fun p hp => (by cases List.mem_singleton.mp hp; exact nTL), fun p hp => (by cases List.mem_singleton.mp hp; exact code_hd X lC v11 w11 w18 w7 w9 w10 neC), fun s v => .of_eq rfl, fun H a ns hl _ hTb hS => law_startT hl (hTb (cL, TL) (List.mem_singleton.mpr rfl)) hS, fun base _ _ TBs => ?_⟩
  have TB := TBs (cL, TL) (List.mem_singleton.mpr rfl)
  have c_cell := ok_cell_at (P := l.prog) (w := w) (base := base) F__law_cell_at g__law_cell_at b__law_cell_at m_len
  have c_draws := ok_draws (P := l.prog) (w := w) (base := base) F__law_draws g__law_draws b__law_draws m_int m_range
  have c_bag := ok_bag (P := l.prog) (w := w) (base := base) F__law_bag g__law_bag b__law_bag c_draws c_cell
  have c_bags := ok_bagsT (P := l.prog) (w := w) (base := base) F__law_bags g__law_bags b__law_bags c_bag m_len m_min m_max m_range
  have c_take := ok_take (P := l.prog) (w := w) (base := base) F__law_take g__law_take b__law_take m_len
  have c_far_draw := ok_far_draw (P := l.prog) (w := w) (base := base) F__law_far_draw g__law_far_draw b__law_far_draw c_take
  have c_rule := ok_rule (P := l.prog) (w := w) (base := base) F__law_rule g__law_rule b__law_rule c_take m_sorted m_range m_tuple
  have c_span := ok_span (P := l.prog) (w := w) (base := base) F__law_span g__law_span b__law_span m_len m_min m_max m_range
  have c_moves := ok_moves (P := l.prog) (w := w) (base := base) F__law_moves g__law_moves b__law_moves c_span
  have c_goes := ok_goes (P := l.prog) (w := w) (base := base) F__law_goes g__law_goes b__law_goes c_moves m_sum
  have c_lasts := ok_lasts (P := l.prog) (w := w) (base := base) F__law_lasts g__law_lasts b__law_lasts m_sum m_abs
  have c_hold := ok_hold (P := l.prog) (w := w) (base := base) F__law_hold g__law_hold b__law_hold c_take c_far_draw
  have c_is_integer := ok_p_is_integer (P := l.prog) (w := w) (base := base) F_is_integer g_is_integer b_is_integer m_isinstance m_int m_bool
  have c_is_steps := ok_p_is_steps (P := l.prog) (w := w) (base := base) F_is_steps g_is_steps b_is_steps c_is_integer m_isinstance m_tuple m_len m_all m_zip
  have c_is_rule := ok_p_is_rule (P := l.prog) (w := w) (base := base) F_is_rule g_is_rule b_is_rule c_is_integer c_is_steps m_isinstance m_tuple m_len
  have c_is_hold := ok_p_is_hold (P := l.prog) (w := w) (base := base) F_is_hold g_is_hold b_is_hold c_is_integer m_MAX_HOLD
  have c_is_way := ok_p_is_way (P := l.prog) (w := w) (base := base) F_is_way g_is_way b_is_way c_is_hold m_isinstance m_tuple m_len m_all
  have c_need_rule := ok_p_need_rule (P := l.prog) (w := w) (base := base) F_need_rule g_need_rule b_need_rule c_is_rule
  have c_need_way := ok_p_need_way (P := l.prog) (w := w) (base := base) F_need_way g_need_way b_need_way c_is_way
  have x_need_way := okx_p_need_way (P := l.prog) (w := w) (base := base) F_need_way g_need_way b_need_way c_is_way E_InvalidWay
  have c_moved := ok_p_moved (P := l.prog) (w := w) (base := base) F_moved g_moved b_moved m_sum m_max m_len
  have c_hold_distance := ok_p_hold_distance (P := l.prog) (w := w) (base := base) F_hold_distance g_hold_distance b_hold_distance c_moved
  have c_way_distance := ok_p_way_distance (P := l.prog) (w := w) (base := base) F_way_distance g_way_distance b_way_distance c_hold_distance m_sum
  have c_way_time := ok_p_way_time (P := l.prog) (w := w) (base := base) F_way_time g_way_time b_way_time m_sum m_abs
  have c_distance_of := ok_p_distance_of (P := l.prog) (w := w) (base := base) F_distance_of g_distance_of (bs_distance_of) c_need_rule c_need_way c_way_distance
  have x_distance_of := okx_p_distance_of (P := l.prog) (w := w) (base := base) F_distance_of g_distance_of (bs_distance_of) c_need_rule x_need_way
  have c_time_of := ok_p_time_of (P := l.prog) (w := w) (base := base) F_time_of g_time_of (bs_time_of) c_need_rule c_need_way c_way_time
  have x_time_of := okx_p_time_of (P := l.prog) (w := w) (base := base) F_time_of g_time_of (bs_time_of) c_need_rule x_need_way
  have c_track := ok_p_track (P := l.prog) (w := w) (base := base) F_track g_track b_track c_need_rule c_is_integer c_hold_distance m_range m_abs
  have x_track := okx_p_track (P := l.prog) (w := w) (base := base) F_track g_track b_track c_need_rule c_is_integer E_InvalidHold
  have c_error := ok_error (P := l.prog) (w := w) (base := base) F__law_error g__law_error b__law_error gE_HoldError m_isinstance m_ValueError
  exact ok_law (P := l.prog) (w := w) (base := base) F_law TB c_bags c_rule c_take c_hold c_goes c_lasts c_error c_distance_of c_time_of c_track x_distance_of x_time_of x_track S_InvalidWay S_InvalidHold nEInvalidHold m_range m_list m_len
end Hk
open PySem PySem.W PyProof.Rows
set_option maxRecDepth 100000 in
set_option maxHeartbeats 0 in
theorem PySem.Challenge.cw_holdkeys_k02_distances_and_times_of_ways_holds : PySem.Challenge.rw_holdkeys_k02_distances_and_times_of_ways.Holds := by
  w_on; o_law; k_head; (case hw => w_witness2)
  k_fill
  refine LamX.walk_ofOwn (l := PySem.Challenge.rw_holdkeys_k02_distances_and_times_of_ways) (n := 63) (k := 14) (x := "script") (CX := fun _ => L2.CX0) rfl (by decide) rfl ⟨rfl, by decide, by decide⟩ (by decide +kernel) (fun w h Y => PySem.W.km_in_of Y) ?F (fun _ _ _ _ _ h => h)
  case F =>
    intro w mg fa h Y KX G hmg own
    refine' Hk.all_mk KX G hmg own ?a1 ?l1 ?c1 ?k1 ?a2 ?l2 ?c2 ?k2 ?a3 ?l3 ?c3 ?k3 ?a4 ?l4 ?c4 ?k4 ?a5 ?l5 ?c5 ?k5 ?a6 ?l6 ?c6 ?k6 ?a7 ?l7 ?c7 ?k7 ?a8 ?l8 ?c8 ?k8 ?a9 ?l9 ?c9 ?k9 ?a10 ?l10 ?c10 ?k10 ?a11 ?l11 ?c11 ?k11 ?a12 ?l12 ?c12 ?k12 ?a13 ?l13 ?c13 ?k13 ?a14 ?l14 ?c14 ?k14 ?a15 ?l15 ?c15 ?k15 ?a16 ?l16 ?c16 ?k16 ?a17 ?l17 ?c17 ?k17 ?a18 ?l18 ?c18 ?k18 ?a19 ?l19 ?c19 ?k19 ?a20 ?l20 ?c20 ?k20 ?a21 ?l21 ?c21 ?k21 ?a22 ?l22 ?c22 ?k22 ?a23 ?l23 ?c23 ?k23 ?a24 ?l24 ?c24 ?k24 ?a25 ?l25 ?c25 ?k25 ?a26 ?l26 ?c26 ?k26 ?a27 ?l27 ?c27 ?k27 ?a28 ?l28 ?c28 ?lC ?v11 ?w11 ?w18 ?w7 ?w9 ?w10 ?neC ?nTL ?k28 ?z_ValueError ?z_abs ?z_all ?z_bool ?z_int ?z_isinstance ?z_len ?z_list ?z_max ?z_min ?z_range ?z_sorted ?z_sum ?z_tuple ?z_zip ?q_MAX_HOLD ?aEHoldError ?tEHoldError ?iEHoldError ?aEInvalidRule ?tEInvalidRule ?iEInvalidRule ?aEInvalidHold ?tEInvalidHold ?iEInvalidHold ?aEInvalidWay ?tEInvalidWay ?iEInvalidWay ?aEInvalidDistance ?tEInvalidDistance ?iEInvalidDistance ?aEInvalidNumber ?tEInvalidNumber ?iEInvalidNumber ?aEInvalidSteps ?tEInvalidSteps ?iEInvalidSteps ?aEInvalidSightings ?tEInvalidSightings ?iEInvalidSightings ?aENothingToUndo ?tENothingToUndo ?iENothingToUndo ?bEHoldError ?bEInvalidHold ?xEInvalidHold ?kEInvalidHold ?bEInvalidWay ?xEInvalidWay ?kEInvalidWay ?nEInvalidHold ?dEHoldError ?spcG ?tkG ?hgEInvalidHold ?hkEInvalidHold ?dEInvalidHold ?haEInvalidHold ?moEInvalidHold ?vEInvalidHold ?uEInvalidHold ?sInvalidHold_InvalidRule ?sInvalidHold_InvalidHold ?sInvalidHold_InvalidWay ?sInvalidHold_InvalidDistance ?sInvalidHold_InvalidNumber ?sInvalidHold_InvalidSteps ?sInvalidHold_InvalidSightings ?sInvalidHold_NothingToUndo ?hgEInvalidWay ?hkEInvalidWay ?dEInvalidWay ?haEInvalidWay ?moEInvalidWay ?vEInvalidWay ?uEInvalidWay ?sInvalidWay_InvalidRule ?sInvalidWay_InvalidHold ?sInvalidWay_InvalidWay ?sInvalidWay_InvalidDistance ?sInvalidWay_InvalidNumber ?sInvalidWay_InvalidSteps ?sInvalidWay_InvalidSightings ?sInvalidWay_NothingToUndo
    (case a1 => k_is)
    (case l1 => k_is)
    (case c1 => k_is)
    (case k1 => k_is)
    (case a2 => k_is)
    (case l2 => k_is)
    (case c2 => k_is)
    (case k2 => k_is)
    (case a3 => k_is)
    (case l3 => k_is)
    (case c3 => k_is)
    (case k3 => k_is)
    (case a4 => k_is)
    (case l4 => k_is)
    (case c4 => k_is)
    (case k4 => k_is)
    (case a5 => k_is)
    (case l5 => k_is)
    (case c5 => k_is)
    (case k5 => k_is)
    (case a6 => k_is)
    (case l6 => k_is)
    (case c6 => k_is)
    (case k6 => k_is)
    (case a7 => k_is)
    (case l7 => k_is)
    (case c7 => k_is)
    (case k7 => k_is)
    (case a8 => k_is)
    (case l8 => k_is)
    (case c8 => k_is)
    (case k8 => k_is)
    (case a9 => k_is)
    (case l9 => k_is)
    (case c9 => k_is)
    (case k9 => k_is)
    (case a10 => k_is)
    (case l10 => k_is)
    (case c10 => k_is)
    (case k10 => k_is)
    (case a11 => k_is)
    (case l11 => k_is)
    (case c11 => k_is)
    (case k11 => k_is)
    (case a12 => k_is)
    (case l12 => k_is)
    (case c12 => k_is)
    (case k12 => k_is)
    (case a13 => k_is)
    (case l13 => k_is)
    (case c13 => k_is)
    (case k13 => k_is)
    (case a14 => k_is)
    (case l14 => k_is)
    (case c14 => k_is)
    (case k14 => k_is)
    (case a15 => k_is)
    (case l15 => k_is)
    (case c15 => k_is)
    (case k15 => k_is)
    (case a16 => k_is)
    (case l16 => k_is)
    (case c16 => k_is)
    (case k16 => k_is)
    (case a17 => k_is)
    (case l17 => k_is)
    (case c17 => k_is)
    (case k17 => k_is)
    (case a18 => k_is)
    (case l18 => k_is)
    (case c18 => k_is)
    (case k18 => k_is)
    (case a19 => k_is)
    (case l19 => k_is)
    (case c19 => k_is)
    (case k19 => k_is)
    (case a20 => k_is)
    (case l20 => k_is)
    (case c20 => k_is)
    (case k20 => k_is)
    (case a21 => k_is)
    (case l21 => k_is)
    (case c21 => k_is)
    (case k21 => k_is)
    (case a22 => k_is)
    (case l22 => k_is)
    (case c22 => k_is)
    (case k22 => k_is)
    (case a23 => k_is)
    (case l23 => k_is)
    (case c23 => k_is)
    (case k23 => k_is)
    (case a24 => k_is)
    (case l24 => k_is)
    (case c24 => k_is)
    (case k24 => k_is)
    (case a25 => k_is)
    (case l25 => k_is)
    (case c25 => k_is)
    (case k25 => k_is)
    (case a26 => k_is)
    (case l26 => k_is)
    (case c26 => k_is)
    (case k26 => k_is)
    (case a27 => k_is)
    (case l27 => k_is)
    (case c27 => k_is)
    (case k27 => k_is)
    (case a28 => k_is)
    (case l28 => k_is)
    (case c28 => k_is)
    (case lC => k_is)
    (case v11 => exact rfl)
    (case w11 => exact rfl)
    (case w18 => exact rfl)
    (case w7 => exact rfl)
    (case w9 => exact rfl)
    (case w10 => exact rfl)
    (case neC => decide)
    (case nTL => first | rfl | decide +kernel)
    (case k28 => k_is)
    (case z_ValueError => k_is)
    (case z_abs => k_is)
    (case z_all => k_is)
    (case z_bool => k_is)
    (case z_int => k_is)
    (case z_isinstance => k_is)
    (case z_len => k_is)
    (case z_list => k_is)
    (case z_max => k_is)
    (case z_min => k_is)
    (case z_range => k_is)
    (case z_sorted => k_is)
    (case z_sum => k_is)
    (case z_tuple => k_is)
    (case z_zip => k_is)
    (case q_MAX_HOLD => k_is)
    (case aEHoldError => k_is)
    (case tEHoldError => k_is)
    (case iEHoldError => k_is)
    (case aEInvalidRule => k_is)
    (case tEInvalidRule => k_is)
    (case iEInvalidRule => k_is)
    (case aEInvalidHold => k_is)
    (case tEInvalidHold => k_is)
    (case iEInvalidHold => k_is)
    (case aEInvalidWay => k_is)
    (case tEInvalidWay => k_is)
    (case iEInvalidWay => k_is)
    (case aEInvalidDistance => k_is)
    (case tEInvalidDistance => k_is)
    (case iEInvalidDistance => k_is)
    (case aEInvalidNumber => k_is)
    (case tEInvalidNumber => k_is)
    (case iEInvalidNumber => k_is)
    (case aEInvalidSteps => k_is)
    (case tEInvalidSteps => k_is)
    (case iEInvalidSteps => k_is)
    (case aEInvalidSightings => k_is)
    (case tEInvalidSightings => k_is)
    (case iEInvalidSightings => k_is)
    (case aENothingToUndo => k_is)
    (case tENothingToUndo => k_is)
    (case iENothingToUndo => k_is)
    (case bEHoldError => k_is)
    (case bEInvalidHold => k_is)
    (case xEInvalidHold => k_exc)
    (case kEInvalidHold => k_is)
    (case bEInvalidWay => k_is)
    (case xEInvalidWay => k_exc)
    (case kEInvalidWay => k_is)
    (case nEInvalidHold => k_is)
    (case dEHoldError => k_is)
    (case spcG => k_is)
    (case tkG => k_is)
    (case hgEInvalidHold => k_is)
    (case hkEInvalidHold => k_is)
    (case dEInvalidHold => k_is)
    (case haEInvalidHold => k_is)
    (case moEInvalidHold => k_is)
    (case vEInvalidHold => k_is)
    (case uEInvalidHold => k_is)
    (case sInvalidHold_InvalidRule => k_is)
    (case sInvalidHold_InvalidHold => k_is)
    (case sInvalidHold_InvalidWay => k_is)
    (case sInvalidHold_InvalidDistance => k_is)
    (case sInvalidHold_InvalidNumber => k_is)
    (case sInvalidHold_InvalidSteps => k_is)
    (case sInvalidHold_InvalidSightings => k_is)
    (case sInvalidHold_NothingToUndo => k_is)
    (case hgEInvalidWay => k_is)
    (case hkEInvalidWay => k_is)
    (case dEInvalidWay => k_is)
    (case haEInvalidWay => k_is)
    (case moEInvalidWay => k_is)
    (case vEInvalidWay => k_is)
    (case uEInvalidWay => k_is)
    (case sInvalidWay_InvalidRule => k_is)
    (case sInvalidWay_InvalidHold => k_is)
    (case sInvalidWay_InvalidWay => k_is)
    (case sInvalidWay_InvalidDistance => k_is)
    (case sInvalidWay_InvalidNumber => k_is)
    (case sInvalidWay_InvalidSteps => k_is)
    (case sInvalidWay_InvalidSightings => k_is)
    (case sInvalidWay_NothingToUndo => k_is)
