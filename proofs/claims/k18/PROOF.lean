import PyProof.Rows.All
import Wide.All
import OpenK.AllK
import Wide.FinOn
import HandS.ForMost
import HandS.ForExc
import HandS.CallSlots
import HandS.Deep
import HandS.ExcCtx
import HandS.HotCalls
import HandS.ExcIs
import KE.DataEq
import HandS.TupMul
import HandS.Strs
import HandS.TupAny
import HandS.Style
import HandS.IsInst
import KE.Datum
import KE.GoesNew
import KE.GoesEnum
import KE.SortData
import KE.DataFind
import KE.DatumIndex
import PySem.Challenge.RW_cellstrokes_k18_turning_refused
set_option Elab.async false
set_option linter.all false
set_option maxRecDepth 100000
set_option maxHeartbeats 4000000
/-! L3: the hand layer without heaps: slots hold data (PyData), or own what may be changed. -/
namespace L3
open PySem PySem.Spec PyProof.Rows L2
abbrev St := L2.St

/-! ### data in a growing heap -/
theorem same_seqT {K : PySem.W.Frag} {H H' : Hp} {a : Addr} {xs : List V} (e : Same H H') (h : SqT K H a xs) : SqT K H' a xs := by
  rcases h with (h | ⟨o, h⟩) | h
  · exact .inl (.inl (e _ _ h))
  · exact .inl (.inr ⟨o, e _ _ h⟩)
  · exact .inr h
mutual
/-- what a module's constant may be -/
def constOk : PyData → Bool
  | .none | .bool _ | .int _ | .str _ => true
  | .tuple ds => constAll ds
  | _ => false
def constAll : List PyData → Bool
  | [] => true
  | d :: ds => constOk d && constAll ds
end
/-- a constant's tuple, told apart -/
def wkT (ds : List PyData) : PyData := .dict [(.none, .tuple ds)]
def tagW : PyData → PyData
  | .tuple ds => wkT ds
  | d => d
mutual
/-- data whose tuples are our own (a constant's tuples: by wkT) -/
inductive Dq (K : PySem.W.Frag) (S : Hp) : V → PyData → Prop
  | non : Dq K S .non .none
  | bl (b : Bool) : Dq K S (.bl b) (.bool b)
  | int (i : Int) : Dq K S (.int i) (.int i)
  | str (x : Str) : Dq K S (.str x) (.str x)
  | lst {a : Addr} {xs : List V} {ds : List PyData} : SqL K S a xs → DqAll K S xs ds → Dq K S (.ref a) (.list ds)
  | tup {a : Addr} {xs : List V} {ds : List PyData} : S a = some (.tup xs) → DqAll K S xs ds → Dq K S (.ref a) (.tuple ds)
  | wk {a : Addr} {xs : List V} {ds : List PyData} : SqT K S a xs → DpAll K S xs ds → constAll ds = true → Dq K S (.ref a) (wkT ds)
inductive DqAll (K : PySem.W.Frag) (S : Hp) : List V → List PyData → Prop
  | nil : DqAll K S [] []
  | cons {v : V} {vs : List V} {d : PyData} {ds : List PyData} : Dq K S v d → DqAll K S vs ds → DqAll K S (v :: vs) (d :: ds)
end
section
variable {K : PySem.W.Frag} {S S' H H' : Hp}
mutual
theorem dpw_up (h : Same S S') : ∀ (d : PyData) (v : V), Dp K S v d → Dp K S' v d
  | .none, _, q => by cases q; exact .non
  | .bool b, _, q => by cases q; exact .bl b
  | .int i, _, q => by cases q; exact .int i
  | .str x, _, q => by cases q; exact .str x
  | .list ds, _, q => by
    cases q with
    | lst h1 h2 => exact .lst (Same.seq h h1) (dpsw_up h ds _ h2)
  | .tuple ds, _, q => by
    cases q with
    | tup h1 h2 => exact .tup (same_seqT h h1) (dpsw_up h ds _ h2)
  | .dict _, _, q => by cases q
theorem dpsw_up (h : Same S S') : ∀ (ds : List PyData) (vs : List V), DpAll K S vs ds → DpAll K S' vs ds
  | [], _, q => by cases q; exact .nil
  | d :: ds, _, q => by
    cases q with
    | cons h1 h2 => exact .cons (dpw_up h d _ h1) (dpsw_up h ds _ h2)
end
mutual
theorem dp_up (h : Same S S') : ∀ (d : PyData) (v : V), Dq K S v d → Dq K S' v d
  | .none, _, q => by cases q; exact .non
  | .bool b, _, q => by cases q; exact .bl b
  | .int i, _, q => by cases q; exact .int i
  | .str x, _, q => by cases q; exact .str x
  | .list ds, _, q => by
    cases q with
    | lst h1 h2 => exact .lst (Same.seq h h1) (dps_up h ds _ h2)
  | .tuple ds, _, q => by
    cases q with
    | tup h1 h2 => exact .tup (h _ _ h1) (dps_up h ds _ h2)
  | .dict _, _, q => by
    cases q with
    | wk h1 h2 h3 => exact .wk (same_seqT h h1) (dpsw_up h _ _ h2) h3
theorem dps_up (h : Same S S') : ∀ (ds : List PyData) (vs : List V), DqAll K S vs ds → DqAll K S' vs ds
  | [], _, q => by cases q; exact .nil
  | d :: ds, _, q => by
    cases q with
    | cons h1 h2 => exact .cons (dp_up h d _ h1) (dps_up h ds _ h2)
end
mutual
theorem Dq.weak : ∀ (d : PyData) (v : V), Dq K S v d → d.plain = true → Dp K S v d
  | .none, _, q, _ => by cases q; exact .non
  | .bool b, _, q, _ => by cases q; exact .bl b
  | .int i, _, q, _ => by cases q; exact .int i
  | .str x, _, q, _ => by cases q; exact .str x
  | .list ds, _, q, p => by
    cases q with
    | lst h1 h2 => exact .lst h1 (DqAll.weak ds _ h2 p)
  | .tuple ds, _, q, p => by
    cases q with
    | tup h1 h2 => exact .tup (SqT.of h1) (DqAll.weak ds _ h2 p)
  | .dict _, _, _, p => by cases p
theorem DqAll.weak : ∀ (ds : List PyData) (vs : List V), DqAll K S vs ds → PyData.plainAll ds = true → DpAll K S vs ds
  | [], _, q, _ => by cases q; exact .nil
  | d :: ds, _, q, p => by
    cases q with
    | cons h1 h2 =>
      have p' := Bool.and_eq_true_iff.mp (show (d.plain && PyData.plainAll ds) = true from p)
      exact .cons (Dq.weak d _ h1 p'.1) (DqAll.weak ds _ h2 p'.2)
end
theorem tag_all : ∀ {ds : List PyData} {vs : List V}, DpAll K S vs ds → constAll ds = true → DqAll K S vs (ds.map tagW)
  | [], _, q, _ => by cases q; exact .nil
  | d :: ds, _, q, c => by
    cases q with
    | cons h1 h2 =>
      have c' := Bool.and_eq_true_iff.mp (show (constOk d && constAll ds) = true from c)
      refine .cons ?_ (tag_all h2 c'.2)
      cases h1 with
      | non => exact .non
      | bl b => exact .bl b
      | int i => exact .int i
      | str x => exact .str x
      | lst _ _ => exact absurd c'.1 (by simp [constOk])
      | tup a1 a2 => exact .wk a1 a2 c'.1
theorem same_upd {p : Addr} {o : HO} (h : H p = none) : Same H (upd H p o) := fun b u e => by
  rw [upd_ne (ne_of_none e h)]
  exact e
theorem dps_len : ∀ {ds : List PyData} {vs : List V}, DqAll K S vs ds → vs.length = ds.length
  | [], _, q => by cases q; rfl
  | d :: ds, _, q => by
    cases q with
    | cons h1 h2 => rw [List.length_cons, List.length_cons, dps_len h2]
theorem dps_get : ∀ {ds : List PyData} {vs : List V} {i : Nat} {d : PyData}, DqAll K S vs ds → ds[i]? = some d → ∃ v, vs[i]? = some v ∧ Dq K S v d
  | [], _, _, _, q, e => by simp at e
  | d :: ds, _, 0, _, q, e => by
    cases q with
    | cons h1 h2 =>
      simp at e
      subst e
      exact ⟨_, rfl, h1⟩
  | d :: ds, _, i + 1, _, q, e => by
    cases q with
    | cons h1 h2 =>
      obtain ⟨v, e1, e2⟩ := dps_get (i := i) h2 (by simpa using e)
      exact ⟨v, by simpa using e1, e2⟩
theorem dps_get' : ∀ {ds : List PyData} {vs : List V} {i : Nat} {v : V}, DqAll K S vs ds → vs[i]? = some v → ∃ d, ds[i]? = some d ∧ Dq K S v d
  | [], _, _, _, q, e => by cases q; simp at e
  | d :: ds, _, 0, _, q, e => by
    cases q with
    | cons h1 h2 =>
      simp at e
      subst e
      exact ⟨_, rfl, h1⟩
  | d :: ds, _, i + 1, _, q, e => by
    cases q with
    | cons h1 h2 =>
      obtain ⟨v, e1, e2⟩ := dps_get' (i := i) h2 (by simpa using e)
      exact ⟨v, by simpa using e1, e2⟩
theorem dps_app : ∀ {ds es : List PyData} {vs ws : List V}, DqAll K S vs ds → DqAll K S ws es → DqAll K S (vs ++ ws) (ds ++ es)
  | [], _, _, _, q, r => by cases q; exact r
  | d :: ds, _, _, _, q, r => by
    cases q with
    | cons h1 h2 => exact .cons h1 (dps_app h2 r)
theorem dps_take : ∀ {ds : List PyData} {vs : List V} (n : Nat), DqAll K S vs ds → DqAll K S (vs.take n) (ds.take n)
  | _, _, 0, _ => .nil
  | [], _, _ + 1, q => by cases q; exact .nil
  | d :: ds, _, n + 1, q => by
    cases q with
    | cons h1 h2 => exact .cons h1 (dps_take n h2)
theorem dps_drop : ∀ {ds : List PyData} {vs : List V} (n : Nat), DqAll K S vs ds → DqAll K S (vs.drop n) (ds.drop n)
  | _, _, 0, q => q
  | [], _, _ + 1, q => by cases q; exact .nil
  | d :: ds, _, n + 1, q => by
    cases q with
    | cons h1 h2 => exact dps_drop n h2
theorem dps_set {v : V} {d : PyData} (r : Dq K S v d) : ∀ {ds : List PyData} {vs : List V} (i : Nat), DqAll K S vs ds → DqAll K S (vs.set i v) (ds.set i d)
  | [], _, _, q => by cases q; exact .nil
  | d :: ds, _, 0, q => by
    cases q with
    | cons h1 h2 => exact .cons r h2
  | d :: ds, _, i + 1, q => by
    cases q with
    | cons h1 h2 => exact .cons h1 (dps_set r i h2)
theorem dps_erase : ∀ {ds : List PyData} {vs : List V} (i : Nat), DqAll K S vs ds → DqAll K S (vs.eraseIdx i) (ds.eraseIdx i)
  | [], _, _, q => by cases q; exact .nil
  | d :: ds, _, 0, q => by
    cases q with
    | cons h1 h2 => exact h2
  | d :: ds, _, i + 1, q => by
    cases q with
    | cons h1 h2 => exact .cons h1 (dps_erase i h2)
theorem dps_rev {ds : List PyData} {vs : List V} (q : DqAll K S vs ds) : DqAll K S vs.reverse ds.reverse := by
  induction ds generalizing vs with
  | nil => cases q; exact .nil
  | cons d ds ih =>
    cases q with
    | cons h1 h2 =>
      rw [List.reverse_cons, List.reverse_cons]
      exact dps_app (ih h2) (.cons h1 .nil)
theorem dps_dropLast {ds : List PyData} {vs : List V} (q : DqAll K S vs ds) : DqAll K S vs.dropLast ds.dropLast := by
  rw [List.dropLast_eq_take, List.dropLast_eq_take, dps_len q]
  exact dps_take _ q
theorem dps_int : ∀ {ns : List Int}, DqAll K S (ns.map V.int) (ns.map PyData.int)
  | [] => .nil
  | n :: ns => .cons (.int n) dps_int
end

/-! ### what a slot holds -/
inductive E where
  /-- nothing that is known -/
  | no
  /-- data that stays -/
  | dat (d : PyData)
  /-- a list of its own -/
  | lst (ds : List PyData)
  /-- dicts of its own: keys ints and texts; tuples of these -/
  | dk (kvs : List (Key × PyData))
  | dt (kvs : List (List Key × PyData))
  /-- a list of its own lists -/
  | ll (dss : List (List PyData))
  /-- dicts of their own lists -/
  | dkl (kvs : List (Key × List PyData))
  | dtl (kvs : List (List Key × List PyData))
  /-- a value that is known as it is (an exception that is handled) -/
  | val (v : V)
  /-- an own object of the class at C: two numbers, two own lists -/
  | sh (C : Addr) (hh ww : Int) (cells past : List PyData)

def E.own : E → Bool
  | .no => false
  | .dat _ => false
  | .val _ => false
  | _ => true

def KVD {κ : Type} (K : PySem.W.Frag) (S : Hp) : List (κ × V) → List (κ × PyData) → Prop := Paired fun p q => p.1 = q.1 ∧ Dq K S p.2 q.2
/-- own lists at as -/
def LLs (K : PySem.W.Frag) (S H : Hp) : List Addr → List (List PyData) → Prop := Paired fun a ds => ∃ xs, H a = some (.lst xs) ∧ DqAll K S xs ds

def EntOk (K : PySem.W.Frag) (S H : Hp) (o : Option V) (e : E) (fp : List Addr) : Prop :=
  match e with
  | .no => fp = []
  | .dat d => fp = [] ∧ ∃ v, o = some v ∧ Dq K S v d
  | .lst ds => ∃ a xs, o = some (.ref a) ∧ fp = [a] ∧ H a = some (.lst xs) ∧ DqAll K S xs ds
  | .dk kvs => ∃ a xs, o = some (.ref a) ∧ fp = [a] ∧ H a = some (.dK xs) ∧ KVD K S xs kvs
  | .dt kvs => ∃ a xs, o = some (.ref a) ∧ fp = [a] ∧ H a = some (.dT xs) ∧ KVD K S xs kvs
  | .ll dss => ∃ a as, o = some (.ref a) ∧ fp = a :: as ∧ H a = some (.lst (as.map V.ref)) ∧ LLs K S H as dss
  | .dkl kvs => ∃ a as, o = some (.ref a) ∧ fp = a :: as ∧ H a = some (.dK ((kvs.map (·.1)).zip (as.map V.ref))) ∧ LLs K S H as (kvs.map (·.2))
  | .dtl kvs => ∃ a as, o = some (.ref a) ∧ fp = a :: as ∧ H a = some (.dT ((kvs.map (·.1)).zip (as.map V.ref))) ∧ LLs K S H as (kvs.map (·.2))
  | .val v => fp = [] ∧ o = some v
  | .sh C hh ww cs ps => ∃ a dx b c xs ys, o = some (.ref a) ∧ fp = [a, dx, b, c] ∧ H a = some (.ins C dx [("height", .int hh), ("width", .int ww), ("cells", .ref b), ("past", .ref c)]) ∧ H dx = some (.own a) ∧ H b = some (.lst xs) ∧ H c = some (.lst ys) ∧ DqAll K S xs cs ∧ DqAll K S ys ps

section
variable {K : PySem.W.Frag} {S S' H H' : Hp} {o : Option V} {e : E} {fp : List Addr}
theorem KVD.up {κ : Type} {xs : List (κ × V)} {kvs : List (κ × PyData)} (h : Same S S') (q : KVD K S xs kvs) : KVD K S' xs kvs := Paired.mapP q fun _ _ z => ⟨z.1, dp_up h _ _ z.2⟩
theorem LLs.up (hs : Same S S') : ∀ {as : List Addr} {dss : List (List PyData)}, LLs K S H as dss → (∀ b ∈ as, H' b = H b) → LLs K S' H' as dss
  | _, _, .nil, _ => .nil
  | _, _, .cons ⟨xs, h1, h2⟩ t, hf => .cons ⟨xs, by rw [hf _ List.mem_cons_self]; exact h1, dps_up hs _ _ h2⟩ (LLs.up hs t fun b hb => hf b (List.mem_cons_of_mem _ hb))
theorem EntOk.up (h : EntOk K S H o e fp) (hs : Same S S') (hf : ∀ b ∈ fp, H' b = H b) : EntOk K S' H' o e fp := by
  cases e with
  | no => exact h
  | dat d => obtain ⟨h0, v, h1, h2⟩ := h; exact ⟨h0, v, h1, dp_up hs _ _ h2⟩
  | lst ds => obtain ⟨a, xs, h0, rfl, h1, h2⟩ := h; exact ⟨a, xs, h0, rfl, by rw [hf a (by simp)]; exact h1, dps_up hs _ _ h2⟩
  | dk ds => obtain ⟨a, xs, h0, rfl, h1, h2⟩ := h; exact ⟨a, xs, h0, rfl, by rw [hf a (by simp)]; exact h1, h2.up hs⟩
  | dt ds => obtain ⟨a, xs, h0, rfl, h1, h2⟩ := h; exact ⟨a, xs, h0, rfl, by rw [hf a (by simp)]; exact h1, h2.up hs⟩
  | ll dss => obtain ⟨a, as, h0, rfl, h1, h2⟩ := h; exact ⟨a, as, h0, rfl, by rw [hf a (by simp)]; exact h1, h2.up hs fun b hb => hf b (List.mem_cons_of_mem _ hb)⟩
  | dkl kvs => obtain ⟨a, as, h0, rfl, h1, h2⟩ := h; exact ⟨a, as, h0, rfl, by rw [hf a (by simp)]; exact h1, h2.up hs fun b hb => hf b (List.mem_cons_of_mem _ hb)⟩
  | dtl kvs => obtain ⟨a, as, h0, rfl, h1, h2⟩ := h; exact ⟨a, as, h0, rfl, by rw [hf a (by simp)]; exact h1, h2.up hs fun b hb => hf b (List.mem_cons_of_mem _ hb)⟩
  | val v => exact h
  | sh C hh ww cs ps => obtain ⟨a, dx, b, c, xs, ys, h0, rfl, h1, h2, h3, h4, h5, h6⟩ := h; exact ⟨a, dx, b, c, xs, ys, h0, rfl, by rw [hf a (by simp)]; exact h1, by rw [hf dx (by simp)]; exact h2, by rw [hf b (by simp)]; exact h3, by rw [hf c (by simp)]; exact h4, dps_up hs _ _ h5, dps_up hs _ _ h6⟩
theorem EntOk.nofp (h : EntOk K S H o e fp) (he : e.own = false) : fp = [] := by
  cases e with
  | no => exact h
  | dat d => exact h.1
  | lst _ => cases he
  | dk _ => cases he
  | dt _ => cases he
  | ll _ => cases he
  | dkl _ => cases he
  | dtl _ => cases he
  | val _ => exact h.1
  | sh _ _ _ _ _ => cases he
theorem EntOk.ofSome (h : EntOk K S H o e fp) (he : e.own = true) : ∃ a, o = some (.ref a) ∧ a ∈ fp := by
  cases e with
  | no => cases he
  | dat _ => cases he
  | lst ds => obtain ⟨a, xs, h0, rfl, _⟩ := h; exact ⟨a, h0, by simp⟩
  | dk ds => obtain ⟨a, xs, h0, rfl, _⟩ := h; exact ⟨a, h0, by simp⟩
  | dt ds => obtain ⟨a, xs, h0, rfl, _⟩ := h; exact ⟨a, h0, by simp⟩
  | ll ds => obtain ⟨a, xs, h0, rfl, _⟩ := h; exact ⟨a, h0, by simp⟩
  | dkl ds => obtain ⟨a, xs, h0, rfl, _⟩ := h; exact ⟨a, h0, by simp⟩
  | dtl ds => obtain ⟨a, xs, h0, rfl, _⟩ := h; exact ⟨a, h0, by simp⟩
  | val _ => cases he
  | sh C hh ww cs ps => obtain ⟨a, dx, b, c, xs, ys, h0, rfl, _⟩ := h; exact ⟨a, h0, by simp⟩
end

/-! ### the state -/
/-- the entry: the data heap, the heap, what may be changed of it; the slots of what may be changed, and their values -/
structure Gam where
  S : Hp
  H : Hp
  M : Nat → List Addr
  io : List Nat
  arg : Nat → V
  /-- objects that nothing in reach holds, as they are (a comprehension's lists) -/
  pins : List (Addr × HO) := []

def PinOk (Γ : Gam) (n : Nat) (H : Hp) (i : Nat) (l : List Addr) : Prop := match Γ.pins[i - n]? with
  | some p => l = [p.1] ∧ H p.1 = some p.2
  | none => l = []
theorem PinOk.up {Γ : Gam} {n : Nat} {H H' : Hp} {i : Nat} {l : List Addr} (h : PinOk Γ n H i l) (hf : ∀ b ∈ l, H' b = H b) : PinOk Γ n H' i l := by
  unfold PinOk at h ⊢
  cases q : Γ.pins[i - n]? with
  | none => rw [q] at h; exact h
  | some p =>
    rw [q] at h
    obtain ⟨rfl, h2⟩ := h
    exact ⟨rfl, by rw [hf p.1 (by simp)]; exact h2⟩

structure Rel (K : PySem.W.Frag) (Γ : Gam) (S H : Hp) (σ : St) (ρ : List E) (fp : Nat → List Addr) : Prop where
  sub : Same S H
  mono : Same Γ.S S
  hid : ∀ b, Γ.H b ≠ none → Γ.S b = none → S b = none
  kept : ∀ b o, Γ.H b = some o → (∀ i, b ∉ Γ.M i) → H b = some o
  dom : ∀ b, Γ.H b ≠ none → H b ≠ none
  len : ρ.length = σ.length
  ent : ∀ i e, ρ[i]? = some e → EntOk K S H (σ.getD i none) e (fp i)
  out : ∀ i, ρ[i]? = none → PinOk Γ ρ.length H i (fp i)
  hide : ∀ i, ∀ a ∈ fp i, S a = none ∧ H a ≠ none ∧ (a ∈ Γ.M i ∨ Γ.H a = none)
  nd : ∀ i, (fp i).Nodup
  dis : ∀ i j a, a ∈ fp i → a ∈ fp j → i = j
  io : ∀ i ∈ Γ.io, σ[i]? = some (some (Γ.arg i)) ∧ ∃ e, ρ[i]? = some e ∧ e.own = true
  new : ∀ i, i ∉ Γ.io → ∀ a ∈ fp i, Γ.H a = none

section
variable {K : PySem.W.Frag} {Γ : Gam} {S H : Hp} {σ : St} {ρ : List E} {fp : Nat → List Addr} {p : Addr} {o : HO}
theorem Rel.free (R : Rel K Γ S H σ ρ fp) (hp : H p = none) : S p = none ∧ Γ.H p = none ∧ ∀ i, p ∉ fp i := by
  refine ⟨R.sub.free hp, ?_, fun i hi => (R.hide i p hi).2.1 hp⟩
  cases q : Γ.H p with
  | none => rfl
  | some u => exact absurd hp (R.dom p (by rw [q]; exact fun z => by cases z))
/-- a new object that stays as it is -/
theorem Rel.layS (R : Rel K Γ S H σ ρ fp) (hp : H p = none) (o : HO) : Rel K Γ (upd S p o) (upd H p o) σ ρ fp := by
  obtain ⟨n1, n2, n3⟩ := R.free hp
  have ss : Same S (upd S p o) := same_upd n1
  have sh : Same H (upd H p o) := same_upd hp
  refine ⟨fun b u e => ?_, fun b u e => ss b u (R.mono b u e), fun b h1 h2 => ?_, fun b u h1 h2 => sh b u (R.kept b u h1 h2), fun b h1 => ?_, R.len, fun i e he => (R.ent i e he).up ss fun b hb => ?_, fun i hi => (R.out i hi).up fun b hb => upd_ne fun z => n3 i (z ▸ hb), fun i a ha => ?_, R.nd, R.dis, R.io, R.new⟩
  · by_cases hb : b = p
    · subst hb; rw [upd_same] at e ⊢; exact e
    · rw [upd_ne hb] at e ⊢; exact R.sub b u e
  · have hb : b ≠ p := fun z => by subst z; exact h1 n2
    rw [upd_ne hb]; exact R.hid b h1 h2
  · have hb : b ≠ p := fun z => by subst z; exact h1 n2
    rw [upd_ne hb]; exact R.dom b h1
  · have hb : b ≠ p := fun z => by subst z; exact n3 i hb
    rw [upd_ne hb]
  · obtain ⟨q1, q2, q3⟩ := R.hide i a ha
    have hb : a ≠ p := fun z => by subst z; exact n3 i ha
    rw [upd_ne hb, upd_ne hb]; exact ⟨q1, q2, q3⟩
/-- a new object that nothing holds yet -/
theorem Rel.lay (R : Rel K Γ S H σ ρ fp) (hp : H p = none) (o : HO) : Rel K Γ S (upd H p o) σ ρ fp := by
  obtain ⟨n1, n2, n3⟩ := R.free hp
  have sh : Same H (upd H p o) := same_upd hp
  refine ⟨R.sub.trans sh, R.mono, R.hid, fun b u h1 h2 => sh b u (R.kept b u h1 h2), fun b h1 => ?_, R.len, fun i e he => (R.ent i e he).up (Same.refl _) fun b hb => ?_, fun i hi => (R.out i hi).up fun b hb => upd_ne fun z => n3 i (z ▸ hb), fun i a ha => ?_, R.nd, R.dis, R.io, R.new⟩
  · have hb : b ≠ p := fun z => by subst z; exact h1 n2
    rw [upd_ne hb]; exact R.dom b h1
  · have hb : b ≠ p := fun z => by subst z; exact n3 i hb
    rw [upd_ne hb]
  · obtain ⟨q1, q2, q3⟩ := R.hide i a ha
    have hb : a ≠ p := fun z => by subst z; exact n3 i ha
    rw [upd_ne hb]; exact ⟨q1, q2, q3⟩
/-- an object that nothing holds becomes data -/
theorem Rel.frz (R : Rel K Γ S H σ ρ fp) (hp : H p = some o) (hg : Γ.H p = none) (hf : ∀ i, p ∉ fp i) (hS : S p = none) : Rel K Γ (upd S p o) H σ ρ fp := by
  have ss : Same S (upd S p o) := same_upd hS
  refine ⟨fun b u e => ?_, fun b u e => ss b u (R.mono b u e), fun b h1 h2 => ?_, R.kept, R.dom, R.len, fun i e he => (R.ent i e he).up ss fun b hb => rfl, R.out, fun i a ha => ?_, R.nd, R.dis, R.io, R.new⟩
  · by_cases hb : b = p
    · subst hb; rw [upd_same] at e; cases e; exact hp
    · rw [upd_ne hb] at e; exact R.sub b u e
  · have hb : b ≠ p := fun z => by subst z; exact h1 hg
    rw [upd_ne hb]; exact R.hid b h1 h2
  · obtain ⟨q1, q2, q3⟩ := R.hide i a ha
    have hb : a ≠ p := fun z => by subst z; exact hf i ha
    rw [upd_ne hb]; exact ⟨q1, q2, q3⟩
/-- an own object is changed; its slot holds e' then, its footprint fpn -/
theorem Rel.mut (R : Rel K Γ S H σ ρ fp) {H' : Hp} {i : Nat} {e e' : E} {fpn : List Addr} (hi : ρ[i]? = some e) (he' : e'.own = true)
    (hH : ∀ b, b ∉ fp i → H b ≠ none → H' b = H b) (hN : EntOk K S H' (σ.getD i none) e' fpn) (hd : ∀ b, H b ≠ none → H' b ≠ none)
    (hf : ∀ a ∈ fpn, (a ∈ fp i ∨ H a = none) ∧ H' a ≠ none) (hn : fpn.Nodup) : Rel K Γ S H' σ (ρ.set i e') (fun j => if j = i then fpn else fp j) := by
  have hil : i < ρ.length := (List.getElem?_eq_some_iff.mp hi).1
  have hfpi : ∀ a ∈ fp i, S a = none := fun a ha => (R.hide i a ha).1
  have newfree : ∀ a, H a = none → S a = none ∧ Γ.H a = none ∧ ∀ j, a ∉ fp j := fun a ha => R.free ha
  refine ⟨fun b u e => ?_, R.mono, R.hid, fun b u h1 h2 => ?_, fun b h1 => hd b (R.dom b h1), by rw [List.length_set]; exact R.len, fun j u hj => ?_, fun j hj => ?_, fun j a ha => ?_, fun j => ?_, fun j k a ha hk => ?_, fun j hj => ?_, fun j hj a ha => ?_⟩
  · have nb : b ∉ fp i := fun z => by have q := hfpi b z; rw [e] at q; cases q
    have hb := R.sub b u e
    rw [hH b nb (by rw [hb]; exact fun z => by cases z)]; exact hb
  · have hb := R.kept b u h1 h2
    have nb : b ∉ fp i := fun z => by
      rcases (R.hide i b z).2.2 with q | q
      · exact h2 i q
      · rw [h1] at q; cases q
    rw [hH b nb (by rw [hb]; exact fun z => by cases z)]; exact hb
  · by_cases hji : j = i
    · subst hji
      rw [List.getElem?_set_self hil] at hj
      cases hj
      simp only [if_true]
      exact hN
    · rw [List.getElem?_set_ne (Ne.symm hji)] at hj
      simp only [hji, if_false]
      refine (R.ent j u hj).up (Same.refl _) fun b hb => hH b (fun z => hji (R.dis j i b hb z)) (R.hide j b hb).2.1
  · have hji : j ≠ i := fun z => by subst z; rw [List.getElem?_set_self hil] at hj; cases hj
    rw [List.getElem?_set_ne (Ne.symm hji)] at hj
    simp only [hji, if_false]
    rw [List.length_set]
    exact (R.out j hj).up fun b hb => hH b (fun z => hji (R.dis j i b hb z)) (R.hide j b hb).2.1
  · by_cases hji : j = i
    · subst hji
      simp only [if_true] at ha
      obtain ⟨q1, q2⟩ := hf a ha
      rcases q1 with q1 | q1
      · exact ⟨hfpi a q1, q2, (R.hide j a q1).2.2⟩
      · obtain ⟨n1, n2, _⟩ := newfree a q1
        exact ⟨n1, q2, .inr n2⟩
    · simp only [hji, if_false] at ha
      obtain ⟨q1, q2, q3⟩ := R.hide j a ha
      exact ⟨q1, hd a q2, q3⟩
  · by_cases hji : j = i
    · subst hji; simp only [if_true]; exact hn
    · simp only [hji, if_false]; exact R.nd j
  · have low : ∀ m, m ≠ i → ∀ a, a ∈ fpn → a ∈ fp m → False := fun m hm a h1 h2 => by
      rcases (hf a h1).1 with q | q
      · exact hm (R.dis m i a h2 q)
      · exact (newfree a q).2.2 m h2
    by_cases hji : j = i
    · by_cases hki : k = i
      · rw [hji, hki]
      · simp only [hji, if_true] at ha
        simp only [hki, if_false] at hk
        exact (low k hki a ha hk).elim
    · by_cases hki : k = i
      · simp only [hji, if_false] at ha
        simp only [hki, if_true] at hk
        exact (low j hji a hk ha).elim
      · simp only [hji, if_false] at ha
        simp only [hki, if_false] at hk
        exact R.dis j k a ha hk
  · obtain ⟨q1, u, q2, q3⟩ := R.io j hj
    refine ⟨q1, ?_⟩
    by_cases hji : j = i
    · subst hji; exact ⟨e', List.getElem?_set_self hil, he'⟩
    · exact ⟨u, by rw [List.getElem?_set_ne (Ne.symm hji)]; exact q2, q3⟩
  · by_cases hji : j = i
    · subst hji
      simp only [if_true] at ha
      rcases (hf a ha).1 with q | q
      · exact R.new j hj a q
      · exact (newfree a q).2.1
    · simp only [hji, if_false] at ha
      exact R.new j hj a ha
/-- a slot is stored -/
theorem Rel.asg (R : Rel K Γ S H σ ρ fp) {i : Nat} {v : V} {e : E} {fpn : List Addr} (hil : i < ρ.length) (hio : i ∉ Γ.io) (hN : EntOk K S H (some v) e fpn) (hn : fpn.Nodup)
    (hf : ∀ a ∈ fpn, S a = none ∧ H a ≠ none ∧ Γ.H a = none ∧ ∀ j, j ≠ i → a ∉ fp j) : Rel K Γ S H (σ.set i (some v)) (ρ.set i e) (fun j => if j = i then fpn else fp j) := by
  have hs : i < σ.length := by rw [← R.len]; exact hil
  refine ⟨R.sub, R.mono, R.hid, R.kept, R.dom, by rw [List.length_set, List.length_set]; exact R.len, fun j u hj => ?_, fun j hj => ?_, fun j a ha => ?_, fun j => ?_, fun j k a ha hk => ?_, fun j hj => ?_, fun j hj a ha => ?_⟩
  · by_cases hji : j = i
    · subst hji
      rw [List.getElem?_set_self hil] at hj
      cases hj
      simp only [if_true]
      have e2 : (σ.set j (some v)).getD j none = some v := by rw [List.getD_eq_getElem?_getD, List.getElem?_set_self hs]; rfl
      rw [e2]
      exact hN
    · rw [List.getElem?_set_ne (Ne.symm hji)] at hj
      simp only [hji, if_false]
      have e2 : (σ.set i (some v)).getD j none = σ.getD j none := by rw [List.getD_eq_getElem?_getD, List.getElem?_set_ne (Ne.symm hji), ← List.getD_eq_getElem?_getD]
      rw [e2]
      exact R.ent j u hj
  · have hji : j ≠ i := fun z => by subst z; rw [List.getElem?_set_self hil] at hj; cases hj
    rw [List.getElem?_set_ne (Ne.symm hji)] at hj
    simp only [hji, if_false]
    rw [List.length_set]
    exact R.out j hj
  · by_cases hji : j = i
    · subst hji
      simp only [if_true] at ha
      obtain ⟨q1, q2, q3, _⟩ := hf a ha
      exact ⟨q1, q2, .inr q3⟩
    · simp only [hji, if_false] at ha
      exact R.hide j a ha
  · by_cases hji : j = i
    · subst hji; simp only [if_true]; exact hn
    · simp only [hji, if_false]; exact R.nd j
  · by_cases hji : j = i
    · by_cases hki : k = i
      · rw [hji, hki]
      · simp only [hji, if_true] at ha
        simp only [hki, if_false] at hk
        exact ((hf a ha).2.2.2 k hki hk).elim
    · by_cases hki : k = i
      · simp only [hji, if_false] at ha
        simp only [hki, if_true] at hk
        exact ((hf a hk).2.2.2 j hji ha).elim
      · simp only [hji, if_false] at ha
        simp only [hki, if_false] at hk
        exact R.dis j k a ha hk
  · have hji : j ≠ i := fun z => by subst z; exact hio hj
    obtain ⟨q1, u, q2, q3⟩ := R.io j hj
    exact ⟨by rw [List.getElem?_set_ne (Ne.symm hji)]; exact q1, u, by rw [List.getElem?_set_ne (Ne.symm hji)]; exact q2, q3⟩
  · by_cases hji : j = i
    · subst hji
      simp only [if_true] at ha
      exact (hf a ha).2.2.1
    · simp only [hji, if_false] at ha
      exact R.new j hj a ha
/-- what a slot owns is given up: it becomes data -/
theorem Rel.freezeL (R : Rel K Γ S H σ ρ fp) {i : Nat} {ds : List PyData} (hi : ρ[i]? = some (.lst ds)) (hio : i ∉ Γ.io) :
    ∃ S', Rel K Γ S' H σ (ρ.set i (.dat (.list ds))) (fun j => if j = i then [] else fp j) ∧ Same S S' ∧ ∃ v, σ[i]? = some (some v) ∧ Dq K S' v (.list ds) := by
  have hil : i < ρ.length := (List.getElem?_eq_some_iff.mp hi).1
  obtain ⟨a, xs, h0, h1, h2, h3⟩ := R.ent i _ hi
  have ha : a ∈ fp i := by rw [h1]; simp
  obtain ⟨q1, q2, q3⟩ := R.hide i a ha
  have q4 : Γ.H a = none := R.new i hio a ha
  have hs : i < σ.length := by rw [← R.len]; exact hil
  have hv : σ[i]? = some (some (.ref a)) := by
    rw [List.getD_eq_getElem?_getD, List.getElem?_eq_getElem hs] at h0
    rw [List.getElem?_eq_getElem hs]
    exact congrArg some h0
  have R1 := R.asg (v := .ref a) (e := .no) (fpn := []) hil hio rfl List.nodup_nil (fun _ z => absurd z (by simp))
  have e1 : σ.set i (some (.ref a)) = σ := by
    obtain ⟨hh, e⟩ := List.getElem?_eq_some_iff.mp hv
    have z : σ.set i (some (.ref a)) = σ.set i σ[i] := by rw [e]
    rw [z]; exact List.set_getElem_self hh
  rw [e1] at R1
  have hno : ∀ j, a ∉ (fun j => if j = i then ([] : List Addr) else fp j) j := fun j hj => by
    by_cases hji : j = i
    · simp [hji] at hj
    · simp only [hji, if_false] at hj
      exact hji (R.dis j i a hj ha)
  have R2 := R1.frz (o := .lst xs) h2 q4 hno q1
  have sS : Same S (upd S a (.lst xs)) := same_upd q1
  have dp : Dq K (upd S a (.lst xs)) (.ref a) (.list ds) := .lst (SqL.of upd_same) (dps_up sS _ _ h3)
  refine ⟨_, ?_, sS, .ref a, hv, dp⟩
  have R3 := R2.asg (i := i) (v := .ref a) (e := .dat (.list ds)) (fpn := []) (by rw [List.length_set]; exact hil) hio ⟨rfl, _, rfl, dp⟩ List.nodup_nil (fun _ z => absurd z (by simp))
  rw [e1, List.set_set] at R3
  have ef : (fun j => if j = i then ([] : List Addr) else (fun j => if j = i then ([] : List Addr) else fp j) j) = fun j => if j = i then ([] : List Addr) else fp j := by
    funext j
    by_cases hji : j = i <;> simp [hji]
  rw [ef] at R3
  exact R3
/-- what a slot owns is given up, whatever it is -/
theorem Rel.freezeG (R : Rel K Γ S H σ ρ fp) {i : Nat} {e : E} {v : V} {d : PyData} (hi : ρ[i]? = some e) (hio : i ∉ Γ.io) (hv : σ[i]? = some (some v)) (dp : Dq K (fun b => if b ∈ fp i then H b else S b) v d) :
    Rel K Γ (fun b => if b ∈ fp i then H b else S b) H σ (ρ.set i (.dat d)) (fun j => if j = i then [] else fp j) ∧ Same S (fun b => if b ∈ fp i then H b else S b) := by
  have hil : i < ρ.length := (List.getElem?_eq_some_iff.mp hi).1
  have ss : Same S (fun b => if b ∈ fp i then H b else S b) := fun b u e => by
    have nb : b ∉ fp i := fun z => by rw [(R.hide i b z).1] at e; cases e
    simp only [nb, if_false]; exact e
  refine ⟨⟨fun b u e => ?_, fun b u e => ss b u (R.mono b u e), fun b h1 h2 => ?_, R.kept, R.dom, by rw [List.length_set]; exact R.len, fun j u hj => ?_, fun j hj => ?_, fun j a ha => ?_, fun j => ?_, fun j k a ha hk => ?_, fun j hj => ?_, fun j hj a ha => ?_⟩, ss⟩
  · by_cases hb : b ∈ fp i
    · simp only [hb, if_true] at e; exact e
    · simp only [hb, if_false] at e; exact R.sub b u e
  · have nb : b ∉ fp i := fun z => h1 (R.new i hio b z)
    simp only [nb, if_false]; exact R.hid b h1 h2
  · by_cases hji : j = i
    · subst hji
      rw [List.getElem?_set_self hil] at hj
      cases hj
      simp only [if_true]
      exact ⟨rfl, v, by rw [List.getD_eq_getElem?_getD, hv]; rfl, dp⟩
    · rw [List.getElem?_set_ne (Ne.symm hji)] at hj
      simp only [hji, if_false]
      exact (R.ent j u hj).up ss fun _ _ => rfl
  · have hji : j ≠ i := fun z => by subst z; rw [List.getElem?_set_self hil] at hj; cases hj
    rw [List.getElem?_set_ne (Ne.symm hji)] at hj
    simp only [hji, if_false]
    rw [List.length_set]
    exact R.out j hj
  · by_cases hji : j = i
    · simp only [hji, if_true] at ha; simp at ha
    · simp only [hji, if_false] at ha
      have nb : a ∉ fp i := fun z => hji (R.dis j i a ha z)
      simp only [nb, if_false]
      exact R.hide j a ha
  · by_cases hji : j = i
    · simp only [hji, if_true]; exact List.nodup_nil
    · simp only [hji, if_false]; exact R.nd j
  · by_cases hji : j = i
    · simp only [hji, if_true] at ha; simp at ha
    · by_cases hki : k = i
      · simp only [hki, if_true] at hk; simp at hk
      · simp only [hji, if_false] at ha
        simp only [hki, if_false] at hk
        exact R.dis j k a ha hk
  · have hji : j ≠ i := fun z => by subst z; exact hio hj
    obtain ⟨q1, u, q2, q3⟩ := R.io j hj
    exact ⟨q1, u, by rw [List.getElem?_set_ne (Ne.symm hji)]; exact q2, q3⟩
  · by_cases hji : j = i
    · simp only [hji, if_true] at ha; simp at ha
    · simp only [hji, if_false] at ha
      exact R.new j hj a ha
/-- objects that nothing holds become data -/
theorem Rel.frzG (R : Rel K Γ S H σ ρ fp) {as : List Addr} (hn : ∀ a ∈ as, S a = none ∧ Γ.H a = none ∧ ∀ i, a ∉ fp i) :
    Rel K Γ (fun b => if b ∈ as then H b else S b) H σ ρ fp ∧ Same S (fun b => if b ∈ as then H b else S b) := by
  have ss : Same S (fun b => if b ∈ as then H b else S b) := fun b u e => by
    have nb : b ∉ as := fun z => by rw [(hn b z).1] at e; cases e
    simp only [nb, if_false]; exact e
  refine ⟨⟨fun b u e => ?_, fun b u e => ss b u (R.mono b u e), fun b h1 h2 => ?_, R.kept, R.dom, R.len, fun j u hj => (R.ent j u hj).up ss fun _ _ => rfl, R.out, fun j a ha => ?_, R.nd, R.dis, R.io, R.new⟩, ss⟩
  · by_cases hb : b ∈ as
    · simp only [hb, if_true] at e; exact e
    · simp only [hb, if_false] at e; exact R.sub b u e
  · have nb : b ∉ as := fun z => h1 (hn b z).2.1
    simp only [nb, if_false]; exact R.hid b h1 h2
  · have nb : a ∉ as := fun z => (hn a z).2.2 j ha
    simp only [nb, if_false]; exact R.hide j a ha
theorem lls_frz {T : Hp} {S : Hp} {H : Hp} (ss : Same S T) : ∀ {as : List Addr} {dss : List (List PyData)}, LLs K S H as dss → (∀ a ∈ as, T a = H a) → DqAll K T (as.map V.ref) (dss.map PyData.list)
  | _, _, .nil, _ => .nil
  | _, _, .cons ⟨xs, h1, h2⟩ t, ht => .cons (.lst (SqL.of (by rw [ht _ List.mem_cons_self]; exact h1)) (dps_up ss _ _ h2)) (lls_frz ss t fun a ha => ht a (List.mem_cons_of_mem _ ha))
end
end L3

namespace L3
open PySem PySem.Spec PyProof.Rows L2

/-! ### results -/
inductive Res where
  | dat (d : PyData)
  | bor (i : Nat)
abbrev XC := Value → List E → Prop
abbrev TX := List E → (Res → List E → Prop) → XC → Prop
abbrev TXT := List E → (Bool → List E → Prop) → XC → Prop
abbrev TXA := List E → (List Res → List E → Prop) → XC → Prop
abbrev TXN := List E → (E → List E → Prop) → XC → Prop
abbrev Frag' := PySem.W.Frag

def ResOk (K : PySem.W.Frag) (S : Hp) (σ : St) (v : V) : Res → Prop
  | .dat d => Dq K S v d
  | .bor i => σ[i]? = some (some v)
theorem ResOk.up {K : PySem.W.Frag} {S S' : Hp} {σ : St} {v : V} {r : Res} (h : ResOk K S σ v r) (hs : Same S S') : ResOk K S' σ v r := by
  cases r with
  | dat d => exact dp_up hs _ _ h
  | bor i => exact h
structure NewOk (K : PySem.W.Frag) (Γ : Gam) (S H : Hp) (fp : Nat → List Addr) (v : V) (e : E) (fpn : List Addr) : Prop where
  ent : EntOk K S H (some v) e fpn
  nd : fpn.Nodup
  new : ∀ a ∈ fpn, S a = none ∧ H a ≠ none ∧ Γ.H a = none ∧ ∀ i, a ∉ fp i

/-- the data that a result is read as -/
def look (ρ : List E) : Res → Option PyData
  | .dat d => some d
  | .bor i => match ρ.getD i .no with
    | .dat d => some d
    | .lst ds => some (.list ds)
    | _ => none
/-- a value read: data that stays; or a list whose items stay -/
def Vw (K : PySem.W.Frag) (S H : Hp) (v : V) (d : PyData) : Prop := Dq K S v d ∨ ∃ a xs ds, v = .ref a ∧ d = .list ds ∧ H a = some (.lst xs) ∧ DqAll K S xs ds
section
variable {K : PySem.W.Frag} {Γ : Gam} {S S' H : Hp} {σ : St} {ρ : List E} {fp : Nat → List Addr} {v : V} {r : Res} {d : PyData}
theorem Vw.dp (h : Vw K S H v d) (hs : Same S H) : Dq K H v d := by
  rcases h with h | ⟨a, xs, ds, rfl, rfl, h1, h2⟩
  · exact dp_up hs _ _ h
  · exact .lst (SqL.of h1) (dps_up hs _ _ h2)
theorem lls_dp (hs : Same S H) : ∀ {as : List Addr} {dss : List (List PyData)}, LLs K S H as dss → DqAll K H (as.map V.ref) (dss.map PyData.list)
  | _, _, .nil => .nil
  | _, _, .cons ⟨xs, h1, h2⟩ t => .cons (.lst (SqL.of h1) (dps_up hs _ _ h2)) (lls_dp hs t)
theorem Rel.slot (R : Rel K Γ S H σ ρ fp) {i : Nat} {e : E} (hi : ρ[i]? = some e) {v : V} (hv : σ[i]? = some (some v)) : EntOk K S H (some v) e (fp i) := by
  have h := R.ent i e hi
  have e2 : σ.getD i none = some v := by rw [List.getD_eq_getElem?_getD, hv]; rfl
  rw [e2] at h
  exact h
theorem getD_some {ρ : List E} {i : Nat} {e : E} (h : ρ.getD i .no = e) (hne : e ≠ .no) : ρ[i]? = some e := by
  rw [List.getD_eq_getElem?_getD] at h
  cases q : ρ[i]? with
  | none => rw [q] at h; exact absurd h.symm hne
  | some u => rw [q] at h; exact congrArg some h
theorem look_vw (R : Rel K Γ S H σ ρ fp) (h : ResOk K S σ v r) (e : look ρ r = some d) : Vw K S H v d := by
  cases r with
  | dat d' => cases e; exact .inl h
  | bor i =>
    simp only [look] at e
    cases q : ρ.getD i .no with
    | dat d' =>
      rw [q] at e
      cases e
      obtain ⟨_, w, h1, h2⟩ := R.slot (getD_some q (fun z => by cases z)) h
      cases h1
      exact .inl h2
    | lst ds =>
      rw [q] at e
      cases e
      obtain ⟨a, xs, h0, _, h1, h2⟩ := R.slot (getD_some q (fun z => by cases z)) h
      cases h0
      exact .inr ⟨a, xs, ds, rfl, rfl, h1, h2⟩
    | ll _ => rw [q] at e; cases e
    | no => rw [q] at e; cases e
    | dk _ => rw [q] at e; cases e
    | dt _ => rw [q] at e; cases e
    | dkl _ => rw [q] at e; cases e
    | dtl _ => rw [q] at e; cases e
    | val _ => rw [q] at e; cases e
    | sh _ _ _ _ _ => rw [q] at e; cases e
end
def withD (ρ : List E) (r : Res) (k : PyData → Prop) : Prop := match look ρ r with
  | some d => k d
  | none => False
theorem withD_get {ρ : List E} {r : Res} {k : PyData → Prop} (h : withD ρ r k) : ∃ d, look ρ r = some d ∧ k d := by
  unfold withD at h
  cases q : look ρ r with
  | none => rw [q] at h; exact h.elim
  | some d => rw [q] at h; exact ⟨d, rfl, h⟩
/-- only data -/
def isD (r : Res) (k : PyData → Prop) : Prop := match r with
  | .dat d => k d
  | .bor _ => False
theorem isD_get {r : Res} {k : PyData → Prop} (h : isD r k) : ∃ d, r = .dat d ∧ k d := by
  cases r with
  | dat d => exact ⟨d, rfl, h⟩
  | bor i => exact h.elim
def areD : List Res → (List PyData → Prop) → Prop
  | [], k => k []
  | r :: rs, k => isD r fun d => areD rs fun ds => k (d :: ds)
def withDs (ρ : List E) : List Res → (List PyData → Prop) → Prop
  | [], k => k []
  | r :: rs, k => withD ρ r fun d => withDs ρ rs fun ds => k (d :: ds)

/-! ### readings -/
section
variable (K : PySem.W.Frag) (W : WX) (Γ : Gam) (σ : St) (S : Hp)
def KR (QD : Res → List E → Prop) (Q : VK) : Prop := ∀ S' H' v r ρ' fp', Rel K Γ S' H' σ ρ' fp' → Same S S' → ResOk K S' σ v r → QD r ρ' → Q v H'
def KX (Ex : XC) : Prop := ∀ S' H' cls ρ' fp', Rel K Γ S' H' σ ρ' fp' → Same S S' → Ex cls ρ' → W cls none σ H'
def KT (QD : Bool → List E → Prop) (Q : Bool → Hp → Prop) : Prop := ∀ S' H' b ρ' fp', Rel K Γ S' H' σ ρ' fp' → Same S S' → QD b ρ' → Q b H'
def KA (n : Nat) (QD : List Res → List E → Prop) (Q : List V → Hp → Prop) : Prop := ∀ S' H' vs rs ρ' fp', Rel K Γ S' H' σ ρ' fp' → Same S S' → Paired (ResOk K S' σ) vs rs → rs.length = n → QD rs ρ' → Q vs H'
def KN (QD : E → List E → Prop) (Q : VK) : Prop := ∀ S' H' v e ρ' fp' fpn, Rel K Γ S' H' σ ρ' fp' → Same S S' → NewOk K Γ S' H' fp' v e fpn → QD e ρ' → Q v H'
end
section
variable {K : PySem.W.Frag} {W : WX} {Γ : Gam} {σ : St} {S S1 : Hp}
theorem KX.up {Ex : XC} (k : KX K W Γ σ S Ex) (h : Same S S1) : KX K W Γ σ S1 Ex := fun S' H' cls ρ' fp' R ss e => k S' H' cls ρ' fp' R (h.trans ss) e
end
section
variable (K : PySem.W.Frag) (W : WX) (io : List Nat)
def liftE (f : TX) : TE := fun σ H Q => ∃ Γ S ρ fp QD Ex, Γ.io = io ∧ Rel K Γ S H σ ρ fp ∧ f ρ QD Ex ∧ KR K Γ σ S QD Q ∧ KX K W Γ σ S Ex
def liftT (f : TXT) : TT := fun σ H Q => ∃ Γ S ρ fp QD Ex, Γ.io = io ∧ Rel K Γ S H σ ρ fp ∧ f ρ QD Ex ∧ KT K Γ σ S QD Q ∧ KX K W Γ σ S Ex
def liftA (n : Nat) (f : TXA) : TA := fun σ H Q => ∃ Γ S ρ fp QD Ex, Γ.io = io ∧ Rel K Γ S H σ ρ fp ∧ f ρ QD Ex ∧ KA K Γ σ S n QD Q ∧ KX K W Γ σ S Ex
def liftN (f : TXN) : TE := fun σ H Q => ∃ Γ S ρ fp QD Ex, Γ.io = io ∧ Rel K Γ S H σ ρ fp ∧ f ρ QD Ex ∧ KN K Γ σ S QD Q ∧ KX K W Γ σ S Ex
abbrev XR (X : Cx) (e : Expr) (f : TX) : Prop := PE X e (liftE K W io f)
abbrev XT (X : Cx) (e : Expr) (f : TXT) : Prop := PT X e (liftT K W io f)
abbrev XA (X : Cx) (es : List Expr) (n : Nat) (f : TXA) : Prop := PA X es (liftA K W io n f)
abbrev XN (X : Cx) (e : Expr) (f : TXN) : Prop := PE X e (liftN K W io f)
end
section
variable {X : Cx} {K : PySem.W.Frag} {W : WX} {io : List Nat} {e : Expr} {es : List Expr}
theorem XR.mk {t : TE} {f : TX} (h : PE X e t) (hw : ∀ Γ S H σ ρ fp QD Ex Q, Γ.io = io → Rel K Γ S H σ ρ fp → f ρ QD Ex → KR K Γ σ S QD Q → KX K W Γ σ S Ex → t σ H Q) : XR K W io X e f :=
  ⟨fun pins s σ H Q I ⟨Γ, S, ρ, fp, QD, Ex, hio, R, hf, k, kx⟩ => h.run pins s σ H Q I (hw Γ S H σ ρ fp QD Ex Q hio R hf k kx)⟩
theorem XT.mk {t : TT} {f : TXT} (h : PT X e t) (hw : ∀ Γ S H σ ρ fp QD Ex Q, Γ.io = io → Rel K Γ S H σ ρ fp → f ρ QD Ex → KT K Γ σ S QD Q → KX K W Γ σ S Ex → t σ H Q) : XT K W io X e f :=
  ⟨fun pins s σ H Q I ⟨Γ, S, ρ, fp, QD, Ex, hio, R, hf, k, kx⟩ => h.run pins s σ H Q I (hw Γ S H σ ρ fp QD Ex Q hio R hf k kx)⟩
theorem XA.mk {n : Nat} {t : TA} {f : TXA} (h : PA X es t) (hw : ∀ Γ S H σ ρ fp QD Ex Q, Γ.io = io → Rel K Γ S H σ ρ fp → f ρ QD Ex → KA K Γ σ S n QD Q → KX K W Γ σ S Ex → t σ H Q) : XA K W io X es n f :=
  ⟨fun pos pins s σ H Q I ⟨Γ, S, ρ, fp, QD, Ex, hio, R, hf, k, kx⟩ => h.run pos pins s σ H Q I (hw Γ S H σ ρ fp QD Ex Q hio R hf k kx)⟩
theorem XN.mk {t : TE} {f : TXN} (h : PE X e t) (hw : ∀ Γ S H σ ρ fp QD Ex Q, Γ.io = io → Rel K Γ S H σ ρ fp → f ρ QD Ex → KN K Γ σ S QD Q → KX K W Γ σ S Ex → t σ H Q) : XN K W io X e f :=
  ⟨fun pins s σ H Q I ⟨Γ, S, ρ, fp, QD, Ex, hio, R, hf, k, kx⟩ => h.run pins s σ H Q I (hw Γ S H σ ρ fp QD Ex Q hio R hf k kx)⟩

/-! ### names, constants -/
def fName (i : Nat) : TX := fun ρ Q _ => match ρ.getD i .no with
  | .dat d => Q (.dat d) ρ
  | .no => False
  | .val _ => False
  | _ => Q (.bor i) ρ
/-- a name whose list is given up -/
def fFrz (i : Nat) : TX := fun ρ Q _ => match ρ.getD i .no with
  | .dat d => Q (.dat d) ρ
  | .lst ds => Q (.dat (.list ds)) (ρ.set i (.dat (.list ds)))
  | .ll dss => Q (.dat (.list (dss.map PyData.list))) (ρ.set i (.dat (.list (dss.map PyData.list))))
  | _ => False
def fC (d : PyData) : TX := fun ρ Q _ => Q (.dat d) ρ
theorem xr_name {i : Nat} {x : Str} {pos : Pos} (hN : X.N[i]? = some x := by rfl) (hv : Vis X.env.scope x := by first | exact Or.inl rfl | exact Or.inr (Or.inl rfl) | exact Or.inr (Or.inr rfl)) (hd : (x == ("__debug__" : Str)) = false := by decide)
    (hcd : (x == ("__classdict__" : Str)) = false := by decide) : XR K W io X (.Name x pos) (fName i) := by
  refine XR.mk (pe_var hN hv hd hcd) fun Γ S H σ ρ fp QD Ex Q hio R h k kx => ?_
  have done : ∀ e, ρ[i]? = some e → e.own = true → QD (.bor i) ρ → tVar i σ H Q := fun e he ho q => by
    obtain ⟨a, ha, _⟩ := (R.ent i e he).ofSome ho
    have hs : i < σ.length := by rw [← R.len]; exact (List.getElem?_eq_some_iff.mp he).1
    rw [List.getD_eq_getElem?_getD, List.getElem?_eq_getElem hs] at ha
    have hv : σ[i]? = some (some (.ref a)) := by rw [List.getElem?_eq_getElem hs]; exact congrArg some ha
    exact ⟨.ref a, hv, k S H (.ref a) (.bor i) ρ fp R (Same.refl _) hv q⟩
  unfold fName at h
  cases q : ρ.getD i .no with
  | dat d =>
    rw [q] at h
    have hi := getD_some q (fun z => by cases z)
    have hs : i < σ.length := by rw [← R.len]; exact (List.getElem?_eq_some_iff.mp hi).1
    obtain ⟨_, v, h1, h2⟩ := R.ent i _ hi
    rw [List.getD_eq_getElem?_getD, List.getElem?_eq_getElem hs] at h1
    exact ⟨v, by rw [List.getElem?_eq_getElem hs]; exact congrArg some h1, k S H v (.dat d) ρ fp R (Same.refl _) h2 h⟩
  | no => rw [q] at h; exact h.elim
  | lst _ => rw [q] at h; exact done _ (getD_some q (fun z => by cases z)) rfl h
  | dk _ => rw [q] at h; exact done _ (getD_some q (fun z => by cases z)) rfl h
  | dt _ => rw [q] at h; exact done _ (getD_some q (fun z => by cases z)) rfl h
  | ll _ => rw [q] at h; exact done _ (getD_some q (fun z => by cases z)) rfl h
  | dkl _ => rw [q] at h; exact done _ (getD_some q (fun z => by cases z)) rfl h
  | dtl _ => rw [q] at h; exact done _ (getD_some q (fun z => by cases z)) rfl h
  | val _ => rw [q] at h; exact h.elim
  | sh _ _ _ _ _ => rw [q] at h; exact done _ (getD_some q (fun z => by cases z)) rfl h
theorem xr_frz {i : Nat} {x : Str} {pos : Pos} (hi : i ∉ io := by decide) (hN : X.N[i]? = some x := by rfl) (hv : Vis X.env.scope x := by first | exact Or.inl rfl | exact Or.inr (Or.inl rfl) | exact Or.inr (Or.inr rfl)) (hd : (x == ("__debug__" : Str)) = false := by decide)
    (hcd : (x == ("__classdict__" : Str)) = false := by decide) : XR K W io X (.Name x pos) (fFrz i) := by
  refine XR.mk (pe_var hN hv hd hcd) fun Γ S H σ ρ fp QD Ex Q hio R h k kx => ?_
  unfold fFrz at h
  cases q : ρ.getD i .no with
  | dat d =>
    rw [q] at h
    have hi := getD_some q (fun z => by cases z)
    have hs : i < σ.length := by rw [← R.len]; exact (List.getElem?_eq_some_iff.mp hi).1
    obtain ⟨_, v, h1, h2⟩ := R.ent i _ hi
    rw [List.getD_eq_getElem?_getD, List.getElem?_eq_getElem hs] at h1
    exact ⟨v, by rw [List.getElem?_eq_getElem hs]; exact congrArg some h1, k S H v (.dat d) ρ fp R (Same.refl _) h2 h⟩
  | lst ds =>
    rw [q] at h
    obtain ⟨S', R', ss, v, hv, dp⟩ := R.freezeL (getD_some q (fun z => by cases z)) (by rw [hio]; exact hi)
    exact ⟨v, hv, k S' H v (.dat (.list ds)) _ _ R' ss dp h⟩
  | no => rw [q] at h; exact h.elim
  | dk _ => rw [q] at h; exact h.elim
  | dt _ => rw [q] at h; exact h.elim
  | ll dss =>
    rw [q] at h
    have hi2 := getD_some q (fun z => by cases z)
    obtain ⟨a, as, h0, h1, h2, h3⟩ := R.ent i _ hi2
    have hs : i < σ.length := by rw [← R.len]; exact (List.getElem?_eq_some_iff.mp hi2).1
    have hv : σ[i]? = some (some (.ref a)) := by
      rw [List.getD_eq_getElem?_getD, List.getElem?_eq_getElem hs] at h0
      rw [List.getElem?_eq_getElem hs]; exact congrArg some h0
    have ha : a ∈ fp i := by rw [h1]; simp
    have ss : Same S (fun b => if b ∈ fp i then H b else S b) := fun b u e => by
      have nb : b ∉ fp i := fun z => by rw [(R.hide i b z).1] at e; cases e
      simp only [nb, if_false]; exact e
    have dp : Dq K (fun b => if b ∈ fp i then H b else S b) (.ref a) (.list (dss.map PyData.list)) := .lst (SqL.of (by simp only [ha, if_true]; exact h2)) (lls_frz ss h3 fun b hb => by
      have : b ∈ fp i := by rw [h1]; exact List.mem_cons_of_mem _ hb
      simp only [this, if_true])
    obtain ⟨R', ss⟩ := R.freezeG hi2 (by rw [hio]; exact hi) hv dp
    exact ⟨.ref a, hv, k _ H (.ref a) (.dat (.list (dss.map PyData.list))) _ _ R' ss dp h⟩
  | dkl _ => rw [q] at h; exact h.elim
  | dtl _ => rw [q] at h; exact h.elim
  | val _ => rw [q] at h; exact h.elim
  | sh _ _ _ _ _ => rw [q] at h; exact h.elim
theorem xr_c {v : V} {d : PyData} (h : PE X e (tC v)) (hd : ∀ S, Dq K S v d) : XR K W io X e (fC d) :=
  XR.mk h fun Γ S H σ ρ fp QD Ex Q hio R hf k kx => k S H v (.dat d) ρ fp R (Same.refl _) (hd S) hf
theorem xr_int {i j pos} : XR K W io X (.Constant (.int i) j pos) (fC (.int i)) := xr_c pe_int fun _ => .int i
theorem xr_bl {b j pos} : XR K W io X (.Constant (.bool b) j pos) (fC (.bool b)) := xr_c pe_bl fun _ => .bl b
theorem xr_non {j pos} : XR K W io X (.Constant .none j pos) (fC .none) := xr_c pe_non fun _ => .non
theorem xr_str {x j pos} : XR K W io X (.Constant (.str x) j pos) (fC (.str x)) := xr_c pe_str fun _ => .str x
theorem xr_glob {x : Str} {u : Value} {v : V} {d : PyData} {pos : Pos} (hg : Gl X x) (hm : X.mg x = some u) (r : RelV v u) (hd : ∀ S, Dq K S v d) (hdb : (x == ("__debug__" : Str)) = false := by decide) : XR K W io X (.Name x pos) (fC d) := xr_c (pe_glob hg hm r hdb) hd

/-! ### what operators do by data -/
/-- r (by values and heaps) keeps to g (by data) -/
def OpD (K : PySem.W.Frag) (r : R2) (g : PyData → PyData → (PyData → Prop) → Prop) : Prop := ∀ Γ S H σ ρ fp x y dx dy Q QD, Rel K Γ S H σ ρ fp → Vw K S H x dx → Vw K S H y dy → g dx dy QD →
  (∀ S' H' v d, Rel K Γ S' H' σ ρ fp → Same S S' → Dq K S' v d → QD d → Q v H') → r x y H Q
def OpN (K : PySem.W.Frag) (r : R2) (g : PyData → PyData → (E → Prop) → Prop) : Prop := ∀ Γ S H σ ρ fp x y dx dy Q QD, Rel K Γ S H σ ρ fp → Vw K S H x dx → Vw K S H y dy → g dx dy QD →
  (∀ S' H' v e fpn, Rel K Γ S' H' σ ρ fp → Same S S' → NewOk K Γ S' H' fp v e fpn → QD e → Q v H') → r x y H Q
def fBin (g : PyData → PyData → (PyData → Prop) → Prop) (fa fb : TX) : TX := fun ρ Q Ex => fa ρ (fun ra ρ1 => fb ρ1 (fun rb ρ2 => withD ρ2 ra fun da => withD ρ2 rb fun db => g da db fun d => Q (.dat d) ρ2) Ex) Ex
def fBinN (g : PyData → PyData → (E → Prop) → Prop) (fa fb : TX) : TXN := fun ρ Q Ex => fa ρ (fun ra ρ1 => fb ρ1 (fun rb ρ2 => withD ρ2 ra fun da => withD ρ2 rb fun db => g da db fun e => Q e ρ2) Ex) Ex
theorem tOp_bin {a b : Expr} {fa fb : TX} {r : R2} {g : PyData → PyData → (PyData → Prop) → Prop} (hg : OpD K r g) : ∀ Γ S H σ ρ fp QD Ex Q, Γ.io = io → Rel K Γ S H σ ρ fp → fBin g fa fb ρ QD Ex → KR K Γ σ S QD Q → KX K W Γ σ S Ex →
    tOp r (liftE K W io fa) (liftE K W io fb) σ H Q := fun Γ S H σ ρ fp QD Ex Q hio R h k kx => by
  refine ⟨Γ, S, ρ, fp, _, Ex, hio, R, h, fun S1 H1 v ra ρ1 fp1 R1 ss1 ok1 h1 => ?_, kx⟩
  refine ⟨Γ, S1, ρ1, fp1, _, Ex, hio, R1, h1, fun S2 H2 w rb ρ2 fp2 R2 ss2 ok2 h2 => ?_, kx.up ss1⟩
  obtain ⟨da, la, h2⟩ := withD_get h2
  obtain ⟨db, lb, h2⟩ := withD_get h2
  exact hg Γ S2 H2 σ ρ2 fp2 v w da db _ _ R2 (look_vw R2 (ok1.up ss2) la) (look_vw R2 ok2 lb) h2 fun S3 H3 u d R3 ss3 dp q => k S3 H3 u (.dat d) ρ2 fp2 R3 ((ss1.trans ss2).trans ss3) dp q
theorem xr_bin {a b : Expr} {fa fb : TX} {op : Operator} {pos : Pos} {r : R2} {g : PyData → PyData → (PyData → Prop) → Prop} (ho : OpR X (binaryOp op) r) (hg : OpD K r g) (ha : XR K W io X a fa) (hb : XR K W io X b fb) :
    XR K W io X (.BinOp a op b pos) (fBin g fa fb) := XR.mk (pe_op ho ha hb) (tOp_bin (a := a) (b := b) hg)
theorem xr_cmp {a b : Expr} {fa fb : TX} {op : CmpOp} {pos : Pos} {r : R2} {g : PyData → PyData → (PyData → Prop) → Prop} (ho : OpR X (compareOp op) r) (hg : OpD K r g) (ha : XR K W io X a fa) (hb : XR K W io X b fb) (hm : behindInMarks op b = false := by first | exact nomark _ | rfl) :
    XR K W io X (.Compare a [op] [b] pos) (fBin g fa fb) := XR.mk (pe_cmpR ho ha hb hm) (tOp_bin (a := a) (b := b) hg)
theorem xr_ix {a b : Expr} {fa fb : TX} {pos : Pos} {r : R2} {g : PyData → PyData → (PyData → Prop) → Prop} (ho : IxR X r) (hg : OpD K r g) (ha : XR K W io X a fa) (hb : XR K W io X b fb) (hs : PlainIx b := by exact fun _ _ => rfl) :
    XR K W io X (.Subscript a b pos) (fBin g fa fb) := XR.mk (pe_ix ho ha hb hs) (tOp_bin (a := a) (b := b) hg)
theorem xn_bin {a b : Expr} {fa fb : TX} {op : Operator} {pos : Pos} {r : R2} {g : PyData → PyData → (E → Prop) → Prop} (ho : OpR X (binaryOp op) r) (hg : OpN K r g) (ha : XR K W io X a fa) (hb : XR K W io X b fb) :
    XN K W io X (.BinOp a op b pos) (fBinN g fa fb) := by
  refine XN.mk (pe_op ho ha hb) fun Γ S H σ ρ fp QD Ex Q hio R h k kx => ?_
  refine ⟨Γ, S, ρ, fp, _, Ex, hio, R, h, fun S1 H1 v ra ρ1 fp1 R1 ss1 ok1 h1 => ?_, kx⟩
  refine ⟨Γ, S1, ρ1, fp1, _, Ex, hio, R1, h1, fun S2 H2 w rb ρ2 fp2 R2 ss2 ok2 h2 => ?_, kx.up ss1⟩
  obtain ⟨da, la, h2⟩ := withD_get h2
  obtain ⟨db, lb, h2⟩ := withD_get h2
  exact hg Γ S2 H2 σ ρ2 fp2 v w da db _ _ R2 (look_vw R2 (ok1.up ss2) la) (look_vw R2 ok2 lb) h2 fun S3 H3 u e fpn R3 ss3 nw q => k S3 H3 u e ρ2 fp2 fpn R3 ((ss1.trans ss2).trans ss3) nw q
/-- a new list is given up at once -/
def fFz (f : TXN) : TX := fun ρ Q Ex => f ρ (fun e ρ1 => match e with
  | .dat d => Q (.dat d) ρ1
  | .lst ds => Q (.dat (.list ds)) ρ1
  | .ll dss => Q (.dat (.list (dss.map PyData.list))) ρ1
  | _ => False) Ex
theorem frz_new {Γ : Gam} {S H : Hp} {σ : St} {ρ : List E} {fp : Nat → List Addr} {v : V} {ds : List PyData} {fpn : List Addr} (R : Rel K Γ S H σ ρ fp) (n : NewOk K Γ S H fp v (.lst ds) fpn) :
    ∃ S', Rel K Γ S' H σ ρ fp ∧ Same S S' ∧ Dq K S' v (.list ds) := by
  obtain ⟨a, xs, h0, h1, h2, h3⟩ := n.ent
  cases h0
  obtain ⟨q1, q2, q3, q4⟩ := n.new a (by rw [h1]; simp)
  exact ⟨_, R.frz h2 q3 q4 q1, same_upd q1, .lst (SqL.of upd_same) (dps_up (same_upd q1) _ _ h3)⟩
theorem xr_fz {f : TXN} (h : XN K W io X e f) : XR K W io X e (fFz f) := by
  refine XR.mk h fun Γ S H σ ρ fp QD Ex Q hio R hf k kx => ⟨Γ, S, ρ, fp, _, Ex, hio, R, hf, fun S1 H1 v e ρ1 fp1 fpn R1 ss1 nw q => ?_, kx⟩
  cases e with
  | lst ds =>
    obtain ⟨S', R', ss, dp⟩ := frz_new R1 nw
    exact k S' H1 v (.dat (.list ds)) ρ1 fp1 R' (ss1.trans ss) dp q
  | no => exact q.elim
  | dat d =>
    obtain ⟨_, w, e1, dp⟩ := nw.ent
    cases e1
    exact k S1 H1 v (.dat d) ρ1 fp1 R1 ss1 dp q
  | dk _ => exact q.elim
  | dt _ => exact q.elim
  | ll dss =>
    obtain ⟨a, as, h0, h1, h2, h3⟩ := nw.ent
    cases h0
    obtain ⟨R', ss⟩ := R1.frzG (as := fpn) fun b hb => ⟨(nw.new b hb).1, (nw.new b hb).2.2.1, (nw.new b hb).2.2.2⟩
    have ha : a ∈ fpn := by rw [h1]; simp
    exact k _ H1 (.ref a) (.dat (.list (dss.map PyData.list))) ρ1 fp1 R' (ss1.trans ss) (.lst (SqL.of (by simp only [ha, if_true]; exact h2)) (lls_frz ss h3 fun b hb => by
      have : b ∈ fpn := by rw [h1]; exact List.mem_cons_of_mem _ hb
      simp only [this, if_true])) q
  | dkl _ => exact q.elim
  | dtl _ => exact q.elim
  | val _ => exact q.elim
  | sh _ _ _ _ _ => exact q.elim

/-! ### tests -/
def isB (d : PyData) (k : Bool → Prop) : Prop := match d with
  | .bool b => k b
  | _ => False
theorem isB_get {d : PyData} {k : Bool → Prop} (h : isB d k) : ∃ b, d = .bool b ∧ k b := by
  cases d with
  | bool b => exact ⟨b, rfl, h⟩
  | _ => exact h.elim
def fT (f : TX) : TXT := fun ρ Q Ex => f ρ (fun r ρ1 => isD r fun d => isB d fun b => Q b ρ1) Ex
theorem kr_test {Γ : Gam} {S : Hp} {σ : St} {QD : Bool → List E → Prop} {Q : Bool → Hp → Prop} (k : KT K Γ σ S QD Q) : KR K Γ σ S (fun r ρ1 => isD r fun d => isB d fun b => QD b ρ1) (fun x H' => ∃ c, x = V.bl c ∧ Q c H') := fun S' H' v r ρ' fp' R ss ok q => by
  obtain ⟨d, rfl, q1⟩ := isD_get q
  obtain ⟨b, rfl, q2⟩ := isB_get q1
  cases ok
  exact ⟨b, rfl, k S' H' b ρ' fp' R ss q2⟩
/-- a comparison as a test -/
theorem xt_cmp {a b : Expr} {fa fb : TX} {op : CmpOp} {pos : Pos} {r : R2} {g : PyData → PyData → (PyData → Prop) → Prop} (ho : OpR X (compareOp op) r) (hg : OpD K r g) (ha : XR K W io X a fa) (hb : XR K W io X b fb) (hm : behindInMarks op b = false := by first | exact nomark _ | rfl) :
    XT K W io X (.Compare a [op] [b] pos) (fT (fBin g fa fb)) :=
  XT.mk (pt_cmpR ho ha hb hm) fun Γ S H σ ρ fp QD Ex Q hio R h k kx => tOp_bin (a := a) (b := b) hg Γ S H σ ρ fp _ Ex _ hio R h (kr_test k) kx
/-- an expression whose value is True or False as a test -/
theorem xt_val {f : TX} (h : XR K W io X e f) (he : ∀ whole, isTrue e X.env whole = (do let v ← whole; standAt e.pos; holding [v] (truthy v)) := by intro _; rfl) : XT K W io X e (fT f) :=
  XT.mk (pt_val h he) fun Γ S H σ ρ fp QD Ex Q hio R hf k kx => ⟨Γ, S, ρ, fp, _, Ex, hio, R, hf, kr_test k, kx⟩
def fNot (f : TXT) : TXT := fun ρ Q Ex => f ρ (fun b ρ1 => Q (!b) ρ1) Ex
theorem xt_not {a : Expr} {f : TXT} {pos : Pos} (h : XT K W io X a f) : XT K W io X (.UnaryOp .Not a pos) (fNot f) :=
  XT.mk (pt_not h) fun Γ S H σ ρ fp QD Ex Q hio R hf k kx => ⟨Γ, S, ρ, fp, _, Ex, hio, R, hf, fun S1 H1 b ρ1 fp1 R1 ss q => k S1 H1 (!b) ρ1 fp1 R1 ss q, kx⟩
def fAnd (f g : TXT) : TXT := fun ρ Q Ex => f ρ (fun b ρ1 => if b = true then g ρ1 Q Ex else Q false ρ1) Ex
def fOr (f g : TXT) : TXT := fun ρ Q Ex => f ρ (fun b ρ1 => if b = true then Q true ρ1 else g ρ1 Q Ex) Ex
abbrev XW (K : PySem.W.Frag) (W : WX) (io : List Nat) (X : Cx) (e : Expr) (f : TXT) : Prop := PW X e (liftT K W io f)
theorem XW.mk {t : TT} {f : TXT} (h : PW X e t) (hw : ∀ Γ S H σ ρ fp QD Ex Q, Γ.io = io → Rel K Γ S H σ ρ fp → f ρ QD Ex → KT K Γ σ S QD Q → KX K W Γ σ S Ex → t σ H Q) : XW K W io X e f :=
  ⟨fun whole pins s σ H Q I ⟨Γ, S, ρ, fp, QD, Ex, hio, R, hf, k, kx⟩ => h.run whole pins s σ H Q I (hw Γ S H σ ρ fp QD Ex Q hio R hf k kx)⟩
theorem xw_and1 {a : Expr} {f : TXT} {pos : Pos} (h : XT K W io X a f) : XW K W io X (.BoolOp .And [a] pos) f := pw_and1 h
theorem xw_or1 {a : Expr} {f : TXT} {pos : Pos} (h : XT K W io X a f) : XW K W io X (.BoolOp .Or [a] pos) f := pw_or1 h
theorem xw_and {a b : Expr} {rest : List Expr} {f g : TXT} {pos : Pos} (h : XT K W io X a f) (h2 : XW K W io X (.BoolOp .And (b :: rest) pos) g) : XW K W io X (.BoolOp .And (a :: b :: rest) pos) (fAnd f g) :=
  XW.mk (pw_and h h2) fun Γ S H σ ρ fp QD Ex Q hio R hf k kx => ⟨Γ, S, ρ, fp, _, Ex, hio, R, hf, fun S1 H1 b ρ1 fp1 R1 ss q => by
    cases b with
    | true =>
      rw [if_pos rfl] at q ⊢
      exact ⟨Γ, S1, ρ1, fp1, _, Ex, hio, R1, q, fun S2 H2 c ρ2 fp2 R2 ss2 q2 => k S2 H2 c ρ2 fp2 R2 (ss.trans ss2) q2, kx.up ss⟩
    | false =>
      rw [if_neg Bool.false_ne_true] at q ⊢
      exact k S1 H1 false ρ1 fp1 R1 ss q, kx⟩
theorem xw_or {a b : Expr} {rest : List Expr} {f g : TXT} {pos : Pos} (h : XT K W io X a f) (h2 : XW K W io X (.BoolOp .Or (b :: rest) pos) g) : XW K W io X (.BoolOp .Or (a :: b :: rest) pos) (fOr f g) :=
  XW.mk (pw_or h h2) fun Γ S H σ ρ fp QD Ex Q hio R hf k kx => ⟨Γ, S, ρ, fp, _, Ex, hio, R, hf, fun S1 H1 b ρ1 fp1 R1 ss q => by
    cases b with
    | true =>
      rw [if_pos rfl] at q ⊢
      exact k S1 H1 true ρ1 fp1 R1 ss q
    | false =>
      rw [if_neg Bool.false_ne_true] at q ⊢
      exact ⟨Γ, S1, ρ1, fp1, _, Ex, hio, R1, q, fun S2 H2 c ρ2 fp2 R2 ss2 q2 => k S2 H2 c ρ2 fp2 R2 (ss.trans ss2) q2, kx.up ss⟩, kx⟩
theorem xt_w {f : TXT} (h : XW K W io X e f) : XT K W io X e f := PW.pt h
/-! ### and, or, not as values -/
def fAndV (f g : TX) : TX := fun ρ Q Ex => f ρ (fun r ρ1 => isD r fun d => isB d fun b => if b = true then g ρ1 Q Ex else Q (.dat (.bool false)) ρ1) Ex
def fOrV (f g : TX) : TX := fun ρ Q Ex => f ρ (fun r ρ1 => isD r fun d => isB d fun b => if b = true then Q (.dat (.bool true)) ρ1 else g ρ1 Q Ex) Ex
def fNotV (f : TX) : TX := fun ρ Q Ex => f ρ (fun r ρ1 => isD r fun d => isB d fun b => Q (.dat (.bool (!b))) ρ1) Ex
theorem xr_one {op} {a : Expr} {f : TX} {pos : Pos} (h : XR K W io X a f) : XR K W io X (.BoolOp op [a] pos) f := pe_one h
theorem xr_and {a b : Expr} {rest : List Expr} {f g : TX} {pos : Pos} (h : XR K W io X a f) (h2 : XR K W io X (.BoolOp .And (b :: rest) pos) g) : XR K W io X (.BoolOp .And (a :: b :: rest) pos) (fAndV f g) :=
  XR.mk (pe_and h h2) fun Γ S H σ ρ fp QD Ex Q hio R hf k kx => ⟨Γ, S, ρ, fp, _, Ex, hio, R, hf, fun S1 H1 v r ρ1 fp1 R1 ss ok q => by
    obtain ⟨d, rfl, q1⟩ := isD_get q
    obtain ⟨b, rfl, q2⟩ := isB_get q1
    cases ok
    refine ⟨b, rfl, ?_⟩
    cases b with
    | true =>
      rw [if_pos rfl] at q2 ⊢
      exact ⟨Γ, S1, ρ1, fp1, _, Ex, hio, R1, q2, fun S2 H2 w r ρ2 fp2 R2 ss2 ok2 q2 => k S2 H2 w r ρ2 fp2 R2 (ss.trans ss2) ok2 q2, kx.up ss⟩
    | false =>
      rw [if_neg Bool.false_ne_true] at q2 ⊢
      exact k S1 H1 _ (.dat (.bool false)) ρ1 fp1 R1 ss (.bl false) q2, kx⟩
theorem xr_or {a b : Expr} {rest : List Expr} {f g : TX} {pos : Pos} (h : XR K W io X a f) (h2 : XR K W io X (.BoolOp .Or (b :: rest) pos) g) : XR K W io X (.BoolOp .Or (a :: b :: rest) pos) (fOrV f g) :=
  XR.mk (pe_or h h2) fun Γ S H σ ρ fp QD Ex Q hio R hf k kx => ⟨Γ, S, ρ, fp, _, Ex, hio, R, hf, fun S1 H1 v r ρ1 fp1 R1 ss ok q => by
    obtain ⟨d, rfl, q1⟩ := isD_get q
    obtain ⟨b, rfl, q2⟩ := isB_get q1
    cases ok
    refine ⟨b, rfl, ?_⟩
    cases b with
    | false =>
      rw [if_neg Bool.false_ne_true] at q2 ⊢
      exact ⟨Γ, S1, ρ1, fp1, _, Ex, hio, R1, q2, fun S2 H2 w r ρ2 fp2 R2 ss2 ok2 q2 => k S2 H2 w r ρ2 fp2 R2 (ss.trans ss2) ok2 q2, kx.up ss⟩
    | true =>
      rw [if_pos rfl] at q2 ⊢
      exact k S1 H1 _ (.dat (.bool true)) ρ1 fp1 R1 ss (.bl true) q2, kx⟩
theorem xr_not {a : Expr} {f : TX} {pos : Pos} (h : XR K W io X a f) : XR K W io X (.UnaryOp .Not a pos) (fNotV f) :=
  XR.mk (pe_not h) fun Γ S H σ ρ fp QD Ex Q hio R hf k kx => ⟨Γ, S, ρ, fp, _, Ex, hio, R, hf, fun S1 H1 v r ρ1 fp1 R1 ss ok q => by
    obtain ⟨d, rfl, q1⟩ := isD_get q
    obtain ⟨b, rfl, q2⟩ := isB_get q1
    cases ok
    exact ⟨b, rfl, k S1 H1 _ (.dat (.bool (!b))) ρ1 fp1 R1 ss (.bl _) q2⟩, kx⟩
def fIf (c : TXT) (f g : TX) : TX := fun ρ Q Ex => c ρ (fun b ρ1 => if b = true then f ρ1 Q Ex else g ρ1 Q Ex) Ex
theorem xr_if {c a b : Expr} {fc : TXT} {f g : TX} {pos : Pos} (hc : XT K W io X c fc) (h : XR K W io X a f) (h2 : XR K W io X b g) : XR K W io X (.IfExp c a b pos) (fIf fc f g) :=
  XR.mk (pe_ifExp hc h h2) fun Γ S H σ ρ fp QD Ex Q hio R hf k kx => ⟨Γ, S, ρ, fp, _, Ex, hio, R, hf, fun S1 H1 b ρ1 fp1 R1 ss q => by
    have k1 : KR K Γ σ S1 QD Q := fun S2 H2 w r ρ2 fp2 R2 ss2 ok2 q2 => k S2 H2 w r ρ2 fp2 R2 (ss.trans ss2) ok2 q2
    cases b with
    | true =>
      rw [if_pos rfl] at q
      refine (if_pos rfl).mpr ?_
      exact ⟨Γ, S1, ρ1, fp1, _, Ex, hio, R1, q, k1, kx.up ss⟩
    | false =>
      rw [if_neg Bool.false_ne_true] at q
      refine (if_neg Bool.false_ne_true).mpr ?_
      exact ⟨Γ, S1, ρ1, fp1, _, Ex, hio, R1, q, k1, kx.up ss⟩, kx⟩
def fIfN (c : TXT) (f g : TXN) : TXN := fun ρ Q Ex => c ρ (fun b ρ1 => if b = true then f ρ1 Q Ex else g ρ1 Q Ex) Ex
theorem xn_if {c a b : Expr} {fc : TXT} {f g : TXN} {pos : Pos} (hc : XT K W io X c fc) (h : XN K W io X a f) (h2 : XN K W io X b g) : XN K W io X (.IfExp c a b pos) (fIfN fc f g) :=
  XN.mk (pe_ifExp hc h h2) fun Γ S H σ ρ fp QD Ex Q hio R hf k kx => ⟨Γ, S, ρ, fp, _, Ex, hio, R, hf, fun S1 H1 b ρ1 fp1 R1 ss q => by
    have k1 : KN K Γ σ S1 QD Q := fun S2 H2 w r ρ2 fp2 fpn R2 ss2 ok2 q2 => k S2 H2 w r ρ2 fp2 fpn R2 (ss.trans ss2) ok2 q2
    cases b with
    | true =>
      rw [if_pos rfl] at q
      refine (if_pos rfl).mpr ?_
      exact ⟨Γ, S1, ρ1, fp1, _, Ex, hio, R1, q, k1, kx.up ss⟩
    | false =>
      rw [if_neg Bool.false_ne_true] at q
      refine (if_neg Bool.false_ne_true).mpr ?_
      exact ⟨Γ, S1, ρ1, fp1, _, Ex, hio, R1, q, k1, kx.up ss⟩, kx⟩
/-- a < b <= c -/
def fChain (g g' : PyData → PyData → (PyData → Prop) → Prop) (fa fb fc : TX) : TX := fun ρ Q Ex => fa ρ (fun ra ρ1 => fb ρ1 (fun rb ρ2 => withD ρ2 ra fun da => withD ρ2 rb fun db => g da db fun d => isB d fun b =>
  if b = true then fc ρ2 (fun rc ρ3 => withD ρ3 rb fun db' => withD ρ3 rc fun dc => g' db' dc fun d' => Q (.dat d') ρ3) Ex else Q (.dat (.bool false)) ρ2) Ex) Ex
theorem tChain_run {a b c : Expr} {fa fb fc : TX} {r r' : R2} {g g' : PyData → PyData → (PyData → Prop) → Prop} (hg : OpD K r g) (hg' : OpD K r' g') : ∀ Γ S H σ ρ fp QD Ex Q, Γ.io = io → Rel K Γ S H σ ρ fp → fChain g g' fa fb fc ρ QD Ex → KR K Γ σ S QD Q → KX K W Γ σ S Ex →
    tChain r r' (liftE K W io fa) (liftE K W io fb) (liftE K W io fc) σ H Q := fun Γ S H σ ρ fp QD Ex Q hio R h k kx => by
  refine ⟨Γ, S, ρ, fp, _, Ex, hio, R, h, fun S1 H1 v ra ρ1 fp1 R1 ss1 ok1 h1 => ?_, kx⟩
  refine ⟨Γ, S1, ρ1, fp1, _, Ex, hio, R1, h1, fun S2 H2 w rb ρ2 fp2 R2 ss2 ok2 h2 => ?_, kx.up ss1⟩
  obtain ⟨da, la, h2⟩ := withD_get h2
  obtain ⟨db, lb, h2⟩ := withD_get h2
  refine hg Γ S2 H2 σ ρ2 fp2 v w da db _ _ R2 (look_vw R2 (ok1.up ss2) la) (look_vw R2 ok2 lb) h2 fun S3 H3 u d R3 ss3 dp q => ?_
  obtain ⟨b, rfl, q2⟩ := isB_get q
  cases dp
  refine ⟨b, rfl, ?_⟩
  cases b with
  | true =>
    rw [if_pos rfl] at q2 ⊢
    refine ⟨Γ, S3, ρ2, fp2, _, Ex, hio, R3, q2, fun S4 H4 z rc ρ4 fp4 R4 ss4 ok4 h4 => ?_, kx.up ((ss1.trans ss2).trans ss3)⟩
    obtain ⟨db', lb', h4⟩ := withD_get h4
    obtain ⟨dc, lc, h4⟩ := withD_get h4
    exact hg' Γ S4 H4 σ ρ4 fp4 w z db' dc _ _ R4 (look_vw R4 (ok2.up (ss3.trans ss4)) lb') (look_vw R4 ok4 lc) h4 fun S5 H5 u d R5 ss5 dp q => k S5 H5 u (.dat d) ρ4 fp4 R5 ((((ss1.trans ss2).trans ss3).trans ss4).trans ss5) dp q
  | false =>
    rw [if_neg Bool.false_ne_true] at q2 ⊢
    exact k S3 H3 _ (.dat (.bool false)) ρ2 fp2 R3 ((ss1.trans ss2).trans ss3) (.bl false) q2
theorem xr_chain {a b c : Expr} {fa fb fc : TX} {op op' : CmpOp} {pos : Pos} {r r' : R2} {g g' : PyData → PyData → (PyData → Prop) → Prop} (ho : OpR X (compareOp op) r) (hg : OpD K r g) (ho' : OpR X (compareOp op') r') (hg' : OpD K r' g') (ha : XR K W io X a fa) (hb : XR K W io X b fb) (hc : XR K W io X c fc) (hm : lastMarks [op, op'] [b, c] = false := by rfl) :
    XR K W io X (.Compare a [op, op'] [b, c] pos) (fChain g g' fa fb fc) := XR.mk (pe_chain ho ho' ha hb hc hm) (tChain_run (a := a) (b := b) (c := c) hg hg')
theorem xt_chain {a b c : Expr} {fa fb fc : TX} {op op' : CmpOp} {pos : Pos} {r r' : R2} {g g' : PyData → PyData → (PyData → Prop) → Prop} (ho : OpR X (compareOp op) r) (hg : OpD K r g) (ho' : OpR X (compareOp op') r') (hg' : OpD K r' g') (ha : XR K W io X a fa) (hb : XR K W io X b fb) (hc : XR K W io X c fc) (hm : lastMarks [op, op'] [b, c] = false := by rfl) :
    XT K W io X (.Compare a [op, op'] [b, c] pos) (fT (fChain g g' fa fb fc)) := XT.mk (pt_chain ho ho' ha hb hc hm) fun Γ S H σ ρ fp QD Ex Q hio R h k kx => tChain_run (a := a) (b := b) (c := c) hg hg' Γ S H σ ρ fp _ Ex _ hio R h (kr_test k) kx

/-! ### argument lists, displays -/
def fNil : TXA := fun ρ Q _ => Q [] ρ
def fCons (f : TX) (g : TXA) : TXA := fun ρ Q Ex => f ρ (fun r ρ1 => g ρ1 (fun rs ρ2 => Q (r :: rs) ρ2) Ex) Ex
theorem xa_nil : XA K W io X [] 0 fNil := XA.mk pa_nil fun Γ S H σ ρ fp QD Ex Q hio R h k kx => k S H [] [] ρ fp R (Same.refl _) .nil rfl h
theorem paired_up {S S' : Hp} {σ : St} (hs : Same S S') {vs : List V} {rs : List Res} (h : Paired (ResOk K S σ) vs rs) : Paired (ResOk K S' σ) vs rs := Paired.mapP h fun _ _ z => ResOk.up z hs
theorem xa_cons {n : Nat} {f : TX} {g : TXA} (h : XR K W io X e f) (h2 : XA K W io X es n g) (hs : starEach (e :: es) X.env = (false, eval e X.env) :: starEach es X.env := by rfl) : XA K W io X (e :: es) (n + 1) (fCons f g) :=
  XA.mk (pa_cons h h2 hs) fun Γ S H σ ρ fp QD Ex Q hio R hf k kx => ⟨Γ, S, ρ, fp, _, Ex, hio, R, hf, fun S1 H1 v r ρ1 fp1 R1 ss1 ok1 h1 =>
    ⟨Γ, S1, ρ1, fp1, _, Ex, hio, R1, h1, fun S2 H2 vs rs ρ2 fp2 R2 ss2 ok2 hl h2 => k S2 H2 (v :: vs) (r :: rs) ρ2 fp2 R2 (ss1.trans ss2) (.cons (ok1.up ss2) ok2) (by rw [List.length_cons, hl]) h2, kx.up ss1⟩, kx⟩
theorem areD_get {S : Hp} {σ : St} : ∀ {rs : List Res} {k : List PyData → Prop} {vs : List V}, areD rs k → Paired (ResOk K S σ) vs rs → ∃ ds, DqAll K S vs ds ∧ ds.length = rs.length ∧ k ds
  | [], k, _, h, .nil => ⟨[], .nil, rfl, h⟩
  | r :: rs, k, _, h, .cons p t => by
    obtain ⟨d, rfl, h⟩ := isD_get h
    obtain ⟨ds, h1, h2, h3⟩ := areD_get (k := fun ds => k (d :: ds)) h t
    exact ⟨d :: ds, .cons p h1, by rw [List.length_cons, List.length_cons, h2], h3⟩
def fTup (f : TXA) : TX := fun ρ Q Ex => f ρ (fun rs ρ1 => areD rs fun ds => Q (.dat (.tuple ds)) ρ1) Ex
def fLst (f : TXA) : TXN := fun ρ Q Ex => f ρ (fun rs ρ1 => areD rs fun ds => Q (.lst ds) ρ1) Ex
theorem le1000 {n : Nat} (h : n ≤ 1000) : n ≤ sizeLine := Nat.le_of_lt (small1000 h)
theorem xr_tup {n : Nat} {f : TXA} {x1 : Nat} {pos : Pos} (h : XA K W io X es n f) (hn : n ≤ 1000 := by decide) : XR K W io X (.Tuple es x1 pos) (fTup f) :=
  XR.mk (pe_tup h) fun Γ S H σ ρ fp QD Ex Q hio R hf k kx => ⟨Γ, S, ρ, fp, _, Ex, hio, R, hf, fun S1 H1 vs rs ρ1 fp1 R1 ss1 ok1 hl h1 => by
    obtain ⟨ds, h2, h3, h4⟩ := areD_get h1 ok1
    refine ⟨le1000 (by rw [dps_len h2, h3, hl]; exact hn), fun p hp => ?_⟩
    have sp : Same S1 (upd S1 p (.tup vs)) := same_upd (R1.sub.free hp)
    exact k _ _ (.ref p) (.dat (.tuple ds)) ρ1 fp1 (R1.layS hp _) (ss1.trans sp) (.tup upd_same (dps_up sp _ _ h2)) h4, kx⟩
theorem new_lst {Γ : Gam} {S H : Hp} {σ : St} {ρ : List E} {fp : Nat → List Addr} {p : Addr} {xs : List V} {ds : List PyData} (R : Rel K Γ S H σ ρ fp) (hp : H p = none) (h : DqAll K S xs ds) :
    Rel K Γ S (upd H p (.lst xs)) σ ρ fp ∧ NewOk K Γ S (upd H p (.lst xs)) fp (.ref p) (.lst ds) [p] := by
  obtain ⟨n1, n2, n3⟩ := R.free hp
  refine ⟨R.lay hp _, ⟨p, xs, rfl, rfl, upd_same, h⟩, by simp, fun a ha => ?_⟩
  have e : a = p := by simpa using ha
  subst e
  exact ⟨n1, by rw [upd_same]; exact Option.some_ne_none _, n2, n3⟩
theorem new_dat {Γ : Gam} {S H : Hp} {fp : Nat → List Addr} {v : V} {d : PyData} (h : Dq K S v d) : NewOk K Γ S H fp v (.dat d) [] := ⟨⟨rfl, v, rfl, h⟩, List.nodup_nil, fun _ z => absurd z (by simp)⟩
theorem xn_lst {n : Nat} {f : TXA} {pos : Pos} (h : XA K W io X es n f) (hn : n ≤ 1000 := by decide) : XN K W io X (.List es pos) (fLst f) :=
  XN.mk (pe_lst h) fun Γ S H σ ρ fp QD Ex Q hio R hf k kx => ⟨Γ, S, ρ, fp, _, Ex, hio, R, hf, fun S1 H1 vs rs ρ1 fp1 R1 ss1 ok1 hl h1 => by
    obtain ⟨ds, h2, h3, h4⟩ := areD_get h1 ok1
    refine ⟨le1000 (by rw [dps_len h2, h3, hl]; exact hn), fun p hp => ?_⟩
    obtain ⟨R2, nw⟩ := new_lst R1 hp h2
    exact k _ _ (.ref p) (.lst ds) ρ1 fp1 [p] R2 ss1 nw h4, kx⟩
end
end L3

namespace L3
open PySem PySem.Spec PyProof.Rows L2

section
variable {X : Cx} {K : PySem.W.Frag} {W : WX} {io : List Nat}

/-! ### values and data -/
theorem vw_int {S H : Hp} {v : V} {i : Int} (h : Vw K S H v (.int i)) : v = .int i := by
  rcases h with h | ⟨_, _, _, _, e, _⟩
  · cases h; rfl
  · cases e
theorem vw_str {S H : Hp} {v : V} {i : Str} (h : Vw K S H v (.str i)) : v = .str i := by
  rcases h with h | ⟨_, _, _, _, e, _⟩
  · cases h; rfl
  · cases e
theorem vw_bool {S H : Hp} {v : V} {i : Bool} (h : Vw K S H v (.bool i)) : v = .bl i := by
  rcases h with h | ⟨_, _, _, _, e, _⟩
  · cases h; rfl
  · cases e
theorem vw_none {S H : Hp} {v : V} (h : Vw K S H v .none) : v = .non := by
  rcases h with h | ⟨_, _, _, _, e, _⟩
  · cases h; rfl
  · cases e
theorem vw_tup {S H : Hp} {v : V} {ds : List PyData} (h : Vw K S H v (.tuple ds)) : ∃ a xs, v = .ref a ∧ S a = some (.tup xs) ∧ DqAll K S xs ds := by
  rcases h with h | ⟨_, _, _, _, e, _⟩
  · cases h with
    | tup h1 h2 => exact ⟨_, _, rfl, h1, h2⟩
  · cases e
theorem vw_wk {S H : Hp} {v : V} {ds : List PyData} (h : Vw K S H v (wkT ds)) : ∃ a xs, v = .ref a ∧ SqT K S a xs ∧ DpAll K S xs ds ∧ constAll ds = true := by
  rcases h with h | ⟨_, _, _, _, e, _⟩
  · generalize e : wkT ds = d at h
    cases h with
    | wk h1 h2 h3 => cases e; exact ⟨_, _, rfl, h1, h2, h3⟩
    | _ => cases e
  · cases e
/-- a list; its items stay -/
theorem vw_lst {S H : Hp} (sub : Same S H) {v : V} {ds : List PyData} (h : Vw K S H v (.list ds)) : ∃ a xs, v = .ref a ∧ SqL K H a xs ∧ DqAll K S xs ds := by
  rcases h with h | ⟨a, xs, ds', rfl, e, h1, h2⟩
  · cases h with
    | lst h1 h2 => exact ⟨_, _, rfl, Same.seq sub h1, h2⟩
  · cases e
    exact ⟨a, xs, rfl, SqL.of h1, h2⟩
/-- a flat thing -/
def flatD : PyData → Bool
  | .none => true
  | .bool _ => true
  | .int _ => true
  | .str _ => true
  | _ => false
theorem dp_any {S S' : Hp} {v : V} {d : PyData} (f : flatD d = true) (h : Dq K S v d) : Dq K S' v d := by
  cases h with
  | non => exact .non
  | bl b => exact .bl b
  | int i => exact .int i
  | str x => exact .str x
  | lst _ _ => cases f
  | tup _ _ => cases f
  | wk _ _ _ => cases f
/-! ### numbers -/
def gI (g : Int → Int → PyData) : PyData → PyData → (PyData → Prop) → Prop := fun d e Q => match d, e with
  | .int i, .int j => Q (g i j)
  | _, _ => False
def gIC (C : Int → Int → Prop) (g : Int → Int → PyData) : PyData → PyData → (PyData → Prop) → Prop := fun d e Q => match d, e with
  | .int i, .int j => C i j ∧ Q (g i j)
  | _, _ => False
theorem gI_get {g : Int → Int → PyData} {d e : PyData} {Q : PyData → Prop} (h : gI g d e Q) : ∃ i j, d = .int i ∧ e = .int j ∧ Q (g i j) := by
  cases d with
  | int i =>
    cases e with
    | int j => exact ⟨i, j, rfl, rfl, h⟩
    | _ => exact h.elim
  | _ => exact (by cases e <;> exact h.elim)
theorem gIC_get {C : Int → Int → Prop} {g : Int → Int → PyData} {d e : PyData} {Q : PyData → Prop} (h : gIC C g d e Q) : ∃ i j, d = .int i ∧ e = .int j ∧ C i j ∧ Q (g i j) := by
  cases d with
  | int i =>
    cases e with
    | int j => exact ⟨i, j, rfl, rfl, h⟩
    | _ => exact h.elim
  | _ => exact (by cases e <;> exact h.elim)
theorem d_I0 {gv : Int → Int → V} {g : Int → Int → PyData} (hg : ∀ S i j, Dq K S (gv i j) (g i j)) : OpD K (rI0 gv) (gI g) := by
  intro Γ S H σ ρ fp x y dx dy Q QD R hx hy h k
  obtain ⟨i, j, rfl, rfl, q⟩ := gI_get h
  exact ⟨i, j, vw_int hx, vw_int hy, k S H _ _ R (Same.refl _) (hg S i j) q⟩
theorem d_I {C : Int → Int → Prop} {gv : Int → Int → V} {g : Int → Int → PyData} (hg : ∀ S i j, Dq K S (gv i j) (g i j)) : OpD K (rI C gv) (gIC C g) := by
  intro Γ S H σ ρ fp x y dx dy Q QD R hx hy h k
  obtain ⟨i, j, rfl, rfl, c, q⟩ := gIC_get h
  exact ⟨i, j, vw_int hx, vw_int hy, c, k S H _ _ R (Same.refl _) (hg S i j) q⟩
def gSub := gI fun i j => .int (i - j)
def gMulI := gIC CMul fun i j => .int (i * j)
def gDiv := gIC CDiv fun i j => .int (i / j)
def gMod := gIC (fun _ j => 0 < j) fun i j => .int (i % j)
def gPow := gIC CPow fun i j => .int (i ^ j.toNat)
def gLt := gI fun i j => .bool (decide (i < j))
def gLe := gI fun i j => .bool (decide (i ≤ j))
def gGt := gI fun i j => .bool (decide (j < i))
def gGe := gI fun i j => .bool (decide (j ≤ i))
variable {a b : Expr} {fa fb : TX} {pos : Pos}
theorem xr_sub (ha : XR K W io X a fa) (hb : XR K W io X b fb) : XR K W io X (.BinOp a .Sub b pos) (fBin gSub fa fb) := xr_bin op_sub (d_I0 fun _ _ _ => .int _) ha hb
theorem xr_mulI (ha : XR K W io X a fa) (hb : XR K W io X b fb) : XR K W io X (.BinOp a .Mult b pos) (fBin gMulI fa fb) := xr_bin op_mul (d_I fun _ _ _ => .int _) ha hb
theorem xr_div (ha : XR K W io X a fa) (hb : XR K W io X b fb) : XR K W io X (.BinOp a .FloorDiv b pos) (fBin gDiv fa fb) := xr_bin op_fdiv (d_I fun _ _ _ => .int _) ha hb
theorem xr_mod (ha : XR K W io X a fa) (hb : XR K W io X b fb) : XR K W io X (.BinOp a .Mod b pos) (fBin gMod fa fb) := xr_bin op_mod (d_I fun _ _ _ => .int _) ha hb
theorem xr_pow (ha : XR K W io X a fa) (hb : XR K W io X b fb) : XR K W io X (.BinOp a .Pow b pos) (fBin gPow fa fb) := xr_bin op_pow (d_I fun _ _ _ => .int _) ha hb
theorem xr_lt (ha : XR K W io X a fa) (hb : XR K W io X b fb) : XR K W io X (.Compare a [.Lt] [b] pos) (fBin gLt fa fb) := xr_cmp op_lt (d_I0 fun _ _ _ => .bl _) ha hb
theorem xr_le (ha : XR K W io X a fa) (hb : XR K W io X b fb) : XR K W io X (.Compare a [.LtE] [b] pos) (fBin gLe fa fb) := xr_cmp op_le (d_I0 fun _ _ _ => .bl _) ha hb
theorem xr_gt (ha : XR K W io X a fa) (hb : XR K W io X b fb) : XR K W io X (.Compare a [.Gt] [b] pos) (fBin gGt fa fb) := xr_cmp op_gt (d_I0 fun _ _ _ => .bl _) ha hb
theorem xr_ge (ha : XR K W io X a fa) (hb : XR K W io X b fb) : XR K W io X (.Compare a [.GtE] [b] pos) (fBin gGe fa fb) := xr_cmp op_ge (d_I0 fun _ _ _ => .bl _) ha hb
theorem xt_lt (ha : XR K W io X a fa) (hb : XR K W io X b fb) : XT K W io X (.Compare a [.Lt] [b] pos) (fT (fBin gLt fa fb)) := xt_cmp op_lt (d_I0 fun _ _ _ => .bl _) ha hb
theorem xt_le (ha : XR K W io X a fa) (hb : XR K W io X b fb) : XT K W io X (.Compare a [.LtE] [b] pos) (fT (fBin gLe fa fb)) := xt_cmp op_le (d_I0 fun _ _ _ => .bl _) ha hb
theorem xt_gt (ha : XR K W io X a fa) (hb : XR K W io X b fb) : XT K W io X (.Compare a [.Gt] [b] pos) (fT (fBin gGt fa fb)) := xt_cmp op_gt (d_I0 fun _ _ _ => .bl _) ha hb
theorem xt_ge (ha : XR K W io X a fa) (hb : XR K W io X b fb) : XT K W io X (.Compare a [.GtE] [b] pos) (fT (fBin gGe fa fb)) := xt_cmp op_ge (d_I0 fun _ _ _ => .bl _) ha hb
def fNeg (f : TX) : TX := fun ρ Q Ex => f ρ (fun r ρ1 => isD r fun d => match d with
  | .int i => Q (.dat (.int (-i))) ρ1
  | _ => False) Ex
theorem xr_neg (ha : XR K W io X a fa) : XR K W io X (.UnaryOp .USub a pos) (fNeg fa) :=
  XR.mk (pe_un un_neg ha) fun Γ S H σ ρ fp QD Ex Q hio R h k kx => ⟨Γ, S, ρ, fp, _, Ex, hio, R, h, fun S1 H1 v r ρ1 fp1 R1 ss ok q => by
    obtain ⟨d, rfl, q1⟩ := isD_get q
    cases d with
    | int i =>
      cases ok
      exact ⟨i, rfl, k S1 H1 _ (.dat (.int (-i))) ρ1 fp1 R1 ss (.int _) q1⟩
    | _ => exact q1.elim, kx⟩

/-! ### + and * -/
theorem op_catL : OpR X (binaryOp .Add) (fun x y H Q => ∃ l b xs zs, x = .ref l ∧ y = .ref b ∧ SqL X.K H l xs ∧ SqL X.K H b zs ∧ xs.length + zs.length ≤ sizeLine ∧ ∀ p, H p = none → Q (.ref p) (upd H p (.lst (xs ++ zs)))) := by
  intro pins s σ H x y v u Q I rx ry h
  obtain ⟨l, b, xs, zs, rfl, rfl, hH, hB, hz, q⟩ := h
  cases rx
  cases ry
  obtain ⟨its, r, ⟨o1, n1, e1, c1, _, d1⟩, _⟩ := I.list hH
  obtain ⟨its2, r2, ⟨o2, n2, e2, c2, _, d2⟩, _⟩ := I.list hB
  obtain ⟨cls, dd, data, sl⟩ := o1
  obtain ⟨cls2, dd2, data2, sl2⟩ := o2
  simp only at c1 d1 c2 d2
  subst c1 d1 c2 d2
  have hl := r.length
  have hl2 := r2.length
  have ea : its.toArray ++ its2.toArray = (its ++ its2).toArray := by simp
  refine concat_meets ⟨_, e1, rfl⟩ ⟨_, e2, rfl⟩ noFill_list_add seq_list_add PySem.F.slot_list_add PySem.F.entry_list_add (PySem.F.args_list_add_2 _ _) (list_addW l b its.toArray its2.toArray n1 n2 dd dd2 sl sl2 (by rw [List.size_toArray, List.size_toArray]; omega)) ⟨e1, e2, ?_⟩
  rw [ea]
  exact ⟨.ref _, _, I.lnew (t' := s.toks) (r.append r2) (by rw [List.length_append]; omega), rfl, q _ I.fresh⟩
def gAdd : PyData → PyData → (E → Prop) → Prop := fun d e Q => match d, e with
  | .int i, .int j => Q (.dat (.int (i + j)))
  | .str x, .str y => x.length + y.length ≤ sizeLine ∧ Q (.dat (.str (x ++ y)))
  | .tuple xs, .tuple ys => xs.length + ys.length ≤ sizeLine ∧ Q (.dat (.tuple (xs ++ ys)))
  | .list xs, .list ys => xs.length + ys.length ≤ sizeLine ∧ Q (.lst (xs ++ ys))
  | .dict [(.none, .tuple xs)], .dict [(.none, .tuple ys)] => xs ≠ [] ∧ ys ≠ [] ∧ xs.length + ys.length ≤ sizeLine ∧ Q (.dat (wkT (xs ++ ys)))
  | _, _ => False
theorem dpw_len {S : Hp} : ∀ {ds : List PyData} {vs : List V}, DpAll K S vs ds → vs.length = ds.length
  | [], _, q => by cases q; rfl
  | d :: ds, _, q => by
    cases q with
    | cons h1 h2 => rw [List.length_cons, List.length_cons, dpw_len h2]
theorem dpw_app {S : Hp} : ∀ {ds es : List PyData} {vs ws : List V}, DpAll K S vs ds → DpAll K S ws es → DpAll K S (vs ++ ws) (ds ++ es)
  | [], _, _, _, q, r => by cases q; exact r
  | d :: ds, _, _, _, q, r => by
    cases q with
    | cons h1 h2 => exact .cons h1 (dpw_app h2 r)
theorem const_app : ∀ {ds es : List PyData}, constAll ds = true → constAll es = true → constAll (ds ++ es) = true
  | [], _, _, h => h
  | d :: ds, es, h, h2 => by
    have h' := Bool.and_eq_true_iff.mp (show (constOk d && constAll ds) = true from h)
    show (constOk d && constAll (ds ++ es)) = true
    rw [h'.1, const_app h'.2 h2]; rfl
theorem d_add : OpN K (fun x y H Q => (((∃ i j, x = V.int i ∧ y = V.int j ∧ Q (.int (i + j)) H) ∨ (∃ i j, x = V.str i ∧ y = V.str j ∧ i.length + j.length ≤ sizeLine ∧ Q (.str (i ++ j)) H)) ∨ rCatA K x y H Q) ∨
    (∃ l b xs zs, x = V.ref l ∧ y = V.ref b ∧ SqL K H l xs ∧ SqL K H b zs ∧ xs.length + zs.length ≤ sizeLine ∧ ∀ p, H p = none → Q (.ref p) (upd H p (.lst (xs ++ zs))))) gAdd := by
  intro Γ S H σ ρ fp x y dx dy Q QD R hx hy h k
  cases dx with
  | int i =>
    cases dy with
    | int j => exact .inl (.inl (.inl ⟨i, j, vw_int hx, vw_int hy, k S H _ _ [] R (Same.refl _) (new_dat (.int _)) h⟩))
    | _ => exact h.elim
  | str i =>
    cases dy with
    | str j => exact .inl (.inl (.inr ⟨i, j, vw_str hx, vw_str hy, h.1, k S H _ _ [] R (Same.refl _) (new_dat (.str _)) h.2⟩))
    | _ => exact h.elim
  | tuple xs =>
    cases dy with
    | tuple ys =>
      obtain ⟨p, us, rfl, p1, p2⟩ := vw_tup hx
      obtain ⟨q, ws, rfl, q1, q2⟩ := vw_tup hy
      refine .inl (.inr ⟨p, q, us, ws, rfl, rfl, SqT.of (R.sub _ _ p1), SqT.of (R.sub _ _ q1), by rw [dps_len p2, dps_len q2]; exact h.1, fun e => ?_, fun _ e => ?_, fun _ _ n hn => ?_⟩)
      · subst e
        have e0 : xs = [] := List.eq_nil_of_length_eq_zero (dps_len p2).symm
        subst e0
        exact k S H _ (.dat (.tuple ys)) [] R (Same.refl _) (new_dat (.tup q1 q2)) h.2
      · subst e
        have e0 : ys = [] := List.eq_nil_of_length_eq_zero (dps_len q2).symm
        subst e0
        have h2 := h.2
        rw [List.append_nil] at h2
        exact k S H _ (.dat (.tuple xs)) [] R (Same.refl _) (new_dat (.tup p1 p2)) h2
      · have sp : Same S (upd S n (.tup (us ++ ws))) := same_upd (R.sub.free hn)
        exact k _ _ (.ref n) (.dat (.tuple (xs ++ ys))) [] (R.layS hn _) sp (new_dat (.tup upd_same (dps_up sp _ _ (dps_app p2 q2)))) h.2
    | _ => exact h.elim
  | list xs =>
    cases dy with
    | list ys =>
      obtain ⟨p, us, rfl, p1, p2⟩ := vw_lst R.sub hx
      obtain ⟨q, ws, rfl, q1, q2⟩ := vw_lst R.sub hy
      refine .inr ⟨p, q, us, ws, rfl, rfl, p1, q1, by rw [dps_len p2, dps_len q2]; exact h.1, fun n hn => ?_⟩
      obtain ⟨R2, nw⟩ := new_lst R hn (dps_app p2 q2)
      exact k _ _ (.ref n) _ [n] R2 (Same.refl _) nw h.2
    | _ => exact h.elim
  | dict l =>
    unfold gAdd at h
    split at h
    · contradiction
    · contradiction
    · contradiction
    · contradiction
    · rename_i xs ys e
      cases e
      obtain ⟨p, us, rfl, p1, p2, p3⟩ := vw_wk hx
      obtain ⟨q, ws, rfl, q1, q2, q3⟩ := vw_wk hy
      obtain ⟨n1, n2, hl, hq⟩ := h
      have l1 := dpw_len p2
      have l2 := dpw_len q2
      refine .inl (.inr ⟨p, q, us, ws, rfl, rfl, same_seqT R.sub p1, same_seqT R.sub q1, by rw [l1, l2]; exact hl, fun e => ?_, fun _ e => ?_, fun _ _ n hn => ?_⟩)
      · subst e; exact absurd (List.eq_nil_of_length_eq_zero l1.symm) n1
      · subst e; exact absurd (List.eq_nil_of_length_eq_zero l2.symm) n2
      · have sp : Same S (upd S n (.tup (us ++ ws))) := same_upd (R.sub.free hn)
        exact k _ _ (.ref n) (.dat (wkT (xs ++ ys))) [] (R.layS hn _) sp (new_dat (.wk (SqT.of upd_same) (dpsw_up sp _ _ (dpw_app p2 q2)) (const_app p3 q3))) hq
    · exact h.elim
  | _ => exact (by cases dy <;> exact h.elim)
theorem xn_add (hK : X.K = K) (ha : XR K W io X a fa) (hb : XR K W io X b fb) : XN K W io X (.BinOp a .Add b pos) (fBinN gAdd fa fb) := by
  subst hK
  exact xn_bin (((op_add.or op_add_str).or op_catA).or op_catL) d_add ha hb

/-! ### ==, !=, in, is -/
/-- data that == can walk -/
def okD (d : PyData) : Bool := d.plain && decide (d.depth ≤ 64)
theorem okD_p {d : PyData} (h : okD d = true) : d.plain = true := (Bool.and_eq_true_iff.mp h).1
theorem okD_d {d : PyData} (h : okD d = true) : d.depth ≤ 64 := of_decide_eq_true (Bool.and_eq_true_iff.mp h).2
def rEqP (K : PySem.W.Frag) : R2 := fun x y H Q => ∃ d e, Dq K H x d ∧ Dq K H y e ∧ okD d = true ∧ okD e = true ∧ Q (.bl (PyData.eqv d e)) H
def rNeP (K : PySem.W.Frag) : R2 := fun x y H Q => ∃ d e, Dq K H x d ∧ Dq K H y e ∧ okD d = true ∧ okD e = true ∧ Q (.bl (!PyData.eqv d e)) H
def rInP (K : PySem.W.Frag) (n : Bool) : R2 := fun x y H Q => ∃ d ds, Dq K H x d ∧ (Dq K H y (.list ds) ∨ Dq K H y (.tuple ds)) ∧ okD d = true ∧ okD (.list ds) = true ∧ Q (.bl (n ^^ (ds.any fun z => PyData.eqv z d))) H
theorem op_eqP (hu : X.A.units + 64 < cLine) : OpR X (compareOp .Eq) (rEqP X.K) := by
  intro pins s σ H x y v u Q I rx ry h
  obtain ⟨d, e, hd, he, sd, se, q⟩ := h
  obtain ⟨as, r1⟩ := Dp.reads I d x v (Dq.weak _ _ hd (okD_p sd)) rx
  obtain ⟨bs, r2⟩ := Dp.reads I e y u (Dq.weak _ _ he (okD_p se)) ry
  have hd := okD_d sd
  exact PySem.SeqAt.eq_plain r1 r2 (okD_p sd) (okD_p se) (by omega) ⟨.bl _, H, I, rfl, q⟩
theorem op_neP (hu : X.A.units + 64 < cLine) : OpR X (compareOp .NotEq) (rNeP X.K) := by
  intro pins s σ H x y v u Q I rx ry h
  obtain ⟨d, e, hd, he, sd, se, q⟩ := h
  obtain ⟨as, r1⟩ := Dp.reads I d x v (Dq.weak _ _ hd (okD_p sd)) rx
  obtain ⟨bs, r2⟩ := Dp.reads I e y u (Dq.weak _ _ he (okD_p se)) ry
  have hd := okD_d sd
  exact PySem.SeqAt.ne_plain r1 r2 (okD_p sd) (okD_p se) (by omega) ⟨.bl _, H, I, rfl, q⟩
theorem okD_all {ds : List PyData} (h : okD (.list ds) = true) : PyData.plainAll ds = true := by
  have h1 := okD_p h
  rwa [PyData.plain] at h1
theorem op_inP (hu : X.A.units + 65 < cLine) : OpR X (compareOp .In) (rInP X.K false) := by
  intro pins s σ H x y v u Q I rx ry h
  obtain ⟨d, ds, hd, he, sd, se, q⟩ := h
  obtain ⟨as, r1⟩ := Dp.reads I d x v (Dq.weak _ _ hd (okD_p sd)) rx
  have hdd := okD_d sd
  rw [Bool.false_xor] at q
  rcases he with he | he
  · obtain ⟨bs, r2⟩ := Dp.reads I (.list ds) y u (Dq.weak _ _ he (okD_p se)) ry
    exact PySem.SeqAt.in_list_data r2 r1 (okD_all se) (okD_p sd) (by omega) ⟨.bl _, H, I, rfl, q⟩
  · obtain ⟨bs, r2⟩ := Dp.reads I (.tuple ds) y u (Dq.weak _ _ he (okD_p (d := .list ds) se)) ry
    exact PySem.SeqAt.in_tuple_data r2 r1 (okD_all se) (okD_p sd) (by omega) ⟨.bl _, H, I, rfl, q⟩
theorem op_notInP (hu : X.A.units + 65 < cLine) : OpR X (compareOp .NotIn) (rInP X.K true) := by
  intro pins s σ H x y v u Q I rx ry h
  obtain ⟨d, ds, hd, he, sd, se, q⟩ := h
  obtain ⟨as, r1⟩ := Dp.reads I d x v (Dq.weak _ _ hd (okD_p sd)) rx
  have hdd := okD_d sd
  rw [Bool.true_xor] at q
  rcases he with he | he
  · obtain ⟨bs, r2⟩ := Dp.reads I (.list ds) y u (Dq.weak _ _ he (okD_p se)) ry
    exact PySem.SeqAt.notIn_list_data r2 r1 (okD_all se) (okD_p sd) (by omega) ⟨.bl _, H, I, rfl, q⟩
  · obtain ⟨bs, r2⟩ := Dp.reads I (.tuple ds) y u (Dq.weak _ _ he (okD_p (d := .list ds) se)) ry
    exact PySem.SeqAt.notIn_tuple_data r2 r1 (okD_all se) (okD_p sd) (by omega) ⟨.bl _, H, I, rfl, q⟩
def gEq : PyData → PyData → (PyData → Prop) → Prop := fun d e Q => match d, e with
  | .int i, .int j => Q (.bool (decide (i = j)))
  | .str i, .str j => Q (.bool (decide (i = j)))
  | .bool i, .bool j => Q (.bool (decide (i = j)))
  | d, e => okD d = true ∧ okD e = true ∧ Q (.bool (PyData.eqv d e))
def gNe : PyData → PyData → (PyData → Prop) → Prop := fun d e Q => gEq d e fun r => isB r fun b => Q (.bool (!b))
theorem eqv_int (i j : Int) : PyData.eqv (.int i) (.int j) = decide (i = j) := by
  rw [PyData.eqv]; exact Bool.beq_eq_decide_eq i j
theorem eqv_str (i j : Str) : PyData.eqv (.str i) (.str j) = decide (i = j) := by
  rw [PyData.eqv]; exact Bool.beq_eq_decide_eq i j
theorem eqv_bool (i j : Bool) : PyData.eqv (.bool i) (.bool j) = decide (i = j) := by
  rw [PyData.eqv]; exact Bool.beq_eq_decide_eq i j
theorem gEq_get {d e : PyData} {Q : PyData → Prop} (h : gEq d e Q) : ((∃ i j, d = .int i ∧ e = .int j) ∨ (∃ i j, d = .str i ∧ e = .str j) ∨ (∃ i j, d = .bool i ∧ e = .bool j) ∨ (okD d = true ∧ okD e = true)) ∧ Q (.bool (PyData.eqv d e)) := by
  unfold gEq at h
  split at h
  · exact ⟨.inl ⟨_, _, rfl, rfl⟩, by rw [eqv_int]; exact h⟩
  · exact ⟨.inr (.inl ⟨_, _, rfl, rfl⟩), by rw [eqv_str]; exact h⟩
  · exact ⟨.inr (.inr (.inl ⟨_, _, rfl, rfl⟩)), by rw [eqv_bool]; exact h⟩
  · exact ⟨.inr (.inr (.inr ⟨h.1, h.2.1⟩)), h.2.2⟩
theorem gEq_of {d e : PyData} {Q : PyData → Prop} (h1 : okD d = true) (h2 : okD e = true) (h : Q (.bool (PyData.eqv d e))) : gEq d e Q := by
  unfold gEq
  split
  · rw [eqv_int] at h; exact h
  · rw [eqv_str] at h; exact h
  · rw [eqv_bool] at h; exact h
  · exact ⟨h1, h2, h⟩
theorem d_eq : OpD K (fun x y H Q => rEq x y H Q ∨ rEqP K x y H Q) gEq := by
  intro Γ S H σ ρ fp x y dx dy Q QD R hx hy h k
  obtain ⟨c, q⟩ := gEq_get h
  have k' := k S H (.bl (PyData.eqv dx dy)) _ R (Same.refl _) (.bl _) q
  rcases c with ⟨i, j, rfl, rfl⟩ | ⟨i, j, rfl, rfl⟩ | ⟨i, j, rfl, rfl⟩ | ⟨h1, h2⟩
  · rw [vw_int hx, vw_int hy]
    refine .inl ⟨rfl, ?_⟩
    have e : decide (V.int i = V.int j) = PyData.eqv (.int i) (.int j) := by rw [dec_int, eqv_int, Bool.beq_eq_decide_eq]
    rw [e]; exact k'
  · rw [vw_str hx, vw_str hy]
    refine .inl ⟨rfl, ?_⟩
    have e : decide (V.str i = V.str j) = PyData.eqv (.str i) (.str j) := by rw [dec_str, eqv_str, Bool.beq_eq_decide_eq]
    rw [e]; exact k'
  · rw [vw_bool hx, vw_bool hy]
    refine .inl ⟨rfl, ?_⟩
    have e : decide (V.bl i = V.bl j) = PyData.eqv (.bool i) (.bool j) := by rw [dec_bl, eqv_bool, Bool.beq_eq_decide_eq]
    rw [e]; exact k'
  · exact .inr ⟨dx, dy, hx.dp R.sub, hy.dp R.sub, h1, h2, k'⟩
theorem d_ne : OpD K (fun x y H Q => rNe x y H Q ∨ rNeP K x y H Q) gNe := by
  intro Γ S H σ ρ fp x y dx dy Q QD R hx hy h k
  obtain ⟨c, q⟩ := gEq_get h
  obtain ⟨b, e0, q⟩ := isB_get q
  cases e0
  have k' := k S H (.bl (!PyData.eqv dx dy)) _ R (Same.refl _) (.bl _) q
  rcases c with ⟨i, j, rfl, rfl⟩ | ⟨i, j, rfl, rfl⟩ | ⟨i, j, rfl, rfl⟩ | ⟨h1, h2⟩
  · rw [vw_int hx, vw_int hy]
    refine .inl ⟨rfl, ?_⟩
    have e : decide (V.int i = V.int j) = PyData.eqv (.int i) (.int j) := by rw [dec_int, eqv_int, Bool.beq_eq_decide_eq]
    rw [e]; exact k'
  · rw [vw_str hx, vw_str hy]
    refine .inl ⟨rfl, ?_⟩
    have e : decide (V.str i = V.str j) = PyData.eqv (.str i) (.str j) := by rw [dec_str, eqv_str, Bool.beq_eq_decide_eq]
    rw [e]; exact k'
  · rw [vw_bool hx, vw_bool hy]
    refine .inl ⟨rfl, ?_⟩
    have e : decide (V.bl i = V.bl j) = PyData.eqv (.bool i) (.bool j) := by rw [dec_bl, eqv_bool, Bool.beq_eq_decide_eq]
    rw [e]; exact k'
  · exact .inr ⟨dx, dy, hx.dp R.sub, hy.dp R.sub, h1, h2, k'⟩
theorem xr_eq (hK : X.K = K) (hu : X.A.units + 64 < cLine) (ha : XR K W io X a fa) (hb : XR K W io X b fb) : XR K W io X (.Compare a [.Eq] [b] pos) (fBin gEq fa fb) := by
  subst hK
  exact xr_cmp (op_eq.or (op_eqP hu)) d_eq ha hb
theorem xt_eq (hK : X.K = K) (hu : X.A.units + 64 < cLine) (ha : XR K W io X a fa) (hb : XR K W io X b fb) : XT K W io X (.Compare a [.Eq] [b] pos) (fT (fBin gEq fa fb)) := by
  subst hK
  exact xt_cmp (op_eq.or (op_eqP hu)) d_eq ha hb
theorem xr_ne (hK : X.K = K) (hu : X.A.units + 64 < cLine) (ha : XR K W io X a fa) (hb : XR K W io X b fb) : XR K W io X (.Compare a [.NotEq] [b] pos) (fBin gNe fa fb) := by
  subst hK
  exact xr_cmp (op_ne.or (op_neP hu)) d_ne ha hb
theorem xt_ne (hK : X.K = K) (hu : X.A.units + 64 < cLine) (ha : XR K W io X a fa) (hb : XR K W io X b fb) : XT K W io X (.Compare a [.NotEq] [b] pos) (fT (fBin gNe fa fb)) := by
  subst hK
  exact xt_cmp (op_ne.or (op_neP hu)) d_ne ha hb
/-- x in a list of data; a sign in a text; a flat thing in a tuple of flat ones -/
def gIn : PyData → PyData → (PyData → Prop) → Prop := fun d e Q => match e with
  | .list ds => okD d = true ∧ okD (.list ds) = true ∧ Q (.bool (ds.any fun z => PyData.eqv z d))
  | .tuple ds => okD d = true ∧ okD (.list ds) = true ∧ Q (.bool (ds.any fun z => PyData.eqv z d))
  | .str z => match d with
    | .str c => ∃ n, c = ⟨#[n]⟩ ∧ Q (.bool (decide (n ∈ z.cps.toList)))
    | _ => False
  | _ => False
def gNotIn : PyData → PyData → (PyData → Prop) → Prop := fun d e Q => gIn d e fun r => isB r fun b => Q (.bool (!b))
theorem d_inG {n : Bool} : OpD K (fun x y H Q => rInP K n x y H Q ∨ ∃ (c : Nat) (z : Str), x = .str ⟨#[c]⟩ ∧ y = .str z ∧ Q (.bl (n ^^ decide (c ∈ z.cps.toList))) H) (fun d e Q => gIn d e fun r => isB r fun b => Q (.bool (n ^^ b))) := by
  intro Γ S H σ ρ fp x y dx dy Q QD R hx hy h k
  cases dy with
  | list ds => exact .inl ⟨dx, ds, hx.dp R.sub, .inl (hy.dp R.sub), h.1, h.2.1, k S H _ _ R (Same.refl _) (.bl _) h.2.2⟩
  | tuple ds => exact .inl ⟨dx, ds, hx.dp R.sub, .inr (hy.dp R.sub), h.1, h.2.1, k S H _ _ R (Same.refl _) (.bl _) h.2.2⟩
  | str z =>
    cases dx with
    | str c =>
      obtain ⟨m, rfl, q⟩ := h
      exact .inr ⟨m, z, vw_str hx, vw_str hy, k S H _ _ R (Same.refl _) (.bl _) q⟩
    | _ => exact h.elim
  | _ => exact h.elim
theorem d_in : OpD K (fun x y H Q => rInP K false x y H Q ∨ ∃ (c : Nat) (z : Str), x = .str ⟨#[c]⟩ ∧ y = .str z ∧ Q (.bl (decide (c ∈ z.cps.toList))) H) gIn := by
  intro Γ S H σ ρ fp x y dx dy Q QD R hx hy h k
  have z := d_inG (K := K) (n := false) Γ S H σ ρ fp x y dx dy Q QD R hx hy (by
    unfold gIn at h ⊢
    split at h <;> first | (simpa [isB] using h) | skip) k
  simpa using z
theorem d_notIn : OpD K (fun x y H Q => rInP K true x y H Q ∨ ∃ (c : Nat) (z : Str), x = .str ⟨#[c]⟩ ∧ y = .str z ∧ Q (.bl (!decide (c ∈ z.cps.toList))) H) gNotIn := by
  intro Γ S H σ ρ fp x y dx dy Q QD R hx hy h k
  have z := d_inG (K := K) (n := true) Γ S H σ ρ fp x y dx dy Q QD R hx hy (by simpa [gNotIn] using h) k
  simpa using z
theorem xr_in (hK : X.K = K) (hu : X.A.units + 65 < cLine) (ha : XR K W io X a fa) (hb : XR K W io X b fb) (hm : behindInMarks .In b = false := by rfl) : XR K W io X (.Compare a [.In] [b] pos) (fBin gIn fa fb) := by
  subst hK
  exact xr_cmp ((op_inP hu).or op_in_sign) d_in ha hb hm
theorem xt_in (hK : X.K = K) (hu : X.A.units + 65 < cLine) (ha : XR K W io X a fa) (hb : XR K W io X b fb) (hm : behindInMarks .In b = false := by rfl) : XT K W io X (.Compare a [.In] [b] pos) (fT (fBin gIn fa fb)) := by
  subst hK
  exact xt_cmp ((op_inP hu).or op_in_sign) d_in ha hb hm
theorem xr_notIn (hK : X.K = K) (hu : X.A.units + 65 < cLine) (ha : XR K W io X a fa) (hb : XR K W io X b fb) (hm : behindInMarks .NotIn b = false := by rfl) : XR K W io X (.Compare a [.NotIn] [b] pos) (fBin gNotIn fa fb) := by
  subst hK
  exact xr_cmp ((op_notInP hu).or op_notIn_sign) d_notIn ha hb hm
theorem xt_notIn (hK : X.K = K) (hu : X.A.units + 65 < cLine) (ha : XR K W io X a fa) (hb : XR K W io X b fb) (hm : behindInMarks .NotIn b = false := by rfl) : XT K W io X (.Compare a [.NotIn] [b] pos) (fT (fBin gNotIn fa fb)) := by
  subst hK
  exact xt_cmp ((op_notInP hu).or op_notIn_sign) d_notIn ha hb hm
def isNone : PyData → Bool
  | .none => true
  | _ => false
def gIs : PyData → PyData → (PyData → Prop) → Prop := fun d e Q => match d, e with
  | .bool i, .bool j => Q (.bool (decide (i = j)))
  | d, .none => Q (.bool (isNone d))
  | _, _ => False
def gIsNot : PyData → PyData → (PyData → Prop) → Prop := fun d e Q => gIs d e fun r => isB r fun b => Q (.bool (!b))
theorem none_dec {S H : Hp} {v : V} {d : PyData} (h : Vw K S H v d) : decide (v = .non) = isNone d := by
  rcases h with h | ⟨_, _, _, rfl, rfl, _⟩
  · cases h <;> rfl
  · rfl
theorem d_is : OpD K (fun x y H Q => rIsB x y H Q ∨ (y = .non ∧ Q (.bl (decide (x = .non))) H)) gIs := by
  intro Γ S H σ ρ fp x y dx dy Q QD R hx hy h k
  unfold gIs at h
  split at h
  · exact .inl ⟨_, _, vw_bool hx, vw_bool hy, k S H _ _ R (Same.refl _) (.bl _) h⟩
  · refine .inr ⟨vw_none hy, ?_⟩
    rw [none_dec hx]
    exact k S H _ _ R (Same.refl _) (.bl _) h
  · exact h.elim
theorem d_isNot : OpD K (fun x y H Q => rNotB x y H Q ∨ (y = .non ∧ Q (.bl (!decide (x = .non))) H)) gIsNot := by
  intro Γ S H σ ρ fp x y dx dy Q QD R hx hy h k
  unfold gIsNot gIs at h
  split at h
  · exact .inl ⟨_, _, vw_bool hx, vw_bool hy, k S H _ _ R (Same.refl _) (.bl _) h⟩
  · refine .inr ⟨vw_none hy, ?_⟩
    rw [none_dec hx]
    exact k S H _ _ R (Same.refl _) (.bl _) h
  · exact h.elim
theorem xr_is (ha : XR K W io X a fa) (hb : XR K W io X b fb) : XR K W io X (.Compare a [.Is] [b] pos) (fBin gIs fa fb) := xr_cmp (op_isBl.or op_isN) d_is ha hb
theorem xt_is (ha : XR K W io X a fa) (hb : XR K W io X b fb) : XT K W io X (.Compare a [.Is] [b] pos) (fT (fBin gIs fa fb)) := xt_cmp (op_isBl.or op_isN) d_is ha hb
theorem xr_isNot (ha : XR K W io X a fa) (hb : XR K W io X b fb) : XR K W io X (.Compare a [.IsNot] [b] pos) (fBin gIsNot fa fb) := xr_cmp (op_notBl.or op_notN) d_isNot ha hb
theorem xt_isNot (ha : XR K W io X a fa) (hb : XR K W io X b fb) : XT K W io X (.Compare a [.IsNot] [b] pos) (fT (fBin gIsNot fa fb)) := xt_cmp (op_notBl.or op_notN) d_isNot ha hb

/-! ### items, slices -/
def gIx : PyData → PyData → (PyData → Prop) → Prop := fun d e Q => match d, e with
  | .list ds, .int i => ∃ z, atI ds i = some z ∧ Q z
  | .tuple ds, .int i => ∃ z, atI ds i = some z ∧ Q z
  | .str x, .int i => x.length ≤ sizeLine ∧ ∃ c, atI x.cps.toList i = some c ∧ Q (.str ⟨#[c]⟩)
  | _, _ => False
theorem dps_at {S : Hp} {xs : List V} {ds : List PyData} {i : Int} {z : PyData} (h : DqAll K S xs ds) (e : atI ds i = some z) : ∃ v, atI xs i = some v ∧ Dq K S v z := by
  unfold atI at e ⊢
  rw [dps_len h]
  cases q : ixN ds.length i with
  | none => rw [q] at e; cases e
  | some j =>
    rw [q] at e
    exact dps_get h e
theorem d_ix : OpD K (rIx K) gIx := by
  intro Γ S H σ ρ fp x y dx dy Q QD R hx hy h k
  unfold gIx at h
  split at h
  · obtain ⟨a, xs, rfl, h1, h2⟩ := vw_lst R.sub hx
    obtain ⟨z, e, q⟩ := h
    obtain ⟨v, e2, dp⟩ := dps_at h2 e
    exact .inl ⟨a, xs, _, v, rfl, vw_int hy, h1, e2, k S H v z R (Same.refl _) dp q⟩
  · obtain ⟨a, xs, rfl, h1, h2⟩ := vw_tup hx
    obtain ⟨z, e, q⟩ := h
    obtain ⟨v, e2, dp⟩ := dps_at h2 e
    exact .inr (.inl ⟨a, xs, _, v, rfl, vw_int hy, SqT.of (R.sub _ _ h1), e2, k S H v z R (Same.refl _) dp q⟩)
  · obtain ⟨hz, c, e, q⟩ := h
    exact .inr (.inr ⟨_, _, c, vw_str hx, vw_int hy, hz, e, k S H _ _ R (Same.refl _) (.str _) q⟩)
  · exact h.elim
theorem xr_at (hK : X.K = K) (ha : XR K W io X a fa) (hb : XR K W io X b fb) (hs : PlainIx b := by exact fun _ _ => rfl) : XR K W io X (.Subscript a b pos) (fBin gIx fa fb) := by
  subst hK
  exact xr_ix ix_seq d_ix ha hb hs
abbrev TXO := List E → (Option Int → List E → Prop) → XC → Prop
def KO (K : PySem.W.Frag) (Γ : Gam) (σ : St) (S : Hp) (QD : Option Int → List E → Prop) (Q : Option Int → Hp → Prop) : Prop := ∀ S' H' o ρ' fp', Rel K Γ S' H' σ ρ' fp' → Same S S' → QD o ρ' → Q o H'
def liftO (K : PySem.W.Frag) (W : WX) (io : List Nat) (f : TXO) : TO := fun σ H Q => ∃ Γ S ρ fp QD Ex, Γ.io = io ∧ Rel K Γ S H σ ρ fp ∧ f ρ QD Ex ∧ KO K Γ σ S QD Q ∧ KX K W Γ σ S Ex
abbrev XO (K : PySem.W.Frag) (W : WX) (io : List Nat) (X : Cx) (e : Option Expr) (f : TXO) : Prop := PO X e (liftO K W io f)
theorem XO.mk {e : Option Expr} {t : TO} {f : TXO} (h : PO X e t) (hw : ∀ Γ S H σ ρ fp QD Ex Q, Γ.io = io → Rel K Γ S H σ ρ fp → f ρ QD Ex → KO K Γ σ S QD Q → KX K W Γ σ S Ex → t σ H Q) : XO K W io X e f :=
  ⟨fun pins s σ H Q I ⟨Γ, S, ρ, fp, QD, Ex, hio, R, hf, k, kx⟩ => h.run pins s σ H Q I (hw Γ S H σ ρ fp QD Ex Q hio R hf k kx)⟩
def fNoPart : TXO := fun ρ Q _ => Q none ρ
def fPart (f : TX) : TXO := fun ρ Q Ex => f ρ (fun r ρ1 => isD r fun d => match d with
  | .int i => Q (some i) ρ1
  | _ => False) Ex
theorem xo_none : XO K W io X none fNoPart := XO.mk po_none fun Γ S H σ ρ fp QD Ex Q hio R hf k kx => k S H none ρ fp R (Same.refl _) hf
theorem xo_some {e : Expr} {f : TX} (h : XR K W io X e f) : XO K W io X (some e) (fPart f) :=
  XO.mk (po_some h) fun Γ S H σ ρ fp QD Ex Q hio R hf k kx => ⟨Γ, S, ρ, fp, _, Ex, hio, R, hf, fun S1 H1 v r ρ1 fp1 R1 ss ok q => by
    obtain ⟨d, rfl, q1⟩ := isD_get q
    cases d with
    | int i =>
      cases ok
      exact ⟨i, rfl, k S1 H1 (some i) ρ1 fp1 R1 ss q1⟩
    | _ => exact q1.elim, kx⟩
def cutD (ds : List PyData) (lo hi : Option Int) : List PyData := (ds.drop (HT.sIx ds.length 0 lo)).take (HT.sIx ds.length ds.length hi - HT.sIx ds.length 0 lo)
def gSl (d : PyData) (lo hi : Option Int) (Q : E → Prop) : Prop := match d with
  | .list ds => Q (.lst (cutD ds lo hi))
  | .tuple ds => Q (.dat (.tuple (cutD ds lo hi)))
  | .str x => x.length ≤ sizeLine ∧ Q (.dat (.str (cutS x lo hi)))
  | _ => False
def fSl (f : TX) (l u : TXO) : TXN := fun ρ Q Ex => f ρ (fun r ρ1 => l ρ1 (fun lo ρ2 => u ρ2 (fun hi ρ3 => withD ρ3 r fun d => gSl d lo hi fun e => Q e ρ3) Ex) Ex) Ex
theorem dps_cut {S : Hp} {xs : List V} {ds : List PyData} (lo hi : Option Int) (h : DqAll K S xs ds) : DqAll K S (cutV xs lo hi) (cutD ds lo hi) := by
  unfold cutV cutD
  rw [dps_len h]
  exact dps_take _ (dps_drop _ h)
theorem xn_slice {e : Expr} {lo hi : Option Expr} {f : TX} {l u : TXO} {p2 : Pos} (hK : X.K = K) (h : XR K W io X e f) (hl : XO K W io X lo l) (hu : XO K W io X hi u) : XN K W io X (.Subscript e (.Slice lo hi none p2) pos) (fSl f l u) := by
  subst hK
  refine XN.mk (pe_slice ((sl_list.or sl_tupA).or sl_str) h hl hu) fun Γ S H σ ρ fp QD Ex Q hio R hf k kx => ?_
  refine ⟨Γ, S, ρ, fp, _, Ex, hio, R, hf, fun S1 H1 v r ρ1 fp1 R1 ss1 ok1 q1 => ?_, kx⟩
  refine ⟨Γ, S1, ρ1, fp1, _, Ex, hio, R1, q1, fun S2 H2 lo' ρ2 fp2 R2 ss2 q2 => ?_, kx.up ss1⟩
  refine ⟨Γ, S2, ρ2, fp2, _, Ex, hio, R2, q2, fun S3 H3 hi' ρ3 fp3 R3 ss3 q3 => ?_, kx.up (ss1.trans ss2)⟩
  obtain ⟨d, ld, q⟩ := withD_get q3
  have hv := look_vw R3 (ok1.up (ss2.trans ss3)) ld
  have ss := (ss1.trans ss2).trans ss3
  cases d with
  | list ds =>
    obtain ⟨a, xs, rfl, h1, h2⟩ := vw_lst R3.sub hv
    refine .inl (.inl ⟨a, xs, rfl, h1, fun n hn => ?_⟩)
    obtain ⟨R4, nw⟩ := new_lst R3 hn (dps_cut lo' hi' h2)
    exact k _ _ (.ref n) _ ρ3 fp3 [n] R4 ss nw q
  | tuple ds =>
    obtain ⟨a, xs, rfl, h1, h2⟩ := vw_tup hv
    refine .inl (.inr ⟨a, xs, rfl, SqT.of (R3.sub _ _ h1), fun w => ?_, fun _ n hn => ?_⟩)
    · have e : cutD ds lo' hi' = ds := by
        unfold cutD
        rw [← dps_len h2, w.1, w.2, dps_len h2]
        simp
      have q' : QD (.dat (.tuple (cutD ds lo' hi'))) ρ3 := q
      rw [e] at q'
      exact k S3 H3 (.ref a) _ ρ3 fp3 [] R3 ss (new_dat (.tup h1 h2)) q'
    · have sp : Same S3 (upd S3 n (.tup (cutV xs lo' hi'))) := same_upd (R3.sub.free hn)
      exact k _ _ (.ref n) (.dat (.tuple (cutD ds lo' hi'))) ρ3 fp3 [] (R3.layS hn _) (ss.trans sp) (new_dat (.tup upd_same (dps_up sp _ _ (dps_cut lo' hi' h2)))) q
  | str z => exact .inr ⟨z, vw_str hv, q.1, k S3 H3 _ (.dat (.str (cutS z lo' hi'))) ρ3 fp3 [] R3 ss (new_dat (.str _)) q.2⟩
  | _ => exact q.elim
end
end L3

namespace L3
open PySem PySem.Spec PyProof.Rows L2

section
variable {X : Cx} {K : PySem.W.Frag} {W : WX} {io : List Nat}

/-! ### built-in functions -/
def CallN (K : PySem.W.Frag) (r : List V → Hp → VK → Prop) (g : List PyData → (E → Prop) → Prop) : Prop := ∀ Γ S H σ ρ fp vs ds Q QD, Rel K Γ S H σ ρ fp → Paired (Vw K S H) vs ds → g ds QD →
  (∀ S' H' v e fpn, Rel K Γ S' H' σ ρ fp → Same S S' → NewOk K Γ S' H' fp v e fpn → QD e → Q v H') → r vs H Q
def fCall (g : List PyData → (E → Prop) → Prop) (f : TXA) : TXN := fun ρ Q Ex => f ρ (fun rs ρ1 => withDs ρ1 rs fun ds => g ds fun e => Q e ρ1) Ex
theorem withDs_get {Γ : Gam} {S H : Hp} {σ : St} {ρ : List E} {fp : Nat → List Addr} (R : Rel K Γ S H σ ρ fp) : ∀ {rs : List Res} {vs : List V} {k : List PyData → Prop}, Paired (ResOk K S σ) vs rs → withDs ρ rs k → ∃ ds, Paired (Vw K S H) vs ds ∧ k ds
  | [], _, _, .nil, h => ⟨[], .nil, h⟩
  | r :: rs, _, k, .cons p t, h => by
    obtain ⟨d, l, h⟩ := withD_get h
    obtain ⟨ds, h1, h2⟩ := withDs_get R (k := fun ds => k (d :: ds)) t h
    exact ⟨d :: ds, .cons (look_vw R p l) h1, h2⟩
variable {x : Str} {p pos : Pos} {e : Expr} {es : List Expr} {id T : String} {r : List V → Hp → VK → Prop} {g : List PyData → (E → Prop) → Prop} {n : Nat} {f : TXA}
theorem tCB_run (hg : CallN K r g) : ∀ Γ S H σ ρ fp QD Ex Q, Γ.io = io → Rel K Γ S H σ ρ fp → fCall g f ρ QD Ex → KN K Γ σ S QD Q → KX K W Γ σ S Ex → tCB r (liftA K W io n f) σ H Q := fun Γ S H σ ρ fp QD Ex Q hio R h k kx => by
  refine ⟨Γ, S, ρ, fp, _, Ex, hio, R, h, fun S1 H1 vs rs ρ1 fp1 R1 ss1 ok1 hl h1 => ?_, kx⟩
  obtain ⟨ds, hv, q⟩ := withDs_get R1 ok1 h1
  exact hg Γ S1 H1 σ ρ1 fp1 vs ds Q _ R1 hv q fun S2 H2 v e fpn R2 ss2 nw q2 => k S2 H2 v e ρ1 fp1 fpn R2 (ss1.trans ss2) nw q2
theorem xn_callB (hc : CallR X (.builtin id) r) (hg : CallN K r g) (hgl : Gl X x) (hm : X.mg x = none) (hv : bootBuiltins x = some (.builtin id)) (ha : XA K W io X (e :: es) n f) (hn : x ≠ "__name__" := by decide) (hdb : (x == ("__debug__" : Str)) = false := by decide)
    (he : starEach (e :: es) X.env = (false, eval e X.env) :: starEach es X.env := by rfl) (hpl : (backTo pos (starEach es X.env)).any (·.1) = false := by rfl) : XN K W io X (.Call (.Name x p) (e :: es) [] pos) (fCall g f) :=
  XN.mk (pe_callB hc hgl hm hv ha hn hdb he hpl) (tCB_run hg)
theorem xn_callTy (hc : CallR X (.type T) r) (hg : CallN K r g) (hgl : Gl X x) (hm : X.mg x = none) (hv : bootBuiltins x = some (.type T)) (ha : XA K W io X (e :: es) n f) (hn : x ≠ "__name__" := by decide) (hdb : (x == ("__debug__" : Str)) = false := by decide)
    (he : starEach (e :: es) X.env = (false, eval e X.env) :: starEach es X.env := by rfl) (hpl : (backTo pos (starEach es X.env)).any (·.1) = false := by rfl) : XN K W io X (.Call (.Name x p) (e :: es) [] pos) (fCall g f) :=
  XN.mk (pe_callTy hc hgl hm hv ha hn hdb he hpl) (tCB_run hg)
theorem CallN.or {r r' : List V → Hp → VK → Prop} {g : List PyData → (E → Prop) → Prop} (h : CallN K r g) : CallN K (fun xs H Q => r xs H Q ∨ r' xs H Q) g :=
  fun Γ S H σ ρ fp vs ds Q QD R hv hg k => .inl (h Γ S H σ ρ fp vs ds Q QD R hv hg k)

def gLen : List PyData → (E → Prop) → Prop := fun ds Q => match ds with
  | [.list xs] => Q (.dat (.int (xs.length : Nat)))
  | [.tuple xs] => Q (.dat (.int (xs.length : Nat)))
  | [.str z] => z.length ≤ sizeLine ∧ Q (.dat (.int (z.length : Nat)))
  | _ => False
theorem d_len : CallN K (fun xs H Q => (∃ p ys, xs = [V.ref p] ∧ (SqL K H p ys ∨ SqT K H p ys) ∧ Q (.int ys.length) H) ∨ ∃ z, xs = [V.str z] ∧ z.length ≤ sizeLine ∧ Q (.int z.length) H) gLen := by
  intro Γ S H σ ρ fp vs ds Q QD R hv h k
  unfold gLen at h
  split at h
  · cases hv with
    | cons h1 t =>
      cases t
      obtain ⟨a, xs, rfl, q1, q2⟩ := vw_lst R.sub h1
      exact .inl ⟨a, xs, rfl, .inl q1, by rw [dps_len q2]; exact k S H _ _ [] R (Same.refl _) (new_dat (.int _)) h⟩
  · cases hv with
    | cons h1 t =>
      cases t
      obtain ⟨a, xs, rfl, q1, q2⟩ := vw_tup h1
      exact .inl ⟨a, xs, rfl, .inr (SqT.of (R.sub _ _ q1)), by rw [dps_len q2]; exact k S H _ _ [] R (Same.refl _) (new_dat (.int _)) h⟩
  · cases hv with
    | cons h1 t =>
      cases t
      rw [vw_str h1]
      exact .inr ⟨_, rfl, h.1, k S H _ _ [] R (Same.refl _) (new_dat (.int _)) h.2⟩
  · exact h.elim
theorem xn_len (hK : X.K = K) (hgl : Gl X "len") (hm : X.mg "len" = none) (ha : XA K W io X [e] n f) (he : starEach [e] X.env = (false, eval e X.env) :: starEach [] X.env := by rfl) (hpl : (backTo pos (starEach [] X.env)).any (·.1) = false := by rfl) : XN K W io X (.Call (.Name "len" p) [e] [] pos) (fCall gLen f) := by
  subst hK
  exact xn_callB (call_len_seq.or call_len_str) d_len hgl hm PySem.boot_len ha (he := he) (hpl := hpl)
/-- lists of truth values -/
theorem dps_bools {S : Hp} : ∀ {bs : List Bool} {vs : List V}, DqAll K S vs (bs.map PyData.bool) → vs = bs.map V.bl
  | [], _, h => by cases h; rfl
  | b :: bs, _, h => by
    cases h with
    | cons h1 h2 => cases h1; rw [dps_bools h2]; rfl
theorem dps_ints {S : Hp} : ∀ {bs : List Int} {vs : List V}, DqAll K S vs (bs.map PyData.int) → vs = bs.map V.int
  | [], _, h => by cases h; rfl
  | b :: bs, _, h => by
    cases h with
    | cons h1 h2 => cases h1; rw [dps_ints h2]; rfl
theorem dps_strs {S : Hp} : ∀ {bs : List Str} {vs : List V}, DqAll K S vs (bs.map PyData.str) → vs = bs.map V.str
  | [], _, h => by cases h; rfl
  | b :: bs, _, h => by
    cases h with
    | cons h1 h2 => cases h1; rw [dps_strs h2]; rfl
def gAll : List PyData → (E → Prop) → Prop := fun ds Q => match ds with
  | [.list xs] => ∃ bs : List Bool, xs = bs.map PyData.bool ∧ Q (.dat (.bool (bs.all _root_.id)))
  | _ => False
def gAny : List PyData → (E → Prop) → Prop := fun ds Q => match ds with
  | [.list xs] => ∃ bs : List Bool, xs = bs.map PyData.bool ∧ Q (.dat (.bool (bs.any _root_.id)))
  | _ => False
def gSum : List PyData → (E → Prop) → Prop := fun ds Q => match ds with
  | [.list xs] => ∃ ns : List Int, xs = ns.map PyData.int ∧ Q (.dat (.int ns.sum))
  | [.tuple xs] => ∃ ns : List Int, xs = ns.map PyData.int ∧ Q (.dat (.int ns.sum))
  | _ => False
/-- sum of a tuple of whole numbers -/
theorem preSum_take (ns : List Int) : ∀ k, preSum (fun i => ns.getD i 0) k = (ns.take k).sum
  | 0 => by simp [preSum]
  | k + 1 => by
    show preSum (fun i => ns.getD i 0) k + ns.getD k 0 = _
    rw [preSum_take ns k, List.take_add_one, List.sum_append, List.getD_eq_getElem?_getD]
    cases ns[k]? <;> simp
theorem sum_tup {prog : Program} {w : World} {A : Around} {E : Value → Shared → Prop} {s : Shared} {l : Addr} {vs : List Value} {ns : List Int} {Q : Value → Shared → Prop} (hh : A.handled = none) (hl : s.heap.IsTuple l vs.toArray) (hi : IntsAre vs ns)
    (h : ∀ h' tk t', (∀ b o, s.heap.get? b = some o → h'.get? b = some o) → Q (.int ns.sum t') { s with heap := h', toks := tk }) : wpAny (model prog w) A (call (.builtin "sum") [.ref l]) Q E s := by
  have hlt : l < s.heap.objs.size := by obtain ⟨_, e, _⟩ := hl; exact Heap.lt_size e
  have hn : vs.length = ns.length := by
    clear h hl
    induction hi with
    | nil => rfl
    | cons n t _ ih => rw [List.length_cons, List.length_cons, ih]
  refine call_sum_walkG (wpAny_pyIter_tuple hl ⟨_, _, _, _, _, _, fun i => ns.getD i 0, rfl, Walks.tuple (A := A.in1) hh s.heap.objs.size l (Nat.ne_of_lt hlt) vs.toArray, ⟨⟨_, Heap.get?_push_size _ rfl, rfl, rfl⟩, hl.push _⟩, fun b hb => ?_, fun i v hv => ?_, fun h' tk t' hk => ?_⟩)
  · show b < (s.heap.push _).objs.size
    rw [Heap.size_push]
    simp at hb
    rcases hb with rfl | rfl
    · exact Nat.lt_succ_self _
    · exact Nat.lt_succ_of_lt hlt
  · have hv' : vs[i]? = some v := by simpa using hv
    have hil : i < ns.length := by
      have := (List.getElem?_eq_some_iff.mp hv').1
      omega
    obtain ⟨t, ht⟩ := hi.get i _ (List.getElem?_eq_getElem hil)
    rw [hv'] at ht
    have e2 : ns.getD i 0 = ns[i] := by rw [List.getD_eq_getElem?_getD, List.getElem?_eq_getElem hil]; rfl
    exact ⟨t, by rw [Option.some.inj ht]; show _ = Value.int (ns.getD i 0) t; rw [e2]⟩
  · have z := h h' tk t' fun b o e => hk b o (fun hm => by
      have : b = s.heap.objs.size := by simpa using hm
      subst this
      exact absurd (Heap.lt_size e) (Nat.lt_irrefl _)) (Heap.get?_push_of_some _ e)
    rw [preSum_take]
    have e1 : ns.take vs.toArray.size = ns := List.take_of_length_le (by rw [List.size_toArray]; omega)
    rw [e1]
    exact z
theorem cr_sumT (hc : X.calm = true) : CallR X (.builtin "sum") (fun us H Q => ∃ (a : Addr) (ns : List Int), us = [V.ref a] ∧ SqT X.K H a (ns.map V.int) ∧ Q (.int ns.sum) H) := by
  intro pins s σ H vs us Q I r h
  obtain ⟨a, ns, rfl, hs, q⟩ := h
  obtain ⟨its, rv, hl, _⟩ := I.tuple hs
  rw [Vals.ref1 r]
  exact sum_tup (I.ok.hd hc) hl rv.ints fun h' tk t' hk => ⟨.int _, H, I.kept hk, ⟨_, rfl⟩, q⟩
theorem d_all : CallN K (rAll K) gAll := by
  intro Γ S H σ ρ fp vs ds Q QD R hv h k
  unfold gAll at h
  split at h
  · obtain ⟨bs, rfl, q⟩ := h
    cases hv with
    | cons h1 t =>
      cases t
      obtain ⟨a, xs, rfl, q1, q2⟩ := vw_lst R.sub h1
      have e := dps_bools q2
      subst e
      exact ⟨a, bs, rfl, q1, k S H _ _ [] R (Same.refl _) (new_dat (.bl _)) q⟩
  · exact h.elim
theorem d_any : CallN K (rAny K) gAny := by
  intro Γ S H σ ρ fp vs ds Q QD R hv h k
  unfold gAny at h
  split at h
  · obtain ⟨bs, rfl, q⟩ := h
    cases hv with
    | cons h1 t =>
      cases t
      obtain ⟨a, xs, rfl, q1, q2⟩ := vw_lst R.sub h1
      have e := dps_bools q2
      subst e
      exact ⟨a, bs, rfl, q1, k S H _ _ [] R (Same.refl _) (new_dat (.bl _)) q⟩
  · exact h.elim
theorem d_sum : CallN K (fun us H Q => rSum K us H Q ∨ ∃ (a : Addr) (ns : List Int), us = [V.ref a] ∧ SqT K H a (ns.map V.int) ∧ Q (.int ns.sum) H) gSum := by
  intro Γ S H σ ρ fp vs ds Q QD R hv h k
  unfold gSum at h
  split at h
  · obtain ⟨bs, rfl, q⟩ := h
    cases hv with
    | cons h1 t =>
      cases t
      obtain ⟨a, xs, rfl, q1, q2⟩ := vw_lst R.sub h1
      have e := dps_ints q2
      subst e
      exact .inl ⟨a, bs, rfl, q1, k S H _ _ [] R (Same.refl _) (new_dat (.int _)) q⟩
  · obtain ⟨bs, rfl, q⟩ := h
    cases hv with
    | cons h1 t =>
      cases t
      obtain ⟨a, xs, rfl, q1, q2⟩ := vw_tup h1
      have e := dps_ints q2
      subst e
      exact .inr ⟨a, bs, rfl, SqT.of (R.sub _ _ q1), k S H _ _ [] R (Same.refl _) (new_dat (.int _)) q⟩
  · exact h.elim
theorem xn_all (hK : X.K = K) (hc : X.calm = true) (hgl : Gl X "all") (hm : X.mg "all" = none) (ha : XA K W io X [e] n f) (he : starEach [e] X.env = (false, eval e X.env) :: starEach [] X.env := by rfl) (hpl : (backTo pos (starEach [] X.env)).any (·.1) = false := by rfl) : XN K W io X (.Call (.Name "all" p) [e] [] pos) (fCall gAll f) := by
  subst hK
  exact xn_callB (cr_all hc) d_all hgl hm (by decide +kernel) ha (he := he) (hpl := hpl)
theorem xn_any (hK : X.K = K) (hc : X.calm = true) (hgl : Gl X "any") (hm : X.mg "any" = none) (ha : XA K W io X [e] n f) (he : starEach [e] X.env = (false, eval e X.env) :: starEach [] X.env := by rfl) (hpl : (backTo pos (starEach [] X.env)).any (·.1) = false := by rfl) : XN K W io X (.Call (.Name "any" p) [e] [] pos) (fCall gAny f) := by
  subst hK
  exact xn_callB (cr_any hc) d_any hgl hm (by decide +kernel) ha (he := he) (hpl := hpl)
theorem xn_sum (hK : X.K = K) (hc : X.calm = true) (hgl : Gl X "sum") (hm : X.mg "sum" = none) (ha : XA K W io X [e] n f) (he : starEach [e] X.env = (false, eval e X.env) :: starEach [] X.env := by rfl) (hpl : (backTo pos (starEach [] X.env)).any (·.1) = false := by rfl) : XN K W io X (.Call (.Name "sum" p) [e] [] pos) (fCall gSum f) := by
  subst hK
  exact xn_callB ((cr_sum hc).or (cr_sumT hc)) d_sum hgl hm (by decide +kernel) ha (he := he) (hpl := hpl)
def gMin2 : List PyData → (E → Prop) → Prop := fun ds Q => match ds with
  | [.int i, .int j] => Q (.dat (.int (if j < i then j else i)))
  | _ => False
def gMax2 : List PyData → (E → Prop) → Prop := fun ds Q => match ds with
  | [.int i, .int j] => Q (.dat (.int (if j > i then j else i)))
  | _ => False
theorem d_min2 : CallN K (fun xs H Q => ∃ i j, xs = [V.int i, V.int j] ∧ Q (.int (if j < i then j else i)) H) gMin2 := by
  intro Γ S H σ ρ fp vs ds Q QD R hv h k
  unfold gMin2 at h
  split at h
  · cases hv with
    | cons h1 t =>
      cases t with
      | cons h2 t =>
        cases t
        exact ⟨_, _, by rw [vw_int h1, vw_int h2], k S H _ _ [] R (Same.refl _) (new_dat (.int _)) h⟩
  · exact h.elim
theorem d_max2 : CallN K (fun xs H Q => ∃ i j, xs = [V.int i, V.int j] ∧ Q (.int (if j > i then j else i)) H) gMax2 := by
  intro Γ S H σ ρ fp vs ds Q QD R hv h k
  unfold gMax2 at h
  split at h
  · cases hv with
    | cons h1 t =>
      cases t with
      | cons h2 t =>
        cases t
        exact ⟨_, _, by rw [vw_int h1, vw_int h2], k S H _ _ [] R (Same.refl _) (new_dat (.int _)) h⟩
  · exact h.elim
theorem xn_min2 {e2 : Expr} (hc : X.calm = true) (hgl : Gl X "min") (hm : X.mg "min" = none) (ha : XA K W io X [e, e2] n f) (he : starEach [e, e2] X.env = (false, eval e X.env) :: starEach [e2] X.env := by rfl) (hpl : (backTo pos (starEach [e2] X.env)).any (·.1) = false := by rfl) : XN K W io X (.Call (.Name "min" p) [e, e2] [] pos) (fCall gMin2 f) :=
  xn_callB (call_min2 hc) d_min2 hgl hm (by decide +kernel) ha (he := he) (hpl := hpl)
theorem xn_max2 {e2 : Expr} (hc : X.calm = true) (hgl : Gl X "max") (hm : X.mg "max" = none) (ha : XA K W io X [e, e2] n f) (he : starEach [e, e2] X.env = (false, eval e X.env) :: starEach [e2] X.env := by rfl) (hpl : (backTo pos (starEach [e2] X.env)).any (·.1) = false := by rfl) : XN K W io X (.Call (.Name "max" p) [e, e2] [] pos) (fCall gMax2 f) :=
  xn_callB (call_max2 hc) d_max2 hgl hm (by decide +kernel) ha (he := he) (hpl := hpl)
/-- max, min of a list of whole numbers: any number that is in it, and none is greater (less) -/
def gMinI : List PyData → (E → Prop) → Prop := fun ds Q => match ds with
  | [.list xs] => ∃ ns : List Int, xs = ns.map PyData.int ∧ 0 < ns.length ∧ ∀ m, m ∈ ns → (∀ y, y ∈ ns → m ≤ y) → Q (.dat (.int m))
  | _ => False
def gMaxI : List PyData → (E → Prop) → Prop := fun ds Q => match ds with
  | [.list xs] => ∃ ns : List Int, xs = ns.map PyData.int ∧ 0 < ns.length ∧ ∀ m, m ∈ ns → (∀ y, y ∈ ns → y ≤ m) → Q (.dat (.int m))
  | _ => False
theorem d_minI : CallN K (rMin K) gMinI := by
  intro Γ S H σ ρ fp vs ds Q QD R hv h k
  unfold gMinI at h
  split at h
  · obtain ⟨bs, rfl, hl, q⟩ := h
    cases hv with
    | cons h1 t =>
      cases t
      obtain ⟨a, xs, rfl, q1, q2⟩ := vw_lst R.sub h1
      have e := dps_ints q2
      subst e
      exact ⟨a, bs, rfl, q1, hl, fun m hm hle => k S H _ _ [] R (Same.refl _) (new_dat (.int _)) (q m hm hle)⟩
  · exact h.elim
theorem d_maxI : CallN K (rMax K) gMaxI := by
  intro Γ S H σ ρ fp vs ds Q QD R hv h k
  unfold gMaxI at h
  split at h
  · obtain ⟨bs, rfl, hl, q⟩ := h
    cases hv with
    | cons h1 t =>
      cases t
      obtain ⟨a, xs, rfl, q1, q2⟩ := vw_lst R.sub h1
      have e := dps_ints q2
      subst e
      exact ⟨a, bs, rfl, q1, hl, fun m hm hle => k S H _ _ [] R (Same.refl _) (new_dat (.int _)) (q m hm hle)⟩
  · exact h.elim
theorem xn_minI (hK : X.K = K) (hc : X.calm = true) (hgl : Gl X "min") (hm : X.mg "min" = none) (ha : XA K W io X [e] n f) (he : starEach [e] X.env = (false, eval e X.env) :: starEach [] X.env := by rfl) (hpl : (backTo pos (starEach [] X.env)).any (·.1) = false := by rfl) : XN K W io X (.Call (.Name "min" p) [e] [] pos) (fCall gMinI f) := by
  subst hK
  exact xn_callB (cr_min hc) d_minI hgl hm (by decide +kernel) ha (he := he) (hpl := hpl)
theorem xn_maxI (hK : X.K = K) (hc : X.calm = true) (hgl : Gl X "max") (hm : X.mg "max" = none) (ha : XA K W io X [e] n f) (he : starEach [e] X.env = (false, eval e X.env) :: starEach [] X.env := by rfl) (hpl : (backTo pos (starEach [] X.env)).any (·.1) = false := by rfl) : XN K W io X (.Call (.Name "max" p) [e] [] pos) (fCall gMaxI f) := by
  subst hK
  exact xn_callB (cr_max hc) d_maxI hgl hm (by decide +kernel) ha (he := he) (hpl := hpl)
def gList : List PyData → (E → Prop) → Prop := fun ds Q => match ds with
  | [.list xs] => Q (.lst xs)
  | [.tuple xs] => Q (.lst xs)
  | _ => False
theorem d_list : CallN K (fun xs H Q => ∃ p ys, xs = [V.ref p] ∧ (SqL K H p ys ∨ SqT K H p ys) ∧ ∀ l, H l = none → Q (.ref l) (upd H l (.lst ys))) gList := by
  intro Γ S H σ ρ fp vs ds Q QD R hv h k
  unfold gList at h
  split at h
  · cases hv with
    | cons h1 t =>
      cases t
      obtain ⟨a, xs, rfl, q1, q2⟩ := vw_lst R.sub h1
      refine ⟨a, xs, rfl, .inl q1, fun l hl => ?_⟩
      obtain ⟨R2, nw⟩ := new_lst R hl q2
      exact k _ _ (.ref l) _ [l] R2 (Same.refl _) nw h
  · cases hv with
    | cons h1 t =>
      cases t
      obtain ⟨a, xs, rfl, q1, q2⟩ := vw_tup h1
      refine ⟨a, xs, rfl, .inr (SqT.of (R.sub _ _ q1)), fun l hl => ?_⟩
      obtain ⟨R2, nw⟩ := new_lst R hl q2
      exact k _ _ (.ref l) _ [l] R2 (Same.refl _) nw h
  · exact h.elim
theorem xn_list (hK : X.K = K) (hgl : Gl X "list") (hm : X.mg "list" = none) (ha : XA K W io X [e] n f) (he : starEach [e] X.env = (false, eval e X.env) :: starEach [] X.env := by rfl) (hpl : (backTo pos (starEach [] X.env)).any (·.1) = false := by rfl) : XN K W io X (.Call (.Name "list" p) [e] [] pos) (fCall gList f) := by
  subst hK
  exact xn_callTy call_list_of d_list hgl hm (by decide +kernel) ha (he := he) (hpl := hpl)
def gTuple : List PyData → (E → Prop) → Prop := fun ds Q => match ds with
  | [.list xs] => Q (.dat (.tuple xs))
  | [.tuple xs] => Q (.dat (.tuple xs))
  | _ => False
theorem d_tuple : CallN K (fun xs H Q => ∃ p ys, xs = [V.ref p] ∧ ((SqL K H p ys ∧ ∀ l, H l = none → Q (.ref l) (upd H l (.tup ys))) ∨ (SqT K H p ys ∧ Q (.ref p) H))) gTuple := by
  intro Γ S H σ ρ fp vs ds Q QD R hv h k
  unfold gTuple at h
  split at h
  · cases hv with
    | cons h1 t =>
      cases t
      obtain ⟨a, xs, rfl, q1, q2⟩ := vw_lst R.sub h1
      refine ⟨a, xs, rfl, .inl ⟨q1, fun l hl => ?_⟩⟩
      have sp : Same S (upd S l (.tup xs)) := same_upd (R.sub.free hl)
      exact k _ _ (.ref l) (.dat (.tuple _)) [] (R.layS hl _) sp (new_dat (.tup upd_same (dps_up sp _ _ q2))) h
  · cases hv with
    | cons h1 t =>
      cases t
      obtain ⟨a, xs, rfl, q1, q2⟩ := vw_tup h1
      exact ⟨a, xs, rfl, .inr ⟨SqT.of (R.sub _ _ q1), k S H _ _ [] R (Same.refl _) (new_dat (.tup q1 q2)) h⟩⟩
  · exact h.elim
theorem xn_tuple (hK : X.K = K) (hgl : Gl X "tuple") (hm : X.mg "tuple" = none) (ha : XA K W io X [e] n f) (he : starEach [e] X.env = (false, eval e X.env) :: starEach [] X.env := by rfl) (hpl : (backTo pos (starEach [] X.env)).any (·.1) = false := by rfl) : XN K W io X (.Call (.Name "tuple" p) [e] [] pos) (fCall gTuple f) := by
  subst hK
  exact xn_callTy call_tuple_of d_tuple hgl hm (by decide +kernel) ha (he := he) (hpl := hpl)
/-! ### isinstance -/
def tyName : PyData → String
  | .none => "NoneType"
  | .bool _ => "bool"
  | .int _ => "int"
  | .str _ => "str"
  | .list _ => "list"
  | .tuple _ => "tuple"
  | .dict _ => "tuple"
def isInsN (T n : String) : Bool := n == T || (T == "int" && n == "bool")
def isIns (T : String) (d : PyData) : Bool := isInsN T (tyName d)
theorem tyx_of {S H : Hp} (sub : Same S H) {v : V} {d : PyData} (h : Vw K S H v d) : TyX K H v (.type (tyName d)) := by
  cases h.dp sub with
  | non => exact .base .non
  | bl b => exact .base (.bl b)
  | int i => exact .base (.int i)
  | str x => exact .base (.str x)
  | lst h1 _ =>
    rcases h1 with (h1 | ⟨o, h1⟩) | ⟨o, its, n, h1, h2, _⟩
    · exact .base (.lst h1)
    · exact .base (.frz h1)
    · exact .kList h1 h2
  | tup h1 _ => exact .base (.tup h1)
  | wk h1 _ _ =>
    rcases h1 with (h1 | ⟨o, h1⟩) | ⟨o, its, n, h1, h2, _⟩
    · exact .base (.tup h1)
    · exact .fTuple h1
    · exact .kTuple h1 h2
def fIsI (T : String) (f : TX) : TX := fun ρ Q Ex => f ρ (fun r ρ1 => withD ρ1 r fun d => Q (.dat (.bool (isIns T d))) ρ1) Ex
theorem kit_all {T : String} (h : T = "int" ∨ T = "str" ∨ T = "bool" ∨ T = "list" ∨ T = "tuple") {S H : Hp} {v : V} {d : PyData} (hd : Dq K H v d) : kitB (tyName d) T = some (isIns T d) := by
  rcases h with rfl | rfl | rfl | rfl | rfl <;> (cases hd <;> (simp only [isIns, tyName, wkT]; decide +kernel))
theorem xr_isi {T : String} {f : TX} {x2 : Str} {p2 : Pos} (hK : X.K = K) (hT : T = "int" ∨ T = "str" ∨ T = "bool" ∨ T = "list" ∨ T = "tuple") (hgl : Gl X "isinstance") (hm : X.mg "isinstance" = none) (h : XR K W io X e f)
    (hg2 : Gl X x2) (hm2 : X.mg x2 = none) (hv2 : bootBuiltins x2 = some (.type T)) (hn2 : x2 ≠ "__name__" := by decide) (hd2 : (x2 == ("__debug__" : Str)) = false := by decide)
    (he : starEach [e, .Name x2 p2] X.env = (false, eval e X.env) :: starEach [.Name x2 p2] X.env := by rfl) (he2 : starEach [.Name x2 p2] X.env = (false, eval (.Name x2 p2) X.env) :: starEach [] X.env := by rfl) (hpl : (backTo pos (starEach [.Name x2 p2] X.env)).any (·.1) = false := by rfl) :
    XR K W io X (.Call (.Name "isinstance" p) [e, .Name x2 p2] [] pos) (fIsI T f) := by
  subst hK
  have h2 : PE X (.Name x2 p2) (tC (.ty T)) := pe_bltn hg2 hm2 hv2 rfl hn2 hd2
  refine XR.mk (pe_callB call_isi hgl hm (by decide +kernel) (pa_cons h (pa_cons h2 pa_nil he2) he) (he := he) (hpl := hpl)) fun Γ S H σ ρ fp QD Ex Q hio R hf k kx => ?_
  refine ⟨Γ, S, ρ, fp, _, Ex, hio, R, hf, fun S1 H1 v r ρ1 fp1 R1 ss1 ok1 h1 => ?_, kx⟩
  obtain ⟨d, ld, q⟩ := withD_get h1
  have hv := look_vw R1 ok1 ld
  exact ⟨v, .ty T, _, _, isIns T d, rfl, .ty T, tyx_of R1.sub hv, kit_ty (kit_all (S := S1) hT (hv.dp R1.sub)), k S1 H1 _ (.dat (.bool _)) ρ1 fp1 R1 ss1 (.bl _) q⟩

/-! ### methods -/
/-- s.join(data) -/
def fJoin (fo fe : TX) : TX := fun ρ Q Ex => fo ρ (fun ro ρ1 => isD ro fun d => match d with
  | .str a => fe ρ1 (fun re ρ2 => withD ρ2 re fun d2 => match d2 with
    | .list ds => ∃ ys : List Str, ds = ys.map PyData.str ∧ (ys.map (·.length)).sum + ys.length * a.length ≤ 16777216 ∧ Q (.dat (.str (Txt.join a ys))) ρ2
    | .tuple ds => ∃ ys : List Str, ds = ys.map PyData.str ∧ (ys.map (·.length)).sum + ys.length * a.length ≤ 16777216 ∧ Q (.dat (.str (Txt.join a ys))) ρ2
    | _ => False) Ex
  | _ => False) Ex
theorem xr_join {o : Expr} {fo fe : TX} {apos : Pos} (hK : X.K = K) (ho : XR K W io X o fo) (he : XR K W io X e fe) (hs : starEach [e] X.env = [(false, eval e X.env)] := by rfl) (hbase : attributeBase o "join" X.env (eval o X.env) = eval o X.env := by rfl) (hline : (apos.endLine == pos.line) = true := by rfl) :
    XR K W io X (.Call (.Attribute o "join" apos) [e] [] pos) (fJoin fo fe) := by
  subst hK
  refine XR.mk (pe_join ho he hs hbase hline) fun Γ S H σ ρ fp QD Ex Q hio R hf k kx => ?_
  refine ⟨Γ, S, ρ, fp, _, Ex, hio, R, hf, fun S1 H1 v r ρ1 fp1 R1 ss1 ok1 h1 => ?_, kx⟩
  obtain ⟨d, rfl, h1⟩ := isD_get h1
  cases d with
  | str a =>
    cases ok1
    refine ⟨⟨a, rfl⟩, Γ, S1, ρ1, fp1, _, Ex, hio, R1, h1, fun S2 H2 w r2 ρ2 fp2 R2 ss2 ok2 h2 => ?_, kx.up ss1⟩
    obtain ⟨d2, l2, h2⟩ := withD_get h2
    have hv := look_vw R2 ok2 l2
    cases d2 with
    | list ds =>
      obtain ⟨ys, rfl, hz, q⟩ := h2
      obtain ⟨b, xs, rfl, q1, q2⟩ := vw_lst R2.sub hv
      have e := dps_strs q2
      subst e
      exact ⟨a, b, ys, rfl, rfl, .inl q1, hz, k S2 H2 _ (.dat (.str _)) ρ2 fp2 R2 (ss1.trans ss2) (.str _) q⟩
    | tuple ds =>
      obtain ⟨ys, rfl, hz, q⟩ := h2
      obtain ⟨b, xs, rfl, q1, q2⟩ := vw_tup hv
      have e := dps_strs q2
      subst e
      exact ⟨a, b, ys, rfl, rfl, .inr (SqT.of (R2.sub _ _ q1)), hz, k S2 H2 _ (.dat (.str _)) ρ2 fp2 R2 (ss1.trans ss2) (.str _) q⟩
    | _ => exact h2.elim
  | _ => exact h1.elim
/-! ### own lists are changed -/
def isBor (r : Res) (k : Nat → Prop) : Prop := match r with
  | .bor i => k i
  | .dat _ => False
def isLst (e : E) (k : List PyData → Prop) : Prop := match e with
  | .lst ds => k ds
  | _ => False
theorem isBor_get {r : Res} {k : Nat → Prop} (h : isBor r k) : ∃ i, r = .bor i ∧ k i := by
  cases r with
  | bor i => exact ⟨i, rfl, h⟩
  | dat _ => exact h.elim
theorem isLst_get {e : E} {k : List PyData → Prop} (h : isLst e k) : ∃ ds, e = .lst ds ∧ k ds := by
  cases e with
  | lst ds => exact ⟨ds, rfl, h⟩
  | _ => exact h.elim
theorem Rel.lstAt {Γ : Gam} {S H : Hp} {σ : St} {ρ : List E} {fp : Nat → List Addr} (R : Rel K Γ S H σ ρ fp) {i : Nat} {ds : List PyData} {v : V} (hi : ρ.getD i .no = .lst ds) (hv : σ[i]? = some (some v)) :
    ∃ a xs, v = .ref a ∧ fp i = [a] ∧ H a = some (.lst xs) ∧ DqAll K S xs ds := by
  obtain ⟨a, xs, h0, h1, h2, h3⟩ := R.slot (getD_some hi (fun z => by cases z)) hv
  cases h0
  exact ⟨a, xs, rfl, h1, h2, h3⟩
theorem Rel.setL {Γ : Gam} {S H : Hp} {σ : St} {ρ : List E} {fp : Nat → List Addr} (R : Rel K Γ S H σ ρ fp) {i : Nat} {a : Addr} {ds ds' : List PyData} {xs xs' : List V} (hi : ρ.getD i .no = .lst ds) (hv : σ[i]? = some (some (.ref a)))
    (hf : fp i = [a]) (hH : H a = some (.lst xs)) (hd : DqAll K S xs' ds') : ∃ fp', Rel K Γ S (upd H a (.lst xs')) σ (ρ.set i (.lst ds')) fp' := by
  refine ⟨_, R.mut (fpn := [a]) (getD_some hi (fun z => by cases z)) rfl (fun b hb _ => upd_ne fun z => hb (by rw [hf, z]; simp)) ?_ (fun b hb => ?_) (fun b hb => ⟨.inl (by rw [hf]; exact hb), ?_⟩) (by simp)⟩
  · refine ⟨a, xs', ?_, rfl, upd_same, hd⟩
    rw [List.getD_eq_getElem?_getD, hv]
    rfl
  · by_cases z : b = a
    · subst z; rw [upd_same]; exact Option.some_ne_none _
    · rw [upd_ne z]; exact hb
  · have z : b = a := by simpa using hb
    subst z; rw [upd_same]; exact Option.some_ne_none _
/-- xs.append(e) -/
def fApp (fo fe : TX) : TX := fun ρ Q Ex => fo ρ (fun ro ρ1 => isBor ro fun i => isLst (ρ1.getD i .no) fun _ => fe ρ1 (fun re ρ2 => isD re fun d => isLst (ρ2.getD i .no) fun ds => ds.length < sizeLine ∧ Q (.dat .none) (ρ2.set i (.lst (ds ++ [d])))) Ex) Ex
theorem few1 {X : Cx} {e : Expr} {cpos : Pos} (hs : starEach [e] X.env = (false, eval e X.env) :: starEach [] X.env) : True := trivial
theorem xr_append {o : Expr} {fo fe : TX} {apos : Pos} (hK : X.K = K) (ho : XR K W io X o fo) (he : XR K W io X e fe)
    (hbase : attributeBase o "append" X.env (eval o X.env) = eval o X.env := by rfl)
    (hfew : ((backTo pos (starEach (e :: []) X.env)).all (fun x => !x.1) && (backToKw pos (keywordEach [] X.env)).all (fun x => x.1.isSome)
      && decide ((e :: []).length + ([] : List Keyword).length + (if ([] : List Keyword).isEmpty then 0 else 1) < 30)) = true := by rfl)
    (hline : (apos.endLine == pos.line) = true := by rfl) (hs : starEach (e :: []) X.env = (false, eval e X.env) :: starEach [] X.env := by rfl) (hplain : (backTo pos (starEach [] X.env)).any (·.1) = false := by rfl) :
    XR K W io X (.Call (.Attribute o "append" apos) [e] [] pos) (fApp fo fe) := by
  subst hK
  refine XR.mk (pe_bm PySem.F.plainAttrs_list PySem.F.slot_list_append PySem.F.type_list_append mt_append ho (pa_cons he pa_nil hs) hbase hfew hline hs hplain) fun Γ S H σ ρ fp QD Ex Q hio R hf k kx => ?_
  refine ⟨Γ, S, ρ, fp, _, Ex, hio, R, hf, fun S1 H1 v r ρ1 fp1 R1 ss1 ok1 h1 => ?_, kx⟩
  obtain ⟨i, rfl, h1⟩ := isBor_get h1
  obtain ⟨ds0, e0, h1⟩ := isLst_get h1
  obtain ⟨a, xs, rfl, f1, g1, _⟩ := R1.lstAt e0 ok1
  refine ⟨.inl ⟨rfl, xs, SqL.of g1⟩, Γ, S1, ρ1, fp1, _, Ex, hio, R1, h1, fun S2 H2 w r2 ρ2 fp2 R2 ss2 ok2 h2 => ?_, kx.up ss1⟩
  obtain ⟨d, rfl, h2⟩ := isD_get h2
  obtain ⟨ds, e2, hz, q⟩ := isLst_get h2
  obtain ⟨a', xs2, ea, f2, g2, dp2⟩ := R2.lstAt e2 ok1
  cases ea
  obtain ⟨fp3, R3⟩ := R2.setL (ds' := ds ++ [d]) (xs' := xs2 ++ [w]) e2 ok1 f2 g2 (dps_app dp2 (.cons ok2 .nil))
  exact ⟨a, xs2, w, rfl, rfl, g2, by rw [dps_len dp2]; exact hz, k S2 _ _ (.dat .none) _ fp3 R3 (ss1.trans ss2) .non q⟩
/-- xs.extend(a new list) -/
def fExt (fo : TX) (fe : TXN) : TX := fun ρ Q Ex => fo ρ (fun ro ρ1 => isBor ro fun i => isLst (ρ1.getD i .no) fun _ => fe ρ1 (fun e ρ2 => isLst e fun zs => isLst (ρ2.getD i .no) fun ds => ds.length + zs.length ≤ sizeLine ∧ Q (.dat .none) (ρ2.set i (.lst (ds ++ zs)))) Ex) Ex
theorem xr_extend {o : Expr} {fo : TX} {fe : TXN} {apos : Pos} (hK : X.K = K) (ho : XR K W io X o fo) (he : XN K W io X e fe)
    (hbase : attributeBase o "extend" X.env (eval o X.env) = eval o X.env := by rfl)
    (hfew : ((backTo pos (starEach (e :: []) X.env)).all (fun x => !x.1) && (backToKw pos (keywordEach [] X.env)).all (fun x => x.1.isSome)
      && decide ((e :: []).length + ([] : List Keyword).length + (if ([] : List Keyword).isEmpty then 0 else 1) < 30)) = true := by rfl)
    (hline : (apos.endLine == pos.line) = true := by rfl) (hs : starEach (e :: []) X.env = (false, eval e X.env) :: starEach [] X.env := by rfl) (hplain : (backTo pos (starEach [] X.env)).any (·.1) = false := by rfl) :
    XR K W io X (.Call (.Attribute o "extend" apos) [e] [] pos) (fExt fo fe) := by
  subst hK
  refine XR.mk (pe_bm PySem.F.plainAttrs_list PySem.F.slot_list_extend PySem.F.type_list_extend mt_extend ho (pa_cons he pa_nil hs) hbase hfew hline hs hplain) fun Γ S H σ ρ fp QD Ex Q hio R hf k kx => ?_
  refine ⟨Γ, S, ρ, fp, _, Ex, hio, R, hf, fun S1 H1 v r ρ1 fp1 R1 ss1 ok1 h1 => ?_, kx⟩
  obtain ⟨i, rfl, h1⟩ := isBor_get h1
  obtain ⟨ds0, e0, h1⟩ := isLst_get h1
  obtain ⟨a, xs, rfl, f1, g1, _⟩ := R1.lstAt e0 ok1
  refine ⟨.inl ⟨rfl, xs, SqL.of g1⟩, Γ, S1, ρ1, fp1, _, Ex, hio, R1, h1, fun S2 H2 w en ρ2 fp2 fpn R2 ss2 nw h2 => ?_, kx.up ss1⟩
  obtain ⟨zs, rfl, h3⟩ := isLst_get h2
  obtain ⟨ds, e2, hz, q⟩ := isLst_get h3
  obtain ⟨a', xs2, ea, f2, g2, dp2⟩ := R2.lstAt e2 ok1
  cases ea
  obtain ⟨b, ys, e3, _, g3, dp3⟩ := nw.ent
  cases e3
  obtain ⟨fp3, R3⟩ := R2.setL (ds' := ds ++ zs) (xs' := xs2 ++ ys) e2 ok1 f2 g2 (dps_app dp2 dp3)
  exact ⟨a, b, xs2, ys, rfl, rfl, g2, g3, by rw [dps_len dp2, dps_len dp3]; exact hz, k S2 _ _ (.dat .none) _ fp3 R3 (ss1.trans ss2) .non q⟩
/-- xs.pop() -/
def fPop (fo : TX) : TX := fun ρ Q Ex => fo ρ (fun ro ρ1 => isBor ro fun i => isLst (ρ1.getD i .no) fun ds => ∃ d, ds[ds.length - 1]? = some d ∧ Q (.dat d) (ρ1.set i (.lst ds.dropLast))) Ex
theorem xr_pop {o : Expr} {fo : TX} {apos : Pos} (hK : X.K = K) (ho : XR K W io X o fo) (hbase : attributeBase o "pop" X.env (eval o X.env) = eval o X.env := by rfl) (hline : (apos.endLine == pos.line) = true := by rfl) :
    XR K W io X (.Call (.Attribute o "pop" apos) [] [] pos) (fPop fo) := by
  subst hK
  refine XR.mk (pe_bm0 PySem.F.plainAttrs_list PySem.F.slot_list_pop PySem.F.type_list_pop mt_pop ho hbase hline) fun Γ S H σ ρ fp QD Ex Q hio R hf k kx => ?_
  refine ⟨Γ, S, ρ, fp, _, Ex, hio, R, hf, fun S1 H1 v r ρ1 fp1 R1 ss1 ok1 h1 => ?_, kx⟩
  obtain ⟨i, rfl, h1⟩ := isBor_get h1
  obtain ⟨ds, e0, d, hd, q⟩ := isLst_get h1
  obtain ⟨a, xs, rfl, f1, g1, dp⟩ := R1.lstAt e0 ok1
  obtain ⟨w, hw, dw⟩ := dps_get dp hd
  obtain ⟨fp3, R3⟩ := R1.setL (ds' := ds.dropLast) (xs' := xs.dropLast) e0 ok1 f1 g1 (dps_dropLast dp)
  exact ⟨.inl ⟨rfl, xs, SqL.of g1⟩, a, xs, w, rfl, rfl, g1, by rw [dps_len dp]; exact hw, k S1 _ _ (.dat d) _ fp3 R3 ss1 dw q⟩
/-- xs.pop(i) -/
def fPopAt (fo fe : TX) : TX := fun ρ Q Ex => fo ρ (fun ro ρ1 => isBor ro fun i => isLst (ρ1.getD i .no) fun _ => fe ρ1 (fun re ρ2 => isD re fun z => isLst (ρ2.getD i .no) fun ds => match z with
  | .int j => ∃ k d, -(2 ^ 63) ≤ j ∧ j < 2 ^ 63 ∧ seqIndex? j ds.length = some k ∧ ds[k]? = some d ∧ Q (.dat d) (ρ2.set i (.lst (ds.eraseIdx k)))
  | _ => False) Ex) Ex
theorem xr_popAt {o : Expr} {fo fe : TX} {apos : Pos} (hK : X.K = K) (ho : XR K W io X o fo) (he : XR K W io X e fe)
    (hbase : attributeBase o "pop" X.env (eval o X.env) = eval o X.env := by rfl)
    (hfew : ((backTo pos (starEach (e :: []) X.env)).all (fun x => !x.1) && (backToKw pos (keywordEach [] X.env)).all (fun x => x.1.isSome)
      && decide ((e :: []).length + ([] : List Keyword).length + (if ([] : List Keyword).isEmpty then 0 else 1) < 30)) = true := by rfl)
    (hline : (apos.endLine == pos.line) = true := by rfl) (hs : starEach (e :: []) X.env = (false, eval e X.env) :: starEach [] X.env := by rfl) (hplain : (backTo pos (starEach [] X.env)).any (·.1) = false := by rfl) :
    XR K W io X (.Call (.Attribute o "pop" apos) [e] [] pos) (fPopAt fo fe) := by
  subst hK
  refine XR.mk (pe_bm PySem.F.plainAttrs_list PySem.F.slot_list_pop PySem.F.type_list_pop mt_popAt ho (pa_cons he pa_nil hs) hbase hfew hline hs hplain) fun Γ S H σ ρ fp QD Ex Q hio R hf k kx => ?_
  refine ⟨Γ, S, ρ, fp, _, Ex, hio, R, hf, fun S1 H1 v r ρ1 fp1 R1 ss1 ok1 h1 => ?_, kx⟩
  obtain ⟨i, rfl, h1⟩ := isBor_get h1
  obtain ⟨ds0, e0, h1⟩ := isLst_get h1
  obtain ⟨a, xs, rfl, f1, g1, _⟩ := R1.lstAt e0 ok1
  refine ⟨.inl ⟨rfl, xs, SqL.of g1⟩, Γ, S1, ρ1, fp1, _, Ex, hio, R1, h1, fun S2 H2 w r2 ρ2 fp2 R2 ss2 ok2 h2 => ?_, kx.up ss1⟩
  obtain ⟨z, rfl, h2⟩ := isD_get h2
  obtain ⟨ds, e2, h2⟩ := isLst_get h2
  obtain ⟨a', xs2, ea, f2, g2, dp2⟩ := R2.lstAt e2 ok1
  cases ea
  cases z with
  | int j =>
    obtain ⟨m, d, b1, b2, hk, hd, q⟩ := h2
    cases ok2
    obtain ⟨y, hy, dy⟩ := dps_get dp2 hd
    obtain ⟨fp3, R3⟩ := R2.setL (ds' := ds.eraseIdx m) (xs' := xs2.eraseIdx m) e2 ok1 f2 g2 (dps_erase m dp2)
    exact ⟨a, xs2, j, m, y, rfl, rfl, g2, b1, b2, by rw [dps_len dp2]; exact hk, hy, k S2 _ _ (.dat d) _ fp3 R3 (ss1.trans ss2) dy q⟩
  | _ => exact h2.elim
end
end L3

/-! Walks over lists, tuples, texts in any mix: plain, enumerate, zip. -/
namespace L3
open PySem PySem.Spec PyProof.Rows L2

inductive Src where
  | lst (a : Addr)
  | tup (a : Addr)
  | txt (x : Str)
def Src.v : Src → V
  | .lst a => .ref a
  | .tup a => .ref a
  | .txt x => .str x
def Src.At (K : PySem.W.Frag) (H : Hp) : Src → List V → Prop
  | .lst a, xs => SqL K H a xs
  | .tup a, xs => SqT K H a xs
  | .txt x, xs => xs = x.cps.toList.map fun c => V.str ⟨#[c]⟩
def Src.Ist : Src → Addr → Nat → Heap → Prop
  | .lst a, it, i, h => h.IsListIter it a i ∧ a ≠ it
  | .tup a, it, i, h => h.IsTupleIter it a i ∧ a ≠ it
  | .txt x, it, i, h => ∃ t, h.IsStrIter it (strIterType x) x t i
section
variable {X : Cx} {pins : List (Addr × Obj)} {σ : St} {H : Hp} {s : Shared} {src : Src} {xs ys : List V} {it : Addr} {i : Nat}
theorem Src.At.inj (I : Inv X pins σ H s) (h : src.At X.K H xs) (h' : src.At X.K H ys) : xs = ys := by
  cases src with
  | lst a => exact I.list_inj h h'
  | tup a => exact I.tuple_inj h h'
  | txt x => exact (show xs = _ from h).trans (show ys = _ from h').symm
theorem Src.Ist.at {h h' : Heap} (st : src.Ist it i h) (k : ∀ o, h.get? it = some o → h'.get? it = some o) : src.Ist it i h' := by
  cases src with
  | lst a => exact ⟨st.1.at k, st.2⟩
  | tup a => exact ⟨st.1.at k, st.2⟩
  | txt x => obtain ⟨t, o, ho, r⟩ := st; exact ⟨t, o, k o ho, r⟩
theorem Src.Ist.obj {h : Heap} (st : src.Ist it i h) : ∃ o, h.get? it = some o ∧ ∀ v, o.data ≠ .cell v := by
  cases src with
  | lst a => obtain ⟨⟨o, e, c, d⟩, _⟩ := st; exact ⟨o, e, fun v z => by rw [d] at z; cases z⟩
  | tup a => obtain ⟨⟨o, e, c, d⟩, _⟩ := st; exact ⟨o, e, fun v z => by rw [d] at z; cases z⟩
  | txt x => obtain ⟨t, o, e, c, d⟩ := st; exact ⟨o, e, fun v z => by rw [d] at z; cases z⟩
/-- what its iterator draws, from here on -/
theorem src_draws (I : Inv X pins σ H s) (hc : X.calm = true) (hq : src.At X.K H xs) (st : src.Ist it i s.heap) :
    ∃ (fp : List Addr) (P : Nat → Value → Prop) (St : Nat → Heap → Prop), Draws X.prog X.w X.A.in1 it (it :: fp) xs.length P St ∧ St i s.heap ∧ (∀ j h, St j h → src.Ist it j h) ∧ (∀ j v, P j v → ∃ x, xs[j]? = some x ∧ RelV x v) ∧
      (∀ b ∈ fp, (H b ≠ none ∨ ∃ o, X.K.lookup b = some o) ∧ b < s.heap.objs.size) := by
  have hh : X.A.in1.handled = none := I.ok.hd hc
  cases src with
  | lst a =>
    obtain ⟨its, rv, p, hz⟩ := I.list hq
    have e : its.toArray.size = xs.length := by rw [List.size_toArray]; exact rv.length.symm
    have D := Draws.list (prog := X.prog) (w := X.w) hh it a st.2 its.toArray
    rw [e] at D
    refine ⟨[a], _, _, D, ⟨st.1, p.isList⟩, fun j h q => ⟨q.1, st.2⟩, fun j v q => ?_, fun b hb => ?_⟩
    · have q' : its[j]? = some v := by simpa using q
      cases e2 : xs[j]? with
      | none => rw [rv.none_of e2] at q'; cases q'
      | some x =>
        obtain ⟨u, hu, ru⟩ := rv.get e2
        rw [q'] at hu; cases hu
        exact ⟨x, rfl, ru⟩
    · have eb : b = a := by simpa using hb
      subst eb
      refine ⟨?_, by obtain ⟨o, _, ho, _⟩ := p; exact Heap.lt_size ho⟩
      rcases hq with (q | ⟨o, q⟩) | ⟨o, _, _, q, _⟩
      · exact .inl (by rw [q]; exact Option.some_ne_none _)
      · exact .inl (by rw [q]; exact Option.some_ne_none _)
      · exact .inr ⟨o, q⟩
  | tup a =>
    obtain ⟨its, rv, p, hz⟩ := I.tuple hq
    have e : its.toArray.size = xs.length := by rw [List.size_toArray]; exact rv.length.symm
    have D := Draws.tuple (prog := X.prog) (w := X.w) hh it a st.2 its.toArray
    rw [e] at D
    refine ⟨[a], _, _, D, ⟨st.1, p⟩, fun j h q => ⟨q.1, st.2⟩, fun j v q => ?_, fun b hb => ?_⟩
    · have q' : its[j]? = some v := by simpa using q
      cases e2 : xs[j]? with
      | none => rw [rv.none_of e2] at q'; cases q'
      | some x =>
        obtain ⟨u, hu, ru⟩ := rv.get e2
        rw [q'] at hu; cases hu
        exact ⟨x, rfl, ru⟩
    · have eb : b = a := by simpa using hb
      subst eb
      refine ⟨?_, p.lt⟩
      rcases hq with (q | ⟨o, q⟩) | ⟨o, _, _, q, _⟩
      · exact .inl (by rw [q]; exact Option.some_ne_none _)
      · exact .inl (by rw [q]; exact Option.some_ne_none _)
      · exact .inr ⟨o, q⟩
  | txt x =>
    obtain ⟨t, st'⟩ := st
    have D := Draws.text (prog := X.prog) (w := X.w) hh it x t
    have hq' : xs = x.cps.toList.map fun c => V.str ⟨#[c]⟩ := hq
    have e : x.cps.size = xs.length := by rw [hq', List.length_map, Array.length_toList]
    rw [e] at D
    refine ⟨[], _, _, D, st', fun j h q => ⟨t, q⟩, fun j v q => ?_, fun b hb => absurd hb (by simp)⟩
    obtain ⟨c, u, hcj, rfl⟩ := q
    refine ⟨.str ⟨#[c]⟩, ?_, u, rfl⟩
    rw [hq', List.getElem?_map, Array.getElem?_toList, hcj]
    rfl
theorem src_begins (I : Inv X pins σ H s) (hq : src.At X.K H xs) {u : Value} (r : RelV src.v u) : ∃ (o : Obj) (P : Heap → Prop), Begins u o P ∧ P s.heap ∧ ∀ (h' : Heap) (it : Addr), h'.get? it = some o → (∀ b o, s.heap.get? b = some o → b ≠ it) → src.Ist it 0 h' := by
  cases src with
  | lst a =>
    cases r
    obtain ⟨its, rv, p, hz⟩ := I.list hq
    refine ⟨_, _, begins_list a its.toArray, p.isList, fun h' it e ne => ⟨⟨_, e, rfl, rfl⟩, ?_⟩⟩
    obtain ⟨o, _, ho, _⟩ := p
    exact ne a o ho
  | tup a =>
    cases r
    obtain ⟨its, rv, p, hz⟩ := I.tuple hq
    refine ⟨_, _, begins_tuple a its.toArray, p, fun h' it e ne => ⟨⟨_, e, rfl, rfl⟩, ?_⟩⟩
    obtain ⟨o, ho, _⟩ := p
    exact ne a o ho
  | txt x =>
    obtain ⟨t, rfl⟩ := r
    exact ⟨_, _, begins_text x t, trivial, fun h' it e ne => ⟨t, _, e, rfl, rfl⟩⟩
/-- an iterator's own cell is no cell of a source -/
theorem fp_apart (I : Inv X pins σ H s) {b c : Addr} (hb : H b ≠ none ∨ ∃ o, X.K.lookup b = some o) (hc : FpOk X pins H c) : c ≠ b := by
  rintro rfl
  rcases hb with q | ⟨o, q⟩
  · exact q hc.1
  · have e := I.ok.mod.kin c o q
    rcases hc.2.2.2.1 with z | z
    · exact I.ok.noex c o e z
    · have := Heap.lt_size (I.ok.bs c o e).1
      exact absurd (Nat.lt_of_lt_of_le this z) (Nat.lt_irrefl _)
end

/-! ### plain -/
def ItsS (K : PySem.W.Frag) : Src → It
  | .lst a => Itl K a
  | .tup a => Itt K a
  | .txt x => Its x
def iSeq (K : PySem.W.Frag) (tl : TE) : TI := fun σ H R => tl σ H fun x H1 => ∃ src xs, x = Src.v src ∧ src.At K H1 xs ∧ R (ItsS K src) H1
theorem pi_seq {X : Cx} {tg l : Expr} {tl : TE} (hl : PE X l tl) : PI X tg l (iSeq X.K tl) := by
  refine ⟨fun pins s σ H R I h => ?_⟩
  refine thn (hl.run pins s σ H _ I h) fun v s1 ⟨x, H1, I1, r1, q1⟩ => ?_
  obtain ⟨src, xs, e, hq, q⟩ := q1
  subst e
  cases src with
  | lst a =>
    cases r1
    obtain ⟨its, rv, p, hz⟩ := I1.list hq
    refine wpAny_pyIter_list p.isList ?_
    refine ⟨s1.heap.objs.size, [s1.heap.objs.size], _, _, H1, rfl, I1.kept (t' := s1.toks) fun b o e => Heap.get?_push_of_some _ e, turn_list a _, ⟨_, Heap.get?_push_size _ rfl, rfl, rfl⟩, fun b hb => ?_, q⟩
    have e : b = s1.heap.objs.size := by simpa using hb
    subst e
    exact I1.fpOk (Nat.le_refl _) (I1.hok.fresh (Nat.le_refl _))
  | tup a =>
    cases r1
    obtain ⟨its, rv, p, hz⟩ := I1.tuple hq
    refine wpAny_pyIter_tuple (show s1.heap.IsTuple a its.toArray from p) ?_
    refine ⟨s1.heap.objs.size, [s1.heap.objs.size], _, _, H1, rfl, I1.kept (t' := s1.toks) fun b o e => Heap.get?_push_of_some _ e, turn_tuple a _, ⟨_, Heap.get?_push_size _ rfl, rfl, rfl⟩, fun b hb => ?_, q⟩
    have e : b = s1.heap.objs.size := by simpa using hb
    subst e
    exact I1.fpOk (Nat.le_refl _) (I1.hok.fresh (Nat.le_refl _))
  | txt x =>
    obtain ⟨t, rfl⟩ := r1
    cases ha : x.cps.all (· < 128)
    · exact wpAny_pyIter_wide ha (pi_one (tk := s1.toks) I1 _ (turn_str _ x t "str_iterator" (.inr rfl)) ⟨_, Heap.get?_push_size _ rfl, rfl, rfl⟩ q)
    · exact wpAny_pyIter_ascii ha (pi_one (tk := s1.toks) I1 _ (turn_str _ x t "str_ascii_iterator" (.inl rfl)) ⟨_, Heap.get?_push_size _ rfl, rfl, rfl⟩ q)

/-! ### enumerate -/
def IteS (K : PySem.W.Frag) (src : Src) : It :=
  ⟨fun i H => ∃ (xs : List V) (x : V), src.At K H xs ∧ xs[i]? = some x, fun i H v H' => ∃ T x, v = .ref T ∧ H T = none ∧ H' = upd H T (.tup [.int (i : Nat), x]) ∧ ∀ xs, src.At K H xs → xs[i]? = some x, fun i H => ∃ xs : List V, src.At K H xs ∧ xs.length = i⟩
theorem lt_of_get {α : Type} {l : List α} {i : Nat} {x : α} (h : l[i]? = some x) : i < l.length := (List.getElem?_eq_some_iff.mp h).1
theorem turn_enumS {P : Program} {w : World} {K : PySem.W.Frag} {elts : List Expr} {kk : Nat} {tpos : Pos} (src : Src) (e it : Addr) :
    Turn P w K (.Tuple elts kk tpos) (IteS K src) [e, it] e (fun i h => (∃ old, IsEnum h e it ((i : Nat) : Int) old) ∧ src.Ist it i h ∧ e ≠ it) where
  mem := by simp
  obj := fun i h st b hb => by
    obtain ⟨⟨old, he⟩, hs, _⟩ := st
    have e' : b = e ∨ b = it := by simpa using hb
    rcases e' with z | z
    · rw [z]; exact ⟨_, he, fun v q => nomatch q⟩
    · rw [z]; exact hs.obj
  keep := fun i h h' st k => let ⟨⟨old, he⟩, hi, hne⟩ := st; ⟨⟨old, k e (by simp) _ he⟩, hi.at fun o q => k it (by simp) o q, hne⟩
  item := by
    intro X hP hw hK hc i pins s σ H E I hf st hg
    subst hP hw hK
    obtain ⟨⟨old, he⟩, hit, hne⟩ := st
    obtain ⟨xs, x, hq, hx⟩ := hg
    obtain ⟨fp, Pv, St, D, hst, hI, hP', hfp⟩ := src_draws I hc hq hit
    have hef : e ∉ it :: fp := fun z => by
      rcases List.mem_cons.mp z with z | z
      · exact hne z
      · exact fp_apart I (hfp e z).1 (hf e (by simp)) rfl
    have G := GoesN.enumFrom (elts := elts) (x1 := kk) (pos := tpos) 0 D e hne hef (by simp)
    refine thn (G.goes i s (fun v s2 => ∃ x H', Inv X pins σ H' s2 ∧ RelV x v ∧ (IteS X.K src).yld i H x H' ∧ ((∃ old, IsEnum s2.heap e it ((i + 1 : Nat) : Int) old) ∧ src.Ist it (i + 1) s2.heap ∧ e ≠ it) ∧ ∀ b ∈ [e, it], H' b = none) E (lt_of_get hx) ⟨⟨old, by simpa using he⟩, hst⟩ fun v h' tk hY hst' hk htk => ?_) fun r s1 q => q
    obtain ⟨T, t, u, rfl, hT, hp, hTt⟩ := hY
    obtain ⟨y, hy, ry⟩ := hP' i u hp
    rw [hx] at hy; cases hy
    have new : ObjOk X.prog X.w (upd H T (.tup [.int (i : Nat), x])) h' T (.tup [.int (i : Nat), x]) :=
      ⟨by show 2 ≤ sizeLine; decide, [.int (0 + (i : Int)) t, u], .cons ⟨t, by rw [Int.zero_add]⟩ (.cons ry .nil), hTt⟩
    have I1 : Inv X pins σ (upd H T (.tup [.int (i : Nat), x])) { s with heap := h', toks := tk } := I.turnedNew (ch := [e, it]) hk hf hT new
    refine ⟨.ref T, _, I1, rfl, ⟨T, x, rfl, I.hok.fresh hT, rfl, fun ys hy => by rw [Src.At.inj I hy hq]; exact hx⟩, ⟨?_, hI _ _ hst'.2, hne⟩, fun b hb => ?_⟩
    · obtain ⟨old2, h2⟩ := hst'.1
      exact ⟨old2, by simpa using h2⟩
    · have hb' : b < s.heap.objs.size := by
        have e' : b = e ∨ b = it := by simpa using hb
        rcases e' with z | z
        · rw [z]; exact Heap.lt_size he
        · rw [z]; obtain ⟨o, ho, _⟩ := hit.obj; exact Heap.lt_size ho
      rw [upd_ne (Nat.ne_of_lt (Nat.lt_of_lt_of_le hb' hT))]
      exact (hf b hb).1
  done := by
    intro X hP hw hK hc i pins s σ H E I hf st hg
    subst hP hw hK
    obtain ⟨⟨old, he⟩, hit, hne⟩ := st
    obtain ⟨xs, hq, rfl⟩ := hg
    obtain ⟨fp, Pv, St, D, hst, hI, hP', hfp⟩ := src_draws I hc hq hit
    have hef : e ∉ it :: fp := fun z => by
      rcases List.mem_cons.mp z with z | z
      · exact hne z
      · exact fp_apart I (hfp e z).1 (hf e (by simp)) rfl
    have G := GoesN.enumFrom (elts := elts) (x1 := kk) (pos := tpos) 0 D e hne hef (by simp)
    exact G.stops s (fun s1 => Inv X pins σ H s1) E ⟨⟨old, by simpa using he⟩, hst⟩ fun h' tk hk htk => I.turnedL (t' := tk) (ch := [e, it]) hk hf
  self := fun A i s Q E st h => let ⟨⟨_, he⟩, _⟩ := st; wpAny_pyIter_enum he h
set_option maxHeartbeats 1000000 in
theorem meets_enumerate_new1 {v : Value} {o : Obj} {H : Heap → Prop} (B : Begins v o H) :
    Meets (Builtin.«enumerate.__new__» ⟨[.type "enumerate", v], []⟩) (fun _ R s => H s.heap ∧
      R (.ok (.ret (.ref (s.heap.push o).objs.size))) { s with heap := (s.heap.push o).push { cls := .type "enumerate", data := .fields #[.none, .bool false, .ref s.heap.objs.size, rawInt 0, .none, .none] } }) :=
  .of_wp fun prog w A R s h => by
    obtain ⟨hp, g, d, tk, os⟩ := s; obtain ⟨h1, h⟩ := h
    have hsub := sub_enumerate
    have q1 : ∀ {A' : Around} {E : Value → Shared → Prop} {Q : Value → Shared → Prop}, Q (.ref hp.objs.size) ⟨hp.push o, g, d, tk, os⟩ → wpAny (model prog w) A' (pyIter v) Q E ⟨hp, g, d, tk, os⟩ :=
      fun q => B.iter prog w _ _ ⟨hp, g, d, tk, os⟩ _ h1 q
    wp_walk using q1
    refine wpAny_stack_any fun st => wpAny_pure ?_
    split
    · rename_i c _ _ _ _ _
      cases (c == Value.type "enumerate")
      · wp_walk using q1
        exact ⟨_, rfl, h⟩
      · wp_walk using q1
        exact ⟨_, rfl, h⟩
    · wp_walk using q1
      exact ⟨_, rfl, h⟩
section
variable {prog : Program} {w : World} {A : Around} {E : Value → Shared → Prop} {s : Shared}
theorem enum_begins1 {v : Value} {o : Obj} {H : Heap → Prop} {Q : Value → Shared → Prop} (B : Begins v o H) (h1 : H s.heap)
    (h : ∀ h', IsEnum h' (s.heap.objs.size + 1) s.heap.objs.size 0 .none → h'.get? s.heap.objs.size = some o → h'.objs.size = s.heap.objs.size + 2 →
      (∀ b o, s.heap.get? b = some o → h'.get? b = some o) → Q (.ref (s.heap.objs.size + 1)) { s with heap := h' }) :
    wpAny (model prog w) A (call (.type "enumerate") [v]) Q E s := by
  refine callType_new F.called_enumerate (by decide) (F.typeCall_enumerate_1 _) (F.newCall_enumerate_1 _) (fun obj => F.args_object_init_2 obj _) F.entry_enumerate_new
    (meets_enumerate_new1 B) ⟨h1, ?_⟩
  have hz : (s.heap.push o).objs.size = s.heap.objs.size + 1 := Heap.size_push ..
  show _ ∧ _
  rw [hz]
  have he : IsEnum ((s.heap.push o).push { cls := .type "enumerate", data := .fields #[.none, .bool false, .ref s.heap.objs.size, rawInt 0, .none, .none] }) (s.heap.objs.size + 1) s.heap.objs.size 0 .none := by
    have := Heap.get?_push_size (s.heap.push o) (o := { cls := .type "enumerate", data := .fields #[.none, .bool false, .ref s.heap.objs.size, rawInt 0, .none, .none] }) rfl
    rw [hz] at this; exact this
  refine ⟨⟨_, he, rfl⟩, h _ he (Heap.get?_push_of_some _ (Heap.get?_push_size _ B.free)) (by rw [Heap.size_push, hz]) fun b o x => Heap.get?_push_of_some _ (Heap.get?_push_of_some _ x)⟩
end
def iEnumS (K : PySem.W.Frag) (ta : TA) : TI := fun σ H R => ta σ H fun vs H1 => ∃ src xs, vs = [Src.v src] ∧ src.At K H1 xs ∧ R (IteS K src) H1
theorem pi_enumS {X : Cx} {e : Expr} {ta : TA} {p pos tpos : Pos} {elts : List Expr} {kk : Nat} (hg : Gl X "enumerate") (hm : X.mg "enumerate" = none) (ha : PA X [e] ta) (hs : starEach [e] X.env = [(false, eval e X.env)] := by rfl) :
    PI X (.Tuple elts kk tpos) (.Call (.Name "enumerate" p) [e] [] pos) (iEnumS X.K ta) := by
  refine ⟨fun pins s σ H R I h => ?_⟩
  refine Call_ (ld_blt I hg hm boot_enumerate (PyProof.Rows.callWith_type1 (thn (ha.run pos pins s σ H _ I h) fun us s1 ⟨vs, H1, I1, r1, q1⟩ => ?_) hs rfl))
  obtain ⟨src, xs, ex, hq, q⟩ := q1
  subst ex
  cases r1 with
  | cons r rr =>
    cases rr
    obtain ⟨o, P, B, hP, hI⟩ := src_begins I1 hq r
    refine enum_begins1 B hP fun h' he hit hsz hk => wpAny_pyIter_enum he ?_
    have I2 : Inv X pins σ H1 { s1 with heap := h' } := I1.kept (t' := s1.toks) hk
    refine ⟨s1.heap.objs.size + 1, [s1.heap.objs.size + 1, s1.heap.objs.size], _, _, H1, rfl, I2, turn_enumS src (s1.heap.objs.size + 1) s1.heap.objs.size, ⟨⟨.none, he⟩, hI _ _ hit fun b o hb => Nat.ne_of_lt (Heap.lt_size hb), Nat.succ_ne_self _⟩, fun b hb => ?_, q⟩
    have e' : b = s1.heap.objs.size + 1 ∨ b = s1.heap.objs.size := by simpa using hb
    have hle : s1.heap.objs.size ≤ b := by
      rcases e' with z | z
      · rw [z]; exact Nat.le_add_right _ _
      · rw [z]; exact Nat.le_refl _
    exact I1.fpOk hle (I1.hok.fresh hle)
/-! ### zip -/
def IteZ (K : PySem.W.Frag) (s1 s2 : Src) : It :=
  ⟨fun i H => ∃ (xs ys : List V) (x y : V), s1.At K H xs ∧ s2.At K H ys ∧ xs[i]? = some x ∧ ys[i]? = some y,
    fun i H v H' => ∃ T x y, v = .ref T ∧ H T = none ∧ H' = upd H T (.tup [x, y]) ∧ (∀ xs, s1.At K H xs → xs[i]? = some x) ∧ ∀ ys, s2.At K H ys → ys[i]? = some y,
    fun i H => ∃ xs ys : List V, s1.At K H xs ∧ s2.At K H ys ∧ min xs.length ys.length = i⟩
structure Z5 (z TI TO i1 i2 : Addr) : Prop where
  TIz : TI ≠ z
  TOz : TO ≠ z
  TITO : TI ≠ TO
  TIi1 : TI ≠ i1
  TIi2 : TI ≠ i2
  zi1 : z ≠ i1
  zi2 : z ≠ i2
  TOi1 : TO ≠ i1
  TOi2 : TO ≠ i2
  i12 : i1 ≠ i2
theorem zipSep {X : Cx} {pins : List (Addr × Obj)} {σ : St} {H : Hp} {s : Shared} (I : Inv X pins σ H s) {z TI TO i1 i2 : Addr} (D : Z5 z TI TO i1 i2) (hf : ∀ b ∈ [z, TI, TO, i1, i2], FpOk X pins H b) {fp1 fp2 : List Addr}
    (h1 : ∀ b ∈ fp1, (H b ≠ none ∨ ∃ o, X.K.lookup b = some o)) (h2 : ∀ b ∈ fp2, (H b ≠ none ∨ ∃ o, X.K.lookup b = some o)) : ZipSep2 z TI TO i1 i2 (i1 :: fp1) (i2 :: fp2) := by
  have n1 : ∀ c ∈ [z, TI, TO, i1, i2], c ∉ fp1 := fun c hc hm => fp_apart I (h1 c hm) (hf c hc) rfl
  have n2 : ∀ c ∈ [z, TI, TO, i1, i2], c ∉ fp2 := fun c hc hm => fp_apart I (h2 c hm) (hf c hc) rfl
  exact { TIz := D.TIz, TOz := D.TOz, TITO := D.TITO, TIi1 := D.TIi1, mem1 := List.mem_cons_self, zf1 := fun m => (List.mem_cons.mp m).elim D.zi1 (n1 z (by simp)), Tf1 := fun m => (List.mem_cons.mp m).elim D.TOi1 (n1 TO (by simp)),
          TIi2 := D.TIi2, mem2 := List.mem_cons_self, zf2 := fun m => (List.mem_cons.mp m).elim D.zi2 (n2 z (by simp)), Tf2 := fun m => (List.mem_cons.mp m).elim D.TOi2 (n2 TO (by simp)),
          sep1_2 := fun m => (List.mem_cons.mp m).elim D.i12 (n2 i1 (by simp)), sep2_1 := fun m => (List.mem_cons.mp m).elim (fun e => D.i12 e.symm) (n1 i2 (by simp)) }
theorem turn_zipS {P : Program} {w : World} {K : PySem.W.Frag} {elts : List Expr} {kk : Nat} {tpos : Pos} (s1 s2 : Src) {z TI TO i1 i2 : Addr} (D : Z5 z TI TO i1 i2) :
    Turn P w K (.Tuple elts kk tpos) (IteZ K s1 s2) [z, TI, TO, i1, i2] z (fun i h => IsZip h z TI TO .none ∧ IsTupOf2 h TI (.ref i1) (.ref i2) ∧ (∃ x y, IsTupOf2 h TO x y) ∧ s1.Ist i1 i h ∧ s2.Ist i2 i h) where
  mem := by simp
  obj := fun i h st c hc => by
    obtain ⟨hz, hTI, ⟨x, y, hTO⟩, h1, h2⟩ := st
    have e' : c = z ∨ c = TI ∨ c = TO ∨ c = i1 ∨ c = i2 := by simpa using hc
    rcases e' with q | q | q | q | q
    · rw [q]; exact ⟨_, hz, fun v q => nomatch q⟩
    · rw [q]; exact ⟨_, hTI, fun v q => nomatch q⟩
    · rw [q]; exact ⟨_, hTO, fun v q => nomatch q⟩
    · rw [q]; exact h1.obj
    · rw [q]; exact h2.obj
  keep := fun i h h' st k => by
    obtain ⟨hz, hTI, ⟨x, y, hTO⟩, h1, h2⟩ := st
    exact ⟨k z (by simp) _ hz, k TI (by simp) _ hTI, ⟨x, y, k TO (by simp) _ hTO⟩, h1.at fun o q => k i1 (by simp) o q, h2.at fun o q => k i2 (by simp) o q⟩
  item := by
    intro X hP hw hK hc i pins s σ H E I hf st hg
    subst hP hw hK
    obtain ⟨hz, hTI, hTO, h1, h2⟩ := st
    obtain ⟨xs, ys, x, y, hqx, hqy, hx, hy⟩ := hg
    obtain ⟨fp1, P1, St1, D1, st1, hI1, hP1, hfp1⟩ := src_draws I hc hqx h1
    obtain ⟨fp2, P2, St2, D2, st2, hI2, hP2, hfp2⟩ := src_draws I hc hqy h2
    have G := GoesN.zip2 (elts := elts) (x1 := kk) (pos := tpos) (zipSep I D hf (fun b hb => (hfp1 b hb).1) fun b hb => (hfp2 b hb).1) D1 D2
    have hf' : ∀ b ∈ [z, TO, i1, i2], FpOk X pins H b := fun b hb => hf b (by
      have e' : b = z ∨ b = TO ∨ b = i1 ∨ b = i2 := by simpa using hb
      rcases e' with q | q | q | q <;> rw [q] <;> simp)
    have hi : i < min xs.length ys.length := by
      have a1 := lt_of_get hx
      have a2 := lt_of_get hy
      omega
    refine thn (G.goes i s (fun v s2' => ∃ u H', Inv X pins σ H' s2' ∧ RelV u v ∧ (IteZ X.K s1 s2).yld i H u H' ∧ (IsZip s2'.heap z TI TO .none ∧ IsTupOf2 s2'.heap TI (.ref i1) (.ref i2) ∧ (∃ x y, IsTupOf2 s2'.heap TO x y) ∧ s1.Ist i1 (i + 1) s2'.heap ∧ s2.Ist i2 (i + 1) s2'.heap) ∧ ∀ b ∈ [z, TI, TO, i1, i2], H' b = none) E hi ⟨hz, hTI, hTO, st1, st2⟩ fun v h' tk hY hst' hk htk => ?_) fun r s1 q => q
    obtain ⟨T, u1, u2, rfl, hT, p1, p2, hTt⟩ := hY
    obtain ⟨x', hx', rx⟩ := hP1 i u1 p1
    obtain ⟨y', hy', ry⟩ := hP2 i u2 p2
    rw [hx] at hx'; cases hx'
    rw [hy] at hy'; cases hy'
    have new : ObjOk X.prog X.w (upd H T (.tup [x, y])) h' T (.tup [x, y]) := ⟨by show 2 ≤ sizeLine; decide, [u1, u2], .cons rx (.cons ry .nil), hTt⟩
    have I1 : Inv X pins σ (upd H T (.tup [x, y])) { s with heap := h', toks := tk } := I.turnedNew (ch := [z, TO, i1, i2]) hk hf' hT new
    obtain ⟨a1, a2, a3, a4, a5⟩ := hst'
    refine ⟨.ref T, _, I1, rfl, ⟨T, x, y, rfl, I.hok.fresh hT, rfl, fun l hl => by rw [Src.At.inj I hl hqx]; exact hx, fun l hl => by rw [Src.At.inj I hl hqy]; exact hy⟩, ⟨a1, a2, a3, hI1 _ _ a4, hI2 _ _ a5⟩, fun b hb => ?_⟩
    have hb' : b < s.heap.objs.size := by
      have e' : b = z ∨ b = TI ∨ b = TO ∨ b = i1 ∨ b = i2 := by simpa using hb
      obtain ⟨_, _, hTO'⟩ := hTO
      rcases e' with q | q | q | q | q
      · rw [q]; exact Heap.lt_size hz
      · rw [q]; exact Heap.lt_size hTI
      · rw [q]; exact Heap.lt_size hTO'
      · rw [q]; obtain ⟨o, ho, _⟩ := h1.obj; exact Heap.lt_size ho
      · rw [q]; obtain ⟨o, ho, _⟩ := h2.obj; exact Heap.lt_size ho
    rw [upd_ne (Nat.ne_of_lt (Nat.lt_of_lt_of_le hb' hT))]
    exact (hf b hb).1
  done := by
    intro X hP hw hK hc i pins s σ H E I hf st hg
    subst hP hw hK
    obtain ⟨hz, hTI, hTO, h1, h2⟩ := st
    obtain ⟨xs, ys, hqx, hqy, rfl⟩ := hg
    obtain ⟨fp1, P1, St1, D1, st1, hI1, hP1, hfp1⟩ := src_draws I hc hqx h1
    obtain ⟨fp2, P2, St2, D2, st2, hI2, hP2, hfp2⟩ := src_draws I hc hqy h2
    have G := GoesN.zip2 (elts := elts) (x1 := kk) (pos := tpos) (zipSep I D hf (fun b hb => (hfp1 b hb).1) fun b hb => (hfp2 b hb).1) D1 D2
    have hf' : ∀ b ∈ [z, TO, i1, i2], FpOk X pins H b := fun b hb => hf b (by
      have e' : b = z ∨ b = TO ∨ b = i1 ∨ b = i2 := by simpa using hb
      rcases e' with q | q | q | q <;> rw [q] <;> simp)
    exact G.stops s (fun s1 => Inv X pins σ H s1) E ⟨hz, hTI, hTO, st1, st2⟩ fun h' tk hk htk => I.turnedL (t' := tk) (ch := [z, TO, i1, i2]) hk hf'
  self := fun A i s Q E st h => wpAny_pyIter_zip st.1 h
def iZipS (K : PySem.W.Frag) (ta : TA) : TI := fun σ H R => ta σ H fun vs H1 => ∃ s1 s2 xs ys, vs = [Src.v s1, Src.v s2] ∧ s1.At K H1 xs ∧ s2.At K H1 ys ∧ R (IteZ K s1 s2) H1
theorem pi_zipS {X : Cx} {e e2 : Expr} {ta : TA} {p pos tpos : Pos} {elts : List Expr} {kk : Nat} (hg : Gl X "zip") (hm : X.mg "zip" = none) (ha : PA X [e, e2] ta)
    (hs : starEach [e, e2] X.env = (false, eval e X.env) :: starEach [e2] X.env := by rfl) (hpl : (backTo pos (starEach [e2] X.env)).any (·.1) = false := by rfl) :
    PI X (.Tuple elts kk tpos) (.Call (.Name "zip" p) [e, e2] [] pos) (iZipS X.K ta) := by
  refine ⟨fun pins s σ H R I h => ?_⟩
  refine Call_ (ld_blt I hg hm PyProof.Rows.boot_zip (PyProof.Rows.callWith_type1 (thn (ha.run pos pins s σ H _ I h) fun us s1 ⟨vs, H1, I1, r1, q1⟩ => ?_) hs hpl))
  obtain ⟨sa, sb, xs, ys, ex, hqx, hqy, q⟩ := q1
  subst ex
  cases r1 with
  | cons r rr =>
    cases rr with
    | cons r' rr =>
      cases rr
      obtain ⟨o1, P1, B1, hP1, hI1⟩ := src_begins I1 hqx r
      obtain ⟨o2, P2, B2, hP2, hI2⟩ := src_begins I1 hqy r'
      refine zip_begins2 B1 B2 hP1 hP2 fun h' hz hTI hTO h1 h2 hsz hk => wpAny_pyIter_zip hz ?_
      have I2 : Inv X pins σ H1 { s1 with heap := h' } := I1.kept (t' := s1.toks) hk
      have fresh5 : ∀ c, c ∈ [s1.heap.objs.size + 4, s1.heap.objs.size + 2, s1.heap.objs.size + 3, s1.heap.objs.size, s1.heap.objs.size + 1] → FpOk X pins H1 c := fun c hcm => by
        have e' : c = s1.heap.objs.size + 4 ∨ c = s1.heap.objs.size + 2 ∨ c = s1.heap.objs.size + 3 ∨ c = s1.heap.objs.size ∨ c = s1.heap.objs.size + 1 := by simpa using hcm
        have hle : s1.heap.objs.size ≤ c := by
          rcases e' with z | z | z | z | z
          · rw [z]; exact Nat.le_add_right _ _
          · rw [z]; exact Nat.le_add_right _ _
          · rw [z]; exact Nat.le_add_right _ _
          · rw [z]; exact Nat.le_refl _
          · rw [z]; exact Nat.le_add_right _ _
        exact I1.fpOk hle (I1.hok.fresh hle)
      have D5 : Z5 (s1.heap.objs.size + 4) (s1.heap.objs.size + 2) (s1.heap.objs.size + 3) s1.heap.objs.size (s1.heap.objs.size + 1) := by
        have off : ∀ (n a b : Nat), a ≠ b → n + a ≠ n + b := fun n a b h => by omega
        exact ⟨off _ 2 4 (by decide), off _ 3 4 (by decide), off _ 2 3 (by decide), off _ 2 0 (by decide), off _ 2 1 (by decide), off _ 4 0 (by decide), off _ 4 1 (by decide), off _ 3 0 (by decide), off _ 3 1 (by decide), off _ 0 1 (by decide)⟩
      have ne0 : ∀ (k : Nat) b o, s1.heap.get? b = some o → b ≠ s1.heap.objs.size + k := fun k b o hb => Nat.ne_of_lt (Nat.lt_of_lt_of_le (Heap.lt_size hb) (Nat.le_add_right _ _))
      exact ⟨s1.heap.objs.size + 4, [s1.heap.objs.size + 4, s1.heap.objs.size + 2, s1.heap.objs.size + 3, s1.heap.objs.size, s1.heap.objs.size + 1], _, _, H1, rfl, I2, turn_zipS sa sb D5, ⟨hz, hTI, ⟨_, _, hTO⟩, hI1 _ _ h1 (ne0 0), hI2 _ _ h2 (ne0 1)⟩, fresh5, q⟩
end L3

namespace L3
open PySem PySem.Spec PyProof.Rows L2

/-! ### what is walked -/
structure WalkD (K : PySem.W.Frag) (J : It) (ds : List PyData) (S0 : Hp) : Prop where
  go : ∀ i H, i < ds.length → Same S0 H → J.go i H
  stop : ∀ H, Same S0 H → J.stop ds.length H
  yld : ∀ i H x H' Γ S σ ρ fp, i < ds.length → Same S0 S → Rel K Γ S H σ ρ fp → J.yld i H x H' → ∃ d S', ds[i]? = some d ∧ Rel K Γ S' H' σ ρ fp ∧ Same S S' ∧ Dq K S' x d
abbrev TXI := List E → (List PyData → List E → Prop) → XC → Prop
def KI (K : PySem.W.Frag) (Γ : Gam) (σ : St) (S : Hp) (QD : List PyData → List E → Prop) (R : It → Hp → Prop) : Prop := ∀ S' H' J ds ρ' fp', Rel K Γ S' H' σ ρ' fp' → Same S S' → WalkD K J ds S' → QD ds ρ' → R J H'
def liftI (K : PySem.W.Frag) (W : WX) (io : List Nat) (f : TXI) : TI := fun σ H R => ∃ Γ S ρ fp QD Ex, Γ.io = io ∧ Rel K Γ S H σ ρ fp ∧ f ρ QD Ex ∧ KI K Γ σ S QD R ∧ KX K W Γ σ S Ex
abbrev XI (K : PySem.W.Frag) (W : WX) (io : List Nat) (X : Cx) (tg iter : Expr) (f : TXI) : Prop := PI X tg iter (liftI K W io f)
section
variable {X : Cx} {K : PySem.W.Frag} {W : WX} {io : List Nat} {tg iter : Expr}
theorem XI.mk {t : TI} {f : TXI} (h : PI X tg iter t) (hw : ∀ Γ S H σ ρ fp QD Ex R, Γ.io = io → Rel K Γ S H σ ρ fp → f ρ QD Ex → KI K Γ σ S QD R → KX K W Γ σ S Ex → t σ H R) : XI K W io X tg iter f :=
  ⟨fun pins s σ H R I ⟨Γ, S, ρ, fp, QD, Ex, hio, Rl, hf, k, kx⟩ => h.run pins s σ H R I (hw Γ S H σ ρ fp QD Ex R hio Rl hf k kx)⟩
/-- the items of data -/
def itemsD : PyData → Option (List PyData)
  | .list ds => some ds
  | .tuple ds => some ds
  | .str x => some (x.cps.toList.map fun c => .str ⟨#[c]⟩)
  | .dict [(.none, .tuple ds)] => some (ds.map tagW)
  | _ => none
theorem src_of {S : Hp} {v : V} {d : PyData} {ds : List PyData} (h : Dq K S v d) (e : itemsD d = some ds) : ∃ src xs, v = Src.v src ∧ src.At K S xs ∧ DqAll K S xs ds := by
  cases h with
  | lst h1 h2 => cases e; exact ⟨.lst _, _, rfl, h1, h2⟩
  | tup h1 h2 => cases e; exact ⟨.tup _, _, rfl, SqT.of h1, h2⟩
  | wk h1 h2 h3 => cases e; exact ⟨.tup _, _, rfl, h1, tag_all h2 h3⟩
  | str x =>
    cases e
    refine ⟨.txt x, _, rfl, rfl, ?_⟩
    generalize x.cps.toList = l
    induction l with
    | nil => exact .nil
    | cons c r ih => exact .cons (.str _) ih
  | non => cases e
  | bl b => cases e
  | int i => cases e
theorem At.up {S H : Hp} {src : Src} {xs : List V} (h : Same S H) (q : src.At K S xs) : src.At K H xs := by
  cases src with
  | lst a => exact Same.seq h q
  | tup a => exact same_seqT h q
  | txt x => exact q
theorem walk_seq {S : Hp} {src : Src} {xs : List V} {ds : List PyData} (h : src.At K S xs) (hd : DqAll K S xs ds) : WalkD K (ItsS K src) ds S := by
  have hl := dps_len hd
  have get : ∀ i, i < ds.length → ∃ x, xs[i]? = some x := fun i hi => ⟨xs[i]'(by omega), by simp [show i < xs.length by omega]⟩
  cases src with
  | lst a =>
    refine ⟨fun i H hi ss => ?_, fun H ss => ⟨xs, Same.seq ss h, by omega⟩, fun i H x H' Γ S' σ ρ fp hi ss R y => ?_⟩
    · obtain ⟨x, hx⟩ := get i hi
      exact ⟨xs, x, Same.seq ss h, hx⟩
    · obtain ⟨rfl, y2⟩ := y
      obtain ⟨d, e, dp⟩ := dps_get' hd (y2 xs (Same.seq (ss.trans R.sub) h))
      exact ⟨d, S', e, R, Same.refl _, dp_up ss _ _ dp⟩
  | tup a =>
    refine ⟨fun i H hi ss => ?_, fun H ss => ⟨xs, same_seqT ss h, by omega⟩, fun i H x H' Γ S' σ ρ fp hi ss R y => ?_⟩
    · obtain ⟨x, hx⟩ := get i hi
      exact ⟨xs, x, same_seqT ss h, hx⟩
    · obtain ⟨rfl, y2⟩ := y
      obtain ⟨d, e, dp⟩ := dps_get' hd (y2 xs (same_seqT (ss.trans R.sub) h))
      exact ⟨d, S', e, R, Same.refl _, dp_up ss _ _ dp⟩
  | txt z =>
    have hz : xs = z.cps.toList.map fun c => V.str ⟨#[c]⟩ := h
    have hn : z.cps.size = ds.length := by rw [← hl, hz, List.length_map, Array.length_toList]
    refine ⟨fun i H hi ss => ?_, fun H ss => ?_, fun i H x H' Γ S' σ ρ fp hi ss R y => ?_⟩
    · show i < z.cps.size
      omega
    · show z.cps.size ≤ ds.length
      omega
    · obtain ⟨rfl, c, hc, rfl⟩ := y
      have e2 : xs[i]? = some (V.str ⟨#[c]⟩) := by rw [hz, List.getElem?_map, Array.getElem?_toList, hc]; rfl
      obtain ⟨d, e, dp⟩ := dps_get' hd e2
      exact ⟨d, S', e, R, Same.refl _, dp_up ss _ _ dp⟩
def items1 (d : PyData) (k : List PyData → Prop) : Prop := match itemsD d with
  | some ds => k ds
  | none => False
theorem items1_get {d : PyData} {k : List PyData → Prop} (h : items1 d k) : ∃ ds, itemsD d = some ds ∧ k ds := by
  unfold items1 at h
  cases q : itemsD d with
  | none => rw [q] at h; exact h.elim
  | some ds => rw [q] at h; exact ⟨ds, rfl, h⟩
def fSeq (f : TX) : TXI := fun ρ Q Ex => f ρ (fun r ρ1 => isD r fun d => items1 d fun ds => Q ds ρ1) Ex
theorem xi_seq {f : TX} (hK : X.K = K) (h : XR K W io X iter f) : XI K W io X tg iter (fSeq f) := by
  subst hK
  refine XI.mk (pi_seq h) fun Γ S H σ ρ fp QD Ex Rr hio R hf k kx => ⟨Γ, S, ρ, fp, _, Ex, hio, R, hf, fun S1 H1 v r ρ1 fp1 R1 ss1 ok1 q1 => ?_, kx⟩
  obtain ⟨d, rfl, q2⟩ := isD_get q1
  obtain ⟨ds, e, q⟩ := items1_get q2
  obtain ⟨src, xs, rfl, h1, h2⟩ := src_of ok1 e
  exact ⟨src, xs, rfl, At.up R1.sub h1, k S1 H1 _ ds ρ1 fp1 R1 ss1 (walk_seq h1 h2) q⟩
/-- a walked thing that is iterated as it is a new list -/
def fSeqN (f : TXN) : TXI := fSeq (fFz f)
/-! ranges -/
def rangeD (lo : Int) (n : Nat) : List PyData := (List.range n).map fun i => .int (lo + (i : Nat))
theorem walk_rng {S : Hp} {lo : Int} {n : Nat} : WalkD K (Itr lo n) (rangeD lo n) S := by
  have hl : (rangeD lo n).length = n := by unfold rangeD; rw [List.length_map, List.length_range]
  refine ⟨fun i H hi ss => by rw [hl] at hi; exact hi, fun H ss => by rw [hl]; exact Nat.le_refl _, fun i H x H' Γ S' σ ρ fp hi ss R y => ?_⟩
  obtain ⟨rfl, rfl⟩ := y
  rw [hl] at hi
  refine ⟨.int (lo + (i : Nat)), S', ?_, R, Same.refl _, .int _⟩
  unfold rangeD
  rw [List.getElem?_map, List.getElem?_range hi]
  rfl
def B62 (i : Int) : Prop := -(2 ^ 62) ≤ i ∧ i < 2 ^ 62
def fRng1 (f : TXA) : TXI := fun ρ Q Ex => f ρ (fun rs ρ1 => areD rs fun ds => match ds with
  | [.int j] => B62 j ∧ Q (rangeD 0 j.toNat) ρ1
  | _ => False) Ex
def fRng2 (f : TXA) : TXI := fun ρ Q Ex => f ρ (fun rs ρ1 => areD rs fun ds => match ds with
  | [.int i, .int j] => B62 i ∧ B62 j ∧ Q (rangeD i (j - i).toNat) ρ1
  | _ => False) Ex
theorem xi_rng1 {a : Expr} {n : Nat} {f : TXA} {p pos : Pos} (hg : Gl X "range") (hm : X.mg "range" = none) (ha : XA K W io X [a] n f) (hs : starEach [a] X.env = [(false, eval a X.env)] := by rfl) : XI K W io X tg (.Call (.Name "range" p) [a] [] pos) (fRng1 f) := by
  refine XI.mk (pi_range1 hg hm ha hs) fun Γ S H σ ρ fp QD Ex Rr hio R hf k kx => ⟨Γ, S, ρ, fp, _, Ex, hio, R, hf, fun S1 H1 vs rs ρ1 fp1 R1 ss1 ok1 hl q1 => ?_, kx⟩
  obtain ⟨ds, h2, h3, h4⟩ := areD_get q1 ok1
  split at h4
  · cases h2 with
    | cons d1 t =>
      cases t
      cases d1
      exact ⟨_, rfl, h4.1.1, h4.1.2, k S1 H1 _ _ ρ1 fp1 R1 ss1 walk_rng h4.2⟩
  · exact h4.elim
theorem xi_rng2 {a b : Expr} {n : Nat} {f : TXA} {p pos : Pos} (hg : Gl X "range") (hm : X.mg "range" = none) (ha : XA K W io X [a, b] n f) (hs : starEach [a, b] X.env = [(false, eval a X.env), (false, eval b X.env)] := by rfl) (hs2 : starEach [b] X.env = [(false, eval b X.env)] := by rfl) :
    XI K W io X tg (.Call (.Name "range" p) [a, b] [] pos) (fRng2 f) := by
  refine XI.mk (pi_range2 hg hm ha hs hs2) fun Γ S H σ ρ fp QD Ex Rr hio R hf k kx => ⟨Γ, S, ρ, fp, _, Ex, hio, R, hf, fun S1 H1 vs rs ρ1 fp1 R1 ss1 ok1 hl q1 => ?_, kx⟩
  obtain ⟨ds, h2, h3, h4⟩ := areD_get q1 ok1
  split at h4
  · cases h2 with
    | cons d1 t =>
      cases t with
      | cons d2 t =>
        cases t
        cases d1
        cases d2
        exact ⟨_, _, rfl, ⟨h4.1.1, h4.1.2, h4.2.1.1, h4.2.1.2⟩, k S1 H1 _ _ ρ1 fp1 R1 ss1 walk_rng h4.2.2⟩
  · exact h4.elim
/-! enumerate, zip -/
def enumD (ds : List PyData) : List PyData := ds.zipIdx.map fun p => .tuple [.int (p.2 : Nat), p.1]
theorem enumD_get {ds : List PyData} {i : Nat} {d : PyData} (h : ds[i]? = some d) : (enumD ds)[i]? = some (.tuple [.int (i : Nat), d]) := by
  unfold enumD
  rw [List.getElem?_map, List.getElem?_zipIdx, h]
  simp
theorem enumD_len {ds : List PyData} : (enumD ds).length = ds.length := by unfold enumD; rw [List.length_map, List.length_zipIdx]
theorem walk_enumD {S : Hp} {src : Src} {xs : List V} {ds : List PyData} (h : src.At K S xs) (hd : DqAll K S xs ds) : WalkD K (IteS K src) (enumD ds) S := by
  have hl := dps_len hd
  refine ⟨fun i H hi ss => ?_, fun H ss => ⟨xs, At.up ss h, by rw [enumD_len]; exact hl⟩, fun i H x H' Γ S' σ ρ fp hi ss R y => ?_⟩
  · rw [enumD_len] at hi
    exact ⟨xs, xs[i]'(by omega), At.up ss h, by simp [show i < xs.length by omega]⟩
  · obtain ⟨T, y, rfl, hT, rfl, hy⟩ := y
    obtain ⟨d, e, dp⟩ := dps_get' hd (hy xs (At.up (ss.trans R.sub) h))
    have sp : Same S' (upd S' T (.tup [.int (i : Nat), y])) := same_upd (R.sub.free hT)
    exact ⟨_, _, enumD_get e, R.layS hT _, sp, .tup upd_same (.cons (.int _) (.cons (dp_up (ss.trans sp) _ _ dp) .nil))⟩
def fEnum (f : TXA) : TXI := fun ρ Q Ex => f ρ (fun rs ρ1 => areD rs fun ds => match ds with
  | [d] => items1 d fun ds => Q (enumD ds) ρ1
  | _ => False) Ex
theorem xi_enum {e : Expr} {n : Nat} {f : TXA} {p pos tpos : Pos} {elts : List Expr} {kk : Nat} (hK : X.K = K) (hg : Gl X "enumerate") (hm : X.mg "enumerate" = none) (ha : XA K W io X [e] n f) (hs : starEach [e] X.env = [(false, eval e X.env)] := by rfl) :
    XI K W io X (.Tuple elts kk tpos) (.Call (.Name "enumerate" p) [e] [] pos) (fEnum f) := by
  subst hK
  refine XI.mk (pi_enumS hg hm ha hs) fun Γ S H σ ρ fp QD Ex Rr hio R hf k kx => ⟨Γ, S, ρ, fp, _, Ex, hio, R, hf, fun S1 H1 vs rs ρ1 fp1 R1 ss1 ok1 hl q1 => ?_, kx⟩
  obtain ⟨ds, h2, h3, h4⟩ := areD_get q1 ok1
  split at h4
  · cases h2 with
    | cons d1 t =>
      cases t
      obtain ⟨es, e, q⟩ := items1_get h4
      obtain ⟨src, xs, rfl, a1, a2⟩ := src_of d1 e
      exact ⟨src, xs, rfl, At.up R1.sub a1, k S1 H1 _ _ ρ1 fp1 R1 ss1 (walk_enumD a1 a2) q⟩
  · exact h4.elim
def zipD (ds es : List PyData) : List PyData := (ds.zip es).map fun p => .tuple [p.1, p.2]
theorem zipD_len {ds es : List PyData} : (zipD ds es).length = min ds.length es.length := by unfold zipD; rw [List.length_map, List.length_zip]
theorem zipD_get {ds es : List PyData} {i : Nat} {d e : PyData} (h : ds[i]? = some d) (h2 : es[i]? = some e) : (zipD ds es)[i]? = some (.tuple [d, e]) := by
  unfold zipD
  have q : (ds.zip es)[i]? = some (d, e) := List.getElem?_zip_eq_some.mpr ⟨h, h2⟩
  rw [List.getElem?_map, q]
  rfl
theorem walk_zipD {S : Hp} {s1 s2 : Src} {xs ys : List V} {ds es : List PyData} (h : s1.At K S xs) (hd : DqAll K S xs ds) (h' : s2.At K S ys) (hd' : DqAll K S ys es) : WalkD K (IteZ K s1 s2) (zipD ds es) S := by
  have hl := dps_len hd
  have hl' := dps_len hd'
  refine ⟨fun i H hi ss => ?_, fun H ss => ⟨xs, ys, At.up ss h, At.up ss h', by rw [zipD_len, hl, hl']⟩, fun i H x H' Γ S' σ ρ fp hi ss R y => ?_⟩
  · rw [zipD_len] at hi
    exact ⟨xs, ys, xs[i]'(by omega), ys[i]'(by omega), At.up ss h, At.up ss h', by simp [show i < xs.length by omega], by simp [show i < ys.length by omega]⟩
  · obtain ⟨T, a, b, rfl, hT, rfl, ha, hb⟩ := y
    obtain ⟨d, e, dp⟩ := dps_get' hd (ha xs (At.up (ss.trans R.sub) h))
    obtain ⟨d', e', dp'⟩ := dps_get' hd' (hb ys (At.up (ss.trans R.sub) h'))
    have sp : Same S' (upd S' T (.tup [a, b])) := same_upd (R.sub.free hT)
    exact ⟨_, _, zipD_get e e', R.layS hT _, sp, .tup upd_same (.cons (dp_up (ss.trans sp) _ _ dp) (.cons (dp_up (ss.trans sp) _ _ dp') .nil))⟩
def fZip (f : TXA) : TXI := fun ρ Q Ex => f ρ (fun rs ρ1 => areD rs fun ds => match ds with
  | [d, e] => items1 d fun ds => items1 e fun es => Q (zipD ds es) ρ1
  | _ => False) Ex
theorem xi_zip {e e2 : Expr} {n : Nat} {f : TXA} {p pos tpos : Pos} {elts : List Expr} {kk : Nat} (hK : X.K = K) (hg : Gl X "zip") (hm : X.mg "zip" = none) (ha : XA K W io X [e, e2] n f)
    (hs : starEach [e, e2] X.env = (false, eval e X.env) :: starEach [e2] X.env := by rfl) (hpl : (backTo pos (starEach [e2] X.env)).any (·.1) = false := by rfl) :
    XI K W io X (.Tuple elts kk tpos) (.Call (.Name "zip" p) [e, e2] [] pos) (fZip f) := by
  subst hK
  refine XI.mk (pi_zipS hg hm ha hs hpl) fun Γ S H σ ρ fp QD Ex Rr hio R hf k kx => ⟨Γ, S, ρ, fp, _, Ex, hio, R, hf, fun S1 H1 vs rs ρ1 fp1 R1 ss1 ok1 hl q1 => ?_, kx⟩
  obtain ⟨ds, h2, h3, h4⟩ := areD_get q1 ok1
  split at h4
  · cases h2 with
    | cons d1 t =>
      cases t with
      | cons d2 t =>
        cases t
        obtain ⟨es, e, q⟩ := items1_get h4
        obtain ⟨es', e', q'⟩ := items1_get q
        obtain ⟨sa, xs, rfl, a1, a2⟩ := src_of d1 e
        obtain ⟨sb, ys, rfl, b1, b2⟩ := src_of d2 e'
        exact ⟨sa, sb, xs, ys, rfl, At.up R1.sub a1, At.up R1.sub b1, k S1 H1 _ _ ρ1 fp1 R1 ss1 (walk_zipD a1 a2 b1 b2) q'⟩
  · exact h4.elim

/-! ### targets -/
abbrev TXG := PyData → List E → (List E → Prop) → Prop
def KG (K : PySem.W.Frag) (Γ : Gam) (is : List Nat) (S : Hp) (σ : St) (QD : List E → Prop) (Q : St → Hp → Prop) : Prop := ∀ S' H' σ' ρ' fp', Rel K Γ S' H' σ' ρ' fp' → Same S S' → (∀ vs, (∀ i ∈ is, i ∈ vs) → wipe σ' vs = wipe σ vs) → QD ρ' → Q σ' H'
def liftG (K : PySem.W.Frag) (io is : List Nat) (f : TXG) : TG := fun v σ H Q => ∃ Γ S ρ fp d QD, Γ.io = io ∧ Rel K Γ S H σ ρ fp ∧ Dq K S v d ∧ f d ρ QD ∧ KG K Γ is S σ QD Q
abbrev XG (K : PySem.W.Frag) (io is : List Nat) (X : Cx) (tg : Expr) (f : TXG) : Prop := PG X tg (liftG K io is f)
theorem wipe_get {σ : St} {i : Nat} : ∀ {vs : List Nat}, i ∈ vs → i < σ.length → (wipe σ vs)[i]? = some none
  | v :: vs, h, hl => by
    unfold wipe
    by_cases e : v = i
    · subst e
      rw [List.getElem?_set_self (by rw [wipe_length]; exact hl)]
    · rw [List.getElem?_set_ne e]
      rcases List.mem_cons.mp h with z | z
      · exact absurd z.symm e
      · exact wipe_get z hl
theorem wipe_set {σ : St} {i : Nat} {x : Option V} {vs : List Nat} (h : i ∈ vs) : wipe (σ.set i x) vs = wipe σ vs := by
  apply List.ext_getElem?
  intro j
  by_cases hj : j < σ.length
  · by_cases hm : j ∈ vs
    · rw [wipe_get hm (by rw [List.length_set]; exact hj), wipe_get hm hj]
    · rw [wipe_out hm, wipe_out hm]
      have : i ≠ j := fun e => hm (e ▸ h)
      rw [List.getElem?_set_ne this]
  · rw [List.getElem?_eq_none (by rw [wipe_length, List.length_set]; omega), List.getElem?_eq_none (by rw [wipe_length]; omega)]
def fGN (i : Nat) : TXG := fun d ρ Q => Q (ρ.set i (.dat d))
theorem Rel.asgD {Γ : Gam} {S H : Hp} {σ : St} {ρ : List E} {fp : Nat → List Addr} (R : Rel K Γ S H σ ρ fp) {i : Nat} {v : V} {d : PyData} (hil : i < ρ.length) (hio : i ∉ Γ.io) (h : Dq K S v d) :
    Rel K Γ S H (σ.set i (some v)) (ρ.set i (.dat d)) (fun j => if j = i then [] else fp j) := R.asg hil hio ⟨rfl, v, rfl, h⟩ List.nodup_nil fun _ z => absurd z (by simp)
theorem set_ge {α : Type} {l : List α} {i : Nat} {x : α} (h : ¬ i < l.length) : l.set i x = l := by
  apply List.ext_getElem?
  intro j
  by_cases e : i = j
  · subst e
    rw [List.getElem?_eq_none (by rw [List.length_set]; omega), List.getElem?_eq_none (by omega)]
  · rw [List.getElem?_set_ne e]
theorem xg_name {i : Nat} {x : Str} {pos : Pos} (hN : X.N.Nodup) (hi : X.N[i]? = some x) (hx : Loc X.env.scope x) (hio : i ∉ io := by decide) (hf : X.fn x = true ∨ X.env.scope.names.lookup x = some .local := by first | exact .inl rfl | exact .inr rfl | assumption) :
    XG K io [i] X (.Name x pos) (fGN i) := by
  have h := pg_name (pos := pos) hN hi hx hf
  refine ⟨fun pins s σ H v u Q I r ⟨Γ, S, ρ, fp, d, QD, ho, R, dp, hq, k⟩ => h.run pins s σ H v u Q I r ?_⟩
  show Q (σ.set i (some v)) H
  have hil : i < ρ.length := by rw [R.len, I.len]; exact (List.getElem?_eq_some_iff.mp hi).1
  exact k S H _ _ _ (R.asgD hil (by rw [ho]; exact hio) dp) (Same.refl _) (fun vs hv => wipe_set (hv i (by simp))) hq
abbrev TXGs := List PyData → List E → (List E → Prop) → Prop
def liftGs (K : PySem.W.Frag) (io is : List Nat) (f : TXGs) : TGs := fun vs σ H Q => ∃ Γ S ρ fp ds QD, Γ.io = io ∧ Rel K Γ S H σ ρ fp ∧ DqAll K S vs ds ∧ f ds ρ QD ∧ KG K Γ is S σ QD Q
abbrev XGs (K : PySem.W.Frag) (io is : List Nat) (X : Cx) (tgs : List Expr) (f : TXGs) : Prop := PGs X tgs (liftGs K io is f)
def fGnil : TXGs := fun ds ρ Q => match ds with
  | [] => Q ρ
  | _ => False
def fGcons (f : TXG) (g : TXGs) : TXGs := fun ds ρ Q => match ds with
  | d :: es => f d ρ fun ρ1 => g es ρ1 Q
  | _ => False
theorem xgs_nil : XGs K io [] X [] fGnil := by
  have h := pgs_nil (X := X)
  refine ⟨fun pins s σ H vs us Q I r ⟨Γ, S, ρ, fp, ds, QD, ho, R, dp, hq, k⟩ => h.run pins s σ H vs us Q I r ?_⟩
  cases ds with
  | nil => cases dp; exact ⟨rfl, k S H σ ρ fp R (Same.refl _) (fun _ _ => rfl) hq⟩
  | cons _ _ => exact hq.elim
theorem xgs_cons {e : Expr} {es : List Expr} {is js : List Nat} {f : TXG} {g : TXGs} (h1 : XG K io is X e f) (h2 : XGs K io js X es g) (hs : (assignEach (e :: es) X.env).map (·.2) = assign e X.env :: (assignEach es X.env).map (·.2) := by rfl) : XGs K io (is ++ js) X (e :: es) (fGcons f g) := by
  have h := pgs_cons h1 h2 hs
  refine ⟨fun pins s σ H vs us Q I r ⟨Γ, S, ρ, fp, ds, QD, ho, R, dp, hq, k⟩ => h.run pins s σ H vs us Q I r ?_⟩
  cases ds with
  | nil => exact hq.elim
  | cons d ds =>
    cases dp with
    | cons dp1 dp2 =>
      refine ⟨_, _, rfl, Γ, S, ρ, fp, d, _, ho, R, dp1, hq, fun S1 H1 σ1 ρ1 fp1 R1 ss1 w1 q1 => ?_⟩
      exact ⟨Γ, S1, ρ1, fp1, ds, _, ho, R1, dps_up ss1 _ _ dp2, q1, fun S2 H2 σ2 ρ2 fp2 R2 ss2 w2 q2 => k S2 H2 σ2 ρ2 fp2 R2 (ss1.trans ss2) (fun vs hv => (w2 vs fun i hi => hv i (List.mem_append_right _ hi)).trans (w1 vs fun i hi => hv i (List.mem_append_left _ hi))) q2⟩
def fGT (n : Nat) (g : TXGs) : TXG := fun d ρ Q => match d with
  | .tuple ds => ds.length = n ∧ g ds ρ Q
  | .dict [(.none, .tuple ds)] => ds.length = n ∧ g (ds.map tagW) ρ Q
  | _ => False
theorem xg_tup {es : List Expr} {kk n : Nat} {is : List Nat} {g : TXGs} {pos : Pos} (hK : X.K = K) (hc : X.calm = true) (h : XGs K io is X es g) (hn : (assignEach es X.env).length = n := by rfl) (hst : (assignEach es X.env).findIdx? (·.1) = none := by rfl) :
    XG K io is X (.Tuple es kk pos) (fGT n g) := by
  subst hK
  have h' := pg_tup (k := kk) (pos := pos) hc h hn hst
  refine ⟨fun pins s σ H v u Q I r ⟨Γ, S, ρ, fp, d, QD, ho, R, dp, hq, k⟩ => h'.run pins s σ H v u Q I r ?_⟩
  cases dp with
  | tup h1 h2 => exact ⟨_, _, rfl, SqT.of (R.sub _ _ h1), (dps_len h2).trans hq.1, Γ, S, ρ, fp, _, _, ho, R, h2, hq.2, k⟩
  | @wk a xs ds h1 h2 h3 =>
    have hq' : ds.length = n ∧ g (ds.map tagW) ρ QD := hq
    have h4 := tag_all h2 h3
    exact ⟨_, _, rfl, same_seqT R.sub h1, by rw [dps_len h4, List.length_map]; exact hq'.1, Γ, S, ρ, fp, _, _, ho, R, h4, hq'.2, k⟩
  | _ => exact hq.elim
end
end L3

namespace L3
open PySem PySem.Spec PyProof.Rows L2

/-! ### pins -/
def Gam.pin (Γ : Gam) (p : Addr) (o : HO) : Gam := { Γ with pins := Γ.pins ++ [(p, o)] }
section
variable {K : PySem.W.Frag} {Γ : Gam} {S H : Hp} {σ : St} {ρ : List E} {fp : Nat → List Addr} {p : Addr} {o : HO}
theorem pins_last {Γ : Gam} {n i : Nat} (hi : n ≤ i) (p : Addr) (o : HO) : (Γ.pin p o).pins[i - n]? = if i = n + Γ.pins.length then some (p, o) else Γ.pins[i - n]? := by
  show (Γ.pins ++ [(p, o)])[i - n]? = _
  by_cases e : i = n + Γ.pins.length
  · rw [if_pos e, e, Nat.add_sub_cancel_left, List.getElem?_append_right (Nat.le_refl _), Nat.sub_self]
    rfl
  · rw [if_neg e]
    by_cases h : i - n < Γ.pins.length
    · rw [List.getElem?_append_left h]
    · rw [List.getElem?_append_right (by omega), List.getElem?_eq_none (by simp; omega), List.getElem?_eq_none (by omega)]
theorem Rel.pinAt (R : Rel K Γ S H σ ρ fp) (hS : S p = none) (hG : Γ.H p = none) (hf : ∀ i, p ∉ fp i) (o : HO) :
    Rel K (Γ.pin p o) S (upd H p o) σ ρ (fun j => if j = ρ.length + Γ.pins.length then [p] else fp j) := by
  have ne : ∀ i b, b ∈ fp i → b ≠ p := fun i b hb z => hf i (z ▸ hb)
  have lt : ∀ i e, ρ[i]? = some e → i ≠ ρ.length + Γ.pins.length := fun i e h z => by
    have := (List.getElem?_eq_some_iff.mp h).1
    omega
  refine ⟨fun b u e => ?_, R.mono, R.hid, fun b u h1 h2 => ?_, fun b h1 => ?_, R.len, fun i e he => ?_, fun i hi => ?_, fun i a ha => ?_, fun i => ?_, fun i j a ha hb => ?_, R.io, fun i hi a ha => ?_⟩
  · have hb : b ≠ p := fun z => by subst z; rw [hS] at e; cases e
    rw [upd_ne hb]; exact R.sub b u e
  · have h1' : Γ.H b = some u := h1
    have hb : b ≠ p := fun z => by subst z; rw [hG] at h1'; cases h1'
    rw [upd_ne hb]; exact R.kept b u h1 h2
  · have hb : b ≠ p := fun z => by subst z; exact h1 hG
    rw [upd_ne hb]; exact R.dom b h1
  · simp only [lt i e he, if_false]
    exact (R.ent i e he).up (Same.refl _) fun b hb => upd_ne (ne i b hb)
  · have hn : ρ.length ≤ i := List.getElem?_eq_none_iff.mp hi
    unfold PinOk
    rw [pins_last hn]
    by_cases e : i = ρ.length + Γ.pins.length
    · simp only [e, if_true]
      exact ⟨trivial, upd_same⟩
    · simp only [e, if_false]
      exact (R.out i hi).up fun b hb => upd_ne (ne i b hb)
  · by_cases e : i = ρ.length + Γ.pins.length
    · simp only [e, if_true] at ha
      have z : a = p := by simpa using ha
      subst z
      exact ⟨hS, by rw [upd_same]; exact Option.some_ne_none _, .inr hG⟩
    · simp only [e, if_false] at ha
      obtain ⟨q1, q2, q3⟩ := R.hide i a ha
      exact ⟨q1, by rw [upd_ne (ne i a ha)]; exact q2, q3⟩
  · by_cases e : i = ρ.length + Γ.pins.length
    · simp only [e, if_true]; simp
    · simp only [e, if_false]; exact R.nd i
  · by_cases e : i = ρ.length + Γ.pins.length
    · by_cases e2 : j = ρ.length + Γ.pins.length
      · rw [e, e2]
      · simp only [e, if_true] at ha
        simp only [e2, if_false] at hb
        have z : a = p := by simpa using ha
        exact absurd z (ne j a hb)
    · by_cases e2 : j = ρ.length + Γ.pins.length
      · simp only [e, if_false] at ha
        simp only [e2, if_true] at hb
        have z : a = p := by simpa using hb
        exact absurd z (ne i a ha)
      · simp only [e, if_false] at ha
        simp only [e2, if_false] at hb
        exact R.dis i j a ha hb
  · by_cases e : i = ρ.length + Γ.pins.length
    · simp only [e, if_true] at ha
      have z : a = p := by simpa using ha
      subst z
      exact hG
    · simp only [e, if_false] at ha
      exact R.new i hi a ha
theorem Rel.unpin2 (R : Rel K (Γ.pin p o) S H σ ρ fp) : H p = some o ∧ S p = none ∧ Γ.H p = none ∧ (∃ j, p ∈ fp j) ∧ ∃ fp', Rel K Γ S H σ ρ fp' ∧ (∀ i, p ∉ fp' i) ∧ ∀ i a, a ∈ fp' i → a ∈ fp i := by
  have hq : ρ[ρ.length + Γ.pins.length]? = none := List.getElem?_eq_none (by omega)
  have hpk := R.out _ hq
  unfold PinOk at hpk
  rw [pins_last (Nat.le_add_right _ _), if_pos rfl] at hpk
  obtain ⟨f1, f2⟩ := hpk
  have hm : p ∈ fp (ρ.length + Γ.pins.length) := by rw [f1]; simp
  have hio : ρ.length + Γ.pins.length ∉ (Γ.pin p o).io := fun z => by
    obtain ⟨_, e, h, _⟩ := R.io _ z
    rw [hq] at h; cases h
  have lt : ∀ i e, ρ[i]? = some e → i ≠ ρ.length + Γ.pins.length := fun i e h z => by
    have := (List.getElem?_eq_some_iff.mp h).1
    omega
  refine ⟨f2, (R.hide _ p hm).1, R.new _ hio p hm, ⟨_, hm⟩, (fun j => if j = ρ.length + Γ.pins.length then [] else fp j), ⟨R.sub, R.mono, R.hid, R.kept, R.dom, R.len, fun i e he => ?_, fun i hi => ?_, fun i a ha => ?_, fun i => ?_, fun i j a ha hb => ?_, R.io, fun i hi a ha => ?_⟩, fun i hi => ?_, fun i a ha => ?_⟩
  · simp only [lt i e he, if_false]; exact R.ent i e he
  · have hn : ρ.length ≤ i := List.getElem?_eq_none_iff.mp hi
    have h2 := R.out i hi
    unfold PinOk at h2 ⊢
    rw [pins_last hn] at h2
    by_cases e : i = ρ.length + Γ.pins.length
    · simp only [e, if_true]
      rw [show Γ.pins[ρ.length + Γ.pins.length - ρ.length]? = none from List.getElem?_eq_none (by omega)]
      exact True.intro
    · simp only [e, if_false] at h2 ⊢
      exact h2
  · by_cases e : i = ρ.length + Γ.pins.length
    · simp only [e, if_true] at ha; simp at ha
    · simp only [e, if_false] at ha; exact R.hide i a ha
  · by_cases e : i = ρ.length + Γ.pins.length
    · simp only [e, if_true]; exact List.nodup_nil
    · simp only [e, if_false]; exact R.nd i
  · by_cases e : i = ρ.length + Γ.pins.length
    · simp only [e, if_true] at ha; simp at ha
    · by_cases e2 : j = ρ.length + Γ.pins.length
      · simp only [e2, if_true] at hb; simp at hb
      · simp only [e, if_false] at ha
        simp only [e2, if_false] at hb
        exact R.dis i j a ha hb
  · by_cases e : i = ρ.length + Γ.pins.length
    · simp only [e, if_true] at ha; simp at ha
    · simp only [e, if_false] at ha; exact R.new i hi a ha
  · by_cases e : i = ρ.length + Γ.pins.length
    · simp only [e, if_true] at hi; simp at hi
    · simp only [e, if_false] at hi
      exact e (R.dis i _ p hi hm)
  · by_cases e : i = ρ.length + Γ.pins.length
    · simp only [e, if_true] at ha; simp at ha
    · simp only [e, if_false] at ha; exact ha
theorem Rel.unpin (R : Rel K (Γ.pin p o) S H σ ρ fp) : H p = some o ∧ S p = none ∧ Γ.H p = none ∧ ∃ fp', Rel K Γ S H σ ρ fp' ∧ ∀ i, p ∉ fp' i :=
  let ⟨a, b, c, _, fp', d, e, _⟩ := R.unpin2
  ⟨a, b, c, fp', d, e⟩

/-! ### slots are wiped and put back -/
theorem Rel.put (R : Rel K Γ S H σ ρ fp) {v : Nat} (hv : (ρ.getD v .no).own = false) {ov : Option V} {e : E} (he : EntOk K S H ov e []) : Rel K Γ S H (σ.set v ov) (ρ.set v e) fp := by
  by_cases hl : v < ρ.length
  · have hvs : v < σ.length := by rw [← R.len]; exact hl
    have hf : fp v = [] := by
      have h := R.ent v _ (List.getElem?_eq_getElem hl)
      refine h.nofp ?_
      rw [List.getD_eq_getElem?_getD, List.getElem?_eq_getElem hl] at hv
      exact hv
    refine ⟨R.sub, R.mono, R.hid, R.kept, R.dom, by rw [List.length_set, List.length_set]; exact R.len, fun j u hj => ?_, fun j hj => ?_, R.hide, R.nd, R.dis, fun j hj => ?_, R.new⟩
    · by_cases hjv : j = v
      · subst hjv
        rw [List.getElem?_set_self hl] at hj
        cases hj
        have e2 : (σ.set j ov).getD j none = ov := by rw [List.getD_eq_getElem?_getD, List.getElem?_set_self hvs]; rfl
        rw [e2, hf]
        exact he
      · rw [List.getElem?_set_ne (Ne.symm hjv)] at hj
        have e2 : (σ.set v ov).getD j none = σ.getD j none := by rw [List.getD_eq_getElem?_getD, List.getElem?_set_ne (Ne.symm hjv), ← List.getD_eq_getElem?_getD]
        rw [e2]
        exact R.ent j u hj
    · have hjv : j ≠ v := fun z => by subst z; rw [List.getElem?_set_self hl] at hj; cases hj
      rw [List.getElem?_set_ne (Ne.symm hjv)] at hj
      rw [List.length_set]
      exact R.out j hj
    · obtain ⟨q1, u, q2, q3⟩ := R.io j hj
      have hjv : j ≠ v := fun z => by
        subst z
        rw [List.getD_eq_getElem?_getD, q2] at hv
        rw [show (some u : Option E).getD E.no = u from rfl] at hv
        rw [q3] at hv; cases hv
      exact ⟨by rw [List.getElem?_set_ne (Ne.symm hjv)]; exact q1, u, by rw [List.getElem?_set_ne (Ne.symm hjv)]; exact q2, q3⟩
  · rw [set_ge hl, set_ge (by rw [← R.len]; exact hl)]
    exact R
end
def noOwnB (ρ : List E) (vs : List Nat) : Bool := vs.all fun v => !(ρ.getD v .no).own
def wipeE (ρ : List E) : List Nat → List E
  | [] => ρ
  | v :: vs => (wipeE ρ vs).set v .no
def unw (ρ2 ρ1 : List E) : List Nat → List E
  | [] => ρ2
  | v :: vs => unw (ρ2.set v (ρ1.getD v .no)) ρ1 vs
def wipeK (ρ : List E) (vs : List Nat) (k : List E → Prop) : Prop := match noOwnB ρ vs with
  | true => k (wipeE ρ vs)
  | false => False
theorem wipeK_get {ρ : List E} {vs : List Nat} {k : List E → Prop} (h : wipeK ρ vs k) : noOwnB ρ vs = true ∧ k (wipeE ρ vs) := by
  unfold wipeK at h
  cases q : noOwnB ρ vs with
  | true => rw [q] at h; exact ⟨rfl, h⟩
  | false => rw [q] at h; exact h.elim
section
variable {K : PySem.W.Frag} {Γ : Gam} {S H : Hp} {σ : St} {ρ : List E} {fp : Nat → List Addr}
theorem getD_set {α : Type} {l : List α} {i j : Nat} {x d : α} : (l.set i x).getD j d = if i = j ∧ j < l.length then x else l.getD j d := by
  rw [List.getD_eq_getElem?_getD, List.getD_eq_getElem?_getD]
  by_cases e : i = j
  · subst e
    by_cases h : i < l.length
    · rw [List.getElem?_set_self h, if_pos ⟨rfl, h⟩]; rfl
    · rw [set_ge h, if_neg (fun z => h z.2)]
  · rw [List.getElem?_set_ne e, if_neg (fun z => e z.1)]
theorem noOwn_set {v : Nat} {e : E} (he : e.own = false) : ∀ {vs : List Nat} {ρ : List E}, noOwnB ρ vs = true → noOwnB (ρ.set v e) vs = true := fun {vs ρ} h => by
  unfold noOwnB at h ⊢
  rw [List.all_eq_true] at h ⊢
  intro u hu
  have q := h u hu
  rw [getD_set]
  split
  · rw [he]; rfl
  · exact q
theorem noOwn_wipe : ∀ {vs us : List Nat}, noOwnB ρ us = true → noOwnB (wipeE ρ vs) us = true
  | [], _, h => h
  | v :: vs, _, h => noOwn_set rfl (noOwn_wipe h)
theorem Rel.wiped (R : Rel K Γ S H σ ρ fp) : ∀ {vs : List Nat}, noOwnB ρ vs = true → Rel K Γ S H (wipe σ vs) (wipeE ρ vs) fp
  | [], _ => R
  | v :: vs, h => by
    unfold noOwnB at h
    rw [List.all_cons, Bool.and_eq_true] at h
    have R1 := Rel.wiped R (vs := vs) h.2
    have h1 : noOwnB (wipeE ρ vs) [v] = true := noOwn_wipe (by unfold noOwnB; rw [List.all_cons, h.1]; rfl)
    refine R1.put (ov := none) (e := .no) ?_ rfl
    unfold noOwnB at h1
    rw [List.all_cons, Bool.and_eq_true] at h1
    simpa using h1.1
theorem Rel.unwiped {ρ1 : List E} : ∀ {vs : List Nat} {ρ2 : List E}, Rel K Γ S H (wipe σ vs) ρ2 fp → vs.Nodup → noOwnB ρ2 vs = true → (∀ v ∈ vs, v < σ.length → EntOk K S H (σ.getD v none) (ρ1.getD v .no) [] ∧ (ρ1.getD v .no).own = false) → Rel K Γ S H σ (unw ρ2 ρ1 vs) fp
  | [], _, R, _, _, _ => R
  | v :: vs, ρ2, R, nd, hn, he => by
    have nd' := List.nodup_cons.mp nd
    unfold noOwnB at hn
    rw [List.all_cons, Bool.and_eq_true] at hn
    unfold unw
    by_cases hl : v < σ.length
    · obtain ⟨e1, e2⟩ := he v List.mem_cons_self hl
      have R1 := R.put (v := v) (ov := σ.getD v none) (e := ρ1.getD v .no) (by simpa using hn.1) e1
      have ew : (wipe σ (v :: vs)).set v (σ.getD v none) = wipe σ vs := by
        show ((wipe σ vs).set v none).set v (σ.getD v none) = wipe σ vs
        rw [List.set_set]
        apply List.ext_getElem?
        intro j
        by_cases z : v = j
        · subst z
          rw [List.getElem?_set_self (by rw [wipe_length]; exact hl), wipe_out nd'.1, List.getD_eq_getElem?_getD, List.getElem?_eq_getElem hl]
          rfl
        · rw [List.getElem?_set_ne z]
      rw [ew] at R1
      exact Rel.unwiped R1 nd'.2 (noOwn_set e2 hn.2) fun u hu => he u (List.mem_cons_of_mem _ hu)
    · have ew : wipe σ (v :: vs) = wipe σ vs := set_ge (by rw [wipe_length]; exact hl)
      rw [ew] at R
      have e0 : ρ2.set v (ρ1.getD v .no) = ρ2 := set_ge (by rw [R.len, wipe_length]; exact hl)
      rw [e0]
      exact Rel.unwiped R nd'.2 hn.2 fun u hu => he u (List.mem_cons_of_mem _ hu)
end

/-! ### comprehensions -/
def fYes : TXT := fun ρ Q _ => Q true ρ
abbrev XTs (K : PySem.W.Frag) (W : WX) (io : List Nat) (X : Cx) (ifs : List Expr) (f : TXT) : Prop := PTs X ifs (liftT K W io f)
abbrev noX : XC := fun _ _ => False
abbrev W0 : WX := fun _ _ _ _ => False
section
variable {X : Cx} {K : PySem.W.Frag} {W : WX} {io : List Nat}
theorem xts_nil : XTs K W io X [] fYes := ⟨fun pins s σ H Q I ⟨Γ, S, ρ, fp, QD, Ex, hio, R, hf, k, kx⟩ => pts_nil.run pins s σ H Q I (k S H true ρ fp R (Same.refl _) hf)⟩
theorem xts_one {c : Expr} {f : TXT} (h : XT K W io X c f) : XTs K W io X [c] f := pts_one h
def lcR (g : TXG) (tt : TXT) (te : TX) (vs : List Nat) : List PyData → List PyData → List E → (List PyData → List E → Prop) → Prop
  | [], acc, ρ, Q => Q acc ρ
  | d :: ds, acc, ρ, Q => g d ρ fun ρ1 => tt ρ1 (fun b ρ2 => match b with
    | true => te ρ2 (fun r ρ3 => isD r fun y => wipeK ρ3 vs fun ρ4 => lcR g tt te vs ds (acc ++ [y]) ρ4 Q) noX
    | false => wipeK ρ2 vs fun ρ4 => lcR g tt te vs ds acc ρ4 Q) noX
def fLc (fi : TXI) (g : TXG) (tt : TXT) (te : TX) (vs : List Nat) : TXN := fun ρ Q Ex => fi ρ (fun ds ρ1 => ds.length < sizeLine ∧ wipeK ρ1 vs fun ρw => lcR g tt te vs ds [] ρw fun ys ρ2 => Q (.lst ys) (unw ρ2 ρ1 vs)) Ex
theorem kx0 {Γ : Gam} {σ : St} {S : Hp} {W : WX} : KX K W Γ σ S noX := fun _ _ _ _ _ _ _ h => h.elim
theorem lc_run {is : List Nat} {own : List (Str × Nat)} {fi : TXI} {g : TXG} {tt : TXT} {te : TX} (hnd : (own.map (·.2)).Nodup) (his : ∀ i ∈ is, i ∈ own.map (·.2)) : ∀ Γ S H σ ρ fp QD Ex Q, Γ.io = io → Rel K Γ S H σ ρ fp → fLc fi g tt te (own.map (·.2)) ρ QD Ex → KN K Γ σ S QD Q → KX K W Γ σ S Ex →
    tLc (liftI K W io fi) (liftG K io is g) (liftT K W0 io tt) (liftE K W0 io te) (own.map (·.2)) σ H Q := fun Γ S H σ ρ fp QD Ex Q hio R h k kx => by
  generalize own.map (·.2) = vs at *
  refine ⟨Γ, S, ρ, fp, _, Ex, hio, R, h, fun S1 H1 J ds ρ1 fp1 R1 ss1 wd h1 => ?_, kx⟩
  obtain ⟨hlen, h1⟩ := h1
  obtain ⟨no1, h1⟩ := wipeK_get h1
  intro D hD
  have Rw := R1.wiped no1
  obtain ⟨n1, n2, n3⟩ := Rw.free hD
  have R2 := Rw.pinAt n1 n2 n3 (.lst [])
  refine ⟨fun i m H => m = ds.length - i ∧ i ≤ ds.length ∧ ∃ S' ρ' fp' accV accD, Rel K (Γ.pin D (.lst accV)) S' H (wipe σ vs) ρ' fp' ∧ Same S1 S' ∧ DqAll K S' accV accD ∧ accD.length ≤ i ∧ noOwnB ρ' vs = true ∧ lcR g tt te vs (ds.drop i) accD ρ' (fun ys ρ2 => QD (.lst ys) (unw ρ2 ρ1 vs)),
    ⟨_, rfl, Nat.zero_le _, S1, _, _, [], [], R2, Same.refl _, .nil, Nat.le_refl _, noOwn_wipe no1, h1⟩, ?_⟩
  rintro i m H ⟨rfl, hi, S', ρ', fp', accV, accD, R', ss', hacc, hal, no', hl⟩
  by_cases hlt : i < ds.length
  · refine .inr ⟨wd.go i H hlt (ss'.trans R'.sub), fun H' => ∃ S' ρ' fp' accV accD, Rel K (Γ.pin D (.lst accV)) S' H' (wipe σ vs) ρ' fp' ∧ Same S1 S' ∧ DqAll K S' accV accD ∧ accD.length ≤ i + 1 ∧ noOwnB ρ' vs = true ∧ lcR g tt te vs (ds.drop (i + 1)) accD ρ' (fun ys ρ2 => QD (.lst ys) (unw ρ2 ρ1 vs)),
      fun H' q => ⟨_, by omega, rfl, by omega, q⟩, fun x H' hy => ?_⟩
    obtain ⟨d, S2, hd, R3, ss3, dp⟩ := wd.yld i H x H' _ S' _ _ _ hlt ss' R' hy
    have ed : ds.drop i = d :: ds.drop (i + 1) := by
      rw [List.drop_eq_getElem_cons hlt]
      rw [List.getElem?_eq_getElem hlt] at hd
      rw [Option.some.inj hd]
    rw [ed] at hl
    have hl2 : g d ρ' fun ρ1' => tt ρ1' (fun b ρ2 => match b with
      | true => te ρ2 (fun r ρ3 => isD r fun y => wipeK ρ3 vs fun ρ4 => lcR g tt te vs (ds.drop (i + 1)) (accD ++ [y]) ρ4 (fun ys ρ2 => QD (.lst ys) (unw ρ2 ρ1 vs))) noX
      | false => wipeK ρ2 vs fun ρ4 => lcR g tt te vs (ds.drop (i + 1)) accD ρ4 (fun ys ρ2 => QD (.lst ys) (unw ρ2 ρ1 vs))) noX := hl
    refine ⟨Γ.pin D (.lst accV), S2, ρ', fp', d, _, hio, R3, dp, hl2, fun S4 H4 σ4 ρ4 fp4 R4 ss4 hw q4 => ?_⟩
    have ew : wipe σ4 vs = wipe σ vs := by
      rw [hw vs his]
      apply List.ext_getElem?
      intro j
      by_cases hj : j < σ.length
      · by_cases hm : j ∈ vs
        · rw [wipe_get hm (by rw [wipe_length]; exact hj), wipe_get hm hj]
        · rw [wipe_out hm]
      · rw [List.getElem?_eq_none (by rw [wipe_length, wipe_length]; omega), List.getElem?_eq_none (by rw [wipe_length]; omega)]
    refine ⟨ew, Γ.pin D (.lst accV), S4, ρ4, fp4, _, noX, hio, R4, q4, fun S5 H5 b ρ5 fp5 R5 ss5 q5 => ?_, kx0⟩
    cases b with
    | true =>
      rw [if_pos rfl]
      refine ⟨Γ.pin D (.lst accV), S5, ρ5, fp5, _, noX, hio, R5, q5, fun S6 H6 y r ρ6 fp6 R6 ss6 ok6 q6 => ?_, kx0⟩
      obtain ⟨yd, rfl, q7⟩ := isD_get q6
      obtain ⟨no7, q8⟩ := wipeK_get q7
      obtain ⟨hpD, sD, gD, fp7, R7, f7⟩ := R6.unpin
      have ssA := ((ss3.trans ss4).trans ss5).trans ss6
      have R8 := (R7.pinAt sD gD f7 (.lst (accV ++ [y]))).wiped no7
      rw [ew] at R8
      refine ⟨accV, hpD, ?_, S6, wipeE ρ6 vs, _, accV ++ [y], accD ++ [yd], R8, ss'.trans ssA, dps_app (dps_up ssA _ _ hacc) (.cons ok6 .nil), by rw [List.length_append, List.length_singleton]; omega, noOwn_wipe no7, q8⟩
      rw [dps_len hacc]
      omega
    | false =>
      rw [if_neg Bool.false_ne_true]
      obtain ⟨no7, q8⟩ := wipeK_get q5
      have ssA := (ss3.trans ss4).trans ss5
      have R8 := R5.wiped no7
      rw [ew] at R8
      exact ⟨S5, wipeE ρ5 vs, _, accV, accD, R8, ss'.trans ssA, dps_up ssA _ _ hacc, by omega, noOwn_wipe no7, q8⟩
  · have e : i = ds.length := by omega
    subst e
    rw [List.drop_length] at hl
    obtain ⟨hpD, sD, gD, fp7, R7, f7⟩ := R'.unpin
    have R8 := R7.unwiped (ρ1 := ρ1) hnd no' fun v hv hvl => by
      have hv1 : v < ρ1.length := by rw [R1.len]; exact hvl
      have h3 := R1.ent v _ (List.getElem?_eq_getElem hv1)
      have e3 : ρ1.getD v .no = ρ1[v] := by rw [List.getD_eq_getElem?_getD, List.getElem?_eq_getElem hv1]; rfl
      have h4 : (ρ1.getD v .no).own = false := by
        unfold noOwnB at no1
        rw [List.all_eq_true] at no1
        simpa using no1 v hv
      rw [e3] at h4
      have h5 := h3.nofp h4
      rw [h5] at h3
      rw [e3]
      exact ⟨h3.up ss' fun b hb => absurd hb (by simp), h4⟩
    refine .inl ⟨wd.stop H (ss'.trans R'.sub), k S' H (.ref D) (.lst accD) _ fp7 [D] R8 (ss1.trans ss') ⟨⟨D, accV, rfl, rfl, hpD, hacc⟩, by simp, fun a ha => ?_⟩ hl⟩
    have z : a = D := by simpa using ha
    subst z
    exact ⟨sD, by rw [hpD]; exact Option.some_ne_none _, gD, f7⟩
variable {elt tg iter : Expr} {ifs : List Expr} {scope : Scope} {own : List (Str × Nat)} {pos : Pos} {is : List Nat} {fi : TXI} {g : TXG} {tt : TXT} {te : TX}
theorem xn_lc (hc : X.calm = true) (hN : X.N.Nodup) (hi : XI K W io X tg iter fi) (ok : BlkOk X.N X.env.scope scope own)
    (hg : ∀ (s : Shared) (H : Hp) (C : Addr) (cl : List (Str × Addr)) (fp : List Addr), XG K io is (X.blk s H scope (compEnvC scope cl C X.env) fp) tg g) (ht : ∀ (s : Shared) (H : Hp) (C : Addr) (cl : List (Str × Addr)) (fp : List Addr), XTs K W0 io (X.blk s H scope (compEnvC scope cl C X.env) fp) ifs tt)
    (he : ∀ (s : Shared) (H : Hp) (C : Addr) (cl : List (Str × Addr)) (fp : List Addr), XR K W0 io (X.blk s H scope (compEnvC scope cl C X.env) fp) elt te)
    (hnd : (own.map (·.2)).Nodup := by decide) (his : ∀ i ∈ is, i ∈ own.map (·.2) := by decide) (hs : ∀ x, foldedSetIterable iter X.env x = pure x := by intro _; rfl) :
    XN K W io X (.ListComp elt [⟨tg, iter, ifs, 0⟩] scope pos) (fLc fi g tt te (own.map (·.2))) :=
  XN.mk (pe_lc hc hN hi ok hg ht he hs) (lc_run hnd his)
end
end L3

namespace L3
open PySem PySem.Spec PyProof.Rows L2

/-! ### statements -/
structure DE where
  nx : List E → Prop
  rt : E → List E → Prop
  bk : List E → Prop := fun _ => False
  ct : List E → Prop := fun _ => False
  ex : XC := fun _ _ => False
abbrev TXS := DE → List E → Prop
structure RetOk (K : PySem.W.Frag) (Γ : Gam) (S H : Hp) (fp : Nat → List Addr) (v : V) (e : E) (fpn : List Addr) : Prop where
  ent : EntOk K S H (some v) e fpn
  nd : fpn.Nodup
  new : ∀ a ∈ fpn, S a = none ∧ H a ≠ none ∧ Γ.H a = none ∧ ∀ i ∈ Γ.io, a ∉ fp i
structure KS (K : PySem.W.Frag) (W : WX) (Γ : Gam) (DD : DE) (D : Ends) : Prop where
  nx : ∀ S H σ ρ fp, Rel K Γ S H σ ρ fp → DD.nx ρ → D.nx σ H
  rt : ∀ S H σ ρ fp v e fpn, Rel K Γ S H σ ρ fp → RetOk K Γ S H fp v e fpn → DD.rt e ρ → D.rt v H
  bk : ∀ S H σ ρ fp, Rel K Γ S H σ ρ fp → DD.bk ρ → D.bk σ H
  ct : ∀ S H σ ρ fp, Rel K Γ S H σ ρ fp → DD.ct ρ → D.ct σ H
  ex : ∀ S H σ ρ fp cls, Rel K Γ S H σ ρ fp → DD.ex cls ρ → W cls none σ H
def liftS (K : PySem.W.Frag) (W : WX) (io : List Nat) (T : TXS) : TS := fun D σ H => ∃ Γ S ρ fp DD, Γ.io = io ∧ Rel K Γ S H σ ρ fp ∧ T DD ρ ∧ KS K W Γ DD D
abbrev XS (K : PySem.W.Frag) (W : WX) (io : List Nat) (X : Cx) (st : Stmt) (T : TXS) : Prop := PS X st (liftS K W io T)
abbrev XSs (K : PySem.W.Frag) (W : WX) (io : List Nat) (X : Cx) (st : List Stmt) (T : TXS) : Prop := PSs X st (liftS K W io T)
section
variable {K : PySem.W.Frag} {W : WX} {Γ : Gam} {DD : DE} {D : Ends}
theorem KS.kx (k : KS K W Γ DD D) {σ : St} {S : Hp} : KX K W Γ σ S DD.ex := fun S' H' cls ρ' fp' R _ e => k.ex S' H' σ ρ' fp' cls R e
end
section
variable {X : Cx} {K : PySem.W.Frag} {W : WX} {io : List Nat} {st : Stmt} {sts : List Stmt} {e : Expr} {pos : Pos}
theorem XS.mk {t : TS} {T : TXS} (h : PS X st t) (hw : ∀ Γ S H σ ρ fp DD D, Γ.io = io → Rel K Γ S H σ ρ fp → T DD ρ → KS K W Γ DD D → t D σ H) : XS K W io X st T :=
  ⟨fun pins s σ H D I ⟨Γ, S, ρ, fp, DD, hio, R, hT, k⟩ => h.run pins s σ H D I (hw Γ S H σ ρ fp DD D hio R hT k)⟩
theorem XSs.mk {t : TS} {T : TXS} (h : PSs X sts t) (hw : ∀ Γ S H σ ρ fp DD D, Γ.io = io → Rel K Γ S H σ ρ fp → T DD ρ → KS K W Γ DD D → t D σ H) : XSs K W io X sts T :=
  ⟨fun pins s σ H D I ⟨Γ, S, ρ, fp, DD, hio, R, hT, k⟩ => h.run pins s σ H D I (hw Γ S H σ ρ fp DD D hio R hT k)⟩
def sNil : TXS := fun DD ρ => DD.nx ρ
def sSeq (T U : TXS) : TXS := fun DD ρ => T { DD with nx := fun ρ' => U DD ρ' } ρ
theorem xss_nil : XSs K W io X [] sNil := XSs.mk pss_nil fun Γ S H σ ρ fp DD D hio R hT k => k.nx S H σ ρ fp R hT
theorem xss_cons {T U : TXS} (h : XS K W io X st T) (h2 : XSs K W io X sts U) : XSs K W io X (st :: sts) (sSeq T U) :=
  XSs.mk (pss_cons h h2) fun Γ S H σ ρ fp DD D hio R hT k => ⟨Γ, S, ρ, fp, _, hio, R, hT, ⟨fun S' H' σ' ρ' fp' R' q => ⟨Γ, S', ρ', fp', DD, hio, R', q, k⟩, k.rt, k.bk, k.ct, k.ex⟩⟩
theorem xss_one {T : TXS} (h : XS K W io X st T) : XSs K W io X [st] T := pss_one h
def sBrk : TXS := fun DD ρ => DD.bk ρ
def sCt : TXS := fun DD ρ => DD.ct ρ
theorem xs_pass : XS K W io X (.Pass pos) sNil := XS.mk ps_pass fun Γ S H σ ρ fp DD D hio R hT k => k.nx S H σ ρ fp R hT
theorem xs_break : XS K W io X (.Break pos) sBrk := XS.mk ps_break fun Γ S H σ ρ fp DD D hio R hT k => k.bk S H σ ρ fp R hT
theorem xs_cont : XS K W io X (.Continue pos) sCt := XS.mk ps_continue fun Γ S H σ ρ fp DD D hio R hT k => k.ct S H σ ρ fp R hT
def sNever : TXS := fun _ _ => False
theorem xs_never : XS K W io X st sNever := XS.mk ps_never fun Γ S H σ ρ fp DD D hio R hT k => hT.elim
def sExpr (f : TXN) : TXS := fun DD ρ => f ρ (fun _ ρ1 => DD.nx ρ1) DD.ex
theorem xs_expr {f : TXN} (h : XN K W io X e f) (hs : swapsWith e none pos.line X.env = pure false := by rfl) : XS K W io X (.Expr e pos) (sExpr f) :=
  XS.mk (ps_expr h hs) fun Γ S H σ ρ fp DD D hio R hT k => ⟨Γ, S, ρ, fp, _, DD.ex, hio, R, hT, fun S' H' v en ρ' fp' fpn R' ss nw q => k.nx S' H' σ ρ' fp' R' q, k.kx⟩
def sExprR (f : TX) : TXS := fun DD ρ => f ρ (fun _ ρ1 => DD.nx ρ1) DD.ex
theorem xs_exprR {f : TX} (h : XR K W io X e f) (hs : swapsWith e none pos.line X.env = pure false := by rfl) : XS K W io X (.Expr e pos) (sExprR f) :=
  XS.mk (ps_expr h hs) fun Γ S H σ ρ fp DD D hio R hT k => ⟨Γ, S, ρ, fp, _, DD.ex, hio, R, hT, fun S' H' v r ρ' fp' R' ss ok q => k.nx S' H' σ ρ' fp' R' q, k.kx⟩
/-- data as a new thing -/
def fOf (f : TX) : TXN := fun ρ Q Ex => f ρ (fun r ρ1 => isD r fun d => Q (.dat d) ρ1) Ex
theorem xn_of {f : TX} (h : XR K W io X e f) : XN K W io X e (fOf f) :=
  XN.mk h fun Γ S H σ ρ fp QD Ex Q hio R hf k kx => ⟨Γ, S, ρ, fp, _, Ex, hio, R, hf, fun S1 H1 v r ρ1 fp1 R1 ss ok q => by
    obtain ⟨d, rfl, q1⟩ := isD_get q
    exact k S1 H1 v (.dat d) ρ1 fp1 [] R1 ss (new_dat ok) q1, kx⟩
/-! return -/
def sRet (f : TXN) : TXS := fun DD ρ => f ρ (fun e ρ1 => DD.rt e ρ1) DD.ex
theorem xs_ret {f : TXN} (h : XN K W io X e f) : XS K W io X (.Return (some e) pos) (sRet f) :=
  XS.mk (ps_ret h) fun Γ S H σ ρ fp DD D hio R hT k => ⟨Γ, S, ρ, fp, _, DD.ex, hio, R, hT, fun S' H' v en ρ' fp' fpn R' ss nw q => k.rt S' H' σ ρ' fp' v en fpn R' ⟨nw.ent, nw.nd, fun a ha => ⟨(nw.new a ha).1, (nw.new a ha).2.1, (nw.new a ha).2.2.1, fun i _ => (nw.new a ha).2.2.2 i⟩⟩ q, k.kx⟩
/-- return of a name: what its slot holds is handed out -/
def sRetName (f : TX) : TXS := fun DD ρ => f ρ (fun r ρ1 => match r with
  | .dat d => DD.rt (.dat d) ρ1
  | .bor i => (ρ1.getD i .no ≠ .no) ∧ DD.rt (ρ1.getD i .no) ρ1) DD.ex
theorem xs_retName {i : Nat} {x : Str} {p : Pos} (hi : i ∉ io := by decide) (hN : X.N[i]? = some x := by rfl) (hv : Vis X.env.scope x := by first | exact Or.inl rfl | exact Or.inr (Or.inl rfl) | exact Or.inr (Or.inr rfl)) (hd : (x == ("__debug__" : Str)) = false := by decide)
    (hcd : (x == ("__classdict__" : Str)) = false := by decide) : XS K W io X (.Return (some (.Name x p)) pos) (fun DD ρ => ρ.getD i .no ≠ .no ∧ DD.rt (ρ.getD i .no) ρ) := by
  refine XS.mk (ps_ret (pe_var hN hv hd hcd)) fun Γ S H σ ρ fp DD D hio R hT k => ?_
  have hi2 := getD_some (ρ := ρ) (i := i) rfl hT.1
  have hent := R.ent i _ hi2
  have hs : i < σ.length := by rw [← R.len]; exact (List.getElem?_eq_some_iff.mp hi2).1
  have ex : ∃ v, σ[i]? = some (some v) := by
    rw [List.getD_eq_getElem?_getD, List.getElem?_eq_getElem hs] at hent
    cases q : (ρ.getD i .no).own with
    | true =>
      obtain ⟨a, h1, _⟩ := hent.ofSome q
      exact ⟨.ref a, by rw [List.getElem?_eq_getElem hs]; exact congrArg some h1⟩
    | false =>
      cases q2 : ρ.getD i .no with
      | dat d =>
        rw [q2] at hent
        obtain ⟨_, v, h1, _⟩ := hent
        exact ⟨v, by rw [List.getElem?_eq_getElem hs]; exact congrArg some h1⟩
      | no => exact absurd q2 hT.1
      | val u =>
        rw [q2] at hent
        exact ⟨u, by rw [List.getElem?_eq_getElem hs]; exact congrArg some hent.2⟩
      | _ => rw [q2] at q; cases q
  obtain ⟨v, hv2⟩ := ex
  have hent2 := R.slot hi2 hv2
  refine ⟨v, hv2, k.rt S H σ ρ fp v _ (fp i) R ⟨hent2, R.nd i, fun a ha => ⟨(R.hide i a ha).1, (R.hide i a ha).2.1, R.new i (by rw [hio]; exact hi) a ha, fun j hj hm => ?_⟩⟩ hT.2⟩
  have z := R.dis j i a hm ha
  rw [hio] at hj
  exact hi (z ▸ hj)
theorem xs_retN : XS K W io X (.Return none pos) (fun DD ρ => DD.rt (.dat .none) ρ) :=
  XS.mk ps_retN fun Γ S H σ ρ fp DD D hio R hT k => k.rt S H σ ρ fp .non (.dat .none) [] R ⟨⟨rfl, _, rfl, .non⟩, List.nodup_nil, fun _ z => absurd z (by simp)⟩ hT
/-! if -/
def sIf (c : TXT) (T U : TXS) : TXS := fun DD ρ => c ρ (fun b ρ1 => if b = true then T DD ρ1 else U DD ρ1) DD.ex
theorem xs_if {c : Expr} {a b : List Stmt} {fc : TXT} {T U : TXS} (hc : XT K W io X c fc) (ha : XSs K W io X a T) (hb : XSs K W io X b U) : XS K W io X (.If c a b pos) (sIf fc T U) :=
  XS.mk (ps_if hc ha hb) fun Γ S H σ ρ fp DD D hio R hT k => ⟨Γ, S, ρ, fp, _, DD.ex, hio, R, hT, fun S1 H1 b ρ1 fp1 R1 ss q => by
    cases b with
    | true =>
      rw [if_pos rfl] at q
      refine (if_pos rfl).mpr ?_
      exact ⟨Γ, S1, ρ1, fp1, DD, hio, R1, q, k⟩
    | false =>
      rw [if_neg Bool.false_ne_true] at q
      refine (if_neg Bool.false_ne_true).mpr ?_
      exact ⟨Γ, S1, ρ1, fp1, DD, hio, R1, q, k⟩, k.kx⟩
/-! stores -/
def sSet (i : Nat) (f : TXN) : TXS := fun DD ρ => f ρ (fun e ρ1 => DD.nx (ρ1.set i e)) DD.ex
theorem Rel.asgN {Γ : Gam} {S H : Hp} {σ : St} {ρ : List E} {fp fp1 : Nat → List Addr} {v : V} {en : E} {fpn : List Addr} (R : Rel K Γ S H σ ρ fp) {i : Nat} (hil : i < ρ.length) (hio : i ∉ Γ.io) (n : NewOk K Γ S H fp v en fpn) :
    Rel K Γ S H (σ.set i (some v)) (ρ.set i en) (fun j => if j = i then fpn else fp j) := R.asg hil hio n.ent n.nd fun a ha => ⟨(n.new a ha).1, (n.new a ha).2.1, (n.new a ha).2.2.1, fun j _ => (n.new a ha).2.2.2 j⟩
theorem nlen {pins : List (Addr × Obj)} {σ : St} {H : Hp} {s : Shared} (I : Inv X pins σ H s) {i : Nat} {x : Str} (hi : X.N[i]? = some x) : i < σ.length := by rw [I.len]; exact (List.getElem?_eq_some_iff.mp hi).1
theorem xs_set {i : Nat} {x : Str} {f : TXN} {pos' : Pos} (hN : X.N.Nodup) (hi : X.N[i]? = some x) (hx : Loc X.env.scope x) (he : XN K W io X e f) (hio : i ∉ io := by decide) (hs : swapsWith e (some (.Name x pos')) pos.line X.env = pure false := by rfl) (hf : X.fn x = true ∨ X.env.scope.names.lookup x = some .local := by first | exact .inl rfl | exact .inr rfl | assumption) :
    XS K W io X (.Assign [.Name x pos'] e pos) (sSet i f) := by
  have h := ps_set (pos' := pos') (pos := pos) hN hi hx he hs hf
  refine ⟨fun pins s σ H D I ⟨Γ, S, ρ, fp, DD, ho, R, hT, k⟩ => h.run pins s σ H D I ⟨Γ, S, ρ, fp, _, DD.ex, ho, R, hT, fun S1 H1 v en ρ1 fp1 fpn R1 ss nw q => ?_, k.kx⟩⟩
  exact k.nx S1 H1 _ _ _ (R1.asgN (fp1 := fp1) (by rw [R1.len]; exact nlen I hi) (by rw [ho]; exact hio) nw) q
theorem xs_setLc {i : Nat} {y : Str} {py : Pos} {elt tg iter : Expr} {ifs : List Expr} {scope : Scope} {own : List (Str × Nat)} {spos : Pos} {is : List Nat} {fi : TXI} {g : TXG} {tt : TXT} {te : TX}
    (hc : X.calm = true) (hN : X.N.Nodup) (hy : X.N[i]? = some y) (hyl : X.env.scope.names.lookup y = some .local) (hsw : swapsWith (.ListComp elt [⟨tg, iter, ifs, 0⟩] scope pos) (some (.Name y py)) spos.line X.env = pure true)
    (hi : XI K W io X tg iter fi) (ok : BlkOk X.N X.env.scope scope own)
    (hg : ∀ (s : Shared) (H : Hp) (C : Addr) (cl : List (Str × Addr)) (fp : List Addr), XG K io is (X.blk s H scope (compEnvC scope cl C X.env) fp) tg g) (ht : ∀ (s : Shared) (H : Hp) (C : Addr) (cl : List (Str × Addr)) (fp : List Addr), XTs K W0 io (X.blk s H scope (compEnvC scope cl C X.env) fp) ifs tt)
    (he : ∀ (s : Shared) (H : Hp) (C : Addr) (cl : List (Str × Addr)) (fp : List Addr), XR K W0 io (X.blk s H scope (compEnvC scope cl C X.env) fp) elt te) (hio : i ∉ io := by decide)
    (hnd : (own.map (·.2)).Nodup := by decide) (his : ∀ j ∈ is, j ∈ own.map (·.2) := by decide) (hs : ∀ x, foldedSetIterable iter X.env x = pure x := by intro _; rfl) :
    XS K W io X (.Assign [.Name y py] (.ListComp elt [⟨tg, iter, ifs, 0⟩] scope pos) spos) (sSet i (fLc fi g tt te (own.map (·.2)))) := by
  have h := ps_setLc (pos := pos) (spos := spos) hc hN hy hyl hsw hi ok hg ht he hs
  refine ⟨fun pins s σ H D I ⟨Γ, S, ρ, fp, DD, ho, R, hT, k⟩ => h.run pins s σ H D I ?_⟩
  show tLc _ _ _ _ _ σ H (fun x H1 => D.nx (σ.set i (some x)) H1)
  refine lc_run (W := W) hnd his Γ S H σ ρ fp (fun en ρ1 => DD.nx (ρ1.set i en)) DD.ex _ ho R hT (fun S1 H1 v en ρ1 fp1 fpn R1 ss nw q => ?_) k.kx
  exact k.nx S1 H1 _ _ _ (R1.asgN (fp1 := fp1) (by rw [R1.len]; exact nlen I hy) (by rw [ho]; exact hio) nw) q
def sAsg (f : TX) (g : TXG) : TXS := fun DD ρ => f ρ (fun r ρ1 => isD r fun d => g d ρ1 DD.nx) DD.ex
theorem xs_asg {tg : Expr} {f : TX} {g : TXG} {is : List Nat} (he : XR K W io X e f) (hg : XG K io is X tg g) (hs : swapsWithSole [tg] e pos.line X.env = pure false := by rfl) (hw : swappedStores [tg] e X.env = pure none := by rfl)
    (h1 : (assignEach [tg] X.env).map (·.2) = [assign tg X.env] := by rfl) : XS K W io X (.Assign [tg] e pos) (sAsg f g) :=
  XS.mk (ps_asg he hg hs hw h1) fun Γ S H σ ρ fp DD D hio R hT k => ⟨Γ, S, ρ, fp, _, DD.ex, hio, R, hT, fun S1 H1 v r ρ1 fp1 R1 ss ok q => by
    obtain ⟨d, rfl, q1⟩ := isD_get q
    exact ⟨Γ, S1, ρ1, fp1, d, _, hio, R1, ok, q1, fun S2 H2 σ2 ρ2 fp2 R2 ss2 _ q2 => k.nx S2 H2 σ2 ρ2 fp2 R2 q2⟩, k.kx⟩
def sPar (i j : Nat) (f : TXA) : TXS := fun DD ρ => f ρ (fun rs ρ1 => areD rs fun ds => match ds with
  | [a, b] => DD.nx ((ρ1.set i (.dat a)).set j (.dat b))
  | _ => False) DD.ex
theorem xs_par {i j n : Nat} {x y : Str} {a b : Expr} {f : TXA} {px py pt : Pos} {kt k2 pt2} (hc : X.calm = true) (hN : X.N.Nodup) (hi : X.N[i]? = some x) (hj : X.N[j]? = some y) (hij : i ≠ j)
    (hx : X.env.scope.names.lookup x = some .local) (hy : X.env.scope.names.lookup y = some .local) (ha : XA K W io X [a, b] n f) (hio : i ∉ io ∧ j ∉ io := by decide)
    (hw : swappedStores [.Tuple [.Name x px, .Name y py] kt pt] (.Tuple [a, b] k2 pt2) X.env = pure (some [x, y]) := by rfl)
    (hs : swapsWithSole [.Tuple [.Name x px, .Name y py] kt pt] (.Tuple [a, b] k2 pt2) pos.line X.env = pure false := by rfl) :
    XS K W io X (.Assign [.Tuple [.Name x px, .Name y py] kt pt] (.Tuple [a, b] k2 pt2) pos) (sPar i j f) := by
  have h := ps_par (pos := pos) hc hN hi hj hij hx hy ha hw hs
  refine ⟨fun pins s σ H D I ⟨Γ, S, ρ, fp, DD, ho, R, hT, k⟩ => h.run pins s σ H D I ⟨Γ, S, ρ, fp, _, DD.ex, ho, R, hT, fun S1 H1 vs rs ρ1 fp1 R1 ss ok hl q => ?_, k.kx⟩⟩
  obtain ⟨ds, h2, h3, h4⟩ := areD_get q ok
  split at h4
  · cases h2 with
    | cons d1 t =>
      cases t with
      | cons d2 t =>
        cases t
        have l1 : i < ρ1.length := by rw [R1.len]; exact nlen I hi
        have l2 : j < ρ1.length := by rw [R1.len]; exact nlen I hj
        exact ⟨_, _, rfl, k.nx S1 H1 _ _ _ ((R1.asgD l1 (by rw [ho]; exact hio.1) d1).asgD (by rw [List.length_set]; exact l2) (by rw [ho]; exact hio.2) d2) h4⟩
  · exact h4.elim
def sPar3 (i j l : Nat) (f : TXA) : TXS := fun DD ρ => f ρ (fun rs ρ1 => areD rs fun ds => match ds with
  | [a, b, c] => DD.nx (((ρ1.set i (.dat a)).set j (.dat b)).set l (.dat c))
  | _ => False) DD.ex
theorem xs_par3 {i j l n : Nat} {x y z : Str} {a b c : Expr} {f : TXA} {px py pz pt : Pos} {kt k2 pt2} (hc : X.calm = true) (hN : X.N.Nodup) (hi : X.N[i]? = some x) (hj : X.N[j]? = some y) (hl : X.N[l]? = some z) (hij : i ≠ j) (hil : i ≠ l) (hjl : j ≠ l)
    (hx : X.env.scope.names.lookup x = some .local) (hy : X.env.scope.names.lookup y = some .local) (hz : X.env.scope.names.lookup z = some .local) (ha : XA K W io X [a, b, c] n f) (hio : i ∉ io ∧ j ∉ io ∧ l ∉ io := by decide)
    (hw : swappedStores [.Tuple [.Name x px, .Name y py, .Name z pz] kt pt] (.Tuple [a, b, c] k2 pt2) X.env = pure (some [x, y, z]) := by rfl)
    (hs : swapsWithSole [.Tuple [.Name x px, .Name y py, .Name z pz] kt pt] (.Tuple [a, b, c] k2 pt2) pos.line X.env = pure false := by rfl) :
    XS K W io X (.Assign [.Tuple [.Name x px, .Name y py, .Name z pz] kt pt] (.Tuple [a, b, c] k2 pt2) pos) (sPar3 i j l f) := by
  have h := ps_par3 (pos := pos) hc hN hi hj hl hij hil hjl hx hy hz ha hw hs
  refine ⟨fun pins s σ H D I ⟨Γ, S, ρ, fp, DD, ho, R, hT, k⟩ => h.run pins s σ H D I ⟨Γ, S, ρ, fp, _, DD.ex, ho, R, hT, fun S1 H1 vs rs ρ1 fp1 R1 ss ok hl' q => ?_, k.kx⟩⟩
  obtain ⟨ds, h2, h3, h4⟩ := areD_get q ok
  split at h4
  · cases h2 with
    | cons d1 t =>
      cases t with
      | cons d2 t =>
        cases t with
        | cons d3 t =>
          cases t
          have l1 : i < ρ1.length := by rw [R1.len]; exact nlen I hi
          have l2 : j < ρ1.length := by rw [R1.len]; exact nlen I hj
          have l3 : l < ρ1.length := by rw [R1.len]; exact nlen I hl
          exact ⟨_, _, _, rfl, k.nx S1 H1 _ _ _ (((R1.asgD l1 (by rw [ho]; exact hio.1) d1).asgD (by rw [List.length_set]; exact l2) (by rw [ho]; exact hio.2.1) d2).asgD (by rw [List.length_set, List.length_set]; exact l3) (by rw [ho]; exact hio.2.2) d3) h4⟩
  · exact h4.elim
/-- xs[i] = e, xs own -/
def sSub (fe fo fi : TX) : TXS := fun DD ρ => fe ρ (fun re ρ1 => isD re fun d => fo ρ1 (fun ro ρ2 => isBor ro fun j => fi ρ2 (fun ri ρ3 => isD ri fun z => isLst (ρ3.getD j .no) fun ds => match z with
  | .int i => ∃ m, ixN ds.length i = some m ∧ DD.nx (ρ3.set j (.lst (ds.set m d)))
  | _ => False) DD.ex) DD.ex) DD.ex
theorem xs_sub {o i : Expr} {fe fo fi : TX} {spos : Pos} (he : XR K W io X e fe) (ho : XR K W io X o fo) (hi : XR K W io X i fi)
    (ha : ∀ v, assign (.Subscript o i spos) X.env v = (do
      let ov ← holding [v] (eval o X.env)
      let iv ← holding [v, ov] (eval i X.env)
      standAt spos
      holding [v, ov, iv] (setItem ov iv v)
      release [v, ov, iv] []) := by intro _; rfl)
    (hs : swapsWithSole [.Subscript o i spos] e pos.line X.env = pure false := by rfl) (hw : swappedStores [.Subscript o i spos] e X.env = pure none := by rfl)
    (h1 : (assignEach [.Subscript o i spos] X.env).map (·.2) = [assign (.Subscript o i spos) X.env] := by rfl) : XS K W io X (.Assign [.Subscript o i spos] e pos) (sSub fe fo fi) :=
  XS.mk (ps_asg he (pg_sub ho hi set_list ha) hs hw h1) fun Γ S H σ ρ fp DD D hio R hT k => ⟨Γ, S, ρ, fp, _, DD.ex, hio, R, hT, fun S1 H1 v r ρ1 fp1 R1 ss1 ok1 q => by
    obtain ⟨d, rfl, q1⟩ := isD_get q
    refine ⟨Γ, S1, ρ1, fp1, _, DD.ex, hio, R1, q1, fun S2 H2 w r2 ρ2 fp2 R2 ss2 ok2 q2 => ?_, k.kx⟩
    obtain ⟨j, rfl, q3⟩ := isBor_get q2
    refine ⟨Γ, S2, ρ2, fp2, _, DD.ex, hio, R2, q3, fun S3 H3 u r3 ρ3 fp3 R3 ss3 ok3 q4 => ?_, k.kx⟩
    obtain ⟨z, rfl, q5⟩ := isD_get q4
    obtain ⟨ds, e0, q6⟩ := isLst_get q5
    obtain ⟨a, xs, rfl, f1, g1, dp⟩ := R3.lstAt e0 ok2
    cases z with
    | int iz =>
      obtain ⟨m, hm, q7⟩ := q6
      cases ok3
      obtain ⟨fp4, R4⟩ := R3.setL (ds' := ds.set m d) (xs' := xs.set m v) e0 ok2 f1 g1 (dps_set (ok1.up (ss2.trans ss3)) m dp)
      exact ⟨a, xs, iz, m, rfl, rfl, g1, by rw [dps_len dp]; exact hm, k.nx _ _ _ _ _ R4 q7⟩
    | _ => exact q6.elim, k.kx⟩

/-! ### loops -/
def Gam.from (Γ : Gam) (S : Hp) : Gam := { Γ with S := S }
theorem Rel.from {Γ : Gam} {S H : Hp} {σ : St} {ρ : List E} {fp : Nat → List Addr} (R : Rel K Γ S H σ ρ fp) : Rel K (Γ.from S) S H σ ρ fp :=
  ⟨R.sub, Same.refl _, fun _ _ h => h, R.kept, R.dom, R.len, R.ent, R.out, R.hide, R.nd, R.dis, R.io, R.new⟩
theorem Rel.back {Γ : Gam} {S4 H4 S H : Hp} {σ4 σ : St} {ρ4 ρ : List E} {fp4 fp : Nat → List Addr} (R4 : Rel K Γ S4 H4 σ4 ρ4 fp4) (R : Rel K (Γ.from S4) S H σ ρ fp) : Rel K Γ S H σ ρ fp :=
  ⟨R.sub, R4.mono.trans R.mono, fun b h1 h2 => R.hid b h1 (R4.hid b h1 h2), R.kept, R.dom, R.len, R.ent, R.out, R.hide, R.nd, R.dis, R.io, R.new⟩
def forR (g : TXG) (tb : TXS) : List PyData → DE → List E → Prop
  | [], DD, ρ => DD.nx ρ
  | d :: ds, DD, ρ => g d ρ fun ρ1 => tb { DD with nx := fun ρ2 => forR g tb ds DD ρ2, ct := fun ρ2 => forR g tb ds DD ρ2, bk := DD.nx } ρ1
def sFor (fi : TXI) (g : TXG) (tb : TXS) : TXS := fun DD ρ => fi ρ (fun ds ρ1 => forR g tb ds DD ρ1) DD.ex
theorem xs_for {tg iter : Expr} {body : List Stmt} {fi : TXI} {g : TXG} {tb : TXS} {is : List Nat} (hp : PassesOwn (model X.prog X.w) X.A X.env X.xe) (hc : X.calm = true) (hi : XI K W io X tg iter fi) (hg : XG K io is X tg g) (hb : XSs K W io X body tb)
    (hs : ∀ x, foldedSetIterable iter X.env x = pure x := by intro _; rfl) : XS K W io X (.For tg iter body [] pos) (sFor fi g tb) :=
  XS.mk (ps_for hp hc hi hg hb hs) fun Γ S H σ ρ fp DD D hio R hT k => ⟨Γ, S, ρ, fp, _, DD.ex, hio, R, hT, fun S1 H1 J ds ρ1 fp1 R1 ss1 wd h1 => by
    refine ⟨fun i m σ H => m = ds.length - i ∧ i ≤ ds.length ∧ ∃ S' ρ' fp', Rel K Γ S' H σ ρ' fp' ∧ Same S1 S' ∧ forR g tb (ds.drop i) DD ρ', ⟨_, rfl, Nat.zero_le _, S1, ρ1, fp1, R1, Same.refl _, h1⟩, ?_⟩
    rintro i m σ H ⟨rfl, hil, S', ρ', fp', R', ss', hf⟩
    by_cases hlt : i < ds.length
    · refine .inr ⟨wd.go i H hlt (ss'.trans R'.sub), fun σ' H' => ∃ S'' ρ'' fp'', Rel K Γ S'' H' σ' ρ'' fp'' ∧ Same S1 S'' ∧ forR g tb (ds.drop (i + 1)) DD ρ'', fun σ' H' q => ⟨_, by omega, rfl, by omega, q⟩, fun x H' hy => ?_⟩
      obtain ⟨d, S2, hd, R3, ss3, dp⟩ := wd.yld i H x H' _ S' _ _ _ hlt ss' R' hy
      have ed : ds.drop i = d :: ds.drop (i + 1) := by
        rw [List.drop_eq_getElem_cons hlt]
        rw [List.getElem?_eq_getElem hlt] at hd
        rw [Option.some.inj hd]
      rw [ed] at hf
      refine ⟨Γ, S2, ρ', fp', d, _, hio, R3, dp, hf, fun S4 H4 σ4 ρ4 fp4 R4 ss4 _ q4 => ?_⟩
      have ssx : Same S1 S4 := (ss'.trans ss3).trans ss4
      -- the body starts anew at this heap: what stays is told of S4
      refine ⟨Γ.from S4, S4, ρ4, fp4, _, hio, R4.from, q4, ⟨fun S5 H5 σ5 ρ5 fp5 R5 q5 => ⟨S5, ρ5, fp5, R4.back R5, ssx.trans R5.mono, q5⟩, fun S5 H5 σ5 ρ5 fp5 v en fpn R5 rk q5 => k.rt S5 H5 σ5 ρ5 fp5 v en fpn (R4.back R5) ⟨rk.ent, rk.nd, rk.new⟩ q5, fun S5 H5 σ5 ρ5 fp5 R5 q5 => k.nx S5 H5 σ5 ρ5 fp5 (R4.back R5) q5, fun S5 H5 σ5 ρ5 fp5 R5 q5 => ⟨S5, ρ5, fp5, R4.back R5, ssx.trans R5.mono, q5⟩, fun S5 H5 σ5 ρ5 fp5 cls R5 q5 => k.ex S5 H5 σ5 ρ5 fp5 cls (R4.back R5) q5⟩⟩
    · have e : i = ds.length := by omega
      subst e
      rw [List.drop_length] at hf
      exact .inl ⟨wd.stop H (ss'.trans R'.sub), k.nx S' H σ ρ' fp' R' hf⟩, k.kx⟩
def sWhile (c : TXT) (tb : TXS) : TXS := fun DD ρ => ∃ Wd : Nat → List E → Prop, (∃ m, Wd m ρ) ∧ ∀ m ρ, Wd m ρ → c ρ (fun b ρ1 => if b = true then tb { DD with nx := fun ρ2 => ∃ m', m' < m ∧ Wd m' ρ2, ct := fun ρ2 => ∃ m', m' < m ∧ Wd m' ρ2, bk := DD.nx } ρ1 else DD.nx ρ1) DD.ex
theorem xs_while {c : Expr} {body : List Stmt} {fc : TXT} {tb : TXS} (hp : PassesOwn (model X.prog X.w) X.A X.env X.xe) (hc : XT K W io X c fc) (hb : XSs K W io X body tb) : XS K W io X (.While c body [] pos) (sWhile fc tb) :=
  XS.mk (ps_while hp hc hb) fun Γ S H σ ρ fp DD D hio R hT k => by
    obtain ⟨Wd, ⟨m0, w0⟩, turn⟩ := hT
    refine ⟨fun m σ H => ∃ S' ρ' fp', Rel K Γ S' H σ ρ' fp' ∧ Wd m ρ', ⟨m0, S, ρ, fp, R, w0⟩, ?_⟩
    rintro m σ H ⟨S', ρ', fp', R', w'⟩
    refine ⟨Γ, S', ρ', fp', _, DD.ex, hio, R', turn m ρ' w', fun S1 H1 b ρ1 fp1 R1 ss q => ?_, k.kx⟩
    cases b with
    | true =>
      rw [if_pos rfl] at q ⊢
      exact ⟨fun σ' H' => ∃ m', m' < m ∧ ∃ S'' ρ'' fp'', Rel K Γ S'' H' σ' ρ'' fp'' ∧ Wd m' ρ'', fun σ' H' ⟨m', h1, h2⟩ => ⟨m', h1, h2⟩, Γ, S1, ρ1, fp1, _, hio, R1, q, ⟨fun S5 H5 σ5 ρ5 fp5 R5 ⟨m', h1, h2⟩ => ⟨m', h1, S5, ρ5, fp5, R5, h2⟩, k.rt, fun S5 H5 σ5 ρ5 fp5 R5 q5 => k.nx S5 H5 σ5 ρ5 fp5 R5 q5, fun S5 H5 σ5 ρ5 fp5 R5 ⟨m', h1, h2⟩ => ⟨m', h1, S5, ρ5, fp5, R5, h2⟩, k.ex⟩⟩
    | false =>
      rw [if_neg Bool.false_ne_true] at q ⊢
      exact k.nx S1 H1 σ ρ1 fp1 R1 q
end
end L3

namespace L3
open PySem PySem.Spec PyProof.Rows L2

/-! ### what a def promises of data -/
/-- arguments; what is wanted of the result and of what was lent; what is wanted of a raised class and of what was lent -/
abbrev DSp := List E → (E → List E → Prop) → (Value → List E → Prop) → Prop
structure CallIn (K : PySem.W.Frag) (io : List Nat) (vs : List V) (S H : Hp) (es : List E) (fp : Nat → List Addr) : Prop where
  sub : Same S H
  len : es.length = vs.length
  ent : ∀ (i : Nat) (e : E), es[i]? = some e → EntOk K S H vs[i]? e (fp i)
  out : ∀ i, es[i]? = none → fp i = []
  hide : ∀ i, ∀ a ∈ fp i, S a = none ∧ H a ≠ none
  nd : ∀ i, (fp i).Nodup
  dis : ∀ i j a, a ∈ fp i → a ∈ fp j → i = j
  lent : ∀ i ∈ io, ∃ e : E, es[i]? = some e ∧ e.own = true
  own : ∀ (i : Nat) (e : E), es[i]? = some e → e.own = true → i ∈ io
structure CallEnd (K : PySem.W.Frag) (io : List Nat) (vs : List V) (S H : Hp) (fp : Nat → List Addr) (S' H' : Hp) (outs : List E) (fpo : Nat → List Addr) : Prop where
  sub : Same S' H'
  mono : Same S S'
  hid : ∀ b, H b ≠ none → S b = none → S' b = none
  kept : ∀ b o, H b = some o → (∀ i, b ∉ fp i) → H' b = some o
  dom : ∀ b, H b ≠ none → H' b ≠ none
  len : outs.length = io.length
  ent : ∀ (k i : Nat), io[k]? = some i → ∃ e : E, outs[k]? = some e ∧ e.own = true ∧ EntOk K S' H' vs[i]? e (fpo i)
  hide : ∀ i ∈ io, ∀ a ∈ fpo i, S' a = none ∧ H' a ≠ none ∧ (a ∈ fp i ∨ H a = none)
  nd : ∀ i ∈ io, (fpo i).Nodup
  dis : ∀ i ∈ io, ∀ j ∈ io, ∀ a, a ∈ fpo i → a ∈ fpo j → i = j
structure CallRet (K : PySem.W.Frag) (io : List Nat) (H S' H' : Hp) (fpo : Nat → List Addr) (v : V) (e : E) (fpn : List Addr) : Prop where
  ent : EntOk K S' H' (some v) e fpn
  nd : fpn.Nodup
  new : ∀ a ∈ fpn, S' a = none ∧ H' a ≠ none ∧ H a = none ∧ ∀ i ∈ io, a ∉ fpo i
def toSp (K : PySem.W.Frag) (io : List Nat) (n : Nat) (dsp : DSp) : Sp := fun vs H Q Ex => vs.length = n ∧ ∃ S es fp post xp, CallIn K io vs S H es fp ∧ dsp es post xp ∧
  (∀ S' H' v e fpn outs fpo, CallEnd K io vs S H fp S' H' outs fpo → CallRet K io H S' H' fpo v e fpn → post e outs → Q v H') ∧
  (∀ S' H' cls outs fpo, CallEnd K io vs S H fp S' H' outs fpo → xp cls outs → Ex cls none H')
def outsOf (io : List Nat) (ρ : List E) : List E := io.map fun i => ρ.getD i .no

/-! ### a def by its body -/
theorem start_get {N : List Str} {vs : List V} {i : Nat} : (L2.start N vs).getD i none = vs[i]? := by
  unfold L2.start
  rw [List.getD_eq_getElem?_getD]
  by_cases h : i < vs.length
  · rw [List.getElem?_append_left (by simpa using h), List.getElem?_map, List.getElem?_eq_getElem h]
    rfl
  · rw [List.getElem?_append_right (by simpa using h), List.getElem?_replicate, List.getElem?_eq_none (by omega)]
    split <;> rfl
def startE (N n : Nat) (es : List E) : List E := es ++ List.replicate (N - n) .no
section
variable {P : Program} {w : World} {K : PySem.W.Frag} {mg : Str → Option Value} {base : Heap}
/-- a body's start: what is asked of it by data -/
theorem okD_start {st : Stmt} {N ps : List Str} {io : List Nat} {dsp : DSp} {T : TXS} (Sc : FnScope N ps (defScope st)) (hio : ∀ i ∈ io, i < ps.length)
    (hT : ∀ es post xp, dsp es post xp → es.length = ps.length → T { nx := fun ρ => post (.dat .none) (outsOf io ρ), rt := fun e ρ => post e (outsOf io ρ), ex := fun cls ρ => xp cls (outsOf io ρ) } (startE N.length ps.length es))
    {vs : List V} {H : Hp} {Q : VK} {E : XK} (h : toSp K io ps.length dsp vs H Q E) : liftS K (fun cls d _ H => E cls d H) io T { nx := fun _ H' => Q .non H', rt := Q } (L2.start N vs) H := by
  obtain ⟨hn, S, es, fp, post, xp, ci, hd, kq, kx⟩ := h
  have hN : ps.length ≤ N.length := by have := congrArg List.length Sc.pre; rw [List.length_take] at this; omega
  have he : es.length = ps.length := ci.len.trans hn
  generalize hΓ : (⟨S, H, fp, io, fun i => vs.getD i .non, []⟩ : Gam) = Γ
  have es_get : ∀ i, (startE N.length ps.length es)[i]? = if i < ps.length then es[i]? else if i < N.length then some .no else none := fun i => by
    unfold startE
    by_cases h : i < ps.length
    · rw [if_pos h, List.getElem?_append_left (by omega)]
    · rw [if_neg h, List.getElem?_append_right (by omega), List.getElem?_replicate, he]
      by_cases h2 : i < N.length
      · rw [if_pos (by omega), if_pos h2]
      · rw [if_neg (by omega), if_neg h2]
  have R : Rel K Γ S H (L2.start N vs) (startE N.length ps.length es) fp := by
    subst hΓ
    refine ⟨ci.sub, Same.refl _, fun b _ h => h, fun b o h _ => h, fun b h => h, ?_, fun i e hi => ?_, fun i hi => ?_, fun i a ha => ⟨(ci.hide i a ha).1, (ci.hide i a ha).2, .inl ha⟩, ci.nd, ci.dis, fun i hi => ?_, fun i hi a ha => ?_⟩
    · unfold startE L2.start
      rw [List.length_append, List.length_replicate, List.length_append, List.length_map, List.length_replicate, he, hn]
    · rw [start_get]
      rw [es_get] at hi
      by_cases h : i < ps.length
      · rw [if_pos h] at hi; exact ci.ent i e hi
      · rw [if_neg h] at hi
        have hf : fp i = [] := ci.out i (List.getElem?_eq_none (by omega))
        by_cases h2 : i < N.length
        · rw [if_pos h2] at hi
          cases hi
          exact hf
        · rw [if_neg h2] at hi; cases hi
    · rw [es_get] at hi
      have h : ¬ i < ps.length := fun h => by
        rw [if_pos h, List.getElem?_eq_getElem (by omega)] at hi
        cases hi
      exact ci.out i (List.getElem?_eq_none (by omega))
    · obtain ⟨e, h1, h2⟩ := ci.lent i hi
      refine ⟨?_, e, by rw [es_get, if_pos (hio i hi)]; exact h1, h2⟩
      have hl : i < vs.length := by rw [hn]; exact hio i hi
      unfold L2.start
      rw [List.getElem?_append_left (by simpa using hl), List.getElem?_map, List.getElem?_eq_getElem hl]
      show some (some vs[i]) = some (some (vs.getD i .non))
      rw [List.getD_eq_getElem?_getD, List.getElem?_eq_getElem hl]
      rfl
    · by_cases h : i < ps.length
      · have hil : i < es.length := by omega
        have q : (es[i]).own = false := by
          cases z : (es[i]).own with
          | false => rfl
          | true => exact absurd (ci.own i _ (List.getElem?_eq_getElem hil) z) hi
        have h2 := (ci.ent i _ (List.getElem?_eq_getElem hil)).nofp q
        rw [h2] at ha
        simp at ha
      · rw [ci.out i (List.getElem?_eq_none (by omega))] at ha
        simp at ha
  have cend : ∀ S' H' σ' ρ' fp', Rel K Γ S' H' σ' ρ' fp' → CallEnd K io vs S H fp S' H' (outsOf io ρ') fp' := fun S' H' σ' ρ' fp' R' => by
    subst hΓ
    refine ⟨R'.sub, R'.mono, R'.hid, fun b o h1 h2 => R'.kept b o h1 h2, R'.dom, by unfold outsOf; rw [List.length_map], fun k' i hk => ?_, fun i hi a ha => R'.hide i a ha, fun i _ => R'.nd i, fun i _ j _ a h1 h2 => R'.dis i j a h1 h2⟩
    · have hi : i ∈ io := List.mem_of_getElem? hk
      obtain ⟨q1, e, q2, q3⟩ := R'.io i hi
      refine ⟨e, ?_, q3, ?_⟩
      · unfold outsOf
        rw [List.getElem?_map, hk]
        show some (ρ'.getD i .no) = some e
        rw [List.getD_eq_getElem?_getD, q2]
        rfl
      · have h := R'.slot q2 q1
        have hl : i < vs.length := by rw [hn]; exact hio i hi
        have ev : vs[i]? = some (vs.getD i .non) := by rw [List.getD_eq_getElem?_getD, List.getElem?_eq_getElem hl]; rfl
        rw [ev]
        exact h
  have hgio : Γ.io = io := by rw [← hΓ]
  have hgH : Γ.H = H := by rw [← hΓ]
  refine ⟨Γ, S, _, fp, _, hgio, R, hT es post xp hd he, ⟨fun S' H' σ' ρ' fp' R' q => ?_, fun S' H' σ' ρ' fp' v e fpn R' rk q => ?_, fun _ _ _ _ _ _ z => z.elim, fun _ _ _ _ _ _ z => z.elim, fun S' H' σ' ρ' fp' cls R' q => kx S' H' cls _ fp' (cend _ _ _ _ _ R') q⟩⟩
  · exact kq S' H' .non (.dat .none) [] _ fp' (cend _ _ _ _ _ R') ⟨⟨rfl, _, rfl, .non⟩, List.nodup_nil, fun _ z => absurd z (by simp)⟩ q
  · exact kq S' H' v e fpn _ fp' (cend _ _ _ _ _ R') ⟨rk.ent, rk.nd, fun a ha => by
      have z := rk.new a ha
      rw [hgH, hgio] at z
      exact z⟩ q
theorem Fun.okN {x qual : Str} {st : Stmt} {f : Addr} {fd : FuncData} {N ps : List Str} {k : Nat} {sp : Sp} (F : Fun K x qual st f fd) (S : FnScope N ps (defScope st)) (len : ∀ vs H Q E, sp vs H Q E → vs.length = ps.length)
    (hbody : ∀ (cdv : Value) (A : Around) (outer : List Env) (s : Shared) (H : Hp) (vs : List V) (Q : VK) (E : XK), Room k (A.deeper (envOfC qual (defScope st) s.heap.objs.size f cdv)) → sp vs H Q E →
      ∃ t, PSs (cxOf (L2N.CX P w) P w K mg base N qual (defScope st) f cdv A outer s H E) (defBody st) t ∧ t { nx := fun _ H' => Q .non H', rt := Q } (L2.start N vs) H) : FnOk P w K mg base (L2N.CX P w) (k + 1) f fd ps sp := by
  obtain ⟨_, _, _, _, _, _, cd, _, _, rfl, l1, l2⟩ := F.ex
  exact fn_of l1 l2 S len fun A outer s H vs Q E hr q => hbody cd A outer s H vs Q E hr q
theorem Fun.okD {x qual : Str} {st : Stmt} {f : Addr} {fd : FuncData} {N ps : List Str} {k : Nat} {io : List Nat} {dsp : DSp} {T : TXS} (F : Fun K x qual st f fd) (Sc : FnScope N ps (defScope st)) (hio : ∀ i ∈ io, i < ps.length)
    (hbody : ∀ (cdv : Value) (A : Around) (outer : List Env) (s : Shared) (H : Hp) (E : XK), Room k (A.deeper (envOfC qual (defScope st) s.heap.objs.size f cdv)) →
      XSs K (fun cls d _ H => E cls d H) io (cxOf (L2N.CX P w) P w K mg base N qual (defScope st) f cdv A outer s H E) (defBody st) T)
    (hT : ∀ es post xp, dsp es post xp → es.length = ps.length → T { nx := fun ρ => post (.dat .none) (outsOf io ρ), rt := fun e ρ => post e (outsOf io ρ), ex := fun cls ρ => xp cls (outsOf io ρ) } (startE N.length ps.length es)) :
    FnOk P w K mg base (L2N.CX P w) (k + 1) f fd ps (toSp K io ps.length dsp) :=
  Fun.okN F Sc (fun vs H Q E h => h.1) (fun cdv A outer s H vs Q E hr h => ⟨_, hbody cdv A outer s H E hr, okD_start Sc hio hT h⟩)
end

/-! ### calls of one's own defs -/
/-- a def of the module that keeps a promise of data -/
structure Has (P : Program) (w : World) (K : PySem.W.Frag) (mg : Str → Option Value) (base : Heap) (x : Str) (k : Nat) (ps : List Str) (io : List Nat) (dsp : DSp) : Prop where
  ex : ∃ f fd, mg x = some (.ref f) ∧ PySem.W.keepIn K (.ref f) = true ∧ Binds K fd ps [] ∧ FnOk P w K mg base (L2N.CX P w) k f fd ps (toSp K io ps.length dsp)
theorem Has.mono {P : Program} {w : World} {K : PySem.W.Frag} {mg : Str → Option Value} {base : Heap} {x : Str} {j k : Nat} {ps : List Str} {io : List Nat} {dsp : DSp} (h : Has P w K mg base x j ps io dsp) (hj : j ≤ k) : Has P w K mg base x k ps io dsp :=
  ⟨let ⟨f, fd, a, b, c, d⟩ := h.ex; ⟨f, fd, a, b, c, d.mono hj⟩⟩
/-- positions and slots of what is lent -/
def pjs (ms : List (Option Nat)) : List (Nat × Nat) := ms.zipIdx.filterMap fun p => p.1.map fun j => (p.2, j)
def argsM : List (Option Nat) → List Res → List E → (List E → Prop) → Prop
  | [], [], _, k => k []
  | none :: ms, .dat d :: rs, ρ, k => argsM ms rs ρ fun es => k (.dat d :: es)
  | some j :: ms, .bor j' :: rs, ρ, k => match decide (j' = j), (ρ.getD j .no).own with
    | true, true => argsM ms rs ρ fun es => k (ρ.getD j .no :: es)
    | _, _ => False
  | _, _, _, _ => False
def putB : List E → List Nat → List E → List E
  | ρ, j :: js, o :: os => putB (ρ.set j o) js os
  | ρ, _, _ => ρ
def fOwn (ms : List (Option Nat)) (dsp : DSp) (fa : TXA) : TXN := fun ρ Q Ex => fa ρ (fun rs ρ1 => argsM ms rs ρ1 fun es => dsp es (fun e outs => Q e (putB ρ1 ((pjs ms).map (·.2)) outs)) (fun cls outs => Ex cls (putB ρ1 ((pjs ms).map (·.2)) outs))) Ex
theorem argsM_get {K : PySem.W.Frag} {S : Hp} {σ : St} {ρ : List E} : ∀ {ms : List (Option Nat)} {rs : List Res} {vs : List V} {k : List E → Prop}, argsM ms rs ρ k → Paired (ResOk K S σ) vs rs →
    ∃ es, k es ∧ es.length = vs.length ∧ ms.length = vs.length ∧ ∀ (i : Nat) (v : V) (m : Option Nat) (e : E), vs[i]? = some v → ms[i]? = some m → es[i]? = some e → (m = none ∧ ∃ d, e = .dat d ∧ Dq K S v d) ∨ (∃ j, m = some j ∧ σ[j]? = some (some v) ∧ ρ.getD j .no = e ∧ e.own = true)
  | [], [], _, k, h, .nil => ⟨[], h, rfl, rfl, fun i v m e h1 _ _ => by simp at h1⟩
  | [], r :: rs, _, k, h, _ => h.elim
  | m :: ms, [], _, k, h, _ => by cases m <;> exact h.elim
  | none :: ms, .bor j :: rs, _, k, h, _ => h.elim
  | some j :: ms, .dat d :: rs, _, k, h, _ => h.elim
  | none :: ms, .dat d :: rs, _, k, h, .cons p t => by
    obtain ⟨es, h1, h2, h3, h4⟩ := argsM_get (k := fun es => k (.dat d :: es)) h t
    refine ⟨.dat d :: es, h1, by rw [List.length_cons, List.length_cons, h2], by rw [List.length_cons, List.length_cons, h3], fun i v m e a b c => ?_⟩
    cases i with
    | zero =>
      simp at a b c
      subst a b c
      exact .inl ⟨rfl, d, rfl, p⟩
    | succ i => exact h4 i v m e (by simpa using a) (by simpa using b) (by simpa using c)
  | some j :: ms, .bor j' :: rs, _, k, h, .cons p t => by
    have h' : (match decide (j' = j), (ρ.getD j .no).own with
      | true, true => argsM ms rs ρ fun es => k (ρ.getD j .no :: es)
      | _, _ => False) := h
    cases q1 : decide (j' = j) with
    | false => rw [q1] at h'; exact (by simp at h')
    | true =>
      cases q2 : (ρ.getD j .no).own with
      | false => rw [q1, q2] at h'; exact (by simp at h')
      | true =>
        rw [q1, q2] at h'
        have ej : j' = j := of_decide_eq_true q1
        subst ej
        obtain ⟨es, h1, h2, h3, h4⟩ := argsM_get (k := fun es => k (ρ.getD j' .no :: es)) h' t
        refine ⟨ρ.getD j' .no :: es, h1, by rw [List.length_cons, List.length_cons, h2], by rw [List.length_cons, List.length_cons, h3], fun i v m e a b c => ?_⟩
        cases i with
        | zero =>
          simp only [List.getElem?_cons_zero, Option.some.injEq] at a b c
          subst a b c
          exact .inr ⟨j', rfl, p, rfl, q2⟩
        | succ i => exact h4 i v m e (by simpa using a) (by simpa using b) (by simpa using c)
theorem pjs_get {ms : List (Option Nat)} {i j : Nat} : (i, j) ∈ pjs ms ↔ ms[i]? = some (some j) := by
  unfold pjs
  rw [List.mem_filterMap]
  constructor
  · rintro ⟨⟨m, k⟩, h1, h2⟩
    rw [List.mem_zipIdx_iff_getElem?] at h1
    cases m with
    | none => simp at h2
    | some j' =>
      simp only [Option.map_some, Option.some.injEq, Prod.mk.injEq] at h2
      obtain ⟨rfl, rfl⟩ := h2
      simpa using h1
  · intro h
    exact ⟨(some j, i), by rw [List.mem_zipIdx_iff_getElem?]; simpa using h, rfl⟩
theorem putB_len : ∀ {js : List Nat} {outs ρ : List E}, (putB ρ js outs).length = ρ.length
  | [], _, _ => by unfold putB; rfl
  | _ :: _, [], _ => by unfold putB; rfl
  | j :: js, o :: os, ρ => by unfold putB; rw [putB_len, List.length_set]
theorem putB_out {j : Nat} : ∀ {js : List Nat} {outs ρ : List E}, j ∉ js → (putB ρ js outs)[j]? = ρ[j]?
  | [], _, _, _ => by unfold putB; rfl
  | _ :: _, [], _, _ => by unfold putB; rfl
  | i :: js, o :: os, ρ, h => by
    unfold putB
    rw [putB_out fun z => h (List.mem_cons_of_mem _ z)]
    exact List.getElem?_set_ne fun e => h (by rw [e]; exact List.mem_cons_self)
theorem putB_in : ∀ {js : List Nat} {outs ρ : List E} {k j : Nat} {e : E}, js.Nodup → js[k]? = some j → outs[k]? = some e → j < ρ.length → (putB ρ js outs)[j]? = some e
  | [], _, _, _, _, _, _, h, _, _ => by simp at h
  | _ :: _, [], _, _, _, _, _, _, h, _ => by simp at h
  | i :: js, o :: os, ρ, 0, j, e, nd, h1, h2, hl => by
    simp at h1 h2
    subst h1 h2
    unfold putB
    rw [putB_out (List.nodup_cons.mp nd).1, List.getElem?_set_self hl]
  | i :: js, o :: os, ρ, k + 1, j, e, nd, h1, h2, hl => by
    unfold putB
    exact putB_in (k := k) (List.nodup_cons.mp nd).2 (by simpa using h1) (by simpa using h2) (by rw [List.length_set]; exact hl)
section
variable {X : Cx} {K : PySem.W.Frag} {W : WX} {io : List Nat}
theorem call_run {ms : List (Option Nat)} {io' : List Nat} {n : Nat} {dsp : DSp} (hnd : ((pjs ms).map (·.2)).Nodup) (hio : io' = (pjs ms).map (·.1)) (hn : ms.length = n) {Γ : Gam} {S H : Hp} {σ : St} {ρ : List E} {fp : Nat → List Addr} {vs : List V} {rs : List Res} {QN : E → List E → Prop} {Ex : XC} {Q : VK} {EX : XK}
    (R : Rel K Γ S H σ ρ fp) (hv : Paired (ResOk K S σ) vs rs)
    (h : argsM ms rs ρ fun es => dsp es (fun e outs => QN e (putB ρ ((pjs ms).map (·.2)) outs)) (fun cls outs => Ex cls (putB ρ ((pjs ms).map (·.2)) outs)))
    (kn : ∀ S' H' v e ρ' fp' fpn, Rel K Γ S' H' σ ρ' fp' → Same S S' → NewOk K Γ S' H' fp' v e fpn → QN e ρ' → Q v H') (kx : ∀ S' H' cls ρ' fp', Rel K Γ S' H' σ ρ' fp' → Same S S' → Ex cls ρ' → EX cls none H') : toSp K io' n dsp vs H Q EX := by
  obtain ⟨es, hd, l1, l2, hent⟩ := argsM_get h hv
  have hall : ∀ (i : Nat) (e : E), es[i]? = some e → ∃ (v : V) (m : Option Nat), vs[i]? = some v ∧ ms[i]? = some m := fun i e he => by
    have hi : i < es.length := (List.getElem?_eq_some_iff.mp he).1
    exact ⟨vs[i]'(by omega), ms[i]'(by omega), List.getElem?_eq_getElem _, List.getElem?_eq_getElem _⟩
  have slot_inj : ∀ (i i' j : Nat), ms[i]? = some (some j) → ms[i']? = some (some j) → i = i' := fun i i' j h1 h2 => by
    have m1 := pjs_get.mpr h1
    have m2 := pjs_get.mpr h2
    obtain ⟨k1, hk1, e1⟩ := List.mem_iff_getElem.mp m1
    obtain ⟨k2, hk2, e2⟩ := List.mem_iff_getElem.mp m2
    have q : k1 = k2 := by
      have a1 : ((pjs ms).map (·.2))[k1]? = some j := by rw [List.getElem?_map, List.getElem?_eq_getElem hk1, e1]; rfl
      have a2 : ((pjs ms).map (·.2))[k2]? = some j := by rw [List.getElem?_map, List.getElem?_eq_getElem hk2, e2]; rfl
      exact (List.getElem?_inj (by simpa using hk1) hnd).mp (a1.trans a2.symm)
    subst q
    rw [e1] at e2
    exact (Prod.mk.inj e2).1
  generalize hcf : (fun i : Nat => match ms[i]? with | some (some j) => fp j | _ => ([] : List Addr)) = cf
  have cf_some : ∀ (i j : Nat), ms[i]? = some (some j) → cf i = fp j := fun i j e => by rw [← hcf]; simp only [e]
  have cf_mem : ∀ (i : Nat) (a : Addr), a ∈ cf i → ∃ j : Nat, ms[i]? = some (some j) ∧ a ∈ fp j := fun i a ha => by
    rw [← hcf] at ha
    cases q : ms[i]? with
    | none => simp [q] at ha
    | some m =>
      cases m with
      | none => simp [q] at ha
      | some j => exact ⟨j, rfl, by simpa [q] using ha⟩
  have ci : CallIn K io' vs S H es cf := by
    refine ⟨R.sub, l1, fun i e he => ?_, fun i he => ?_, fun i a ha => ?_, fun i => ?_, fun i j a h1 h2 => ?_, fun i hi => ?_, fun i e he ho => ?_⟩
    · obtain ⟨v, m, hv', hm⟩ := hall i e he
      rw [hv']
      rcases hent i v m e hv' hm he with ⟨rfl, d, rfl, dp⟩ | ⟨j, rfl, hs, hr, ho⟩
      · rw [← hcf]; simp only [hm]
        exact ⟨rfl, v, rfl, dp⟩
      · rw [cf_some i j hm]
        exact R.slot (getD_some hr fun z => by rw [z] at ho; cases ho) hs
    · rw [← hcf]
      have : ms[i]? = none := List.getElem?_eq_none (by have := List.getElem?_eq_none_iff.mp he; omega)
      simp only [this]
    · obtain ⟨j, _, h⟩ := cf_mem i a ha
      exact ⟨(R.hide j a h).1, (R.hide j a h).2.1⟩
    · rw [← hcf]
      cases q : ms[i]? with
      | none => simp only [q]; exact List.nodup_nil
      | some m =>
        cases m with
        | none => simp only [q]; exact List.nodup_nil
        | some j => simp only [q]; exact R.nd j
    · obtain ⟨j1, e1, m1⟩ := cf_mem i a h1
      obtain ⟨j2, e2, m2⟩ := cf_mem j a h2
      have := R.dis j1 j2 a m1 m2
      subst this
      exact slot_inj i j j1 e1 e2
    · rw [hio] at hi
      obtain ⟨⟨i', j⟩, hp, rfl⟩ := List.mem_map.mp hi
      have hm := pjs_get.mp hp
      have hil : i' < ms.length := (List.getElem?_eq_some_iff.mp hm).1
      have he : es[i']? = some (es[i']'(by omega)) := List.getElem?_eq_getElem _
      have hv' : vs[i']? = some (vs[i']'(by omega)) := List.getElem?_eq_getElem _
      refine ⟨_, he, ?_⟩
      rcases hent i' _ _ _ hv' hm he with ⟨z, _⟩ | ⟨_, _, _, _, ho⟩
      · cases z
      · exact ho
    · obtain ⟨v, m, hv', hm⟩ := hall i e he
      rcases hent i v m e hv' hm he with ⟨_, d, rfl, _⟩ | ⟨j, rfl, _⟩
      · cases ho
      · rw [hio]
        exact List.mem_map.mpr ⟨(i, j), pjs_get.mpr hm, rfl⟩
  -- the state behind the call
  have after : ∀ (S' H' : Hp) (outs : List E) (fpo : Nat → List Addr), CallEnd K io' vs S H cf S' H' outs fpo → ∃ fp', Rel K Γ S' H' σ (putB ρ ((pjs ms).map (·.2)) outs) fp' ∧ (∀ j a, a ∈ fp' j → (a ∈ fp j ∧ (∀ i, ms[i]? ≠ some (some j))) ∨ ∃ i, ms[i]? = some (some j) ∧ i ∈ io' ∧ a ∈ fpo i) := fun S' H' outs fpo ce => by
    have key : ∀ j : Nat, (∃ k i : Nat, (pjs ms)[k]? = some (i, j) ∧ ms[i]? = some (some j) ∧ i ∈ io' ∧ io'[k]? = some i ∧ ((pjs ms).map (·.2))[k]? = some j) ∨ (j ∉ (pjs ms).map (·.2) ∧ ∀ i, ms[i]? ≠ some (some j)) := fun j => by
      by_cases hj : j ∈ (pjs ms).map (·.2)
      · obtain ⟨⟨i, j'⟩, hp, rfl⟩ := List.mem_map.mp hj
        obtain ⟨k, hk, ek⟩ := List.mem_iff_getElem.mp hp
        refine .inl ⟨k, i, by rw [List.getElem?_eq_getElem hk, ek], pjs_get.mp hp, by rw [hio]; exact List.mem_map.mpr ⟨_, hp, rfl⟩, by rw [hio, List.getElem?_map, List.getElem?_eq_getElem hk, ek]; rfl, by rw [List.getElem?_map, List.getElem?_eq_getElem hk, ek]; rfl⟩
      · exact .inr ⟨hj, fun i hm => hj (List.mem_map.mpr ⟨(i, j), pjs_get.mpr hm, rfl⟩)⟩
    generalize hfp' : (fun j : Nat => match (pjs ms).find? (fun p => p.2 == j) with | some p => fpo p.1 | none => fp j) = fp'
    have f_in : ∀ (i j : Nat), ms[i]? = some (some j) → fp' j = fpo i := fun i j hm => by
      rw [← hfp']
      have hs : (pjs ms).find? (fun p => p.2 == j) = some (i, j) := by
        cases q : (pjs ms).find? (fun p => p.2 == j) with
        | none =>
          have := List.find?_eq_none.mp q (i, j) (pjs_get.mpr hm)
          simp at this
        | some p =>
          have h1 := List.mem_of_find?_eq_some q
          have h2 := List.find?_some q
          obtain ⟨i2, j2⟩ := p
          have e2 : j2 = j := by simpa using h2
          subst e2
          rw [slot_inj i2 i j2 (pjs_get.mp h1) hm]
      simp only [hs]
    have f_out : ∀ j : Nat, (∀ i : Nat, ms[i]? ≠ some (some j)) → fp' j = fp j := fun j hn => by
      rw [← hfp']
      have hs : (pjs ms).find? (fun p => p.2 == j) = none := List.find?_eq_none.mpr fun ⟨i2, j2⟩ hp e => by
        have e2 : j2 = j := by simpa using e
        subst e2
        exact hn i2 (pjs_get.mp hp)
      simp only [hs]
    have own_slot : ∀ (i j : Nat), ms[i]? = some (some j) → ∃ (v : V) (e : E), vs[i]? = some v ∧ σ[j]? = some (some v) ∧ ρ[j]? = some e ∧ e.own = true := fun i j hm => by
      have hil : i < ms.length := (List.getElem?_eq_some_iff.mp hm).1
      have he : es[i]? = some (es[i]'(by omega)) := List.getElem?_eq_getElem _
      have hv' : vs[i]? = some (vs[i]'(by omega)) := List.getElem?_eq_getElem _
      rcases hent i _ _ _ hv' hm he with ⟨z, _⟩ | ⟨j', e1, hs, hr, ho⟩
      · cases z
      · cases e1
        exact ⟨_, _, hv', hs, getD_some hr (fun z => by rw [z] at ho; cases ho), ho⟩
    have lenp : ∀ j, j < ρ.length ↔ j < (putB ρ ((pjs ms).map (·.2)) outs).length := fun j => by rw [putB_len]
    have inH : ∀ (j : Nat) (a : Addr), a ∈ fp j → (∀ i : Nat, ms[i]? ≠ some (some j)) → ∀ i, a ∉ cf i := fun j a ha hn i hm => by
      obtain ⟨j2, e2, m2⟩ := cf_mem i a hm
      have := R.dis j j2 a ha m2
      subst this
      exact hn i e2
    have keptH : ∀ (j : Nat) (a : Addr), a ∈ fp j → (∀ i : Nat, ms[i]? ≠ some (some j)) → H' a = H a := fun j a ha hn => by
      cases q : H a with
      | none => exact absurd q (R.hide j a ha).2.1
      | some o => exact ce.kept a o q (inH j a ha hn)
    refine ⟨fp', ⟨ce.sub, R.mono.trans ce.mono, fun b h1 h2 => ce.hid b (R.dom b h1) (R.hid b h1 h2), fun b o h1 h2 => ce.kept b o (R.kept b o h1 h2) fun i hm => ?_, fun b h1 => ce.dom b (R.dom b h1), by rw [putB_len]; exact R.len, fun j e hj => ?_, fun j hj => ?_, fun j a ha => ?_, fun j => ?_, fun j1 j2 a h1 h2 => ?_, fun j hj => ?_, fun j hj a ha => ?_⟩, fun j a ha => ?_⟩
    · obtain ⟨j, _, m⟩ := cf_mem i b hm
      rcases (R.hide j b m).2.2 with z | z
      · exact h2 j z
      · rw [h1] at z; cases z
    · rcases key j with ⟨k, i, _, hm, hi, hk, hk2⟩ | ⟨hn, hn2⟩
      · obtain ⟨e', ho, hown, hee⟩ := ce.ent k i hk
        obtain ⟨v, e0, hv', hs, hr, _⟩ := own_slot i j hm
        have hjl : j < ρ.length := (List.getElem?_eq_some_iff.mp hr).1
        rw [putB_in hnd hk2 ho hjl] at hj
        cases hj
        rw [f_in i j hm, List.getD_eq_getElem?_getD, hs]
        rw [hv'] at hee
        exact hee
      · rw [putB_out hn] at hj
        rw [f_out j hn2]
        exact (R.ent j e hj).up ce.mono fun b hb => keptH j b hb hn2
    · have hjn : ρ[j]? = none := List.getElem?_eq_none (by have := List.getElem?_eq_none_iff.mp hj; rw [putB_len] at this; exact this)
      have hn2 : ∀ i, ms[i]? ≠ some (some j) := fun i hm => by
        obtain ⟨_, _, _, _, hr, _⟩ := own_slot i j hm
        rw [hjn] at hr; cases hr
      rw [f_out j hn2, putB_len]
      exact (R.out j hjn).up fun b hb => keptH j b hb hn2
    · rcases key j with ⟨k, i, _, hm, hi, hk, hk2⟩ | ⟨hn, hn2⟩
      · rw [f_in i j hm] at ha
        obtain ⟨q1, q2, q3⟩ := ce.hide i hi a ha
        refine ⟨q1, q2, ?_⟩
        rcases q3 with m2 | z
        · rw [cf_some i j hm] at m2
          exact (R.hide j a m2).2.2
        · refine .inr ?_
          cases q : Γ.H a with
          | none => rfl
          | some o => exact absurd z (R.dom a (by rw [q]; exact Option.some_ne_none _))
      · rw [f_out j hn2] at ha
        obtain ⟨q1, q2, q3⟩ := R.hide j a ha
        exact ⟨ce.hid a q2 q1, ce.dom a q2, q3⟩
    · rcases key j with ⟨k, i, _, hm, hi, hk, hk2⟩ | ⟨hn, hn2⟩
      · rw [f_in i j hm]; exact ce.nd i hi
      · rw [f_out j hn2]; exact R.nd j
    · have cross : ∀ (i j1 j2 : Nat) (a : Addr), ms[i]? = some (some j1) → i ∈ io' → a ∈ fpo i → a ∈ fp j2 → (∀ i : Nat, ms[i]? ≠ some (some j2)) → False := fun i j1 j2 a hm hi ha hb hn => by
        rcases (ce.hide i hi a ha).2.2 with m2 | z
        · exact inH j2 a hb hn i m2
        · exact (R.hide j2 a hb).2.1 z
      rcases key j1 with ⟨k1, i1, _, hm1, hi1, _, _⟩ | ⟨_, hn1⟩
      · rcases key j2 with ⟨k2, i2, _, hm2, hi2, _, _⟩ | ⟨_, hn2⟩
        · rw [f_in i1 j1 hm1] at h1
          rw [f_in i2 j2 hm2] at h2
          have e := ce.dis i1 hi1 i2 hi2 a h1 h2
          subst e
          rw [hm1] at hm2
          exact Option.some.inj (Option.some.inj hm2)
        · rw [f_in i1 j1 hm1] at h1
          rw [f_out j2 hn2] at h2
          exact (cross i1 j1 j2 a hm1 hi1 h1 h2 hn2).elim
      · rcases key j2 with ⟨k2, i2, _, hm2, hi2, _, _⟩ | ⟨_, hn2⟩
        · rw [f_out j1 hn1] at h1
          rw [f_in i2 j2 hm2] at h2
          exact (cross i2 j2 j1 a hm2 hi2 h2 h1 hn1).elim
        · rw [f_out j1 hn1] at h1
          rw [f_out j2 hn2] at h2
          exact R.dis j1 j2 a h1 h2
    · obtain ⟨q1, e, q2, q3⟩ := R.io j hj
      refine ⟨q1, ?_⟩
      rcases key j with ⟨k, i, _, hm, hi, hk, hk2⟩ | ⟨hn, hn2⟩
      · obtain ⟨e', ho, hown, _⟩ := ce.ent k i hk
        exact ⟨e', putB_in hnd hk2 ho (List.getElem?_eq_some_iff.mp q2).1, hown⟩
      · exact ⟨e, by rw [putB_out hn]; exact q2, q3⟩
    · rcases key j with ⟨k, i, _, hm, hi, hk, hk2⟩ | ⟨hn, hn2⟩
      · rw [f_in i j hm] at ha
        rcases (ce.hide i hi a ha).2.2 with m2 | z
        · rw [cf_some i j hm] at m2
          exact R.new j hj a m2
        · cases q : Γ.H a with
          | none => rfl
          | some o => exact absurd z (R.dom a (by rw [q]; exact Option.some_ne_none _))
      · rw [f_out j hn2] at ha
        exact R.new j hj a ha
    · rcases key j with ⟨k, i, _, hm, hi, hk, hk2⟩ | ⟨hn, hn2⟩
      · rw [f_in i j hm] at ha
        exact .inr ⟨i, hm, hi, ha⟩
      · rw [f_out j hn2] at ha
        exact .inl ⟨ha, hn2⟩
  refine ⟨by rw [← l2]; exact hn, S, es, cf, _, _, ci, hd, fun S' H' v e fpn outs fpo ce cr q => ?_, fun S' H' cls outs fpo ce q => ?_⟩
  · obtain ⟨fp', R', hf⟩ := after S' H' outs fpo ce
    refine kn S' H' v e _ fp' fpn R' ce.mono ⟨cr.ent, cr.nd, fun a ha => ?_⟩ q
    obtain ⟨q1, q2, q3, q4⟩ := cr.new a ha
    refine ⟨q1, q2, ?_, fun j hm => ?_⟩
    · cases z : Γ.H a with
      | none => rfl
      | some o => exact absurd q3 (R.dom a (by rw [z]; exact Option.some_ne_none _))
    · rcases hf j a hm with ⟨z, _⟩ | ⟨i, _, hi, z⟩
      · exact (R.hide j a z).2.1 q3
      · exact q4 i hi z
  · obtain ⟨fp', R', _⟩ := after S' H' outs fpo ce
    exact kx S' H' cls _ fp' R' ce.mono q
variable {x : Str} {p pos : Pos} {e : Expr} {es : List Expr} {k m : Nat} {ps : List Str} {io' : List Nat} {dsp : DSp} {fa : TXA}
theorem xn_call {ms : List (Option Nat)} (h : Has X.prog X.w X.K X.mg X.base x k ps io' dsp) (hK : X.K = K) (hr : Room k X.A) (tk : L2N.Takes X W) (hg : Gl X x) (ha : XA K W io X (e :: es) m fa)
    (hio : io' = (pjs ms).map (·.1) := by decide) (hn : ms.length = ps.length := by rfl) (hnd : ((pjs ms).map (·.2)).Nodup := by decide)
    (hdb : (x == ("__debug__" : Str)) = false := by decide) (he : starEach (e :: es) X.env = (false, eval e X.env) :: starEach es X.env := by rfl) (hpl : (backTo pos (starEach es X.env)).any (·.1) = false := by rfl) :
    XN K W io X (.Call (.Name x p) (e :: es) [] pos) (fOwn ms dsp fa) := by
  subst hK
  obtain ⟨f, fd, hm, hk, hb, F⟩ := h.ex
  refine XN.mk (pe_callS F hr hg hm hk hb (fun σ => L2N.passAt tk σ) ha hdb he hpl) fun Γ S H σ ρ fp QD Ex Q hio2 R hf k kx => ?_
  refine ⟨Γ, S, ρ, fp, _, Ex, hio2, R, hf, fun S1 H1 vs rs ρ1 fp1 R1 ss1 ok1 hl h1 => ?_, kx⟩
  exact call_run (QN := QD) (Ex := Ex) hnd hio hn R1 ok1 h1 (fun S' H' v e ρ' fp' fpn R' ss nw q => k S' H' v e ρ' fp' fpn R' (ss1.trans ss) nw q) fun S' H' cls ρ' fp' R' ss q => kx S' H' cls ρ' fp' R' (ss1.trans ss) q
end
end L3

namespace L3
open PySem PySem.Spec PyProof.Rows L2
theorem u64 {k : Nat} {A : Around} (hr : Room k A) : A.units + 64 < cLine := hr.units
theorem u65 {k : Nat} {A : Around} (hr : Room k A) : A.units + 65 < cLine := by have := hr.un; omega
section
variable {X : Cx} {K : PySem.W.Frag} {W : WX} {io : List Nat} {pos : Pos}
theorem xr_gint {x : Str} {i : Int} (hg : Gl X x) (h : ∃ t, X.mg x = some (.int i t)) (hdb : (x == ("__debug__" : Str)) = false := by decide) : XR K W io X (.Name x pos) (fC (.int i)) := by
  obtain ⟨t, hm⟩ := h
  exact xr_glob (v := .int i) hg hm ⟨t, rfl⟩ (fun _ => .int _) hdb
/-- a module's own data -/
theorem xr_gdat {x : Str} {d : PyData} (hK : X.K = K) (hg : Gl X x) (h : ∃ v u, X.mg x = some u ∧ RelV v u ∧ Dq K (fun _ => none) v d) (hdb : (x == ("__debug__" : Str)) = false := by decide) : XR K W io X (.Name x pos) (fC d) := by
  obtain ⟨v, u, hm, r, dp⟩ := h
  exact xr_glob hg hm r (fun S => dp_up (fun b o e => by cases e) _ _ dp) hdb
/-- what is told of an own exception class -/
structure ExcAt (K : PySem.W.Frag) (mg : Str → Option Value) (x : Str) (C : Addr) : Prop where
  g : mg x = some (.ref C)
  ex : PySem.W.excIn K C [.type "ValueError", .type "Exception", .type "BaseException", .type "object"] "ValueError.__new__" = true
  kp : PySem.W.keepIn K (.ref C) = true
  bs : PySem.W.subIn K (.ref C) (.type "BaseException") = some true
  ty : PySem.W.typeIn K (.ref C) = some (.type "type")
def sRaise (cls : Value) : TXS := fun DD ρ => DD.ex cls ρ
theorem xs_raise {x m : Str} {C : Addr} {j : Nat} {p p2 pos2 : Pos} (hc : X.calm = true) (tk : L2N.Takes X W) (h : ExcAt X.K X.mg x C) (hg : Gl X x) (hdb : (x == ("__debug__" : Str)) = false := by decide) :
    XS K W io X (.Raise (some (.Call (.Name x p) [.Constant (.str m) j p2] [] pos)) none pos2) (sRaise (.ref C)) :=
  XS.mk (L2N.ps_raise hc tk (L2N.pmk_own PySem.F.excBase_ValueError h.ex h.g h.kp (raises_own h.bs h.ty) hg hdb)) fun Γ S H σ ρ fp DD D hio R hT k => k.ex S H σ ρ fp _ R hT
end
end L3

namespace L3
open PySem PySem.Spec PyProof.Rows L2

def fin (io : List Nat) (post : E → List E → Prop) (xp : Value → List E → Prop) : DE := { nx := fun ρ => post (.dat .none) (outsOf io ρ), rt := fun e ρ => post e (outsOf io ρ), ex := fun cls ρ => xp cls (outsOf io ρ) }
/-- by data alone: the reading of a def keeps its promise -/
def Good (io : List Nat) (N n : Nat) (T : TXS) (dsp : DSp) : Prop := ∀ es post xp, dsp es post xp → es.length = n → T (fin io post xp) (startE N n es)

/-! ### lists of lists -/
def Gam.pinL (Γ : Gam) (ps : List (Addr × HO)) : Gam := { Γ with pins := Γ.pins ++ ps }
section
variable {K : PySem.W.Frag} {Γ : Gam} {S H : Hp} {σ : St} {ρ : List E} {fp : Nat → List Addr} {p : Addr} {o : HO}
theorem pinL_pin {ps : List (Addr × HO)} : (Γ.pinL ps).pin p o = Γ.pinL (ps ++ [(p, o)]) := by
  unfold Gam.pin Gam.pinL
  simp only [List.append_assoc]
theorem Rel.unpins : ∀ (n : Nat) (ps : List (Addr × HO)) (fp : Nat → List Addr), ps.length = n → Rel K (Γ.pinL ps) S H σ ρ fp → ∃ fp', Rel K Γ S H σ ρ fp' ∧ (∀ i a, a ∈ fp' i → a ∈ fp i) ∧ (∀ q ∈ ps, H q.1 = some q.2 ∧ S q.1 = none ∧ Γ.H q.1 = none ∧ (∀ i, q.1 ∉ fp' i) ∧ ∃ j, q.1 ∈ fp j) ∧ (ps.map (·.1)).Nodup
  | 0, ps, fp, hn, R => by
    have e : ps = [] := List.eq_nil_of_length_eq_zero hn
    subst e
    have e2 : Γ.pinL [] = Γ := by unfold Gam.pinL; simp only [List.append_nil]
    rw [e2] at R
    exact ⟨fp, R, fun _ _ h => h, fun q hq => absurd hq (by simp), by simp⟩
  | n + 1, ps, fp, hn, R => by
    have hne : ps ≠ [] := fun z => by rw [z] at hn; cases hn
    obtain ⟨qs, q, e⟩ : ∃ qs q, ps = qs ++ [q] := ⟨ps.dropLast, ps.getLast hne, (List.dropLast_concat_getLast hne).symm⟩
    subst e
    have hl : qs.length = n := by rw [List.length_append, List.length_singleton] at hn; omega
    have R0 : Rel K ((Γ.pinL qs).pin q.1 q.2) S H σ ρ fp := by rw [pinL_pin]; exact R
    obtain ⟨h1, h2, h3, ⟨j, h4⟩, fp1, R1, h5, h6⟩ := R0.unpin2
    obtain ⟨fp', R2, g1, g2, g3⟩ := Rel.unpins n qs fp1 hl R1
    refine ⟨fp', R2, fun i a ha => h6 i a (g1 i a ha), fun r hr => ?_, ?_⟩
    · rcases List.mem_append.mp hr with hr | hr
      · obtain ⟨a1, a2, a3, a4, j', a5⟩ := g2 r hr
        exact ⟨a1, a2, a3, a4, j', h6 j' _ a5⟩
      · have e : r = q := by simpa using hr
        subst e
        exact ⟨h1, h2, h3, fun i hi => h5 i (g1 i _ hi), j, h4⟩
    · rw [List.map_append, List.nodup_append]
      refine ⟨g3, by simp, fun a ha b hb e => ?_⟩
      have eb : b = q.1 := by simpa using hb
      obtain ⟨r, hr, er⟩ := List.mem_map.mp ha
      obtain ⟨_, _, _, _, j', a5⟩ := g2 r hr
      rw [er, e, eb] at a5
      exact h5 j' a5
def RowsOk (K : PySem.W.Frag) (S : Hp) (ps : List (Addr × HO)) (dss : List (List PyData)) : Prop := Paired (fun (p : Addr × HO) ds => ∃ xs, p.2 = .lst xs ∧ DqAll K S xs ds) ps dss
theorem RowsOk.up {S' : Hp} {ps : List (Addr × HO)} {dss : List (List PyData)} (h : RowsOk K S ps dss) (ss : Same S S') : RowsOk K S' ps dss := Paired.mapP h fun _ _ ⟨xs, a, b⟩ => ⟨xs, a, dps_up ss _ _ b⟩
theorem RowsOk.add {p : Addr × HO} {ds : List PyData} (hp : ∃ xs, p.2 = .lst xs ∧ DqAll K S xs ds) : ∀ {ps : List (Addr × HO)} {dss : List (List PyData)}, RowsOk K S ps dss → RowsOk K S (ps ++ [p]) (dss ++ [ds])
  | _, _, .nil => .cons hp .nil
  | _, _, .cons a b => .cons a (RowsOk.add hp b)
theorem RowsOk.len : ∀ {ps : List (Addr × HO)} {dss : List (List PyData)}, RowsOk K S ps dss → ps.length = dss.length
  | _, _, .nil => rfl
  | _, _, .cons a b => by rw [List.length_cons, List.length_cons, RowsOk.len b]
theorem RowsOk.lls : ∀ {ps : List (Addr × HO)} {dss : List (List PyData)}, RowsOk K S ps dss → (∀ q ∈ ps, H q.1 = some q.2) → LLs K S H (ps.map (·.1)) dss
  | _, _, .nil, _ => .nil
  | _, _, .cons ⟨xs, a, b⟩ t, h => .cons ⟨xs, by rw [h _ List.mem_cons_self, a], b⟩ (RowsOk.lls t fun q hq => h q (List.mem_cons_of_mem _ hq))
end
def llR (g : TXG) (tt : TXT) (te : TXN) (vs : List Nat) : List PyData → List (List PyData) → List E → (List (List PyData) → List E → Prop) → Prop
  | [], acc, ρ, Q => Q acc ρ
  | d :: ds, acc, ρ, Q => g d ρ fun ρ1 => tt ρ1 (fun b ρ2 => match b with
    | true => te ρ2 (fun e ρ3 => isLst e fun y => wipeK ρ3 vs fun ρ4 => llR g tt te vs ds (acc ++ [y]) ρ4 Q) noX
    | false => wipeK ρ2 vs fun ρ4 => llR g tt te vs ds acc ρ4 Q) noX
def fLl (fi : TXI) (g : TXG) (tt : TXT) (te : TXN) (vs : List Nat) : TXN := fun ρ Q Ex => fi ρ (fun ds ρ1 => ds.length < sizeLine ∧ wipeK ρ1 vs fun ρw => llR g tt te vs ds [] ρw fun ys ρ2 => Q (.ll ys) (unw ρ2 ρ1 vs)) Ex
section
variable {X : Cx} {K : PySem.W.Frag} {W : WX} {io : List Nat}
theorem ll_run {is : List Nat} {own : List (Str × Nat)} {fi : TXI} {g : TXG} {tt : TXT} {te : TXN} (hnd : (own.map (·.2)).Nodup) (his : ∀ i ∈ is, i ∈ own.map (·.2)) : ∀ Γ S H σ ρ fp QD Ex Q, Γ.io = io → Rel K Γ S H σ ρ fp → fLl fi g tt te (own.map (·.2)) ρ QD Ex → KN K Γ σ S QD Q → KX K W Γ σ S Ex →
    tLc (liftI K W io fi) (liftG K io is g) (liftT K W0 io tt) (liftN K W0 io te) (own.map (·.2)) σ H Q := fun Γ S H σ ρ fp QD Ex Q hio R h k kx => by
  generalize own.map (·.2) = vs at *
  refine ⟨Γ, S, ρ, fp, _, Ex, hio, R, h, fun S1 H1 J ds ρ1 fp1 R1 ss1 wd h1 => ?_, kx⟩
  obtain ⟨hlen, h1⟩ := h1
  obtain ⟨no1, h1⟩ := wipeK_get h1
  intro D hD
  have Rw := R1.wiped no1
  obtain ⟨n1, n2, n3⟩ := Rw.free hD
  have R2 := Rw.pinAt n1 n2 n3 (.lst [])
  have e0 : Γ.pin D (.lst []) = (Γ.pinL []).pin D (.lst (([] : List (Addr × HO)).map (fun q => V.ref q.1))) := by
    unfold Gam.pin Gam.pinL
    simp only [List.append_nil, List.map_nil]
  rw [e0] at R2
  refine ⟨fun i m H => m = ds.length - i ∧ i ≤ ds.length ∧ ∃ S' ρ' fp' ps accD, Rel K ((Γ.pinL ps).pin D (.lst (ps.map fun q => V.ref q.1))) S' H (wipe σ vs) ρ' fp' ∧ Same S1 S' ∧ RowsOk K S' ps accD ∧ accD.length ≤ i ∧ noOwnB ρ' vs = true ∧ llR g tt te vs (ds.drop i) accD ρ' (fun ys ρ2 => QD (.ll ys) (unw ρ2 ρ1 vs)),
    ⟨_, rfl, Nat.zero_le _, S1, _, _, [], [], R2, Same.refl _, .nil, Nat.le_refl _, noOwn_wipe no1, h1⟩, ?_⟩
  rintro i m H ⟨rfl, hi, S', ρ', fp', ps, accD, R', ss', hacc, hal, no', hl⟩
  by_cases hlt : i < ds.length
  · refine .inr ⟨wd.go i H hlt (ss'.trans R'.sub), fun H' => ∃ S' ρ' fp' ps accD, Rel K ((Γ.pinL ps).pin D (.lst (ps.map fun q => V.ref q.1))) S' H' (wipe σ vs) ρ' fp' ∧ Same S1 S' ∧ RowsOk K S' ps accD ∧ accD.length ≤ i + 1 ∧ noOwnB ρ' vs = true ∧ llR g tt te vs (ds.drop (i + 1)) accD ρ' (fun ys ρ2 => QD (.ll ys) (unw ρ2 ρ1 vs)),
      fun H' q => ⟨_, by omega, rfl, by omega, q⟩, fun x H' hy => ?_⟩
    obtain ⟨d, S2, hd, R3, ss3, dp⟩ := wd.yld i H x H' _ S' _ _ _ hlt ss' R' hy
    have ed : ds.drop i = d :: ds.drop (i + 1) := by
      rw [List.drop_eq_getElem_cons hlt]
      rw [List.getElem?_eq_getElem hlt] at hd
      rw [Option.some.inj hd]
    rw [ed] at hl
    have hl2 : g d ρ' fun ρ1' => tt ρ1' (fun b ρ2 => match b with
      | true => te ρ2 (fun e ρ3 => isLst e fun y => wipeK ρ3 vs fun ρ4 => llR g tt te vs (ds.drop (i + 1)) (accD ++ [y]) ρ4 (fun ys ρ2 => QD (.ll ys) (unw ρ2 ρ1 vs))) noX
      | false => wipeK ρ2 vs fun ρ4 => llR g tt te vs (ds.drop (i + 1)) accD ρ4 (fun ys ρ2 => QD (.ll ys) (unw ρ2 ρ1 vs))) noX := hl
    refine ⟨(Γ.pinL ps).pin D (.lst (ps.map fun q => V.ref q.1)), S2, ρ', fp', d, _, hio, R3, dp, hl2, fun S4 H4 σ4 ρ4 fp4 R4 ss4 hw q4 => ?_⟩
    have ew : wipe σ4 vs = wipe σ vs := by
      rw [hw vs his]
      apply List.ext_getElem?
      intro j
      by_cases hj : j < σ.length
      · by_cases hm : j ∈ vs
        · rw [wipe_get hm (by rw [wipe_length]; exact hj), wipe_get hm hj]
        · rw [wipe_out hm]
      · rw [List.getElem?_eq_none (by rw [wipe_length, wipe_length]; omega), List.getElem?_eq_none (by rw [wipe_length]; omega)]
    refine ⟨ew, (Γ.pinL ps).pin D (.lst (ps.map fun q => V.ref q.1)), S4, ρ4, fp4, _, noX, hio, R4, q4, fun S5 H5 b ρ5 fp5 R5 ss5 q5 => ?_, kx0⟩
    cases b with
    | true =>
      rw [if_pos rfl]
      refine ⟨(Γ.pinL ps).pin D (.lst (ps.map fun q => V.ref q.1)), S5, ρ5, fp5, _, noX, hio, R5, q5, fun S6 H6 y en ρ6 fp6 fpn R6 ss6 nw q6 => ?_, kx0⟩
      obtain ⟨ys, rfl, q7⟩ := isLst_get q6
      obtain ⟨no7, q8⟩ := wipeK_get q7
      obtain ⟨a, xs, h0, hf, hHa, hxs⟩ := nw.ent
      cases h0
      obtain ⟨nS, _, nG, nfp⟩ := nw.new a (by rw [hf]; simp)
      obtain ⟨hpD, sD, gD, ⟨jD, mD⟩, fp7, R7, f7, f7s⟩ := R6.unpin2
      have hne : a ≠ D := fun z => nfp jD (z ▸ mD)
      have ssA := ((ss3.trans ss4).trans ss5).trans ss6
      have R7a := R7.pinAt nS nG (fun i hi => nfp i (f7s i a hi)) (.lst xs)
      have eH : upd H6 a (.lst xs) = H6 := by
        funext b
        by_cases hb : b = a
        · subst hb; rw [upd_same, hHa]
        · rw [upd_ne hb]
      rw [eH, pinL_pin] at R7a
      have fD : ∀ i, D ∉ (fun j => if j = ρ6.length + (Γ.pinL ps).pins.length then [a] else fp7 j) i := fun i hi => by
        by_cases e : i = ρ6.length + (Γ.pinL ps).pins.length
        · simp only [e, if_true] at hi
          exact hne (by simpa using hi : D = a).symm
        · simp only [e, if_false] at hi
          exact f7 i hi
      have R8 := (R7a.pinAt sD gD fD (HO.lst ((ps ++ [((a, HO.lst xs) : Addr × HO)]).map fun q => V.ref q.1))).wiped no7
      rw [ew] at R8
      generalize (fun j => if j = ρ6.length + (Γ.pinL (ps ++ [((a, HO.lst xs) : Addr × HO)])).pins.length then [D] else (if j = ρ6.length + (Γ.pinL ps).pins.length then [a] else fp7 j)) = fpX at R8
      refine ⟨ps.map (fun q => V.ref q.1), hpD, ?_, S6, wipeE ρ6 vs, fpX, ps ++ [((a, HO.lst xs) : Addr × HO)], accD ++ [ys], ?_, ss'.trans ssA, (hacc.up ssA).add ⟨xs, rfl, hxs⟩, by rw [List.length_append, List.length_singleton]; omega, noOwn_wipe no7, q8⟩
      · rw [List.length_map, hacc.len]; omega
      · have em : ps.map (fun q => V.ref q.1) ++ [V.ref a] = (ps ++ [((a, HO.lst xs) : Addr × HO)]).map fun q => V.ref q.1 := by rw [List.map_append]; rfl
        rw [em]
        exact R8
    | false =>
      rw [if_neg Bool.false_ne_true]
      obtain ⟨no7, q8⟩ := wipeK_get q5
      have ssA := (ss3.trans ss4).trans ss5
      have R8 := R5.wiped no7
      rw [ew] at R8
      exact ⟨S5, wipeE ρ5 vs, _, ps, accD, R8, ss'.trans ssA, hacc.up ssA, by omega, noOwn_wipe no7, q8⟩
  · have e : i = ds.length := by omega
    subst e
    rw [List.drop_length] at hl
    obtain ⟨hpD, sD, gD, ⟨jD, mD⟩, fp7, R7, f7, f7s⟩ := R'.unpin2
    obtain ⟨fp9, R9, g1, g2, g3⟩ := Rel.unpins _ ps fp7 rfl R7
    have R8 := R9.unwiped (ρ1 := ρ1) hnd no' fun v hv hvl => by
      have hv1 : v < ρ1.length := by rw [R1.len]; exact hvl
      have h3 := R1.ent v _ (List.getElem?_eq_getElem hv1)
      have e3 : ρ1.getD v .no = ρ1[v] := by rw [List.getD_eq_getElem?_getD, List.getElem?_eq_getElem hv1]; rfl
      have h4 : (ρ1.getD v .no).own = false := by
        unfold noOwnB at no1
        rw [List.all_eq_true] at no1
        simpa using no1 v hv
      rw [e3] at h4
      have h5 := h3.nofp h4
      rw [h5] at h3
      rw [e3]
      exact ⟨h3.up ss' fun b hb => absurd hb (by simp), h4⟩
    have em : ps.map (fun q => V.ref q.1) = (ps.map (·.1)).map V.ref := by rw [List.map_map]; rfl
    refine .inl ⟨wd.stop H (ss'.trans R'.sub), k S' H (.ref D) (.ll accD) _ fp9 (D :: ps.map (·.1)) R8 (ss1.trans ss') ⟨⟨D, ps.map (·.1), rfl, rfl, by rw [hpD, em], hacc.lls fun q hq => (g2 q hq).1⟩, List.nodup_cons.mpr ⟨fun z => ?_, g3⟩, fun a ha => ?_⟩ hl⟩
    · obtain ⟨q, hq, eq⟩ := List.mem_map.mp z
      obtain ⟨_, _, _, _, j, hj⟩ := g2 q hq
      rw [eq] at hj
      exact f7 j hj
    · rcases List.mem_cons.mp ha with rfl | ha
      · exact ⟨sD, by rw [hpD]; exact Option.some_ne_none _, gD, fun i hi => f7 i (g1 i _ hi)⟩
      · obtain ⟨q, hq, rfl⟩ := List.mem_map.mp ha
        obtain ⟨b1, b2, b3, b4, _⟩ := g2 q hq
        exact ⟨b2, by rw [b1]; exact Option.some_ne_none _, b3, b4⟩
variable {elt tg iter : Expr} {ifs : List Expr} {scope : Scope} {own : List (Str × Nat)} {pos : Pos} {is : List Nat} {fi : TXI} {g : TXG} {tt : TXT} {te : TXN}
theorem xn_ll (hc : X.calm = true) (hN : X.N.Nodup) (hi : XI K W io X tg iter fi) (ok : BlkOk X.N X.env.scope scope own)
    (hg : ∀ (s : Shared) (H : Hp) (C : Addr) (cl : List (Str × Addr)) (fp : List Addr), XG K io is (X.blk s H scope (compEnvC scope cl C X.env) fp) tg g) (ht : ∀ (s : Shared) (H : Hp) (C : Addr) (cl : List (Str × Addr)) (fp : List Addr), XTs K W0 io (X.blk s H scope (compEnvC scope cl C X.env) fp) ifs tt)
    (he : ∀ (s : Shared) (H : Hp) (C : Addr) (cl : List (Str × Addr)) (fp : List Addr), XN K W0 io (X.blk s H scope (compEnvC scope cl C X.env) fp) elt te)
    (hnd : (own.map (·.2)).Nodup := by decide) (his : ∀ i ∈ is, i ∈ own.map (·.2) := by decide) (hs : ∀ x, foldedSetIterable iter X.env x = pure x := by intro _; rfl) :
    XN K W io X (.ListComp elt [⟨tg, iter, ifs, 0⟩] scope pos) (fLl fi g tt te (own.map (·.2))) :=
  XN.mk (pe_lc hc hN hi ok hg ht he hs) (ll_run hnd his)
theorem xs_setLl {i : Nat} {y : Str} {py : Pos} {spos : Pos}
    (hc : X.calm = true) (hN : X.N.Nodup) (hy : X.N[i]? = some y) (hyl : X.env.scope.names.lookup y = some .local) (hsw : swapsWith (.ListComp elt [⟨tg, iter, ifs, 0⟩] scope pos) (some (.Name y py)) spos.line X.env = pure true)
    (hi : XI K W io X tg iter fi) (ok : BlkOk X.N X.env.scope scope own)
    (hg : ∀ (s : Shared) (H : Hp) (C : Addr) (cl : List (Str × Addr)) (fp : List Addr), XG K io is (X.blk s H scope (compEnvC scope cl C X.env) fp) tg g) (ht : ∀ (s : Shared) (H : Hp) (C : Addr) (cl : List (Str × Addr)) (fp : List Addr), XTs K W0 io (X.blk s H scope (compEnvC scope cl C X.env) fp) ifs tt)
    (he : ∀ (s : Shared) (H : Hp) (C : Addr) (cl : List (Str × Addr)) (fp : List Addr), XN K W0 io (X.blk s H scope (compEnvC scope cl C X.env) fp) elt te) (hio : i ∉ io := by decide)
    (hnd : (own.map (·.2)).Nodup := by decide) (his : ∀ j ∈ is, j ∈ own.map (·.2) := by decide) (hs : ∀ x, foldedSetIterable iter X.env x = pure x := by intro _; rfl) :
    XS K W io X (.Assign [.Name y py] (.ListComp elt [⟨tg, iter, ifs, 0⟩] scope pos) spos) (sSet i (fLl fi g tt te (own.map (·.2)))) := by
  have h := ps_setLc (pos := pos) (spos := spos) hc hN hy hyl hsw hi ok hg ht he hs
  refine ⟨fun pins s σ H D I ⟨Γ, S, ρ, fp, DD, ho, R, hT, k⟩ => h.run pins s σ H D I ?_⟩
  show tLc _ _ _ _ _ σ H (fun x H1 => D.nx (σ.set i (some x)) H1)
  refine ll_run (W := W) hnd his Γ S H σ ρ fp (fun en ρ1 => DD.nx (ρ1.set i en)) DD.ex _ ho R hT (fun S1 H1 v en ρ1 fp1 fpn R1 ss nw q => ?_) k.kx
  exact k.nx S1 H1 _ _ _ (R1.asgN (fp1 := fp1) (by rw [R1.len]; exact nlen I hy) (by rw [ho]; exact hio) nw) q

/-! rows[r][c] -/
def isLl (e : E) (k : List (List PyData) → Prop) : Prop := match e with
  | .ll dss => k dss
  | _ => False
theorem isLl_get {e : E} {k : List (List PyData) → Prop} (h : isLl e k) : ∃ dss, e = .ll dss ∧ k dss := by
  cases e with
  | ll dss => exact ⟨dss, rfl, h⟩
  | _ => exact h.elim
def isI (e : E) (k : Int → Prop) : Prop := match e with
  | .dat (.int i) => k i
  | _ => False
theorem isI_get {e : E} {k : Int → Prop} (h : isI e k) : ∃ i, e = .dat (.int i) ∧ k i := by
  cases e with
  | dat d => cases d with
    | int i => exact ⟨i, rfl, h⟩
    | _ => exact h.elim
  | _ => exact h.elim
theorem LLs.get {S H : Hp} : ∀ {as : List Addr} {dss : List (List PyData)} {m : Nat} {ds : List PyData}, LLs K S H as dss → dss[m]? = some ds → ∃ a xs, as[m]? = some a ∧ H a = some (.lst xs) ∧ DqAll K S xs ds
  | _, _, _, _, .nil, h => by simp at h
  | _, _, 0, _, .cons ⟨xs, h1, h2⟩ t, h => by simp at h; subst h; exact ⟨_, xs, rfl, h1, h2⟩
  | _, _, m + 1, _, .cons _ t, h => by
    obtain ⟨a, xs, h1, h2⟩ := LLs.get (m := m) t (by simpa using h)
    exact ⟨a, xs, by simpa using h1, h2⟩
theorem LLs.set {S H : Hp} {a : Addr} {xs : List V} {ds : List PyData} (hd : DqAll K S xs ds) : ∀ {as : List Addr} {dss : List (List PyData)} {m : Nat}, LLs K S H as dss → as.Nodup → as[m]? = some a → LLs K S (upd H a (.lst xs)) as (dss.set m ds)
  | _, _, _, .nil, _, h => by simp at h
  | _, _, 0, .cons _ t, nd, h => by
    simp at h; subst h
    exact .cons ⟨xs, upd_same, hd⟩ (LLs.up (Same.refl _) t fun b hb => upd_ne fun z => (List.nodup_cons.mp nd).1 (z ▸ hb))
  | b :: bs, _, m + 1, .cons ⟨ys, h1, h2⟩ t, nd, h => by
    have hm : bs[m]? = some a := by simpa using h
    have hne : b ≠ a := fun z => (List.nodup_cons.mp nd).1 (z ▸ List.mem_of_getElem? hm)
    exact .cons ⟨ys, by rw [upd_ne hne]; exact h1, h2⟩ (LLs.set hd t (List.nodup_cons.mp nd).2 hm)
theorem LLs.len {S H : Hp} : ∀ {as : List Addr} {dss : List (List PyData)}, LLs K S H as dss → as.length = dss.length
  | _, _, .nil => rfl
  | _, _, .cons _ t => by rw [List.length_cons, List.length_cons, LLs.len t]
theorem Rel.llAt {Γ : Gam} {S H : Hp} {σ : St} {ρ : List E} {fp : Nat → List Addr} (R : Rel K Γ S H σ ρ fp) {i : Nat} {dss : List (List PyData)} (hi : ρ.getD i .no = .ll dss) :
    ∃ a as, σ[i]? = some (some (.ref a)) ∧ fp i = a :: as ∧ H a = some (.lst (as.map V.ref)) ∧ LLs K S H as dss := by
  have hi2 := getD_some hi (fun z => by cases z)
  obtain ⟨a, as, h0, h1, h2, h3⟩ := R.ent i _ hi2
  have hs : i < σ.length := by rw [← R.len]; exact (List.getElem?_eq_some_iff.mp hi2).1
  rw [List.getD_eq_getElem?_getD, List.getElem?_eq_getElem hs] at h0
  exact ⟨a, as, by rw [List.getElem?_eq_getElem hs]; exact congrArg some h0, h1, h2, h3⟩
theorem Rel.intAt {Γ : Gam} {S H : Hp} {σ : St} {ρ : List E} {fp : Nat → List Addr} (R : Rel K Γ S H σ ρ fp) {i : Nat} {z : Int} (hi : ρ.getD i .no = .dat (.int z)) : σ[i]? = some (some (.int z)) := by
  have hi2 := getD_some hi (fun z => by cases z)
  obtain ⟨_, v, h1, h2⟩ := R.ent i _ hi2
  have hs : i < σ.length := by rw [← R.len]; exact (List.getElem?_eq_some_iff.mp hi2).1
  rw [List.getD_eq_getElem?_getD, List.getElem?_eq_getElem hs] at h1
  cases h2
  rw [List.getElem?_eq_getElem hs]; exact congrArg some h1
def sSub2 (fe : TX) (i jr jc : Nat) : TXS := fun DD ρ => fe ρ (fun re ρ1 => isD re fun d => isLl (ρ1.getD i .no) fun dss => isI (ρ1.getD jr .no) fun r => isI (ρ1.getD jc .no) fun c =>
  ∃ m row c', ixN dss.length r = some m ∧ dss[m]? = some row ∧ ixN row.length c = some c' ∧ DD.nx (ρ1.set i (.ll (dss.set m (row.set c' d))))) DD.ex
def fAt2 (i jr jc : Nat) : TX := fun ρ Q _ => isLl (ρ.getD i .no) fun dss => isI (ρ.getD jr .no) fun r => isI (ρ.getD jc .no) fun c =>
  ∃ m row z, ixN dss.length r = some m ∧ dss[m]? = some row ∧ atI row c = some z ∧ Q (.dat z) ρ
theorem atI_of {α : Type} {xs : List α} {i : Int} {m : Nat} {x : α} (h : ixN xs.length i = some m) (e : xs[m]? = some x) : atI xs i = some x := by
  unfold atI; rw [h]; exact e
variable {xi xr xc : Str} {i jr jc : Nat} {p1 p2 p3 p4 spos : Pos}
theorem xr_at2 (h1 : X.N[i]? = some xi) (v1 : Vis X.env.scope xi) (h2 : X.N[jr]? = some xr) (v2 : Vis X.env.scope xr) (h3 : X.N[jc]? = some xc) (v3 : Vis X.env.scope xc) (hK : X.K = K)
    (d1 : (xi == ("__debug__" : Str)) = false := by decide) (c1 : (xi == ("__classdict__" : Str)) = false := by decide) (d2 : (xr == ("__debug__" : Str)) = false := by decide) (c2 : (xr == ("__classdict__" : Str)) = false := by decide)
    (d3 : (xc == ("__debug__" : Str)) = false := by decide) (c3 : (xc == ("__classdict__" : Str)) = false := by decide)
    (s1 : PlainIx (.Name xr p2) := by exact fun _ _ => rfl) (s2 : PlainIx (.Name xc p3) := by exact fun _ _ => rfl) :
    XR K W io X (.Subscript (.Subscript (.Name xi p1) (.Name xr p2) p4) (.Name xc p3) pos) (fAt2 i jr jc) := by
  subst hK
  refine XR.mk (pe_ix ix_seq (pe_ix ix_seq (pe_var h1 v1 d1 c1) (pe_var h2 v2 d2 c2) s1) (pe_var h3 v3 d3 c3) s2) fun Γ S H σ ρ fp QD Ex Q hio R hf k kx => ?_
  obtain ⟨dss, e1, hf⟩ := isLl_get hf
  obtain ⟨r, e2, hf⟩ := isI_get hf
  obtain ⟨c, e3, m, row, z, hm, hrow, hz, q⟩ := isI_get hf
  obtain ⟨a, as, g1, g2, g3, g4⟩ := R.llAt e1
  obtain ⟨b, xs, f1, f2, f3⟩ := LLs.get g4 hrow
  obtain ⟨v, hv, dp⟩ := dps_at f3 hz
  refine ⟨.ref a, g1, .int r, R.intAt e2, .inl ⟨a, _, r, .ref b, rfl, rfl, SqL.of g3, ?_, .int c, R.intAt e3, .inl ⟨b, xs, c, v, rfl, rfl, SqL.of f2, hv, k S H v (.dat z) ρ fp R (Same.refl _) dp q⟩⟩⟩
  exact atI_of (by rw [List.length_map, g4.len]; exact hm) (by rw [List.getElem?_map, f1]; rfl)
theorem xs_sub2 {e : Expr} {fe : TX} (he : XR K W io X e fe) (h1 : X.N[i]? = some xi) (v1 : Vis X.env.scope xi) (h2 : X.N[jr]? = some xr) (v2 : Vis X.env.scope xr) (h3 : X.N[jc]? = some xc) (v3 : Vis X.env.scope xc) (hK : X.K = K)
    (d1 : (xi == ("__debug__" : Str)) = false := by decide) (c1 : (xi == ("__classdict__" : Str)) = false := by decide) (d2 : (xr == ("__debug__" : Str)) = false := by decide) (c2 : (xr == ("__classdict__" : Str)) = false := by decide)
    (d3 : (xc == ("__debug__" : Str)) = false := by decide) (c3 : (xc == ("__classdict__" : Str)) = false := by decide)
    (s1 : PlainIx (.Name xr p2) := by exact fun _ _ => rfl)
    (ha : ∀ v, assign (.Subscript (.Subscript (.Name xi p1) (.Name xr p2) p4) (.Name xc p3) spos) X.env v = (do
      let ov ← holding [v] (eval (.Subscript (.Name xi p1) (.Name xr p2) p4) X.env)
      let iv ← holding [v, ov] (eval (.Name xc p3) X.env)
      standAt spos
      holding [v, ov, iv] (setItem ov iv v)
      release [v, ov, iv] []) := by intro _; rfl)
    (hs : swapsWithSole [.Subscript (.Subscript (.Name xi p1) (.Name xr p2) p4) (.Name xc p3) spos] e pos.line X.env = pure false := by rfl) (hw : swappedStores [.Subscript (.Subscript (.Name xi p1) (.Name xr p2) p4) (.Name xc p3) spos] e X.env = pure none := by rfl)
    (ha1 : (assignEach [.Subscript (.Subscript (.Name xi p1) (.Name xr p2) p4) (.Name xc p3) spos] X.env).map (·.2) = [assign (.Subscript (.Subscript (.Name xi p1) (.Name xr p2) p4) (.Name xc p3) spos) X.env] := by rfl) :
    XS K W io X (.Assign [.Subscript (.Subscript (.Name xi p1) (.Name xr p2) p4) (.Name xc p3) spos] e pos) (sSub2 fe i jr jc) := by
  subst hK
  refine XS.mk (ps_asg he (pg_sub (pe_ix ix_seq (pe_var h1 v1 d1 c1) (pe_var h2 v2 d2 c2) s1) (pe_var h3 v3 d3 c3) set_list ha) hs hw ha1) fun Γ S H σ ρ fp DD D hio R hT k => ⟨Γ, S, ρ, fp, _, DD.ex, hio, R, hT, fun S1 H1 v rr ρ1 fp1 R1 ss1 ok1 q => ?_, k.kx⟩
  obtain ⟨d, rfl, q⟩ := isD_get q
  obtain ⟨dss, e1, q⟩ := isLl_get q
  obtain ⟨r, e2, q⟩ := isI_get q
  obtain ⟨c, e3, m, row, c', hm, hrow, hc', q⟩ := isI_get q
  obtain ⟨a, as, g1, g2, g3, g4⟩ := R1.llAt e1
  obtain ⟨b, xs, f1, f2, f3⟩ := LLs.get g4 hrow
  have nd : (a :: as).Nodup := by rw [← g2]; exact R1.nd i
  have hba : b ∈ as := List.mem_of_getElem? f1
  have hab : a ≠ b := fun z => (List.nodup_cons.mp nd).1 (z ▸ hba)
  have R2 := R1.mut (H' := upd H1 b (.lst (xs.set c' v))) (e' := .ll (dss.set m (row.set c' d))) (fpn := a :: as) (getD_some e1 (fun z => by cases z)) rfl
    (fun x hx _ => upd_ne fun z => hx (by rw [g2, z]; exact List.mem_cons_of_mem _ hba))
    ⟨a, as, by rw [List.getD_eq_getElem?_getD, g1]; rfl, rfl, by rw [upd_ne hab]; exact g3, LLs.set (dps_set ok1 c' f3) g4 (List.nodup_cons.mp nd).2 f1⟩
    (fun x hx => by
      by_cases z : x = b
      · subst z; rw [upd_same]; exact Option.some_ne_none _
      · rw [upd_ne z]; exact hx)
    (fun x hx => ⟨.inl (by rw [g2]; exact hx), by
      by_cases z : x = b
      · subst z; rw [upd_same]; exact Option.some_ne_none _
      · rw [upd_ne z]; exact (R1.hide i x (by rw [g2]; exact hx)).2.1⟩) nd
  refine ⟨.ref a, g1, .int r, R1.intAt e2, .inl ⟨a, _, r, .ref b, rfl, rfl, SqL.of g3, ?_, .int c, R1.intAt e3, b, xs, c, c', rfl, rfl, f2, by rw [dps_len f3]; exact hc', k.nx _ _ _ _ _ R2 q⟩⟩
  exact atI_of (by rw [List.length_map, g4.len]; exact hm) (by rw [List.getElem?_map, f1]; rfl)

/-! return of a name -/
def sRetV (i : Nat) : TXS := fun DD ρ => match ρ.getD i .no with
  | .no => False
  | e => DD.rt e ρ
def sRetN : TXS := fun DD ρ => DD.rt (.dat .none) ρ
theorem xs_retV {i : Nat} {x : Str} {p : Pos} (hi : i ∉ io := by decide) (hN : X.N[i]? = some x := by rfl) (hv : Vis X.env.scope x := by first | exact Or.inl rfl | exact Or.inr (Or.inl rfl) | exact Or.inr (Or.inr rfl)) (hd : (x == ("__debug__" : Str)) = false := by decide)
    (hcd : (x == ("__classdict__" : Str)) = false := by decide) : XS K W io X (.Return (some (.Name x p)) pos) (sRetV i) := by
  have h := xs_retName (K := K) (W := W) (io := io) (pos := pos) (p := p) hi hN hv hd hcd
  refine ⟨fun pins s σ H D I ⟨Γ, S, ρ, fp, DD, ho, R, hT, k⟩ => h.run pins s σ H D I ⟨Γ, S, ρ, fp, DD, ho, R, ?_, k⟩⟩
  unfold sRetV at hT
  cases q : ρ.getD i .no with
  | no => rw [q] at hT; exact hT.elim
  | _ =>
    rw [q] at hT
    refine ⟨fun z => ?_, ?_⟩
    · rw [q] at z; cases z
    · rw [q]; exact hT
end

/-! ### loops, by data -/
def lcStep (g : TXG) (tt : TXT) (te : TX) (vs : List Nat) (d : PyData) (ρ : List E) (k : Option PyData → List E → Prop) : Prop := g d ρ fun ρ1 => tt ρ1 (fun b ρ2 => match b with
    | true => te ρ2 (fun r ρ3 => isD r fun y => wipeK ρ3 vs fun ρ4 => k (some y) ρ4) noX
    | false => wipeK ρ2 vs fun ρ4 => k none ρ4) noX
def accO {α : Type} (acc : List α) : Option α → List α
  | some y => acc ++ [y]
  | none => acc
theorem lcR_cons {g : TXG} {tt : TXT} {te : TX} {vs : List Nat} {d : PyData} {ds acc : List PyData} {ρ : List E} {Q : List PyData → List E → Prop} : lcR g tt te vs (d :: ds) acc ρ Q = lcStep g tt te vs d ρ fun o ρ' => lcR g tt te vs ds (accO acc o) ρ' Q := rfl
theorem lcR_inv {g : TXG} {tt : TXT} {te : TX} {vs : List Nat} {Q : List PyData → List E → Prop} (P : Nat → List PyData → List E → Prop) : ∀ {ds acc : List PyData} {ρ : List E} (n : Nat),
    (∀ i d acc ρ (k : Option PyData → List E → Prop), ds[i]? = some d → P (n + i) acc ρ → (∀ o ρ', P (n + i + 1) (accO acc o) ρ' → k o ρ') → lcStep g tt te vs d ρ k) → P n acc ρ → (∀ acc ρ, P (n + ds.length) acc ρ → Q acc ρ) → lcR g tt te vs ds acc ρ Q
  | [], acc, ρ, n, _, h0, hq => hq acc ρ h0
  | d :: ds, acc, ρ, n, hs, h0, hq => by
    rw [lcR_cons]
    refine hs 0 d acc ρ _ rfl h0 fun o ρ' hp => ?_
    refine lcR_inv P (n + 1) (fun i d acc ρ k hd hP hk => hs (i + 1) d acc ρ k (by simpa using hd) (by rw [show n + (i + 1) = n + 1 + i by omega]; exact hP) (by rw [show n + (i + 1) + 1 = n + 1 + i + 1 by omega]; exact hk)) hp fun acc ρ h => hq acc ρ (by rw [List.length_cons, show n + (ds.length + 1) = n + 1 + ds.length by omega]; exact h)
/-- a comprehension that changes nothing -/
theorem lcR_map {g : TXG} {tt : TXT} {te : TX} {vs : List Nat} {Q : List PyData → List E → Prop} {ρ : List E} (h : PyData → Option PyData) : ∀ {ds acc : List PyData}, (∀ d ∈ ds, ∀ k : Option PyData → List E → Prop, k (h d) ρ → lcStep g tt te vs d ρ k) → Q (acc ++ ds.filterMap h) ρ → lcR g tt te vs ds acc ρ Q
  | [], acc, _, hq => by
    rw [List.filterMap_nil, List.append_nil] at hq
    exact hq
  | d :: ds, acc, hs, hq => by
    rw [lcR_cons]
    refine hs d List.mem_cons_self _ ?_
    refine lcR_map h (fun d hd => hs d (List.mem_cons_of_mem _ hd)) ?_
    cases q : h d with
    | none => rw [List.filterMap_cons_none q] at hq; exact hq
    | some y => rw [List.filterMap_cons_some q] at hq; simpa [accO] using hq
def llStep (g : TXG) (tt : TXT) (te : TXN) (vs : List Nat) (d : PyData) (ρ : List E) (k : Option (List PyData) → List E → Prop) : Prop := g d ρ fun ρ1 => tt ρ1 (fun b ρ2 => match b with
    | true => te ρ2 (fun e ρ3 => isLst e fun y => wipeK ρ3 vs fun ρ4 => k (some y) ρ4) noX
    | false => wipeK ρ2 vs fun ρ4 => k none ρ4) noX
theorem llR_cons {g : TXG} {tt : TXT} {te : TXN} {vs : List Nat} {d : PyData} {ds : List PyData} {acc : List (List PyData)} {ρ : List E} {Q : List (List PyData) → List E → Prop} : llR g tt te vs (d :: ds) acc ρ Q = llStep g tt te vs d ρ fun o ρ' => llR g tt te vs ds (accO acc o) ρ' Q := rfl
theorem llR_inv {g : TXG} {tt : TXT} {te : TXN} {vs : List Nat} {Q : List (List PyData) → List E → Prop} (P : Nat → List (List PyData) → List E → Prop) : ∀ {ds : List PyData} {acc : List (List PyData)} {ρ : List E} (n : Nat),
    (∀ i d acc ρ (k : Option (List PyData) → List E → Prop), ds[i]? = some d → P (n + i) acc ρ → (∀ o ρ', P (n + i + 1) (accO acc o) ρ' → k o ρ') → llStep g tt te vs d ρ k) → P n acc ρ → (∀ acc ρ, P (n + ds.length) acc ρ → Q acc ρ) → llR g tt te vs ds acc ρ Q
  | [], acc, ρ, n, _, h0, hq => hq acc ρ h0
  | d :: ds, acc, ρ, n, hs, h0, hq => by
    rw [llR_cons]
    refine hs 0 d acc ρ _ rfl h0 fun o ρ' hp => ?_
    refine llR_inv P (n + 1) (fun i d acc ρ k hd hP hk => hs (i + 1) d acc ρ k (by simpa using hd) (by rw [show n + (i + 1) = n + 1 + i by omega]; exact hP) (by rw [show n + (i + 1) + 1 = n + 1 + i + 1 by omega]; exact hk)) hp fun acc ρ h => hq acc ρ (by rw [List.length_cons, show n + (ds.length + 1) = n + 1 + ds.length by omega]; exact h)
theorem forR_inv {g : TXG} {tb : TXS} {DD : DE} (P : Nat → List E → Prop) : ∀ {ds : List PyData} {ρ : List E} (n : Nat),
    (∀ i d ρ (N : List E → Prop), ds[i]? = some d → P (n + i) ρ → (∀ ρ', P (n + i + 1) ρ' → N ρ') → g d ρ fun ρ1 => tb { DD with nx := N, ct := N, bk := DD.nx } ρ1) → P n ρ → (∀ ρ, P (n + ds.length) ρ → DD.nx ρ) → forR g tb ds DD ρ
  | [], ρ, n, _, h0, hq => hq ρ h0
  | d :: ds, ρ, n, hs, h0, hq => by
    refine hs 0 d ρ (fun ρ2 => forR g tb ds DD ρ2) rfl h0 fun ρ' hp => ?_
    exact forR_inv P (n + 1) (fun i d ρ N hd hP hk => hs (i + 1) d ρ N (by simpa using hd) (by rw [show n + (i + 1) = n + 1 + i by omega]; exact hP) (by rw [show n + (i + 1) + 1 = n + 1 + i + 1 by omega]; exact hk)) hp fun ρ h => hq ρ (by rw [List.length_cons, show n + (ds.length + 1) = n + 1 + ds.length by omega]; exact h)
end L3

namespace L3
open PySem PySem.Spec PyProof.Rows L2
section
variable {X : Cx} {K : PySem.W.Frag} {W : WX} {io : List Nat} {pos p : Pos} {e o : Expr} {n : Nat} {f : TXA}
/-! ### sorted -/
def rSortD (K : PySem.W.Frag) : List V → Hp → VK → Prop := fun vs H Q => ∃ (a : Addr) (xs : List V) (β : Type) (bs : List β) (enc : β → PyData) (T : Hp), vs = [V.ref a] ∧ SqL K H a xs ∧ Same T H ∧ DqAll K T xs (bs.map enc) ∧ PySem.W.AllAlike (bs.map enc) ∧ PySem.W.Sortable (bs.map enc) ∧ (∀ b ∈ bs, (enc b).plain = true ∧ (enc b).depth ≤ 60) ∧
  ∀ ys q, DqAll K T ys ((bs.mergeSort (PySem.W.dataLe false enc)).map enc) → H q = none → Q (.ref q) (upd H q (.lst ys))
theorem each_of {β : Type} {H : Hp} {enc : β → PyData} : ∀ {bs : List β} {xs : List V} {us : List Value}, DqAll K H xs (bs.map enc) → Vals xs us → PySem.W.EachIs (fun u b => ∃ x, RelV x u ∧ Dq K H x (enc b)) us bs
  | [], _, _, h, r => by
    cases h
    cases r
    exact .nil
  | b :: bs, _, _, h, r => by
    cases h with
    | cons h1 h2 =>
      cases r with
      | cons r1 r2 => exact .cons ⟨_, r1, h1⟩ (each_of h2 r2)
theorem each_pl {β : Type} {F : Value → β → Prop} {G : β → Prop} : ∀ {bs : List β} {us : List Value}, (∀ b ∈ bs, G b) → PySem.W.EachIs F us bs → PySem.W.EachIs (fun u b => F u b ∧ G b) us bs
  | _, _, _, .nil => .nil
  | _, _, h, .cons h1 t => .cons ⟨h1, h _ List.mem_cons_self⟩ (each_pl (fun b hb => h b (List.mem_cons_of_mem _ hb)) t)
theorem each_back {β : Type} {H : Hp} {enc : β → PyData} : ∀ {bs : List β} {us : List Value}, PySem.W.EachIs (fun u b => ∃ x, RelV x u ∧ Dq K H x (enc b)) us bs → ∃ ys, Vals ys us ∧ DqAll K H ys (bs.map enc)
  | _, _, .nil => ⟨[], .nil, .nil⟩
  | _, _, .cons ⟨x, h1, h2⟩ t => by
    obtain ⟨ys, a, b⟩ := each_back t
    exact ⟨x :: ys, .cons h1 a, .cons h2 b⟩
theorem cr_sortD (hu : X.A.units + 65 < cLine) : CallR X (.builtin "sorted") (rSortD X.K) := by
  intro pins s σ H vs us Q I r h
  obtain ⟨a, xs, β, bs, enc, T, rfl, hs, hT, hd, hal, hk, hdep, q⟩ := h
  obtain ⟨its, rv, hl, hz⟩ := I.list hs
  rw [Vals.ref1 r]
  have hn : bs.length ≤ sizeLine := by
    have z := dps_len hd
    rw [List.length_map] at z
    omega
  refine PySem.W.sorted_data hl.isList (each_of hd rv) ((each_pl (fun b hb => (hdep b hb).1) (each_of hd rv)).mono fun u b ⟨⟨x, h1, h2⟩, h3⟩ => Dp.reads I _ x u (Dq.weak _ _ (dp_up hT _ _ h2) h3) h1) hal hk hn (fun b hb => by have := (hdep b hb).2; omega) fun out ho eo => ?_
  obtain ⟨ys, hy, hdy⟩ := each_back eo
  obtain ⟨ep, he'⟩ := PyProof.Rows.sortedAll_at s.heap its (List.toArray out)
  have hlen : ys.length ≤ sizeLine := by
    have z := dps_len hdy
    rw [List.length_map, List.length_mergeSort] at z
    omega
  exact ⟨.ref _, upd H (s.heap.objs.size + 1) (.lst ys), I.laid (t' := s.toks) (fun _ _ => PyProof.Rows.sortedAll_old) (Nat.le_succ _) ⟨hlen, out, ep, hy, he'⟩, rfl, q ys _ hdy (I.hok.fresh (Nat.le_succ _))⟩
def gSorted : List PyData → (E → Prop) → Prop := fun ds Q => match ds with
  | [.list xs] => ∃ (β : Type) (bs : List β) (enc : β → PyData), xs = bs.map enc ∧ PySem.W.AllAlike (bs.map enc) ∧ PySem.W.Sortable (bs.map enc) ∧ (∀ b ∈ bs, (enc b).plain = true ∧ (enc b).depth ≤ 60) ∧ Q (.lst ((bs.mergeSort (PySem.W.dataLe false enc)).map enc))
  | _ => False
theorem d_sorted : CallN K (rSortD K) gSorted := by
  intro Γ S H σ ρ fp vs ds Q QD R hv h k
  unfold gSorted at h
  split at h
  · obtain ⟨β, bs, enc, rfl, h1, h2, h3, q⟩ := h
    cases hv with
    | cons v1 t =>
      cases t
      obtain ⟨a, xs, rfl, q1, q2⟩ := vw_lst R.sub v1
      refine ⟨a, xs, β, bs, enc, S, rfl, q1, R.sub, q2, h1, h2, h3, fun ys p hys hp => ?_⟩
      obtain ⟨R2, nw⟩ := new_lst R hp hys
      exact k _ _ (.ref p) _ [p] R2 (Same.refl _) nw q
  · exact h.elim
theorem xn_sorted (hK : X.K = K) (hu : X.A.units + 65 < cLine) (hgl : Gl X "sorted") (hm : X.mg "sorted" = none) (ha : XA K W io X [e] n f) (he : starEach [e] X.env = (false, eval e X.env) :: starEach [] X.env := by rfl) (hpl : (backTo pos (starEach [] X.env)).any (·.1) = false := by rfl) : XN K W io X (.Call (.Name "sorted" p) [e] [] pos) (fCall gSorted f) := by
  subst hK
  exact xn_callB (cr_sortD hu) d_sorted hgl hm (by decide +kernel) ha (he := he) (hpl := hpl)
/-! ### count, index -/
def rCntD (K : PySem.W.Frag) : V → List V → Hp → VK → Prop := fun x xs H Q => ∃ (a : Addr) (y : V) (ds : List PyData) (d : PyData), x = .ref a ∧ xs = [y] ∧ Dq K H (.ref a) (.list ds) ∧ Dq K H y d ∧ okD (.list ds) = true ∧ okD d = true ∧ Q (.int (ds.countP fun z => PyData.eqv z d : Nat)) H
theorem mt_cntD (hu : X.A.units + 65 < cLine) : MtR X "list.count" (rCntD X.K) := by
  intro pins s σ H x xs v us Q I rx rxs h
  obtain ⟨a, y, ds, d, rfl, rfl, hl, hy, sl, sd, q⟩ := h
  cases rx
  obtain ⟨u, rfl, ru⟩ := rxs.one
  obtain ⟨bs, r1⟩ := Dp.reads I d y u (Dq.weak _ _ hy (okD_p sd)) ru
  have hdd := okD_d sd
  cases hl with
  | lst hs ha =>
    obtain ⟨its, rv, hpl, hlen⟩ := I.list hs
    obtain ⟨as, h4⟩ := Dp.readsAll I ds _ its (DqAll.weak _ _ ha (okD_all sl)) rv
    exact PySem.SeqAt.count_list_data hpl.isList h4 r1 (okD_all sl) (okD_p sd) (by omega) ⟨.int _, H, I.tok _, ⟨_, rfl⟩, q⟩
/-- a list that is read -/
def isLk (o : Option PyData) (k : List PyData → Prop) : Prop := match o with
  | some (.list ds) => k ds
  | _ => False
theorem isLk_get {o : Option PyData} {k : List PyData → Prop} (h : isLk o k) : ∃ ds, o = some (.list ds) ∧ k ds := by
  cases o with
  | none => exact h.elim
  | some d => cases d with
    | list ds => exact ⟨ds, rfl, h⟩
    | _ => exact h.elim
/-- ds.count(d) -/
def fCount (fo fe : TX) : TX := fun ρ Q Ex => fo ρ (fun ro ρ1 => isLk (look ρ1 ro) fun _ => fe ρ1 (fun re ρ2 => isLk (look ρ2 ro) fun ds => withD ρ2 re fun d => okD (.list ds) = true ∧ okD d = true ∧ Q (.dat (.int (ds.countP fun z => PyData.eqv z d : Nat))) ρ2) Ex) Ex
theorem vw_list {S H : Hp} (sub : Same S H) {v : V} {ds : List PyData} (h : Vw K S H v (.list ds)) : ∃ a xs, v = .ref a ∧ SqL K H a xs ∧ Dq K H v (.list ds) := by
  have d := h.dp sub
  cases d with
  | lst a1 a2 => exact ⟨_, _, rfl, a1, .lst a1 a2⟩
theorem xr_count {fo fe : TX} {apos : Pos} (hK : X.K = K) (hu : X.A.units + 65 < cLine) (ho : XR K W io X o fo) (he : XR K W io X e fe)
    (hbase : attributeBase o "count" X.env (eval o X.env) = eval o X.env := by rfl)
    (hfew : ((backTo pos (starEach (e :: []) X.env)).all (fun x => !x.1) && (backToKw pos (keywordEach [] X.env)).all (fun x => x.1.isSome)
      && decide ((e :: []).length + ([] : List Keyword).length + (if ([] : List Keyword).isEmpty then 0 else 1) < 30)) = true := by rfl)
    (hline : (apos.endLine == pos.line) = true := by rfl) (hs : starEach (e :: []) X.env = (false, eval e X.env) :: starEach [] X.env := by rfl) (hplain : (backTo pos (starEach [] X.env)).any (·.1) = false := by rfl) :
    XR K W io X (.Call (.Attribute o "count" apos) [e] [] pos) (fCount fo fe) := by
  subst hK
  refine XR.mk (pe_bm PySem.F.plainAttrs_list PySem.F.slot_list_count PySem.F.type_list_count (mt_cntD hu) ho (pa_cons he pa_nil hs) hbase hfew hline hs hplain) fun Γ S H σ ρ fp QD Ex Q hio R hf k kx => ?_
  refine ⟨Γ, S, ρ, fp, _, Ex, hio, R, hf, fun S1 H1 v r ρ1 fp1 R1 ss1 ok1 h1 => ?_, kx⟩
  obtain ⟨ds1, l1, h1⟩ := isLk_get h1
  obtain ⟨a, xs, rfl, q1, _⟩ := vw_list R1.sub (look_vw R1 ok1 l1)
  refine ⟨.inl ⟨rfl, xs, q1⟩, Γ, S1, ρ1, fp1, _, Ex, hio, R1, h1, fun S2 H2 w r2 ρ2 fp2 R2 ss2 ok2 h2 => ?_, kx.up ss1⟩
  obtain ⟨ds, l2, h2⟩ := isLk_get h2
  obtain ⟨d, l3, o1, o2, q⟩ := withD_get h2
  have vd := (look_vw R2 (ok1.up ss2) l2).dp R2.sub
  have vw := (look_vw R2 ok2 l3).dp R2.sub
  exact ⟨a, w, ds, d, rfl, rfl, vd, vw, o1, o2, k S2 H2 _ (.dat (.int _)) ρ2 fp2 R2 (ss1.trans ss2) (.int _) q⟩
/-- ds.index(d), where it is known -/
def fIndex (fo fe : TX) : TX := fun ρ Q Ex => fo ρ (fun ro ρ1 => isLk (look ρ1 ro) fun _ => fe ρ1 (fun re ρ2 => isLk (look ρ2 ro) fun ds => withD ρ2 re fun d => ∃ j z, SeqAt.shaped (.list ds) = true ∧ SeqAt.shaped d = true ∧ ds[j]? = some z ∧ PyData.eqv z d = true ∧
  (∀ m z', m < j → ds[m]? = some z' → PyData.eqv z' d = false) ∧ Q (.dat (.int (j : Nat))) ρ2) Ex) Ex
theorem xr_index {fo fe : TX} {apos : Pos} (hK : X.K = K) (hu : X.A.units + 65 < cLine) (ho : XR K W io X o fo) (he : XR K W io X e fe)
    (hbase : attributeBase o "index" X.env (eval o X.env) = eval o X.env := by rfl)
    (hfew : ((backTo pos (starEach (e :: []) X.env)).all (fun x => !x.1) && (backToKw pos (keywordEach [] X.env)).all (fun x => x.1.isSome)
      && decide ((e :: []).length + ([] : List Keyword).length + (if ([] : List Keyword).isEmpty then 0 else 1) < 30)) = true := by rfl)
    (hline : (apos.endLine == pos.line) = true := by rfl) (hs : starEach (e :: []) X.env = (false, eval e X.env) :: starEach [] X.env := by rfl) (hplain : (backTo pos (starEach [] X.env)).any (·.1) = false := by rfl) :
    XR K W io X (.Call (.Attribute o "index" apos) [e] [] pos) (fIndex fo fe) := by
  subst hK
  refine XR.mk (pe_bm PySem.F.plainAttrs_list PySem.F.slot_list_index PySem.F.type_list_index (mt_indexD hu) ho (pa_cons he pa_nil hs) hbase hfew hline hs hplain) fun Γ S H σ ρ fp QD Ex Q hio R hf k kx => ?_
  refine ⟨Γ, S, ρ, fp, _, Ex, hio, R, hf, fun S1 H1 v r ρ1 fp1 R1 ss1 ok1 h1 => ?_, kx⟩
  obtain ⟨ds1, l1, h1⟩ := isLk_get h1
  obtain ⟨a, xs, rfl, q1, _⟩ := vw_list R1.sub (look_vw R1 ok1 l1)
  refine ⟨.inl ⟨rfl, xs, q1⟩, Γ, S1, ρ1, fp1, _, Ex, hio, R1, h1, fun S2 H2 w r2 ρ2 fp2 R2 ss2 ok2 h2 => ?_, kx.up ss1⟩
  obtain ⟨ds, l2, h2⟩ := isLk_get h2
  obtain ⟨d, l3, j, z, o1, o2, o3, o4, o5, q⟩ := withD_get h2
  have vd := (look_vw R2 (ok1.up ss2) l2).dp R2.sub
  have vw := (look_vw R2 ok2 l3).dp R2.sub
  exact ⟨a, w, d, ds, j, z, rfl, rfl, Dq.weak _ _ vd (PyData.plain_of_canLay0 _ (SeqAt.canLay_of_shaped o1)), Dq.weak _ _ vw (PyData.plain_of_canLay0 _ (SeqAt.canLay_of_shaped o2)), o1, o2, o3, o4, o5, k S2 H2 _ (.dat (.int _)) ρ2 fp2 R2 (ss1.trans ss2) (.int _) q⟩
end
end L3

namespace L3
open PySem PySem.Spec PyProof.Rows L2
/-- a module's own tuple -/
theorem dp_ctup {K : PySem.W.Frag} {S : Hp} {a : Addr} {dd : Option Addr} {its : Array Value} {n : Nat} {sl : Array (Option Value)} {xs : List V} {ds : List PyData} (h : K.lookup a = some ⟨.type "tuple", dd, .seq its n, sl⟩) (hz : its.size ≤ sizeLine) (hv : Vals xs its.toList) (hd : DpAll K S xs ds) : Dp K S (.ref a) (.tuple ds) :=
  .tup (.inr ⟨_, its, n, h, rfl, rfl, hz, hv⟩) hd
/-! ### xs[::-1] -/
section
variable {prog : Program} {w : World} {A : Around} {E : Value → Shared → Prop} {s : Shared}
theorem dq_const {K : PySem.W.Frag} {S : Hp} {v : V} {ds : List PyData} (h : Dp K S v (.tuple ds)) (c : constAll ds = true) : Dq K S v (wkT ds) := by
  cases h with
  | tup h1 h2 => exact .wk h1 h2 c
theorem turn_applied {sl : Addr} {vs : Value} {n : Nat} {Q : Int × Int × Nat → Shared → Prop} (hs : s.heap.IsSliceOf sl .none .none vs) (ps : IsPart vs (some (-1))) (h : Q ((n : Int) - 1, -1, n) s) : wpAny (model prog w) A (Builtin.Slice.sliceApplied (.ref sl) (pure (n : Int))) Q E s := by
  obtain ⟨os, g1, g2, g3⟩ := hs
  unfold Builtin.Slice.sliceApplied
  unfold Builtin.Slice.sliceFields
  refine wpAny_bind (wpAny_bind (wpAny_field g1 g3 (x := .none) rfl (wpAny_bind (wpAny_field g1 g3 (x := .none) rfl (wpAny_bind (wpAny_field g1 g3 (x := vs) rfl (wpAny_pure ?_)))))))
  refine wpAny_bind (HT.slicePart_ ps ?_)
  show wpAny _ _ (if (((-1 : Int)) == 0) = true then _ else _) _ _ s
  rw [if_neg (by decide)]
  refine wpAny_bind (HT.slicePart_ IsPart.none (wpAny_bind (HT.slicePart_ IsPart.none (wpAny_bind (wpAny_pure ?_)))))
  have e : Builtin.Slice.slicePlaces ((n : Int) - 1) (-1) (-1) = n := by
    unfold Builtin.Slice.slicePlaces
    rw [if_neg (by decide)]
    by_cases hn : n = 0
    · subst hn; rfl
    · rw [if_pos (by omega)]
      have : ((n : Int) - 1 - -1 - 1) / (- -1) + 1 = n := by
        rw [show (- -1 : Int) = 1 by decide, Int.ediv_one]; omega
      rw [this]
      exact Int.toNat_natCast n
  show wpAny _ _ (pure ((n : Int) - 1, (-1 : Int), Builtin.Slice.slicePlaces ((n : Int) - 1) (-1) (-1))) _ _ s
  rw [e]
  exact wpAny_pure h
theorem fm_congr {α β : Type} {f g : α → Option β} : ∀ {l : List α}, (∀ x ∈ l, f x = g x) → l.filterMap f = l.filterMap g
  | [], _ => rfl
  | x :: l, h => by
    have ih := fm_congr (f := f) (g := g) (l := l) fun y hy => h y (List.mem_cons_of_mem _ hy)
    rw [List.filterMap_cons, List.filterMap_cons, h x List.mem_cons_self, ih]
theorem turn_pick (xs : Array Value) : ((List.range xs.size).filterMap fun (m : Nat) => xs[((xs.size : Int) - 1 + (m : Int) * -1).toNat]?) = xs.toList.reverse := by
  have e : ((List.range xs.size).filterMap fun (m : Nat) => xs[((xs.size : Int) - 1 + (m : Int) * -1).toNat]?) = ((List.range xs.size).map fun k => xs.size - 1 - k).filterMap (xs[·]?) := by
    rw [List.filterMap_map]
    refine fm_congr fun m hm => ?_
    have hm' := List.mem_range.mp hm
    show xs[((xs.size : Int) - 1 + (m : Int) * -1).toNat]? = xs[xs.size - 1 - m]?
    rw [show ((xs.size : Int) - 1 + (m : Int) * -1).toNat = xs.size - 1 - m by omega]
  rw [e, PySem.W.krv_range, List.filterMap_reverse, PySem.W.krv_all]
theorem turn_tuple {t sl : Addr} {items : Array Value} {vs : Value} {Q : Value → Shared → Prop} (ht : IsTup s.heap t items) (hs : s.heap.IsSliceOf sl .none .none vs) (ps : IsPart vs (some (-1))) (hsz : items.size ≤ sizeLine)
    (h : Q (.ref s.heap.objs.size) { s with heap := s.heap.push { cls := .type "tuple", data := .seq items.toList.reverse.toArray } }) : wpAny (model prog w) A (getItem (.ref t) (.ref sl)) Q E s := by
  have fits : sizeOk (.seq items.toList.reverse.toArray) := by
    show items.toList.reverse.toArray.size ≤ sizeLine
    rw [List.size_toArray, List.length_reverse, Array.length_toList]
    exact hsz
  obtain ⟨os, g1, g2, g3⟩ := id hs
  have isl : s.TypeIs (.ref sl) "slice" := ⟨os, g1, g2⟩
  unfold getItem
  try with_reducible refine wpAny_holding ?_
  first | refine wpAny_bind (wpAny_pure ?_) | skip
  refine wpAny_bind (wpAny_sequenceKey ht.typeIs (by decide) ?_)
  refine wpAny_bind (wpAny_callSpecial?_slot (name := Str.ofString "__getitem__") ht.typeIs PyProof.Rows.slot_tuple_getitem (wpAny_call_entry PyProof.Rows.slot_tuple_getitem ht.typeIs entry_tuple_getitem ?_ (args_tuple_getitem _ _)))
  show wpAny _ _ (Builtin.Tuple.tupleItemsOf (.ref t) >>= _) _ _ s
  refine wpAny_bind (tupleItemsOf_ ht (wpAny_bind (wpAny_typeOf isl ?_)))
  rw [if_pos (by decide)]
  refine wpAny_bind (turn_applied hs ps ?_)
  have nope : ¬ (((items.size : Int) - 1 == 0 && (-1 : Int) == 1 && items.size == items.size) = true) := by simp
  show wpAny _ _ (if ((items.size : Int) - 1 == 0 && (-1 : Int) == 1 && items.size == items.size) = true then _ else _) _ _ s
  rw [if_neg nope, turn_pick]
  first
    | exact wpAny_bind (wpAny_bind (m := Builtin.Tuple.tupleExact _) (wpAny_newObj_type (wpAny_pure (wpAny_pure ⟨_, rfl, wpAny_pure h⟩)) fits))
    | exact wpAny_bind (wpAny_bind (m := Builtin.Tuple.tupleExact _) (wpAny_newObj_type (wpAny_pure ⟨_, rfl, wpAny_pure h⟩) fits))
    | exact wpAny_bind (m := Builtin.Tuple.tupleExact _) (wpAny_newObj_type (wpAny_pure ⟨_, rfl, wpAny_pure h⟩) fits)
    | exact wpAny_bind (m := Builtin.Tuple.tupleExact _) (wpAny_newObj_type (wpAny_bind (wpAny_pure (wpAny_pure ⟨_, rfl, wpAny_pure h⟩))) fits)
theorem turn_text (z : Str) : (Builtin.Str.strSliceIndices none none (-1) z.length).filterMap (z.cps[·]?) = z.cps.toList.reverse := by
  have e : Builtin.Str.strSliceIndices none none (-1) z.length = sliceRange ((z.length : Int) - 1) (-1) (-1) := rfl
  rw [e, PySem.W.krv_sliceRange, PySem.W.krv_range, List.filterMap_reverse]
  show (List.filterMap (fun x => z.cps[x]?) (List.range z.cps.size)).reverse = _
  rw [PySem.W.krv_all]
end
section
variable {X : Cx} {K : PySem.W.Frag} {W : WX} {io : List Nat} {pos p : Pos} {e o : Expr} {n : Nat} {f : TXA}
def tTurn (K : PySem.W.Frag) (te : TE) : TE := fun σ H Q => te σ H fun x H1 => (∃ a xs, x = .ref a ∧ SqL K H1 a xs ∧ ∀ q, H1 q = none → Q (.ref q) (upd H1 q (.lst xs.reverse))) ∨
  (∃ a xs, x = .ref a ∧ SqT K H1 a xs ∧ ∀ q, H1 q = none → Q (.ref q) (upd H1 q (.tup xs.reverse))) ∨ ∃ z : Str, x = .str z ∧ z.length ≤ sizeLine ∧ Q (.str ⟨z.cps.toList.reverse.toArray⟩) H1
theorem pe_turn {te : TE} {k : Nat} {p1 p2 p3 : Pos} (he : PE X e te) : PE X (.Subscript e (.Slice none none (some (.UnaryOp .USub (.Constant (.int 1) k p1) p2)) p3) pos) (tTurn X.K te) := by
  refine ⟨fun pins s σ H Q I h => Subscript_ (thn (he.run pins s σ H _ I h) fun v s1 ⟨x, H1, I1, r1, q1⟩ => ?_)⟩
  have step : PO X (some (.UnaryOp .USub (.Constant (.int 1) k p1) p2)) (tPart (tUn (rU fun i => .int (-i)) (tC (.int 1)))) := po_some (pe_un un_neg pe_int)
  refine wpAny_Slice (thn (po_none.run pins s1 σ H1 (fun o G => o = none ∧ G = H1) I1 ⟨rfl, rfl⟩) fun vl s2 ⟨l, H2, I2, pl, c1, c2⟩ => ?_)
  subst c1 c2
  refine thn (po_none.run pins s2 σ H2 (fun o G => o = none ∧ G = H2) I2 ⟨rfl, rfl⟩) fun vu s3 ⟨u, H3, I3, pu, c1, c2⟩ => ?_
  subst c1 c2
  refine thn (step.run pins s3 σ H3 (fun o G => o = some (-1) ∧ G = H3) I3 ⟨1, rfl, -1, rfl, rfl, rfl⟩) fun vs s4 ⟨o, H4, I4, ps, c1, c2⟩ => ?_
  subst c1 c2
  cases pl
  cases pu
  have I5 : Inv X pins σ H4 { s4 with heap := s4.heap.push { cls := .type "slice", data := .fields #[.none, .none, vs] } } := I4.kept (t' := s4.toks) fun b ob q => Heap.get?_push_of_some _ q
  show wpAny (model X.prog X.w) X.A (subscriptTail e (.Slice none none (some (.UnaryOp .USub (.Constant (.int 1) k p1) p2)) p3) v (.ref s4.heap.objs.size)) (EP X pins σ Q) X.xe { s4 with heap := s4.heap.push { cls := .type "slice", data := .fields #[.none, .none, vs] } }
  rcases q1 with ⟨a, xs, rfl, hx, q⟩ | ⟨a, xs, rfl, hx, q⟩ | ⟨z, rfl, hz, q⟩
  · cases r1
    obtain ⟨its, r, ht, hz⟩ := I5.list hx
    have hlen := r.length
    refine tail_any (ops := [.ref a, .ref s4.heap.objs.size]) ht.isList.typeIs (PySem.slot_list_getitem.lookup) ?_ (by with_unfolding_all rfl)
    refine wpAny_getItem_list_slice ht.isList (Heap.IsSliceOf.new _ _ _ vs) .none .none ps (by decide) ?_ (by rw [List.size_toArray]; omega)
    rw [PySem.W.krv_pick]
    exact ⟨.ref _, _, I5.laid (t' := s4.toks) (o := .lst xs.reverse) (fun b ob q => Heap.get?_push_of_some _ q) (Nat.le_refl _) ⟨by rw [List.length_reverse]; exact hz, _, 0, r.reverse, Heap.get?_push_size _ rfl⟩, rfl, q _ (I5.hok.fresh (Nat.le_refl _))⟩
  · cases r1
    obtain ⟨its, r, ht, hz⟩ := I5.tuple hx
    have hlen := r.length
    refine tail_any (ops := [.ref a, .ref s4.heap.objs.size]) ht.typeIs PyProof.Rows.slot_tuple_getitem.lookup ?_ (by with_unfolding_all rfl)
    refine turn_tuple ht (Heap.IsSliceOf.new _ _ _ vs) ps (by rw [List.size_toArray]; omega) ?_
    exact ⟨.ref _, _, I5.laid (t' := s4.toks) (o := .tup xs.reverse) (fun b ob q => Heap.get?_push_of_some _ q) (Nat.le_refl _) ⟨by rw [List.length_reverse]; exact hz, its.reverse, r.reverse, IsTup.new _ _⟩, rfl, q _ (I5.hok.fresh (Nat.le_refl _))⟩
  · obtain ⟨t, rfl⟩ := r1
    obtain ⟨stp, rfl, hstp⟩ := IsPart.raw ps
    obtain ⟨os, g1, g2, g3⟩ := Heap.IsSliceOf.new s4.heap .none .none (partValue stp)
    refine tail_any (ops := [.str z t, .ref s4.heap.objs.size]) (typeIs_str _ _ _) F.slot_str_getitem.lookup ?_ (by with_unfolding_all rfl)
    refine wpAny_getItem_str_slice (l := none) (u := none) (st := stp) ⟨os, g1, g2, g3⟩ (by rw [hstp]; decide) ?_
    have em : sliceMade z t none none stp = .str ⟨z.cps.toList.reverse.toArray⟩ := by
      unfold sliceMade slicePicked
      rw [hstp]
      show (if ((-1 : Int) == 1 && _) = true then _ else Made.str ⟨((Builtin.Str.strSliceIndices none none (-1) z.length).filterMap (z.cps[·]?)).toArray⟩) = _
      rw [turn_text, if_neg (by simp)]
    rw [em]
    refine ⟨?_, .str _, H4, I5.tok _, ⟨_, rfl⟩, q⟩
    show (z.cps.toList.reverse.toArray).size ≤ sizeLine
    rw [List.size_toArray, List.length_reverse, Array.length_toList]
    exact hz
def fRev (f : TX) : TXN := fun ρ Q Ex => f ρ (fun r ρ1 => withD ρ1 r fun d => match d with
  | .list ds => Q (.lst ds.reverse) ρ1
  | .tuple ds => Q (.dat (.tuple ds.reverse)) ρ1
  | .str z => z.length ≤ sizeLine ∧ Q (.dat (.str ⟨z.cps.toList.reverse.toArray⟩)) ρ1
  | _ => False) Ex
theorem xn_rev {fx : TX} {k : Nat} {p1 p2 p3 : Pos} (hK : X.K = K) (he : XR K W io X e fx) : XN K W io X (.Subscript e (.Slice none none (some (.UnaryOp .USub (.Constant (.int 1) k p1) p2)) p3) pos) (fRev fx) := by
  subst hK
  refine XN.mk (pe_turn he) fun Γ S H σ ρ fp QD Ex Q hio R hf k kx => ?_
  refine ⟨Γ, S, ρ, fp, _, Ex, hio, R, hf, fun S1 H1 v r ρ1 fp1 R1 ss1 ok1 q1 => ?_, kx⟩
  obtain ⟨d, ld, q⟩ := withD_get q1
  have hv := look_vw R1 ok1 ld
  cases d with
  | list ds =>
    obtain ⟨a, xs, rfl, h1, h2⟩ := vw_lst R1.sub hv
    refine .inl ⟨a, xs, rfl, h1, fun m hm => ?_⟩
    obtain ⟨R2, nw⟩ := new_lst R1 hm (dps_rev h2)
    exact k _ _ (.ref m) _ ρ1 fp1 [m] R2 ss1 nw q
  | tuple ds =>
    obtain ⟨a, xs, rfl, h1, h2⟩ := vw_tup hv
    refine .inr (.inl ⟨a, xs, rfl, SqT.of (R1.sub _ _ h1), fun m hm => ?_⟩)
    have sp : Same S1 (upd S1 m (.tup xs.reverse)) := same_upd (R1.sub.free hm)
    exact k _ _ (.ref m) (.dat (.tuple ds.reverse)) ρ1 fp1 [] (R1.layS hm _) (ss1.trans sp) (new_dat (.tup upd_same (dps_up sp _ _ (dps_rev h2)))) q
  | str z => exact .inr (.inr ⟨z, vw_str hv, q.1, k S1 H1 _ (.dat (.str _)) ρ1 fp1 [] R1 ss1 (new_dat (.str _)) q.2⟩)
  | _ => exact q.elim
/-! ### text * int, [..] * int -/
def gMul : PyData → PyData → (E → Prop) → Prop := fun d e Q => match d, e with
  | .str x, .int n => MulOk x n ∧ Q (.dat (.str (Txt.mul x n)))
  | .tuple ds, .int n => ds ≠ [] ∧ 2 ≤ n ∧ n ≤ 1000 ∧ ds.length ≤ 1000 ∧ Q (.dat (.tuple (List.replicate n.toNat ds).flatten))
  | _, _ => False
theorem op_mulS : OpR X (binaryOp .Mult) (fun x y H Q => ∃ z n, x = .str z ∧ y = .int n ∧ MulOk z n ∧ Q (.str (Txt.mul z n)) H) := by
  intro pins s σ H x y v u Q I rx ry h
  obtain ⟨z, n, rfl, rfl, hm, q⟩ := h
  obtain ⟨t, rfl⟩ := rx
  obtain ⟨t', rfl⟩ := ry
  exact SB.mul hm fun t2 k => ⟨.str _, H, I.tok _, ⟨_, rfl⟩, q⟩
theorem dps_rep {S : Hp} {xs : List V} {ds : List PyData} (h : DqAll K S xs ds) : ∀ t : Nat, DqAll K S (List.replicate t xs).flatten (List.replicate t ds).flatten
  | 0 => .nil
  | t + 1 => by
    rw [List.replicate_succ, List.replicate_succ, List.flatten_cons, List.flatten_cons]
    exact dps_app h (dps_rep h t)
theorem d_mulS : OpN K (fun x y H Q => (∃ z n, x = .str z ∧ y = .int n ∧ MulOk z n ∧ Q (.str (Txt.mul z n)) H) ∨ rRepT K x y H Q) gMul := by
  intro Γ S H σ ρ fp x y dx dy Q QD R hx hy h k
  unfold gMul at h
  split at h
  · exact .inl ⟨_, _, vw_str hx, vw_int hy, h.1, k S H _ _ [] R (Same.refl _) (new_dat (.str _)) h.2⟩
  · rename_i ds n
    obtain ⟨a, xs, rfl, h1, h2⟩ := vw_tup hx
    obtain ⟨g1, g2, g3, g4, q⟩ := h
    have hl := dps_len h2
    refine .inr ⟨a, n, xs, rfl, vw_int hy, SqT.of (R.sub _ _ h1), fun z => g1 (by rw [z] at hl; exact List.eq_nil_of_length_eq_zero hl.symm), g2, g3, by rw [hl]; exact g4, fun p np => ?_⟩
    obtain ⟨n1, _, _⟩ := R.free np
    exact k _ _ _ _ [] (R.layS np _) (same_upd n1) (new_dat (.tup upd_same (dps_up (same_upd n1) _ _ (dps_rep h2 n.toNat)))) q
  · exact h.elim
theorem xn_mul {a b : Expr} {fa fb : TX} (hK : X.K = K) (ha : XR K W io X a fa) (hb : XR K W io X b fb) : XN K W io X (.BinOp a .Mult b pos) (fBinN gMul fa fb) := by
  subst hK
  exact xn_bin (op_mulS.or op_repT) d_mulS ha hb
/-- a new list times an int -/
def fMulL (fa : TXN) (fb : TX) : TXN := fun ρ Q Ex => fa ρ (fun e ρ1 => isLst e fun ds => fb ρ1 (fun rb ρ2 => isD rb fun d => match d with
  | .int n => 0 ≤ n ∧ n ≤ 1000 ∧ ds.length * n.toNat ≤ sizeLine ∧ Q (.lst (List.replicate n.toNat ds).flatten) ρ2
  | _ => False) Ex) Ex
theorem xn_mulL {a b : Expr} {fa : TXN} {fb : TX} (ha : XN K W io X a fa) (hb : XR K W io X b fb) : XN K W io X (.BinOp a .Mult b pos) (fMulL fa fb) := by
  refine XN.mk (pe_op op_rep ha hb) fun Γ S H σ ρ fp QD Ex Q hio R hf k kx => ?_
  refine ⟨Γ, S, ρ, fp, _, Ex, hio, R, hf, fun S1 H1 v en ρ1 fp1 fpn R1 ss1 nw h1 => ?_, kx⟩
  obtain ⟨ds, rfl, h1⟩ := isLst_get h1
  obtain ⟨a, xs, h0, hf0, hHa, hxs⟩ := nw.ent
  cases h0
  obtain ⟨n1, n2, n3, n4⟩ := nw.new a (by rw [hf0]; simp)
  -- the new list is held while the number is reckoned
  have Rp := R1.pinAt n1 n3 n4 (.lst xs)
  have eH : upd H1 a (.lst xs) = H1 := by
    funext b
    by_cases hb : b = a
    · subst hb; rw [upd_same, hHa]
    · rw [upd_ne hb]
  rw [eH] at Rp
  refine ⟨Γ.pin a (.lst xs), S1, ρ1, _, _, Ex, hio, Rp, h1, fun S2 H2 w rb ρ2 fp2 R2 ss2 ok2 h2 => ?_, fun S2 H2 cls ρ2 fp2 R2 ss2 e => ?_⟩
  · obtain ⟨d, rfl, h2⟩ := isD_get h2
    cases d with
    | int m =>
      cases ok2
      obtain ⟨b1, b2, hz, q⟩ := h2
      obtain ⟨g1, g2, g3, fp3, R3, g4⟩ := R2.unpin
      have e63 : (2 : Int) ^ 63 = 9223372036854775808 := by decide
      refine ⟨a, m, xs, rfl, rfl, g1, by rw [e63]; omega, by rw [e63]; omega, by rw [dps_len hxs]; exact hz, fun c hc => ?_⟩
      have hrep : ∀ t : Nat, DqAll K S2 (List.replicate t xs).flatten (List.replicate t ds).flatten := fun t => by
        induction t with
        | zero => exact .nil
        | succ t ih =>
          rw [List.replicate_succ, List.replicate_succ, List.flatten_cons, List.flatten_cons]
          exact dps_app (dps_up ss2 _ _ hxs) ih
      obtain ⟨R4, nw4⟩ := new_lst R3 hc (hrep m.toNat)
      exact k _ _ (.ref c) _ ρ2 fp3 [c] R4 (ss1.trans ss2) nw4 q
    | _ => exact h2.elim
  · obtain ⟨g1, g2, g3, fp3, R3, g4⟩ := R2.unpin
    exact kx S2 H2 cls ρ2 fp3 R3 (ss1.trans ss2) e
/-! ### abs, int, str, split -/
def gAbs : List PyData → (E → Prop) → Prop := fun ds Q => match ds with
  | [.int i] => Q (.dat (.int (if i < 0 then -i else i)))
  | _ => False
theorem d_abs : CallN K (fun xs H Q => ∃ i, xs = [V.int i] ∧ Q (.int (if i < 0 then -i else i)) H) gAbs := by
  intro Γ S H σ ρ fp vs ds Q QD R hv h k
  unfold gAbs at h
  split at h
  · cases hv with
    | cons h1 t =>
      cases t
      exact ⟨_, by rw [vw_int h1], k S H _ _ [] R (Same.refl _) (new_dat (.int _)) h⟩
  · exact h.elim
theorem xn_abs (hgl : Gl X "abs") (hm : X.mg "abs" = none) (ha : XA K W io X [e] n f) (he : starEach [e] X.env = (false, eval e X.env) :: starEach [] X.env := by rfl) (hpl : (backTo pos (starEach [] X.env)).any (·.1) = false := by rfl) : XN K W io X (.Call (.Name "abs" p) [e] [] pos) (fCall gAbs f) :=
  xn_callB call_abs d_abs hgl hm (by decide +kernel) ha (he := he) (hpl := hpl)
def gInt : List PyData → (E → Prop) → Prop := fun ds Q => match ds with
  | [.int i] => Q (.dat (.int i))
  | [.bool b] => Q (.dat (.int (if b then 1 else 0)))
  | [.str a] => ∃ n, PySem.intText? a = some n ∧ a.length ≤ 640 ∧ Q (.dat (.int n))
  | _ => False
theorem d_int : CallN K (fun xs H Q => ((∃ i, xs = [V.int i] ∧ Q (.int i) H) ∨ ∃ k, xs = [V.bl k] ∧ Q (.int (if k then 1 else 0)) H) ∨ (∃ a n, xs = [V.str a] ∧ PySem.intText? a = some n ∧ a.length ≤ 640 ∧ Q (.int n) H)) gInt := by
  intro Γ S H σ ρ fp vs ds Q QD R hv h k
  unfold gInt at h
  split at h
  · cases hv with
    | cons h1 t =>
      cases t
      exact .inl (.inl ⟨_, by rw [vw_int h1], k S H _ _ [] R (Same.refl _) (new_dat (.int _)) h⟩)
  · cases hv with
    | cons h1 t =>
      cases t
      exact .inl (.inr ⟨_, by rw [vw_bool h1], k S H _ _ [] R (Same.refl _) (new_dat (.int _)) h⟩)
  · cases hv with
    | cons h1 t =>
      cases t
      obtain ⟨m, g1, g2, q⟩ := h
      exact .inr ⟨_, m, by rw [vw_str h1], g1, g2, k S H _ _ [] R (Same.refl _) (new_dat (.int _)) q⟩
  · exact h.elim
theorem xn_int (hgl : Gl X "int") (hm : X.mg "int" = none) (ha : XA K W io X [e] n f) (he : starEach [e] X.env = (false, eval e X.env) :: starEach [] X.env := by rfl) (hpl : (backTo pos (starEach [] X.env)).any (·.1) = false := by rfl) : XN K W io X (.Call (.Name "int" p) [e] [] pos) (fCall gInt f) :=
  xn_callTy (call_int1.or call_int_str) d_int hgl hm (by decide +kernel) ha (he := he) (hpl := hpl)
def gStrI : List PyData → (E → Prop) → Prop := fun ds Q => match ds with
  | [.int i] => i.natAbs.log2 < 1920 ∧ Q (.dat (.str (toString i)))
  | _ => False
theorem d_strI : CallN K (fun xs H Q => ∃ i, xs = [V.int i] ∧ i.natAbs.log2 < 1920 ∧ Q (.str (toString i)) H) gStrI := by
  intro Γ S H σ ρ fp vs ds Q QD R hv h k
  unfold gStrI at h
  split at h
  · cases hv with
    | cons h1 t =>
      cases t
      exact ⟨_, by rw [vw_int h1], h.1, k S H _ _ [] R (Same.refl _) (new_dat (.str _)) h.2⟩
  · exact h.elim
theorem xn_strI (hgl : Gl X "str") (hm : X.mg "str" = none) (ha : XA K W io X [e] n f) (he : starEach [e] X.env = (false, eval e X.env) :: starEach [] X.env := by rfl) (hpl : (backTo pos (starEach [] X.env)).any (·.1) = false := by rfl) : XN K W io X (.Call (.Name "str" p) [e] [] pos) (fCall gStrI f) :=
  xn_callTy call_str_int d_strI hgl hm (by decide +kernel) ha (he := he) (hpl := hpl)
/-- a text is cut -/
def fSplit (fo fe : TX) : TXN := fun ρ Q Ex => fo ρ (fun ro ρ1 => isD ro fun d1 => match d1 with
  | .str a => fe ρ1 (fun re ρ2 => isD re fun d2 => match d2 with
    | .str b => (b.length == 0) = false ∧ a.length + 2 ≤ sizeLine ∧ Q (.lst ((Txt.split a b).map PyData.str)) ρ2
    | _ => False) Ex
  | _ => False) Ex
theorem dps_of_strs {S : Hp} : ∀ ys : List Str, DqAll K S (ys.map V.str) (ys.map PyData.str)
  | [] => .nil
  | y :: ys => .cons (.str y) (dps_of_strs ys)
theorem xn_split {fo fe : TX} {apos : Pos} (hK : X.K = K) (ho : XR K W io X o fo) (he : XR K W io X e fe)
    (hbase : attributeBase o "split" X.env (eval o X.env) = eval o X.env := by rfl)
    (hfew : ((backTo pos (starEach (e :: []) X.env)).all (fun x => !x.1) && (backToKw pos (keywordEach [] X.env)).all (fun x => x.1.isSome)
      && decide ((e :: []).length + ([] : List Keyword).length + (if ([] : List Keyword).isEmpty then 0 else 1) < 30)) = true := by rfl)
    (hline : (apos.endLine == pos.line) = true := by rfl) (hs : starEach (e :: []) X.env = (false, eval e X.env) :: starEach [] X.env := by rfl) (hplain : (backTo pos (starEach [] X.env)).any (·.1) = false := by rfl) :
    XN K W io X (.Call (.Attribute o "split" apos) [e] [] pos) (fSplit fo fe) := by
  subst hK
  refine XN.mk (pe_bm PySem.F.plainAttrs_str PySem.F.slot_str_split PySem.F.type_str_split mt_split ho (pa_cons he pa_nil hs) hbase hfew hline hs hplain) fun Γ S H σ ρ fp QD Ex Q hio R hf k kx => ?_
  refine ⟨Γ, S, ρ, fp, _, Ex, hio, R, hf, fun S1 H1 v r ρ1 fp1 R1 ss1 ok1 h1 => ?_, kx⟩
  obtain ⟨d1, rfl, h1⟩ := isD_get h1
  cases d1 with
  | str a =>
    cases ok1
    refine ⟨rfl, Γ, S1, ρ1, fp1, _, Ex, hio, R1, h1, fun S2 H2 w r2 ρ2 fp2 R2 ss2 ok2 h2 => ?_, kx.up ss1⟩
    obtain ⟨d2, rfl, h2⟩ := isD_get h2
    cases d2 with
    | str b =>
      cases ok2
      obtain ⟨g1, g2, q⟩ := h2
      refine ⟨a, b, rfl, rfl, g1, g2, fun m hm => ?_⟩
      obtain ⟨R3, nw⟩ := new_lst R2 hm (dps_of_strs (Txt.split a b))
      exact k _ _ (.ref m) _ ρ2 fp2 [m] R3 (ss1.trans ss2) nw q
    | _ => exact h2.elim
  | _ => exact h1.elim
end
end L3

namespace L3
open PySem PySem.Spec PyProof.Rows L2

/-! ### exceptions that are caught -/
theorem kit_ref {K : PySem.W.Frag} {a b : Addr} {v : Bool} (hd : PySem.W.hasDictIn K b = true) (ht : PySem.W.typeIn K (.ref b) = some (.type "type")) (h : PySem.W.subIn K (.ref a) (.ref b) = some v) (hb : PySem.W.subIn K (.ref b) (.ref b) = some true) : PySem.W.kitOne K (.ref a) (.ref b) = some v := by
  by_cases e : a = b
  · subst e
    rw [h] at hb
    rw [hb]
    unfold PySem.W.kitOne
    rw [if_pos (by simp)]
  · have ne : ¬ ((Value.ref a == Value.ref b) = true) := fun z => e (Value.ref.inj (beq_iff_eq.mp z))
    obtain ⟨cd, hc, _⟩ := PySem.W.any_some hd
    unfold PySem.W.kitOne PySem.W.kitCls
    rw [if_neg ne]
    have e2 : ((PySem.W.clsIn K b).isSome && PySem.W.typeIn K (.ref b) == some (.type "type")) = true := by rw [hc, ht] <;> rfl
    simp only
    rw [if_pos e2]
    exact h
theorem kit_val {K : PySem.W.Frag} {a : Addr} {v : Bool} (h : PySem.W.subIn K (.ref a) (.type "ValueError") = some v) : PySem.W.kitOne K (.ref a) (.type "ValueError") = some v := by
  have ne : ¬ ((Value.ref a == Value.type "ValueError") = true) := fun z => by have := beq_iff_eq.mp z; cases this
  have m : PySem.W.kitMeta "ValueError" = true := by decide +kernel
  unfold PySem.W.kitOne PySem.W.kitCls
  rw [if_neg ne]
  simp only
  rw [if_pos m]
  exact h
theorem takes0N {X : Cx} : L2N.Takes X (fun _ _ _ _ => False) := fun _ _ ⟨_, _, _, _, _, _, _, _, _, _, _, _, _, _, _, _, z⟩ => False.elim z
theorem uH64 {k : Nat} {A : Around} (hr : L2H.RoomH k A) : A.units + 64 < cLine := by have := hr.un; omega
theorem uH65 {k : Nat} {A : Around} (hr : L2H.RoomH k A) : A.units + 65 < cLine := by have := hr.un; omega
/-- isinstance of an exception that stands pinned -/
theorem call_isP {X : Cx} {D : Addr} {p : Addr × Obj} (C : ExcC X.K D) (hz : Zc (.ref D) none p.2) (hf : ∃ vs, p.2.data = .fields vs) (hp : p ∈ X.pn) : CallR X (.builtin "isinstance") (rIsE X.K D p.1) := by
  rintro pins s σ H xs us Q I r ⟨c, cv, b, rfl, hcv, he, q⟩
  obtain ⟨u1, u2, rfl, r1, r2⟩ := vals2 r
  obtain rfl : u1 = Value.ref p.1 := r1
  obtain rfl := hcv _ r2
  have got := (I.pin p (List.mem_append_left _ hp)).1
  have J : PySem.W.InstAt s.heap p.1 p.2 D none := by
    obtain ⟨pa, ⟨c1, c2, c3, c4⟩⟩ := p
    obtain ⟨z1, z2⟩ := hz
    obtain ⟨ws, z3⟩ := hf
    dsimp only at z1 z2 z3
    subst z1 z2 z3
    exact ⟨got, rfl, rfl, trivial⟩
  have F := PySem.W.handS_kitx_exc (x := p.1) (ox := p.2) C.hg C.hk C.hs C.hd C.ha C.hn C.ht C.hm
  refine PySem.W.kia_one F I.kIn J he (fun z => nomatch z) fun tk => ?_
  exact ⟨.bl b, H, I.kept (t' := tk) fun _ _ y => y, rfl, q⟩
/-- isinstance of the slot's exception: told -/
def fIsP (i : Nat) (v : V) (b : Bool) : TX := fun ρ Q _ => ρ.getD i .no = .val v ∧ Q (.dat (.bool b)) ρ
section
variable {X : Cx} {K : PySem.W.Frag} {W : WX} {io : List Nat} {pos : Pos}
theorem xr_isP {i : Nat} {x y : Str} {D : Addr} {p : Addr × Obj} {c : V} {cv : Value} {b : Bool} {p1 p2 p3 : Pos} (hK : X.K = K) (C : ExcC K D) (hz : Zc (.ref D) none p.2) (hf : ∃ vs, p.2.data = .fields vs) (hp : p ∈ X.pn)
    (hgl : Gl X "isinstance") (hm : X.mg "isinstance" = none) (hi : X.N[i]? = some x) (hv : Vis X.env.scope x) (hd : (x == ("__debug__" : Str)) = false) (hcd : (x == ("__classdict__" : Str)) = false)
    (hy : ∀ pos, PE X (.Name y pos) (tC c)) (hc : ∀ u, RelV c u → u = cv) (he : PySem.W.kitOne K (.ref D) cv = some b)
    (hs : starEach [.Name x p2, .Name y p3] X.env = (false, eval (.Name x p2) X.env) :: starEach [.Name y p3] X.env := by rfl) (hpl : (backTo pos (starEach [.Name y p3] X.env)).any (·.1) = false := by rfl) :
    XR K W io X (.Call (.Name "isinstance" p1) [.Name x p2, .Name y p3] [] pos) (fIsP i (.ref p.1) b) := by
  subst hK
  refine XR.mk (pe_callB (call_isP C hz hf hp) hgl hm rfl (pa_cons (pe_var hi hv hd hcd) (pa_cons (hy p3) pa_nil)) (by decide) (by decide) hs hpl) fun Γ S H σ ρ fp QD Ex Q hio R h k kx => ?_
  obtain ⟨h1, h2⟩ := h
  have hi2 := getD_some h1 (fun z => by cases z)
  have hl : i < σ.length := by rw [← R.len]; exact (List.getElem?_eq_some_iff.mp hi2).1
  obtain ⟨_, e1⟩ := R.ent i _ hi2
  have hv2 : σ[i]? = some (some (.ref p.1)) := by
    rw [List.getD_eq_getElem?_getD, List.getElem?_eq_getElem hl] at e1
    rw [List.getElem?_eq_getElem hl]; exact congrArg some e1
  exact ⟨.ref p.1, hv2, c, cv, b, rfl, hc, he, k S H (.bl b) (.dat (.bool b)) ρ fp R (Same.refl _) (.bl b) h2⟩
theorem pe_own {y : Str} {C : Addr} (hg : Gl X y) (hm : X.mg y = some (.ref C)) (hdb : (y == ("__debug__" : Str)) = false := by decide) (pos : Pos) : PE X (.Name y pos) (tC (.ref C)) := pe_glob hg hm rfl hdb
theorem rel_own {C : Addr} : ∀ u, RelV (.ref C) u → u = .ref C := fun _ h => h
theorem pe_bty {y : Str} {n : String} (hg : Gl X y) (hm : X.mg y = none) (hb : bootBuiltins y = some (.type n)) (hn : y ≠ "__name__" := by decide) (hdb : (y == ("__debug__" : Str)) = false := by decide) (pos : Pos) : PE X (.Name y pos) (tC (.ty n)) := pe_bltn hg hm hb rfl hn hdb
theorem rel_ty {n : String} : ∀ u, RelV (.ty n) u → u = .type n := fun _ h => h
end

/-! ### the def that is asked of a caught exception -/
def dspW (a : Addr) (dd : PyData) : DSp := fun es post _ => es = [.val (.ref a)] ∧ post (.dat dd) []
structure WhichOk (P : Program) (w : World) (K : PySem.W.Frag) (mg : Str → Option Value) (base : Heap) (k : Nat) (f : Addr) (fd : FuncData) (x : Str) (R : Value → PyData → Prop) : Prop where
  run : ∀ (A : Around) (outer : List Env) (s : Shared) (H : Hp) (args : Args) (us : List Value) (Q : VK) (E : XK) (p : Addr × Obj) (D : Addr) (dd : PyData), L2H.RoomH k A → L2H.Hot1 A p → L2H.PinOk outer H s p → Zc (.ref D) none p.2 → R (.ref D) dd →
    Env0 P w K mg base A outer s H → BindsTo s fd args ([x].zip us) → Vals [.ref p.1] us → toSp K [] 1 (dspW p.1 dd) [.ref p.1] H Q E → codeAny (model P w) A (.call (.ref f) args) (CR (L2N.CX P w) outer P w H s Q E) s
theorem Fun.okW {P : Program} {w : World} {K : PySem.W.Frag} {mg : Str → Option Value} {base : Heap} {x y qual : Str} {st : Stmt} {f : Addr} {fd : FuncData} {N : List Str} {k : Nat} {R : Value → PyData → Prop} (F : Fun K x qual st f fd) (S : FnScope N [y] (defScope st))
    (hbody : ∀ (cdv : Value) (A : Around) (outer : List Env) (s : Shared) (H : Hp) (E : XK) (p : Addr × Obj) (D : Addr) (dd : PyData), L2H.RoomH k (A.deeper (envOfC qual (defScope st) s.heap.objs.size f cdv)) → Zc (.ref D) none p.2 → (∃ vs, p.2.data = .fields vs) → R (.ref D) dd →
      ∃ T, XSs K (fun cls d _ H => E cls d H) [] (L2H.cxH (L2N.CX P w) P w K mg base N qual (defScope st) f cdv A outer s H E p) (defBody st) T ∧
        ∀ es post xp, dspW p.1 dd es post xp → es.length = 1 → T { nx := fun ρ => post (.dat .none) (outsOf [] ρ), rt := fun e ρ => post e (outsOf [] ρ), ex := fun cls ρ => xp cls (outsOf [] ρ) } (startE N.length 1 es)) :
    WhichOk P w K mg base (k + 1) f fd y R := by
  obtain ⟨_, _, _, _, _, _, cdv, _, _, rfl, lk, hcd⟩ := F.ex
  refine ⟨fun A outer s H args us Q E p D dd hr hot hpin hz hR env hb r hsp => ?_⟩
  have inH : K.In s.heap := env.mod.kin.keeps fun b o q => (env.bs b o q).1
  have nolim : s.heap.NoLimit := env.mod.nolimit.keeps fun b o q => (env.bs b o q).1
  refine codeAny_call_function hr.depth (inH _ _ lk) rfl S.co S.gen rfl (PySem.W.codeRec_of inH hcd) (hb _ _ _ _ ?_)
  have kinds : ∀ z ∈ [y].zip us, (defScope st).names.lookup z.1 = some .local ∨ ((defScope st).names.lookup z.1 = some .cell ∧ ((cellsFrom (s.heap.objs.size + 1) (defScope st).names []).lookup z.1).isSome = true) := by
    rintro ⟨n, v⟩ hz
    exact (S.par n (List.of_mem_zip hz).1).imp id fun q => ⟨q, PySem.W.cellsFrom_some _ _ _ (.inl q)⟩
  refine wpAny_newFunctionEnv_cells S.kind kinds fun env' he s1 xx => ?_
  subst he
  refine ⟨nolim.keeps xx.toInCall.keep, codeAny_func ?_⟩
  obtain ⟨vs0, hd0, _⟩ := hot.2
  obtain ⟨T, ht, hq⟩ := hbody cdv A outer s H E p D dd (hr.deeper _) hz ⟨vs0, hd0⟩ hR
  have start := okD_start (K := K) (io := []) (dsp := dspW p.1 dd) (T := T) S (fun i hi => absurd hi (by simp)) hq hsp
  have I : Inv (L2H.cxH (L2N.CX P w) P w K mg base N qual (defScope st) f cdv A outer s H E p) [] (L2.start N [.ref p.1]) H s1 := L2H.inv_startH S hpin env rfl r xx
  refine wpAny_mono (ht.run [] s1 _ H _ I start) (fun fl s' out => ?_) fun _ _ out => out
  have done : ∀ {σ' : St} {H' : Hp} {v : V} {u : Value}, Inv (L2H.cxH (L2N.CX P w) P w K mg base N qual (defScope st) f cdv A outer s H E p) [] σ' H' s' → RelV v u → Q v H' → CE outer P w H s Q u s' := by
    intro σ' H' v u J rv q
    exact ⟨v, H', J.os, J.bare, J.base, J.hok, rv, q⟩
  cases fl with
  | ret u => obtain ⟨v, σ', H', J, rv, q⟩ := out; exact done J rv q
  | next => obtain ⟨σ', H', J, q⟩ := out; exact done (v := V.non) (u := Value.none) J rfl q
  | brk => obtain ⟨_, _, _, q⟩ := out; exact q.elim
  | cont => obtain ⟨_, _, _, q⟩ := out; exact q.elim
/-- behind a call that was lent nothing -/
theorem Rel.after0 {K : PySem.W.Frag} {Γ : Gam} {S H S' H' : Hp} {σ : St} {ρ : List E} {fp : Nat → List Addr} {vs : List V} {outs : List E} {fpo : Nat → List Addr} (R : Rel K Γ S H σ ρ fp) (ce : CallEnd K [] vs S H (fun _ => []) S' H' outs fpo) : Rel K Γ S' H' σ ρ fp := by
  have kp : ∀ b o, H b = some o → H' b = some o := fun b o q => ce.kept b o q fun i hi => absurd hi (by simp)
  have kq : ∀ i, ∀ b ∈ fp i, H' b = H b := fun i b hb => by
    cases q : H b with
    | none => exact absurd q (R.hide i b hb).2.1
    | some o => exact kp b o q
  exact ⟨ce.sub, R.mono.trans ce.mono, fun b h1 h2 => ce.hid b (R.dom b h1) (R.hid b h1 h2), fun b o h1 h2 => kp b o (R.kept b o h1 h2), fun b h1 => ce.dom b (R.dom b h1), R.len, fun i e hi => (R.ent i e hi).up ce.mono (kq i), fun i hi => (R.out i hi).up (kq i),
    fun i a ha => ⟨ce.hid a (R.hide i a ha).2.1 (R.hide i a ha).1, ce.dom a (R.hide i a ha).2.1, (R.hide i a ha).2.2⟩, R.nd, R.dis, R.io, R.new⟩
/-- the suite's reading -/
def teW (K : PySem.W.Frag) (io : List Nat) (i : Nat) (R : Value → PyData → Prop) (a : Addr) (cls : Value) (d : Option Addr) : TE := fun σ H Q => ∃ (Γ : Gam) (S : Hp) (ρ : List E) (fp : Nat → List Addr) (dd : PyData) (rt : E → List E → Prop), Γ.io = io ∧ Rel K Γ S H σ ρ fp ∧ σ[i]? = some (some (.ref a)) ∧ d = none ∧ R cls dd ∧ rt (.dat dd) ρ ∧
  ∀ S' H' ρ' fp' v e fpn, Rel K Γ S' H' σ ρ' fp' → NewOk K Γ S' H' fp' v e fpn → rt e ρ' → Q v H'
section
variable {X : Cx} {K : PySem.W.Frag} {W : WX} {io : List Nat} {pos : Pos}
theorem pe_which {i j : Nat} {g n x : Str} {f a : Addr} {fd : FuncData} {R : Value → PyData → Prop} {oe : Obj} {cls : Value} {d : Option Addr} {pn : List (Addr × Obj)} {gp ep : Pos} (hK : X.K = K) (hr : Room j X.A) (hg : Gl X g) (hm : X.mg g = some (.ref f)) (hk : PySem.W.keepIn X.K (.ref f) = true)
    (hb : Binds X.K fd [x] []) (F : WhichOk X.prog X.w X.K X.mg X.base j f fd x R) (hR : ∀ c e, R c e → ∃ D, c = .ref D) (hi : X.N[i]? = some n) (hln : X.env.kindOf n = some .local) (hz : L2N.Zn cls d oe) (hf : ∃ vs, oe.data = .fields vs)
    (hdn : (n == ("__debug__" : Str)) = false := by decide) (hcn : (n == ("__classdict__" : Str)) = false := by decide) (hdb : (g == ("__debug__" : Str)) = false := by decide)
    (he : starEach [.Name n ep] X.env = (false, eval (.Name n ep) X.env) :: starEach [] X.env := by rfl) (hpl : (backTo pos (starEach [] X.env)).any (·.1) = false := by rfl) :
    PE (X.suite a ((a, oe) :: pn)) (.Call (.Name g gp) [.Name n ep] [] pos) (teW K io i R a cls d) := by
  subst hK
  refine ⟨fun pins s σ H Q I h => ?_⟩
  obtain ⟨Γ, S, ρ, fp, dd, rt, hio, Rl, hs, rfl, hR', hq, kq⟩ := h
  have pa := pa_cons (X := X.suite a ((a, oe) :: pn)) (pe_var (X := X.suite a ((a, oe) :: pn)) (pos := ep) (i := i) hi (.inl hln) hdn hcn) (pa_nil (X := X.suite a ((a, oe) :: pn)))
  refine wpAny_Call_Name_kw (ld_glob I hg hm ?_ hdb)
  refine PySem.W.callWith_K (h₀ := X.base) I.ok.mod.kin hk (thn (pa.run pos pins s σ H (fun vs H1 => vs = [.ref a] ∧ H1 = H) I ⟨.ref a, hs, rfl, rfl⟩) fun us s1 ⟨vs, H1, I1, r, e1, e2⟩ => ⟨I1.kIn, ?_⟩) he hpl
  subst e1 e2
  have P1 := I1.pin (a, oe) (List.mem_append_left _ List.mem_cons_self)
  obtain ⟨ws, hws⟩ := hf
  have hot : L2H.Hot1 (X.suite a ((a, oe) :: pn)).A (a, oe) := ⟨rfl, ws, hws, hz.2.2 ws hws⟩
  have hpin : L2H.PinOk X.stack H1 s1 (a, oe) := ⟨P1.1, P1.2.1, fun hm => (List.mem_cons.mp (I1.stkSub a hm)).elim P1.2.2.1 P1.2.2.2.1, P1.2.2.2.2⟩
  have hl : us.length = [x].length := by rw [← r.length]; rfl
  have b := hb s1 us I1.kIn (by rw [List.append_nil]; exact hl)
  rw [List.append_nil] at b
  have hr2 : L2H.RoomH j (X.suite a ((a, oe) :: pn)).A := ⟨hr.dp, hr.un⟩
  obtain ⟨D, rfl⟩ := hR cls dd hR'
  refine wpAny_call (codeAny_mono (F.run (X.suite a ((a, oe) :: pn)).A X.stack s1 H1 ⟨us, []⟩ us Q (fun _ _ _ => False) (a, oe) D dd hr2 hot hpin ⟨hz.1, hz.2.1⟩ hR' I1.env0 b r ?_) fun r s' out => ?_)
  · refine ⟨rfl, S, [.val (.ref a)], fun _ => [], fun e _ => rt e ρ, fun _ _ => False, ⟨Rl.sub, rfl, fun m e hm => ?_, fun _ _ => rfl, fun _ _ z => absurd z (by simp), fun _ => List.nodup_nil, fun _ _ _ z => absurd z (by simp), fun _ z => absurd z (by simp), fun m e hm ho => ?_⟩, ⟨rfl, hq⟩, fun S' H' v e fpn outs fpo ce cr q => ?_, fun _ _ _ _ _ _ z => z.elim⟩
    · cases m with
      | zero => simp only [List.getElem?_cons_zero, Option.some.injEq] at hm ⊢; subst hm; exact ⟨rfl, rfl⟩
      | succ m => simp at hm
    · cases m with
      | zero => simp only [List.getElem?_cons_zero, Option.some.injEq] at hm; subst hm; cases ho
      | succ m => simp at hm
    · refine kq S' H' ρ fp v e fpn (Rl.after0 ce) ⟨cr.ent, cr.nd, fun z hz => ?_⟩ q
      obtain ⟨q1, q2, q3, _⟩ := cr.new z hz
      refine ⟨q1, q2, ?_, fun i hi => (Rl.hide i z hi).2.1 q3⟩
      cases y : Γ.H z with
      | none => rfl
      | some o => exact absurd q3 (Rl.dom z (by rw [y]; exact Option.some_ne_none _))
  · cases r with
    | error e => obtain ⟨_, _, _, _, _, _, _, _, _, _, _, _, z⟩ := out; exact z.elim
    | ok fl =>
      cases fl with
      | ret u => exact I1.after out
      | next => exact False.elim out
      | brk => exact False.elim out
      | cont => exact False.elim out
/-- try: body, except C0 as n: return g(n) -/
def sTry (R : Value → PyData → Prop) (i : Nat) (T : TXS) : TXS := fun DD ρ => T { DD with ex := fun cls ρ' => ∃ dd, R cls dd ∧ i < ρ'.length ∧ DD.rt (.dat dd) (ρ'.set i .no) } ρ
structure HasW (P : Program) (w : World) (K : PySem.W.Frag) (mg : Str → Option Value) (base : Heap) (g : Str) (k : Nat) (x c0 : Str) (R : Value → PyData → Prop) : Prop where
  ex : ∃ f fd, mg g = some (.ref f) ∧ PySem.W.keepIn K (.ref f) = true ∧ Binds K fd [x] [] ∧ WhichOk P w K mg base k f fd x R
  ct : ∃ C, mg c0 = some (.ref C) ∧ ∀ c e, R c e → (∃ D, c = .ref D) ∧ PySem.W.exmOne K c (.ref C) = some true
theorem xs_try {i j : Nat} {g n x c0 : Str} {body : List Stmt} {R : Value → PyData → Prop} {T : TXS} {np gp ep cp rp hp : Pos} (hw : HasW X.prog X.w X.K X.mg X.base g j x c0 R) (hK : X.K = K) (hr : Room j X.A) (tk : L2N.Takes X W) (hs : X.stack = X.env :: X.outer) (hfr : X.env.frame = some X.env.locals)
    (hN : X.N.Nodup) (hi : X.N[i]? = some n) (hln : X.env.kindOf n = some .local) (hgc : Gl X c0) (hg : Gl X g) (hio : i ∉ io := by decide) (hdc : (c0 == ("__debug__" : Str)) = false := by decide)
    (hdn : (n == ("__debug__" : Str)) = false := by decide) (hcn : (n == ("__classdict__" : Str)) = false := by decide) (hdb : (g == ("__debug__" : Str)) = false := by decide)
    (he : starEach [.Name n ep] X.env = (false, eval (.Name n ep) X.env) :: starEach [] X.env := by rfl) (hpl : (backTo cp (starEach [] X.env)).any (·.1) = false := by rfl)
    (hb : ∀ (W : WX) (pn : List (Addr × Obj)) (xe : Value → Shared → Prop), L2N.Takes (X.tr pn xe) W → XSs K W io (X.tr pn xe) body T) :
    XS K W io X (.Try body [.ExceptHandler (some (.Name c0 np)) (some n) [.Return (some (.Call (.Name g gp) [.Name n ep] [] cp)) rp] hp] [] [] pos) (sTry R i T) := by
  obtain ⟨⟨f, fd, hm, hk, hbd, F⟩, C, hC, hR⟩ := hw
  have suite : ∀ (a : Addr) (oe : Obj) (cls : Value) (d : Option Addr) (pn : List (Addr × Obj)), L2N.Zn cls d oe → (∃ vs, oe.data = .fields vs) → PSs (X.suite a ((a, oe) :: pn)) [.Return (some (.Call (.Name g gp) [.Name n ep] [] cp)) rp] (fun D σ H => teW K io i R a cls d σ H D.rt) :=
    fun a oe cls d pn hz hf => pss_one (ps_ret (pe_which hK hr hg hm hk hbd F (fun c e q => (hR c e q).1) hi hln hz hf hdn hcn hdb he hpl))
  refine XS.mk (L2N.ps_try_as hs hfr hN hi hln ⟨hgc, hdc, .inl hC⟩ tk (fun W' pn xe tk' _ => hb W' pn xe tk') suite) fun Γ S H σ ρ fp DD D hio2 Rl hT k => ?_
  refine ⟨Γ, S, ρ, fp, _, hio2, Rl, hT, ⟨k.nx, k.rt, k.bk, k.ct, fun S' H' σ' ρ' fp' cls R' q => ?_⟩⟩
  obtain ⟨dd, q1, hil, q2⟩ := q
  refine ⟨true, hK ▸ (hR _ _ q1).2, fun _ a na => ?_, fun z => nomatch z⟩
  have hil2 : i < σ'.length := by rw [← R'.len]; exact hil
  have R2 := R'.asg (i := i) (v := .ref a) (e := .no) (fpn := []) hil (by rw [hio2]; exact hio) rfl List.nodup_nil (fun _ z => absurd z (by simp))
  exact ⟨Γ, S', _, _, dd, DD.rt, hio2, R2, by rw [List.getElem?_set_self hil2], rfl, q1, q2, fun S2 H2 ρ2 fp2 v e fpn R3 nw q3 => k.rt S2 H2 _ ρ2 fp2 v e fpn R3 ⟨nw.ent, nw.nd, fun b hb => ⟨(nw.new b hb).1, (nw.new b hb).2.1, (nw.new b hb).2.2.1, fun m _ => (nw.new b hb).2.2.2 m⟩⟩ q3⟩
end
end L3

namespace L3
open PySem PySem.Spec PyProof.Rows L2
theorem rv_ref (a : Addr) : RelV (.ref a) (.ref a) := rfl
theorem rv_int (i : Int) (t : Tok) : RelV (.int i) (.int i t) := ⟨t, rfl⟩
/-! ### [f, g, ..][i](x, ..) -/
inductive Sel (X : Cx) (k n : Nat) (io : List Nat) : List Expr → List DSp → Prop where
  | nil : Sel X k n io [] []
  | cons {x : Str} {p : Pos} {ps : List Str} {dsp : DSp} {es : List Expr} {ds : List DSp} (h : Has X.prog X.w X.K X.mg X.base x k ps io dsp) (hl : ps.length = n) (hg : Gl X x) (hd : (x == ("__debug__" : Str)) = false) (t : Sel X k n io es ds) : Sel X k n io (.Name x p :: es) (dsp :: ds)
structure FnAt (X : Cx) (k n : Nat) (io : List Nat) (v : V) (dsp : DSp) : Prop where
  ex : ∃ f fd ps, ps.length = n ∧ v = .ref f ∧ PySem.W.keepIn X.K (.ref f) = true ∧ Binds X.K fd ps [] ∧ FnOk X.prog X.w X.K X.mg X.base (L2N.CX X.prog X.w) k f fd ps (toSp X.K io n dsp)
theorem Sel.vals {X : Cx} {k n : Nat} {io : List Nat} : ∀ {es : List Expr} {ds : List DSp}, Sel X k n io es ds → ∃ vs : List V, Paired (FnAt X k n io) vs ds ∧ PA X es (fun _ H Q => Q vs H)
  | _, _, .nil => ⟨[], .nil, pa_nil⟩
  | _, _, .cons h hl hg hd t => by
    obtain ⟨vs, p, q⟩ := t.vals
    obtain ⟨f, fd, h1, h2, h3, h4⟩ := h.ex
    exact ⟨.ref f :: vs, .cons ⟨f, fd, _, hl, rfl, h2, h3, hl ▸ h4⟩ p, pa_cons (pe_glob (v := .ref f) hg h1 rfl hd) q⟩
theorem arm_Call_Sub (a b : Expr) (p : Pos) (args : List Expr) (keywords : List Keyword) (pos : Pos) (env : Env) : eval (.Call (.Subscript a b p) args keywords pos) env = (do
    callWith pos (← eval (.Subscript a b p) env) [] (backTo pos (starEach args env)) (backToKw pos (keywordEach keywords env))) := rfl
def fSel (fi : TX) (ms : List (Option Nat)) (dsps : List DSp) (fa : TXA) : TXN := fun ρ Q Ex => fi ρ (fun r ρ1 => isD r fun d => match d with
  | .int z => 0 ≤ z ∧ match dsps[z.toNat]? with
    | some dsp => fOwn ms dsp fa ρ1 Q Ex
    | none => False
  | _ => False) Ex
theorem Paired.at {α β : Type} {F : α → β → Prop} : ∀ {l : List α} {m : List β} {i : Nat} {y : β}, Paired F l m → m[i]? = some y → ∃ x, l[i]? = some x ∧ F x y
  | _, _, _, _, .nil, h => by simp at h
  | _, _, 0, _, .cons r t, h => by simp at h; subst h; exact ⟨_, rfl, r⟩
  | _, _, i + 1, _, .cons r t, h => by
    obtain ⟨x, h1, h2⟩ := Paired.at (i := i) t (by simpa using h)
    exact ⟨x, by simpa using h1, h2⟩
theorem Paired.lenE {α β : Type} {F : α → β → Prop} : ∀ {l : List α} {m : List β}, Paired F l m → l.length = m.length
  | _, _, .nil => rfl
  | _, _, .cons _ t => by rw [List.length_cons, List.length_cons, Paired.lenE t]
theorem Sel.len {X : Cx} {k n : Nat} {io : List Nat} : ∀ {es : List Expr} {ds : List DSp}, Sel X k n io es ds → es.length = ds.length
  | _, _, .nil => rfl
  | _, _, .cons _ _ _ _ t => by rw [List.length_cons, List.length_cons, t.len]
section
variable {X : Cx} {K : PySem.W.Frag} {W : WX} {io : List Nat} {pos p1 p2 : Pos} {e ei : Expr} {es fs : List Expr} {k n m : Nat} {io' : List Nat} {dsps : List DSp} {fa : TXA} {fi : TX}
theorem xn_sel {ms : List (Option Nat)} (h : Sel X k n io' fs dsps) (hK : X.K = K) (hr : Room k X.A) (tk : L2N.Takes X W) (hi : XR K W io X ei fi) (ha : XA K W io X (e :: es) m fa) (hlen : fs.length ≤ 100)
    (hpx : PlainIx ei := by exact fun _ _ => rfl) (hio : io' = (pjs ms).map (·.1) := by decide) (hn : ms.length = n := by rfl) (hnd : ((pjs ms).map (·.2)).Nodup := by decide)
    (he : starEach (e :: es) X.env = (false, eval e X.env) :: starEach es X.env := by rfl) (hpl : (backTo pos (starEach es X.env)).any (·.1) = false := by rfl) :
    XN K W io X (.Call (.Subscript (.List fs p1) ei p2) (e :: es) [] pos) (fSel fi ms dsps fa) := by
  subst hK
  obtain ⟨vs, hp, hpa⟩ := h.vals
  have hlv : vs.length ≤ sizeLine := by
    have e1 := h.len
    have e2 := Paired.lenE hp
    have e3 : 100 ≤ sizeLine := by decide
    omega
  refine ⟨fun pins s σ H Q I h => ?_⟩
  obtain ⟨Γ, S, ρ, fp, QD, Ex, hio2, R, hf, kn, kx⟩ := h
  have look : PE X (.Subscript (.List fs p1) ei p2) _ := pe_ix ix_list (pe_lst hpa) hi hpx
  rw [arm_Call_Sub]
  refine wpAny_bind (thn (look.run pins s σ H (fun v H1 => ∃ (z : Int) (dsp : DSp) (S1 : Hp) (ρ1 : List E) (fp1 : Nat → List Addr), 0 ≤ z ∧ dsps[z.toNat]? = some dsp ∧ vs[z.toNat]? = some v ∧ Rel X.K Γ S1 H1 σ ρ1 fp1 ∧ Same S S1 ∧ fOwn ms dsp fa ρ1 QD Ex) I ?_) fun u s1 ⟨v, H1, I1, r1, z, dsp, S1, ρ1, fp1, hz, hd, hv, R1, ss1, h1⟩ => ?_)
  · refine ⟨hlv, fun p np => ?_⟩
    have R0 := R.layS np (.lst vs)
    obtain ⟨n1, _, _⟩ := R.free np
    refine ⟨Γ, _, ρ, fp, _, Ex, hio2, R0, hf, fun S1 H1 w r ρ1 fp1 R1 ss ok q => ?_, fun S' H' cls ρ' fp' R' ss q => kx S' H' cls ρ' fp' R' ((same_upd n1).trans ss) q⟩
    obtain ⟨d, rfl, q⟩ := isD_get q
    cases d with
    | int z =>
      obtain ⟨z0, q⟩ := q
      cases hd : dsps[z.toNat]? with
      | none => rw [hd] at q; exact q.elim
      | some dsp =>
        rw [hd] at q
        obtain ⟨v, hv, hF⟩ := Paired.at hp hd
        cases ok
        have hp1 : H1 p = some (.lst vs) := R1.sub _ _ (ss _ _ upd_same)
        have hat : atI vs z = some v := by
          have y := atI_nat hv
          rw [Int.toNat_of_nonneg z0] at y
          exact y
        exact ⟨p, vs, z, v, rfl, rfl, SqL.of hp1, hat, z, dsp, S1, ρ1, fp1, z0, hd, hv, R1, (same_upd n1).trans ss, q⟩
    | _ => exact q.elim
  · obtain ⟨w, hw, f, fd, ps, hl, e1, hk, hb, F⟩ := Paired.at hp hd
    rw [hv] at hw
    cases hw
    subst e1
    cases r1
    refine PySem.W.callWith_K (h₀ := X.base) I1.ok.mod.kin hk (thn (ha.run pos pins s1 σ H1 (fun vs2 H2 => toSp X.K io' n dsp vs2 H2 Q (L2.WE W σ)) I1 ?_) fun us s2 ⟨vs2, H2, I2, r2, q⟩ => ⟨I2.kIn, ?_⟩) he hpl
    · refine ⟨Γ, S1, ρ1, fp1, _, Ex, hio2, R1, h1, fun S2 H2 vs2 rs ρ2 fp2 R2 ss2 ok2 hl q => ?_, kx.up ss1⟩
      exact call_run (QN := QD) (Ex := Ex) hnd hio hn R2 ok2 q (fun S' H' v e ρ' fp' fpn R' ss nw q => kn S' H' v e ρ' fp' fpn R' ((ss1.trans ss2).trans ss) nw q) fun S' H' cls ρ' fp' R' ss q => kx S' H' cls ρ' fp' R' ((ss1.trans ss2).trans ss) q
    · exact run_fnS F hr hb (L2N.passAt tk σ) I2 r2 q
end
end L3

namespace My
open PySem PySem.Spec PyProof.Rows L2 L3
/-- own exception classes -/
structure Cs where
  NoPicture : Addr
  NoWays : Addr
  NoPoints : Addr
  NoError : Addr
  NoSize : Addr
  NoCell : Addr
  NoText : Addr
  Nothing : Addr
  NoClues : Addr
  NoNumber : Addr
  CellError : Addr
def refused (k : Int) : PyData := .tuple [.str "refused", .int k]
/-- which refusal a class is -/
inductive Wh8 (cs : Cs) : Value → PyData → Prop where
  | NoPicture : Wh8 cs (.ref cs.NoPicture) (refused 0)
  | NoWays : Wh8 cs (.ref cs.NoWays) (refused 1)
  | NoPoints : Wh8 cs (.ref cs.NoPoints) (refused 2)
  | NoError : Wh8 cs (.ref cs.NoError) (refused 3)
  | NoSize : Wh8 cs (.ref cs.NoSize) (refused 4)
  | NoCell : Wh8 cs (.ref cs.NoCell) (refused 5)
  | NoText : Wh8 cs (.ref cs.NoText) (refused 6)
  | Nothing : Wh8 cs (.ref cs.Nothing) (refused 7)
inductive Wh10 (cs : Cs) : Value → PyData → Prop where
  | NoPicture : Wh10 cs (.ref cs.NoPicture) (refused 0)
  | NoWays : Wh10 cs (.ref cs.NoWays) (refused 1)
  | NoPoints : Wh10 cs (.ref cs.NoPoints) (refused 2)
  | NoError : Wh10 cs (.ref cs.NoError) (refused 3)
  | NoSize : Wh10 cs (.ref cs.NoSize) (refused 4)
  | NoCell : Wh10 cs (.ref cs.NoCell) (refused 5)
  | NoText : Wh10 cs (.ref cs.NoText) (refused 6)
  | Nothing : Wh10 cs (.ref cs.Nothing) (refused 7)
  | NoClues : Wh10 cs (.ref cs.NoClues) (refused 8)
  | NoNumber : Wh10 cs (.ref cs.NoNumber) (refused 9)
theorem gEq_ii {i j : Int} {Q : PyData → Prop} : gEq (.int i) (.int j) Q = Q (.bool (decide (i = j))) := rfl
theorem gEq_ss {i j : Str} {Q : PyData → Prop} : gEq (.str i) (.str j) Q = Q (.bool (decide (i = j))) := rfl
theorem gEq_bb {i j : Bool} {Q : PyData → Prop} : gEq (.bool i) (.bool j) Q = Q (.bool (decide (i = j))) := rfl
def d_AROUND : PyData := wkT [.tuple [.int 0, .int 1], .tuple [.int 1, .int 0], .tuple [.int 0, .int (-1)], .tuple [.int (-1), .int 0]]
def d_CROSS : PyData := wkT [.tuple [.int (-1), .int (-1)], .tuple [.int (-1), .int 1], .tuple [.int 1, .int (-1)], .tuple [.int 1, .int 1]]
def d_FIGURES : PyData := .str "012345678"
theorem own_no : E.no.own = false := rfl
theorem own_dat {d : PyData} : (E.dat d).own = false := rfl
theorem own_lst {d : List PyData} : (E.lst d).own = true := rfl
theorem own_ll {d : List (List PyData)} : (E.ll d).own = true := rfl
theorem sSeq_g {T U : TXS} {DD : DE} {ρ : List E} (h : ∀ N : List E → Prop, (∀ ρ', U DD ρ' → N ρ') → T { DD with nx := N } ρ) : sSeq T U DD ρ := h _ fun _ h => h
theorem sFor_g {fi : TXI} {g : TXG} {tb : TXS} {DD : DE} {ρ : List E} (h : ∀ F : List PyData → List E → Prop, (∀ ds ρ1, forR g tb ds DD ρ1 → F ds ρ1) → fi ρ F DD.ex) : sFor fi g tb DD ρ := h _ fun _ _ h => h
theorem ins_str_none : isIns "str" (.none) = false := by rfl
theorem ins_str_bool {b : Bool} : isIns "str" (.bool b) = false := by rfl
theorem ins_str_int {i : Int} : isIns "str" (.int i) = false := by rfl
theorem ins_str_str {s : Str} : isIns "str" (.str s) = true := by rfl
theorem ins_str_list {l : List PyData} : isIns "str" (.list l) = false := by rfl
theorem ins_str_tuple {l : List PyData} : isIns "str" (.tuple l) = false := by rfl
theorem ins_str_dict {l : List (PyData × PyData)} : isIns "str" (.dict l) = false := by rfl
theorem ins_tuple_none : isIns "tuple" (.none) = false := by rfl
theorem ins_tuple_bool {b : Bool} : isIns "tuple" (.bool b) = false := by rfl
theorem ins_tuple_int {i : Int} : isIns "tuple" (.int i) = false := by rfl
theorem ins_tuple_str {s : Str} : isIns "tuple" (.str s) = false := by rfl
theorem ins_tuple_list {l : List PyData} : isIns "tuple" (.list l) = false := by rfl
theorem ins_tuple_tuple {l : List PyData} : isIns "tuple" (.tuple l) = true := by rfl
theorem ins_tuple_dict {l : List (PyData × PyData)} : isIns "tuple" (.dict l) = true := by rfl
theorem ins_int_none : isIns "int" (.none) = false := by rfl
theorem ins_int_bool {b : Bool} : isIns "int" (.bool b) = true := by rfl
theorem ins_int_int {i : Int} : isIns "int" (.int i) = true := by rfl
theorem ins_int_str {s : Str} : isIns "int" (.str s) = false := by rfl
theorem ins_int_list {l : List PyData} : isIns "int" (.list l) = false := by rfl
theorem ins_int_tuple {l : List PyData} : isIns "int" (.tuple l) = false := by rfl
theorem ins_int_dict {l : List (PyData × PyData)} : isIns "int" (.dict l) = false := by rfl
theorem ins_list_none : isIns "list" (.none) = false := by rfl
theorem ins_list_bool {b : Bool} : isIns "list" (.bool b) = false := by rfl
theorem ins_list_int {i : Int} : isIns "list" (.int i) = false := by rfl
theorem ins_list_str {s : Str} : isIns "list" (.str s) = false := by rfl
theorem ins_list_list {l : List PyData} : isIns "list" (.list l) = true := by rfl
theorem ins_list_tuple {l : List PyData} : isIns "list" (.tuple l) = false := by rfl
theorem ins_list_dict {l : List (PyData × PyData)} : isIns "list" (.dict l) = false := by rfl
theorem ins_bool_none : isIns "bool" (.none) = false := by rfl
theorem ins_bool_bool {b : Bool} : isIns "bool" (.bool b) = true := by rfl
theorem ins_bool_int {i : Int} : isIns "bool" (.int i) = false := by rfl
theorem ins_bool_str {s : Str} : isIns "bool" (.str s) = false := by rfl
theorem ins_bool_list {l : List PyData} : isIns "bool" (.list l) = false := by rfl
theorem ins_bool_tuple {l : List PyData} : isIns "bool" (.tuple l) = false := by rfl
theorem ins_bool_dict {l : List (PyData × PyData)} : isIns "bool" (.dict l) = false := by rfl
theorem sgn_cps : (Str.ofString "#.").cps.toList = [35, 46] := by decide
theorem gIn_sgn {c : Nat} {Q : PyData → Prop} (h : Q (.bool (decide (c = 35 ∨ c = 46)))) : gIn (.str ⟨#[c]⟩) (.str (Str.ofString "#.")) Q := by
  refine ⟨c, rfl, ?_⟩
  rw [sgn_cps]
  simpa using h
/-- a comprehension of one value each -/
theorem lcR_all {g : TXG} {tt : TXT} {te : TX} {vs : List Nat} {Q : List PyData → List E → Prop} {ρ : List E} (h : PyData → PyData) {ds acc : List PyData} (hs : ∀ d ∈ ds, ∀ k : Option PyData → List E → Prop, k (some (h d)) ρ → lcStep g tt te vs d ρ k) (hq : Q (acc ++ ds.map h) ρ) : lcR g tt te vs ds acc ρ Q :=
  lcR_map (fun d => some (h d)) hs (by rwa [show ds.filterMap (fun d => some (h d)) = ds.map h from congrFun List.filterMap_eq_map' ds])
def T_is_line : TXS :=
  (sRet (fOf (fAndV (fIsI "str" (fName 0)) (fAndV (fChain gLe gLe (fC (.int 1)) (fFz (fCall gLen (fCons (fName 0) fNil))) (fC (.int 8))) (fFz (fCall gAll (fCons (fFz (fLc (fSeq (fName 0)) (fGN 1) fYes (fBin gIn (fName 1) (fC (.str "#."))) [1])) fNil)))))))

def isLineS (s : Str) : Bool := decide (1 ≤ s.length) && decide (s.length ≤ 8) && s.cps.toList.all fun c => decide (c = 35 ∨ c = 46)
def isLineD : PyData → Bool
  | .str s => isLineS s
  | _ => false
def smallS : PyData → Prop
  | .str s => s.length ≤ sizeLine
  | _ => True
def dsp_is_line : DSp := fun es post _ => ∃ d, es = [.dat d] ∧ smallS d ∧ post (.dat (.bool (isLineD d))) []
theorem line8 : 8 < sizeLine := by decide
theorem good_is_line : Good [] 2 1 T_is_line dsp_is_line := by
  rintro es post xp ⟨d, rfl, hs, hp⟩ _
  cases d with
  | str s =>
    simp only [T_is_line, sSeq, sFor, ↓sRet, ↓sNil, ↓sIf, ↓sSet, ↓sAsg, ↓sPar, ↓sPar3, ↓sSub, ↓sSub2, ↓sExpr, ↓sExprR, ↓sRetV, ↓sRetN, ↓sRaise, ↓sBrk, ↓sCt, ↓fOf, ↓fFz, ↓fName, ↓fFrz, ↓fC, ↓fBin, ↓fBinN, ↓fT, ↓fNot, ↓fAnd, ↓fOr, ↓fAndV, ↓fOrV, ↓fNotV, ↓fIf, ↓fIfN, ↓fChain, ↓fNil, ↓fCons, ↓fTup, ↓fLst, ↓fNeg, ↓fCall, ↓fIsI, ↓fJoin, ↓fApp, ↓fExt, ↓fPop, ↓fPopAt, ↓fSl, ↓fPart, ↓fNoPart, ↓fSeq, ↓fRng1, ↓fRng2, ↓fEnum, ↓fZip, ↓fGN, ↓fGT, ↓fGcons, ↓fGnil, ↓fLc, ↓fLl, ↓fYes, ↓fOwn, ↓fAt2, ↓fCount, ↓fIndex, ↓fRev, ↓fMulL, ↓fSel, ↓sTry, ↓fIsP, ↓isLk, ↓L3.gSub, ↓gMulI, ↓gDiv, ↓gMod, ↓gPow, ↓gLt, ↓gLe, ↓gGt, ↓gGe, ↓gI, ↓gIC, ↓gAdd, ↓gIx, ↓gSl, ↓gLen, ↓gAll, ↓gAny, ↓gSum, ↓gMin2, ↓gMax2, ↓gList, ↓gTuple, ↓gNe, ↓gNotIn, ↓gIs, ↓gIsNot, ↓isNone, ↓look, ↓withD, ↓isD, ↓isB, ↓areD, ↓withDs, ↓isBor, ↓isLst, ↓isLl, ↓isI, ↓items1, ↓itemsD, ↓argsM, ↓putB, ↓pjs, ↓outsOf, ↓fin, ↓startE, ↓wipeK, ↓wipeE, ↓unw, ↓noOwnB, gEq_ii, gEq_ss, gEq_bb, own_no, own_dat, own_lst, own_ll, List.getD_cons_zero, List.getD_cons_succ, List.set_cons_zero, List.set_cons_succ, List.replicate_succ, List.replicate_zero, List.cons_append, List.nil_append, List.length_cons, List.length_nil, List.map_cons, List.map_nil, List.all_cons, List.all_nil, Nat.reduceAdd, Nat.reduceSub, Bool.not_false, Bool.not_true, Bool.and_true, Bool.and_self, if_true, if_false, reduceCtorEq, List.zipIdx_cons, List.zipIdx_nil, List.filterMap_cons, List.filterMap_nil, Option.map_some, Option.map_none, decide_true, Nat.zero_add, reduceIte, Bool.false_eq_true, true_and, and_true, ins_str_str]
    refine ⟨hs, ?_⟩
    simp only [isLineD, isLineS] at hp
    by_cases h1 : 1 ≤ s.length
    · by_cases h2 : s.length ≤ 8
      · have e1 : (decide ((1 : Int) ≤ (s.length : Int)) = true) := decide_eq_true (by omega)
        have e2 : (decide ((s.length : Int) ≤ 8) = true) := decide_eq_true (by omega)
        rw [if_pos e1, if_pos e2]
        have hl : (List.map (fun c => PyData.str { cps := #[c] }) s.cps.toList).length = s.length := by rw [List.length_map]; rfl
        refine ⟨by rw [hl]; exact Nat.lt_of_le_of_lt h2 line8, ?_⟩
        refine lcR_all (fun d => match d with | .str x => .bool (x.cps.toList.all fun c => decide (c = 35 ∨ c = 46)) | _ => .none) (fun d hd k hk => ?_) ?_
        · obtain ⟨c, _, rfl⟩ := List.mem_map.mp hd
          simp only [lcStep, ↓sRet, ↓sNil, ↓sIf, ↓sSet, ↓sAsg, ↓sPar, ↓sPar3, ↓sSub, ↓sSub2, ↓sExpr, ↓sExprR, ↓sRetV, ↓sRetN, ↓sRaise, ↓sBrk, ↓sCt, ↓fOf, ↓fFz, ↓fName, ↓fFrz, ↓fC, ↓fBin, ↓fBinN, ↓fT, ↓fNot, ↓fAnd, ↓fOr, ↓fAndV, ↓fOrV, ↓fNotV, ↓fIf, ↓fIfN, ↓fChain, ↓fNil, ↓fCons, ↓fTup, ↓fLst, ↓fNeg, ↓fCall, ↓fIsI, ↓fJoin, ↓fApp, ↓fExt, ↓fPop, ↓fPopAt, ↓fSl, ↓fPart, ↓fNoPart, ↓fSeq, ↓fRng1, ↓fRng2, ↓fEnum, ↓fZip, ↓fGN, ↓fGT, ↓fGcons, ↓fGnil, ↓fLc, ↓fLl, ↓fYes, ↓fOwn, ↓fAt2, ↓fCount, ↓fIndex, ↓fRev, ↓fMulL, ↓fSel, ↓sTry, ↓fIsP, ↓isLk, ↓L3.gSub, ↓gMulI, ↓gDiv, ↓gMod, ↓gPow, ↓gLt, ↓gLe, ↓gGt, ↓gGe, ↓gI, ↓gIC, ↓gAdd, ↓gIx, ↓gSl, ↓gLen, ↓gAll, ↓gAny, ↓gSum, ↓gMin2, ↓gMax2, ↓gList, ↓gTuple, ↓gNe, ↓gNotIn, ↓gIs, ↓gIsNot, ↓isNone, ↓look, ↓withD, ↓isD, ↓isB, ↓areD, ↓withDs, ↓isBor, ↓isLst, ↓isLl, ↓isI, ↓items1, ↓itemsD, ↓argsM, ↓putB, ↓pjs, ↓outsOf, ↓fin, ↓startE, ↓wipeK, ↓wipeE, ↓unw, ↓noOwnB, gEq_ii, gEq_ss, gEq_bb, own_no, own_dat, own_lst, own_ll, List.getD_cons_zero, List.getD_cons_succ, List.set_cons_zero, List.set_cons_succ, List.replicate_succ, List.replicate_zero, List.cons_append, List.nil_append, List.length_cons, List.length_nil, List.map_cons, List.map_nil, List.all_cons, List.all_nil, Nat.reduceAdd, Nat.reduceSub, Bool.not_false, Bool.not_true, Bool.and_true, Bool.and_self, if_true, if_false, reduceCtorEq, List.zipIdx_cons, List.zipIdx_nil, List.filterMap_cons, List.filterMap_nil, Option.map_some, Option.map_none, decide_true, Nat.zero_add, reduceIte, Bool.false_eq_true, true_and, and_true]
          refine gIn_sgn ?_
          simpa using hk
        · refine ⟨s.cps.toList.map fun c => decide (c = 35 ∨ c = 46), ?_, ?_⟩
          · simp [List.map_map, Function.comp_def]
          · have e3 : ((s.cps.toList.map fun c => decide (c = 35 ∨ c = 46)).all id) = s.cps.toList.all fun c => decide (c = 35 ∨ c = 46) := by rw [List.all_map]; rfl
            rw [e3]
            simpa [h1, h2] using hp
      · have e1 : (decide ((1 : Int) ≤ (s.length : Int)) = true) := decide_eq_true (by omega)
        have e2 : ¬ (decide ((s.length : Int) ≤ 8) = true) := by rw [decide_eq_true_eq]; omega
        rw [if_pos e1, if_neg e2]
        simpa [h1, h2] using hp
    · have e1 : ¬ (decide ((1 : Int) ≤ (s.length : Int)) = true) := by rw [decide_eq_true_eq]; omega
      rw [if_neg e1]
      simpa [h1] using hp
  | _ => simp only [T_is_line, sSeq, sFor, ↓sRet, ↓sNil, ↓sIf, ↓sSet, ↓sAsg, ↓sPar, ↓sPar3, ↓sSub, ↓sSub2, ↓sExpr, ↓sExprR, ↓sRetV, ↓sRetN, ↓sRaise, ↓sBrk, ↓sCt, ↓fOf, ↓fFz, ↓fName, ↓fFrz, ↓fC, ↓fBin, ↓fBinN, ↓fT, ↓fNot, ↓fAnd, ↓fOr, ↓fAndV, ↓fOrV, ↓fNotV, ↓fIf, ↓fIfN, ↓fChain, ↓fNil, ↓fCons, ↓fTup, ↓fLst, ↓fNeg, ↓fCall, ↓fIsI, ↓fJoin, ↓fApp, ↓fExt, ↓fPop, ↓fPopAt, ↓fSl, ↓fPart, ↓fNoPart, ↓fSeq, ↓fRng1, ↓fRng2, ↓fEnum, ↓fZip, ↓fGN, ↓fGT, ↓fGcons, ↓fGnil, ↓fLc, ↓fLl, ↓fYes, ↓fOwn, ↓fAt2, ↓fCount, ↓fIndex, ↓fRev, ↓fMulL, ↓fSel, ↓sTry, ↓fIsP, ↓isLk, ↓L3.gSub, ↓gMulI, ↓gDiv, ↓gMod, ↓gPow, ↓gLt, ↓gLe, ↓gGt, ↓gGe, ↓gI, ↓gIC, ↓gAdd, ↓gIx, ↓gSl, ↓gLen, ↓gAll, ↓gAny, ↓gSum, ↓gMin2, ↓gMax2, ↓gList, ↓gTuple, ↓gNe, ↓gNotIn, ↓gIs, ↓gIsNot, ↓isNone, ↓look, ↓withD, ↓isD, ↓isB, ↓areD, ↓withDs, ↓isBor, ↓isLst, ↓isLl, ↓isI, ↓items1, ↓itemsD, ↓argsM, ↓putB, ↓pjs, ↓outsOf, ↓fin, ↓startE, ↓wipeK, ↓wipeE, ↓unw, ↓noOwnB, gEq_ii, gEq_ss, gEq_bb, own_no, own_dat, own_lst, own_ll, List.getD_cons_zero, List.getD_cons_succ, List.set_cons_zero, List.set_cons_succ, List.replicate_succ, List.replicate_zero, List.cons_append, List.nil_append, List.length_cons, List.length_nil, List.map_cons, List.map_nil, List.all_cons, List.all_nil, Nat.reduceAdd, Nat.reduceSub, Bool.not_false, Bool.not_true, Bool.and_true, Bool.and_self, if_true, if_false, reduceCtorEq, List.zipIdx_cons, List.zipIdx_nil, List.filterMap_cons, List.filterMap_nil, Option.map_some, Option.map_none, decide_true, Nat.zero_add, reduceIte, Bool.false_eq_true, true_and, and_true, ins_str_none, ins_str_bool, ins_str_int, ins_str_list, ins_str_tuple, ins_str_dict]; exact hp
/-- a comprehension over encoded things -/
theorem lcR_enc {α : Type} (enc : α → PyData) (h : α → Option PyData) {g : TXG} {tt : TXT} {te : TX} {vs : List Nat} {Q : List PyData → List E → Prop} {ρ : List E} : ∀ {xs : List α} {acc : List PyData},
    (∀ x ∈ xs, ∀ k : Option PyData → List E → Prop, k (h x) ρ → lcStep g tt te vs (enc x) ρ k) → Q (acc ++ xs.filterMap h) ρ → lcR g tt te vs (xs.map enc) acc ρ Q
  | [], acc, _, hq => by
    rw [List.filterMap_nil, List.append_nil] at hq
    exact hq
  | x :: xs, acc, hs, hq => by
    rw [List.map_cons, lcR_cons]
    refine hs x List.mem_cons_self _ ?_
    refine lcR_enc enc h (fun d hd => hs d (List.mem_cons_of_mem _ hd)) ?_
    cases q : h x with
    | none => rw [List.filterMap_cons_none q] at hq; exact hq
    | some y => rw [List.filterMap_cons_some q] at hq; simpa [accO] using hq
theorem lcR_enc1 {α : Type} (enc : α → PyData) (h : α → PyData) {g : TXG} {tt : TXT} {te : TX} {vs : List Nat} {Q : List PyData → List E → Prop} {ρ : List E} {xs : List α} {acc : List PyData}
    (hs : ∀ x ∈ xs, ∀ k : Option PyData → List E → Prop, k (some (h x)) ρ → lcStep g tt te vs (enc x) ρ k) (hq : Q (acc ++ xs.map h) ρ) : lcR g tt te vs (xs.map enc) acc ρ Q :=
  lcR_enc enc (fun x => some (h x)) hs (by rwa [show xs.filterMap (fun d => some (h d)) = xs.map h from congrFun List.filterMap_eq_map' xs])
/-- a comprehension with a test -/
theorem lcR_encF {α : Type} (enc : α → PyData) (t : α → Bool) (h : α → PyData) {g : TXG} {tt : TXT} {te : TX} {vs : List Nat} {Q : List PyData → List E → Prop} {ρ : List E} {xs : List α} {acc : List PyData}
    (hs : ∀ x ∈ xs, ∀ k : Option PyData → List E → Prop, (t x = true → k (some (h x)) ρ) → (t x = false → k none ρ) → lcStep g tt te vs (enc x) ρ k) (hq : Q (acc ++ (xs.filter t).map h) ρ) : lcR g tt te vs (xs.map enc) acc ρ Q := by
  refine lcR_enc enc (fun x => if t x = true then some (h x) else none) (fun x hx k hk => hs x hx k (fun e => ?_) (fun e => ?_)) ?_
  · simpa [e] using hk
  · simpa [e] using hk
  · have e : xs.filterMap (fun x => if t x = true then some (h x) else none) = (xs.filter t).map h := by
      clear hq hs
      induction xs with
      | nil => rfl
      | cons x xs ih =>
        rw [List.filterMap_cons, List.filter_cons]
        by_cases q : t x = true
        · simp only [q, if_true, List.map_cons, ih]
        · simp only [q, if_false, ih]; simp [ih]
    rw [e]; exact hq
theorem atI0 {α : Type} {x : α} {xs : List α} : atI (x :: xs) 0 = some x := by
  unfold atI ixN
  simp
theorem all_id_map {α : Type} (p : α → Bool) (xs : List α) : (xs.map p).all id = xs.all p := by rw [List.all_map]; rfl
theorem any_id_map {α : Type} (p : α → Bool) (xs : List α) : (xs.map p).any id = xs.any p := by rw [List.any_map]; rfl

def T_is_picture : TXS :=
  (sSeq (sIf (fOr (fNot (fT (fIsI "tuple" (fName 0)))) (fOr (fNot (fT (fChain gLe gLe (fC (.int 1)) (fFz (fCall gLen (fCons (fName 0) fNil))) (fC (.int 8))))) (fNot (fT (fFz (fCall gAll (fCons (fFz (fLc (fSeq (fName 0)) (fGN 1) fYes (fFz (fOwn [none] (dsp_is_line) (fCons (fName 1) fNil))) [1])) fNil))))))) (sRet (fOf (fC (.bool false)))) sNil)
  (sRet (fCall gAll (fCons (fFz (fLc (fSeq (fName 0)) (fGN 1) fYes (fBin gEq (fFz (fCall gLen (fCons (fName 1) fNil))) (fFz (fCall gLen (fCons (fBin gIx (fName 0) (fC (.int 0))) fNil)))) [1])) fNil))))

def lenD : PyData → Nat
  | .str s => s.length
  | _ => 0
def isPicL (ds : List PyData) : Bool := decide (1 ≤ ds.length) && decide (ds.length ≤ 8) && ds.all isLineD && ds.all fun d => decide (lenD d = lenD (ds.getD 0 .none))
def isPicD : PyData → Bool
  | .tuple ds => isPicL ds
  | _ => false
def smallP : PyData → Prop
  | .tuple ds => ∀ x ∈ ds, smallS x
  | .dict _ => False
  | _ => True
def dsp_is_picture : DSp := fun es post _ => ∃ d, es = [.dat d] ∧ smallP d ∧ post (.dat (.bool (isPicD d))) []
theorem isLine_str {d : PyData} (h : isLineD d = true) : ∃ s, d = .str s ∧ isLineS s = true := by
  cases d with
  | str s => exact ⟨s, rfl, h⟩
  | _ => cases h
theorem good_is_picture : Good [] 2 1 T_is_picture dsp_is_picture := by
  rintro es post xp ⟨d, rfl, hs, hp⟩ _
  cases d with
  | tuple ds =>
    simp only [T_is_picture, sSeq, sFor, ↓sRet, ↓sNil, ↓sIf, ↓sSet, ↓sAsg, ↓sPar, ↓sPar3, ↓sSub, ↓sSub2, ↓sExpr, ↓sExprR, ↓sRetV, ↓sRetN, ↓sRaise, ↓sBrk, ↓sCt, ↓fOf, ↓fFz, ↓fName, ↓fFrz, ↓fC, ↓fBin, ↓fBinN, ↓fT, ↓fNot, ↓fAnd, ↓fOr, ↓fAndV, ↓fOrV, ↓fNotV, ↓fIf, ↓fIfN, ↓fChain, ↓fNil, ↓fCons, ↓fTup, ↓fLst, ↓fNeg, ↓fCall, ↓fIsI, ↓fJoin, ↓fApp, ↓fExt, ↓fPop, ↓fPopAt, ↓fSl, ↓fPart, ↓fNoPart, ↓fSeq, ↓fRng1, ↓fRng2, ↓fEnum, ↓fZip, ↓fGN, ↓fGT, ↓fGcons, ↓fGnil, ↓fLc, ↓fLl, ↓fYes, ↓fOwn, ↓fAt2, ↓fCount, ↓fIndex, ↓fRev, ↓fMulL, ↓fSel, ↓sTry, ↓fIsP, ↓isLk, ↓L3.gSub, ↓gMulI, ↓gDiv, ↓gMod, ↓gPow, ↓gLt, ↓gLe, ↓gGt, ↓gGe, ↓gI, ↓gIC, ↓gAdd, ↓gIx, ↓gSl, ↓gLen, ↓gAll, ↓gAny, ↓gSum, ↓gMin2, ↓gMax2, ↓gList, ↓gTuple, ↓gNe, ↓gNotIn, ↓gIs, ↓gIsNot, ↓isNone, ↓look, ↓withD, ↓isD, ↓isB, ↓areD, ↓withDs, ↓isBor, ↓isLst, ↓isLl, ↓isI, ↓items1, ↓itemsD, ↓argsM, ↓putB, ↓pjs, ↓outsOf, ↓fin, ↓startE, ↓wipeK, ↓wipeE, ↓unw, ↓noOwnB, gEq_ii, gEq_ss, gEq_bb, own_no, own_dat, own_lst, own_ll, List.getD_cons_zero, List.getD_cons_succ, List.set_cons_zero, List.set_cons_succ, List.replicate_succ, List.replicate_zero, List.cons_append, List.nil_append, List.length_cons, List.length_nil, List.map_cons, List.map_nil, List.all_cons, List.all_nil, Nat.reduceAdd, Nat.reduceSub, Bool.not_false, Bool.not_true, Bool.and_true, Bool.and_self, if_true, if_false, reduceCtorEq, List.zipIdx_cons, List.zipIdx_nil, List.filterMap_cons, List.filterMap_nil, Option.map_some, Option.map_none, decide_true, Nat.zero_add, reduceIte, Bool.false_eq_true, true_and, and_true, ins_tuple_tuple]
    have hp' : post (.dat (.bool (isPicL ds))) [] := hp
    by_cases h1 : 1 ≤ ds.length
    · by_cases h2 : ds.length ≤ 8
      · have e1 : (decide ((1 : Int) ≤ (ds.length : Int)) = true) := decide_eq_true (by omega)
        have e2 : (decide ((ds.length : Int) ≤ 8) = true) := decide_eq_true (by omega)
        have e2' : (!decide ((ds.length : Int) ≤ 8)) = false := by rw [e2]; rfl
        have l8 := Nat.lt_of_le_of_lt h2 line8
        rw [if_pos e1, e2', if_neg Bool.false_ne_true]
        refine ⟨l8, ?_⟩
        refine lcR_all (fun d => .bool (isLineD d)) (fun d hd k hk => ?_) ?_
        · simp only [lcStep, ↓sRet, ↓sNil, ↓sIf, ↓sSet, ↓sAsg, ↓sPar, ↓sPar3, ↓sSub, ↓sSub2, ↓sExpr, ↓sExprR, ↓sRetV, ↓sRetN, ↓sRaise, ↓sBrk, ↓sCt, ↓fOf, ↓fFz, ↓fName, ↓fFrz, ↓fC, ↓fBin, ↓fBinN, ↓fT, ↓fNot, ↓fAnd, ↓fOr, ↓fAndV, ↓fOrV, ↓fNotV, ↓fIf, ↓fIfN, ↓fChain, ↓fNil, ↓fCons, ↓fTup, ↓fLst, ↓fNeg, ↓fCall, ↓fIsI, ↓fJoin, ↓fApp, ↓fExt, ↓fPop, ↓fPopAt, ↓fSl, ↓fPart, ↓fNoPart, ↓fSeq, ↓fRng1, ↓fRng2, ↓fEnum, ↓fZip, ↓fGN, ↓fGT, ↓fGcons, ↓fGnil, ↓fLc, ↓fLl, ↓fYes, ↓fOwn, ↓fAt2, ↓fCount, ↓fIndex, ↓fRev, ↓fMulL, ↓fSel, ↓sTry, ↓fIsP, ↓isLk, ↓L3.gSub, ↓gMulI, ↓gDiv, ↓gMod, ↓gPow, ↓gLt, ↓gLe, ↓gGt, ↓gGe, ↓gI, ↓gIC, ↓gAdd, ↓gIx, ↓gSl, ↓gLen, ↓gAll, ↓gAny, ↓gSum, ↓gMin2, ↓gMax2, ↓gList, ↓gTuple, ↓gNe, ↓gNotIn, ↓gIs, ↓gIsNot, ↓isNone, ↓look, ↓withD, ↓isD, ↓isB, ↓areD, ↓withDs, ↓isBor, ↓isLst, ↓isLl, ↓isI, ↓items1, ↓itemsD, ↓argsM, ↓putB, ↓pjs, ↓outsOf, ↓fin, ↓startE, ↓wipeK, ↓wipeE, ↓unw, ↓noOwnB, gEq_ii, gEq_ss, gEq_bb, own_no, own_dat, own_lst, own_ll, List.getD_cons_zero, List.getD_cons_succ, List.set_cons_zero, List.set_cons_succ, List.replicate_succ, List.replicate_zero, List.cons_append, List.nil_append, List.length_cons, List.length_nil, List.map_cons, List.map_nil, List.all_cons, List.all_nil, Nat.reduceAdd, Nat.reduceSub, Bool.not_false, Bool.not_true, Bool.and_true, Bool.and_self, if_true, if_false, reduceCtorEq, List.zipIdx_cons, List.zipIdx_nil, List.filterMap_cons, List.filterMap_nil, Option.map_some, Option.map_none, decide_true, Nat.zero_add, reduceIte, Bool.false_eq_true, true_and, and_true, dsp_is_line]
          exact ⟨d, rfl, hs d hd, by simpa [↓sRet, ↓sNil, ↓sIf, ↓sSet, ↓sAsg, ↓sPar, ↓sPar3, ↓sSub, ↓sSub2, ↓sExpr, ↓sExprR, ↓sRetV, ↓sRetN, ↓sRaise, ↓sBrk, ↓sCt, ↓fOf, ↓fFz, ↓fName, ↓fFrz, ↓fC, ↓fBin, ↓fBinN, ↓fT, ↓fNot, ↓fAnd, ↓fOr, ↓fAndV, ↓fOrV, ↓fNotV, ↓fIf, ↓fIfN, ↓fChain, ↓fNil, ↓fCons, ↓fTup, ↓fLst, ↓fNeg, ↓fCall, ↓fIsI, ↓fJoin, ↓fApp, ↓fExt, ↓fPop, ↓fPopAt, ↓fSl, ↓fPart, ↓fNoPart, ↓fSeq, ↓fRng1, ↓fRng2, ↓fEnum, ↓fZip, ↓fGN, ↓fGT, ↓fGcons, ↓fGnil, ↓fLc, ↓fLl, ↓fYes, ↓fOwn, ↓fAt2, ↓fCount, ↓fIndex, ↓fRev, ↓fMulL, ↓fSel, ↓sTry, ↓fIsP, ↓isLk, ↓L3.gSub, ↓gMulI, ↓gDiv, ↓gMod, ↓gPow, ↓gLt, ↓gLe, ↓gGt, ↓gGe, ↓gI, ↓gIC, ↓gAdd, ↓gIx, ↓gSl, ↓gLen, ↓gAll, ↓gAny, ↓gSum, ↓gMin2, ↓gMax2, ↓gList, ↓gTuple, ↓gNe, ↓gNotIn, ↓gIs, ↓gIsNot, ↓isNone, ↓look, ↓withD, ↓isD, ↓isB, ↓areD, ↓withDs, ↓isBor, ↓isLst, ↓isLl, ↓isI, ↓items1, ↓itemsD, ↓argsM, ↓putB, ↓pjs, ↓outsOf, ↓fin, ↓startE, ↓wipeK, ↓wipeE, ↓unw, ↓noOwnB, gEq_ii, gEq_ss, gEq_bb, own_no, own_dat, own_lst, own_ll, List.getD_cons_zero, List.getD_cons_succ, List.set_cons_zero, List.set_cons_succ, List.replicate_succ, List.replicate_zero, List.cons_append, List.nil_append, List.length_cons, List.length_nil, List.map_cons, List.map_nil, List.all_cons, List.all_nil, Nat.reduceAdd, Nat.reduceSub, Bool.not_false, Bool.not_true, Bool.and_true, Bool.and_self, if_true, if_false, reduceCtorEq, List.zipIdx_cons, List.zipIdx_nil, List.filterMap_cons, List.filterMap_nil, Option.map_some, Option.map_none, decide_true, Nat.zero_add, reduceIte, Bool.false_eq_true, true_and, and_true] using hk⟩
        · refine ⟨ds.map isLineD, by rw [List.map_map]; rfl, ?_⟩
          rw [all_id_map]
          cases q : ds.all isLineD with
          | false =>
            have e : isPicL ds = false := by unfold isPicL; rw [q]; simp
            rw [e] at hp'
            simpa using hp'
          | true =>
            simp only [Bool.not_true, Bool.false_eq_true, if_false]
            rw [List.all_eq_true] at q
            refine ⟨l8, ?_⟩
            obtain ⟨x0, xs, rfl⟩ : ∃ x xs, ds = x :: xs := by
              cases ds with
              | nil => simp at h1
              | cons x xs => exact ⟨x, xs, rfl⟩
            obtain ⟨s0, rfl, _⟩ := isLine_str (q _ List.mem_cons_self)
            refine lcR_all (fun d => .bool (decide (lenD d = s0.length))) (fun d hd k hk => ?_) ?_
            · obtain ⟨s, rfl, _⟩ := isLine_str (q d hd)
              simp only [lcStep, ↓sRet, ↓sNil, ↓sIf, ↓sSet, ↓sAsg, ↓sPar, ↓sPar3, ↓sSub, ↓sSub2, ↓sExpr, ↓sExprR, ↓sRetV, ↓sRetN, ↓sRaise, ↓sBrk, ↓sCt, ↓fOf, ↓fFz, ↓fName, ↓fFrz, ↓fC, ↓fBin, ↓fBinN, ↓fT, ↓fNot, ↓fAnd, ↓fOr, ↓fAndV, ↓fOrV, ↓fNotV, ↓fIf, ↓fIfN, ↓fChain, ↓fNil, ↓fCons, ↓fTup, ↓fLst, ↓fNeg, ↓fCall, ↓fIsI, ↓fJoin, ↓fApp, ↓fExt, ↓fPop, ↓fPopAt, ↓fSl, ↓fPart, ↓fNoPart, ↓fSeq, ↓fRng1, ↓fRng2, ↓fEnum, ↓fZip, ↓fGN, ↓fGT, ↓fGcons, ↓fGnil, ↓fLc, ↓fLl, ↓fYes, ↓fOwn, ↓fAt2, ↓fCount, ↓fIndex, ↓fRev, ↓fMulL, ↓fSel, ↓sTry, ↓fIsP, ↓isLk, ↓L3.gSub, ↓gMulI, ↓gDiv, ↓gMod, ↓gPow, ↓gLt, ↓gLe, ↓gGt, ↓gGe, ↓gI, ↓gIC, ↓gAdd, ↓gIx, ↓gSl, ↓gLen, ↓gAll, ↓gAny, ↓gSum, ↓gMin2, ↓gMax2, ↓gList, ↓gTuple, ↓gNe, ↓gNotIn, ↓gIs, ↓gIsNot, ↓isNone, ↓look, ↓withD, ↓isD, ↓isB, ↓areD, ↓withDs, ↓isBor, ↓isLst, ↓isLl, ↓isI, ↓items1, ↓itemsD, ↓argsM, ↓putB, ↓pjs, ↓outsOf, ↓fin, ↓startE, ↓wipeK, ↓wipeE, ↓unw, ↓noOwnB, gEq_ii, gEq_ss, gEq_bb, own_no, own_dat, own_lst, own_ll, List.getD_cons_zero, List.getD_cons_succ, List.set_cons_zero, List.set_cons_succ, List.replicate_succ, List.replicate_zero, List.cons_append, List.nil_append, List.length_cons, List.length_nil, List.map_cons, List.map_nil, List.all_cons, List.all_nil, Nat.reduceAdd, Nat.reduceSub, Bool.not_false, Bool.not_true, Bool.and_true, Bool.and_self, if_true, if_false, reduceCtorEq, List.zipIdx_cons, List.zipIdx_nil, List.filterMap_cons, List.filterMap_nil, Option.map_some, Option.map_none, decide_true, Nat.zero_add, reduceIte, Bool.false_eq_true, true_and, and_true, atI0]
              refine ⟨hs _ hd, _, rfl, hs _ List.mem_cons_self, ?_⟩
              have e : decide ((s.length : Int) = (s0.length : Int)) = decide (s.length = s0.length) := decide_eq_decide.mpr (by omega)
              rw [e]
              exact hk
            · refine ⟨(.str s0 :: xs).map fun d => decide (lenD d = s0.length), by simp [List.map_map, Function.comp_def], ?_⟩
              rw [all_id_map]
              have e : isPicL (.str s0 :: xs) = (PyData.str s0 :: xs).all fun d => decide (lenD d = s0.length) := by
                unfold isPicL
                rw [List.all_eq_true.mpr q, decide_eq_true h1, decide_eq_true h2]
                rfl
              rw [e] at hp'
              exact hp'
      · have e1 : (decide ((1 : Int) ≤ (ds.length : Int)) = true) := decide_eq_true (by omega)
        have e2 : decide ((ds.length : Int) ≤ 8) = false := decide_eq_false (by omega)
        have e : isPicL ds = false := by unfold isPicL; rw [decide_eq_false h2]; simp
        rw [e] at hp'
        simpa [e1, e2] using hp'
    · have e1 : decide ((1 : Int) ≤ (ds.length : Int)) = false := decide_eq_false (by omega)
      have e : isPicL ds = false := by unfold isPicL; rw [decide_eq_false h1]; simp
      rw [e] at hp'
      simpa [e1] using hp'
  | dict _ => exact hs.elim
  | _ => simp only [T_is_picture, sSeq, sFor, ↓sRet, ↓sNil, ↓sIf, ↓sSet, ↓sAsg, ↓sPar, ↓sPar3, ↓sSub, ↓sSub2, ↓sExpr, ↓sExprR, ↓sRetV, ↓sRetN, ↓sRaise, ↓sBrk, ↓sCt, ↓fOf, ↓fFz, ↓fName, ↓fFrz, ↓fC, ↓fBin, ↓fBinN, ↓fT, ↓fNot, ↓fAnd, ↓fOr, ↓fAndV, ↓fOrV, ↓fNotV, ↓fIf, ↓fIfN, ↓fChain, ↓fNil, ↓fCons, ↓fTup, ↓fLst, ↓fNeg, ↓fCall, ↓fIsI, ↓fJoin, ↓fApp, ↓fExt, ↓fPop, ↓fPopAt, ↓fSl, ↓fPart, ↓fNoPart, ↓fSeq, ↓fRng1, ↓fRng2, ↓fEnum, ↓fZip, ↓fGN, ↓fGT, ↓fGcons, ↓fGnil, ↓fLc, ↓fLl, ↓fYes, ↓fOwn, ↓fAt2, ↓fCount, ↓fIndex, ↓fRev, ↓fMulL, ↓fSel, ↓sTry, ↓fIsP, ↓isLk, ↓L3.gSub, ↓gMulI, ↓gDiv, ↓gMod, ↓gPow, ↓gLt, ↓gLe, ↓gGt, ↓gGe, ↓gI, ↓gIC, ↓gAdd, ↓gIx, ↓gSl, ↓gLen, ↓gAll, ↓gAny, ↓gSum, ↓gMin2, ↓gMax2, ↓gList, ↓gTuple, ↓gNe, ↓gNotIn, ↓gIs, ↓gIsNot, ↓isNone, ↓look, ↓withD, ↓isD, ↓isB, ↓areD, ↓withDs, ↓isBor, ↓isLst, ↓isLl, ↓isI, ↓items1, ↓itemsD, ↓argsM, ↓putB, ↓pjs, ↓outsOf, ↓fin, ↓startE, ↓wipeK, ↓wipeE, ↓unw, ↓noOwnB, gEq_ii, gEq_ss, gEq_bb, own_no, own_dat, own_lst, own_ll, List.getD_cons_zero, List.getD_cons_succ, List.set_cons_zero, List.set_cons_succ, List.replicate_succ, List.replicate_zero, List.cons_append, List.nil_append, List.length_cons, List.length_nil, List.map_cons, List.map_nil, List.all_cons, List.all_nil, Nat.reduceAdd, Nat.reduceSub, Bool.not_false, Bool.not_true, Bool.and_true, Bool.and_self, if_true, if_false, reduceCtorEq, List.zipIdx_cons, List.zipIdx_nil, List.filterMap_cons, List.filterMap_nil, Option.map_some, Option.map_none, decide_true, Nat.zero_add, reduceIte, Bool.false_eq_true, true_and, and_true, ins_tuple_none, ins_tuple_bool, ins_tuple_int, ins_tuple_list, ins_tuple_str]; exact hp
def T_need_picture (cs : Cs) : TXS :=
  (sIf (fNot (fT (fFz (fOwn [none] (dsp_is_picture) (fCons (fName 0) fNil))))) (sRaise (.ref cs.NoPicture)) sNil)

def dsp_need_picture (cs : Cs) : DSp := fun es post xp => ∃ d, es = [.dat d] ∧ smallP d ∧ (isPicD d = true → post (.dat .none) []) ∧ (isPicD d = false → xp (.ref cs.NoPicture) [])
theorem good_need_picture (cs : Cs) : Good [] 1 1 (T_need_picture cs) (dsp_need_picture cs) := by
  rintro es post xp ⟨d, rfl, hs, hp, hx⟩ _
  simp only [T_need_picture, sSeq, sFor, ↓sRet, ↓sNil, ↓sIf, ↓sSet, ↓sAsg, ↓sPar, ↓sPar3, ↓sSub, ↓sSub2, ↓sExpr, ↓sExprR, ↓sRetV, ↓sRetN, ↓sRaise, ↓sBrk, ↓sCt, ↓fOf, ↓fFz, ↓fName, ↓fFrz, ↓fC, ↓fBin, ↓fBinN, ↓fT, ↓fNot, ↓fAnd, ↓fOr, ↓fAndV, ↓fOrV, ↓fNotV, ↓fIf, ↓fIfN, ↓fChain, ↓fNil, ↓fCons, ↓fTup, ↓fLst, ↓fNeg, ↓fCall, ↓fIsI, ↓fJoin, ↓fApp, ↓fExt, ↓fPop, ↓fPopAt, ↓fSl, ↓fPart, ↓fNoPart, ↓fSeq, ↓fRng1, ↓fRng2, ↓fEnum, ↓fZip, ↓fGN, ↓fGT, ↓fGcons, ↓fGnil, ↓fLc, ↓fLl, ↓fYes, ↓fOwn, ↓fAt2, ↓fCount, ↓fIndex, ↓fRev, ↓fMulL, ↓fSel, ↓sTry, ↓fIsP, ↓isLk, ↓L3.gSub, ↓gMulI, ↓gDiv, ↓gMod, ↓gPow, ↓gLt, ↓gLe, ↓gGt, ↓gGe, ↓gI, ↓gIC, ↓gAdd, ↓gIx, ↓gSl, ↓gLen, ↓gAll, ↓gAny, ↓gSum, ↓gMin2, ↓gMax2, ↓gList, ↓gTuple, ↓gNe, ↓gNotIn, ↓gIs, ↓gIsNot, ↓isNone, ↓look, ↓withD, ↓isD, ↓isB, ↓areD, ↓withDs, ↓isBor, ↓isLst, ↓isLl, ↓isI, ↓items1, ↓itemsD, ↓argsM, ↓putB, ↓pjs, ↓outsOf, ↓fin, ↓startE, ↓wipeK, ↓wipeE, ↓unw, ↓noOwnB, gEq_ii, gEq_ss, gEq_bb, own_no, own_dat, own_lst, own_ll, List.getD_cons_zero, List.getD_cons_succ, List.set_cons_zero, List.set_cons_succ, List.replicate_succ, List.replicate_zero, List.cons_append, List.nil_append, List.length_cons, List.length_nil, List.map_cons, List.map_nil, List.all_cons, List.all_nil, Nat.reduceAdd, Nat.reduceSub, Bool.not_false, Bool.not_true, Bool.and_true, Bool.and_self, if_true, if_false, reduceCtorEq, List.zipIdx_cons, List.zipIdx_nil, List.filterMap_cons, List.filterMap_nil, Option.map_some, Option.map_none, decide_true, Nat.zero_add, reduceIte, Bool.false_eq_true, true_and, and_true, dsp_is_picture]
  refine ⟨d, rfl, hs, ?_⟩
  cases q : isPicD d with
  | true => simpa using hp q
  | false => simpa using hx q
end My

namespace My
open PySem PySem.Spec PyProof.Rows L2 L3
theorem okD_of {α : Type} [DecidableEq α] [PySem.W.Datum α] (x : α) (h : PySem.W.Datum.depth α ≤ 64 := by decide) : okD (PySem.W.Datum.toD x) = true := by
  unfold okD
  rw [PySem.W.Datum.plain, Bool.true_and]
  exact decide_eq_true (Nat.le_trans (PySem.W.Datum.depth_le x) h)
/-- == of two things of one kind -/
theorem gEq_dat {α : Type} [DecidableEq α] [PySem.W.Datum α] {x y : α} {Q : PyData → Prop} (hQ : Q (.bool (decide (x = y)))) (h : PySem.W.Datum.depth α ≤ 64 := by decide) : gEq (PySem.W.Datum.toD x) (PySem.W.Datum.toD y) Q :=
  gEq_of (okD_of x h) (okD_of y h) (by rw [PySem.W.Datum.eqv]; exact hQ)
theorem gNe_dat {α : Type} [DecidableEq α] [PySem.W.Datum α] {x y : α} {Q : PyData → Prop} (hQ : Q (.bool (!decide (x = y)))) (h : PySem.W.Datum.depth α ≤ 64 := by decide) : gNe (PySem.W.Datum.toD x) (PySem.W.Datum.toD y) Q := gEq_dat (Q := fun r => isB r fun b => Q (.bool (!b))) hQ h
theorem gIn_dat {α : Type} [DecidableEq α] [PySem.W.Datum α] {x : α} {xs : List α} {Q : PyData → Prop} (hQ : Q (.bool (decide (x ∈ xs)))) (h : PySem.W.Datum.depth (List α) ≤ 64 := by decide) : gIn (PySem.W.Datum.toD x) (.list (xs.map PySem.W.Datum.toD)) Q := by
  refine ⟨okD_of x (Nat.le_trans (Nat.le_succ _) h), okD_of xs h, ?_⟩
  rw [PySem.W.any_datum]
  exact hQ
theorem gNotIn_dat {α : Type} [DecidableEq α] [PySem.W.Datum α] {x : α} {xs : List α} {Q : PyData → Prop} (hQ : Q (.bool (!decide (x ∈ xs)))) (h : PySem.W.Datum.depth (List α) ≤ 64 := by decide) : gNotIn (PySem.W.Datum.toD x) (.list (xs.map PySem.W.Datum.toD)) Q := gIn_dat (Q := fun r => isB r fun b => Q (.bool (!b))) hQ h
theorem gEq_same {d : PyData} {Q : PyData → Prop} (h : okD d = true) (hQ : Q (.bool true)) : gEq d d Q := gEq_of h h (by rw [PySem.SeqAt.eqv_refl_plain d (okD_p h)]; exact hQ)
/-! ### draws -/
def T__law_cell_at : TXS :=
  (sSeq (sIf (fT (fBin gLt (fName 1) (fFz (fCall gLen (fCons (fName 0) fNil))))) (sRet (fOf (fBin gIx (fName 0) (fName 1)))) sNil)
  (sSeq (sIf (fT (fBin gEq (fName 0) (fFz (fLst fNil)))) (sRet (fOf (fC (.int 0)))) sNil)
  (sRet (fBinN gAdd (fBin gMulI (fBin gIx (fName 0) (fBin gMod (fName 1) (fFz (fCall gLen (fCons (fName 0) fNil))))) (fC (.int 31))) (fName 1)))))

abbrev scr (ns : List Int) : E := .dat (.list (ns.map PyData.int))
def dsp__law_cell_at : DSp := fun es post _ => ∃ (ns : List Int) (k : Int), es = [scr ns, .dat (.int k)] ∧ 0 ≤ k ∧ ∀ z : Int, post (.dat (.int z)) []
theorem atI_int {xs : List PyData} {k : Int} (h0 : 0 ≤ k) (h1 : k < xs.length) : ∃ x, atI xs k = some x ∧ x ∈ xs := by
  have hk : k.toNat < xs.length := by omega
  refine ⟨xs[k.toNat], ?_, List.getElem_mem _⟩
  have z := atI_nat (xs := xs) (j := k.toNat) (List.getElem?_eq_getElem hk)
  rw [Int.toNat_of_nonneg h0] at z
  exact z
theorem good__law_cell_at : Good [] 2 2 T__law_cell_at dsp__law_cell_at := by
  rintro es post xp ⟨ns, k, rfl, hk, hp⟩ _
  simp only [T__law_cell_at, sSeq, sFor, ↓sRet, ↓sNil, ↓sIf, ↓sSet, ↓sAsg, ↓sPar, ↓sPar3, ↓sSub, ↓sSub2, ↓sExpr, ↓sExprR, ↓sRetV, ↓sRetN, ↓sRaise, ↓sBrk, ↓sCt, ↓fOf, ↓fFz, ↓fName, ↓fFrz, ↓fC, ↓fBin, ↓fBinN, ↓fT, ↓fNot, ↓fAnd, ↓fOr, ↓fAndV, ↓fOrV, ↓fNotV, ↓fIf, ↓fIfN, ↓fChain, ↓fNil, ↓fCons, ↓fTup, ↓fLst, ↓fNeg, ↓fCall, ↓fIsI, ↓fJoin, ↓fApp, ↓fExt, ↓fPop, ↓fPopAt, ↓fSl, ↓fPart, ↓fNoPart, ↓fSeq, ↓fRng1, ↓fRng2, ↓fEnum, ↓fZip, ↓fGN, ↓fGT, ↓fGcons, ↓fGnil, ↓fLc, ↓fLl, ↓fYes, ↓fOwn, ↓fAt2, ↓fCount, ↓fIndex, ↓fRev, ↓fMulL, ↓fSel, ↓sTry, ↓fIsP, ↓isLk, ↓L3.gSub, ↓gMulI, ↓gDiv, ↓gMod, ↓gPow, ↓gLt, ↓gLe, ↓gGt, ↓gGe, ↓gI, ↓gIC, ↓gAdd, ↓gIx, ↓gSl, ↓gLen, ↓gAll, ↓gAny, ↓gSum, ↓gMin2, ↓gMax2, ↓gList, ↓gTuple, ↓gNe, ↓gNotIn, ↓gIs, ↓gIsNot, ↓isNone, ↓look, ↓withD, ↓isD, ↓isB, ↓areD, ↓withDs, ↓isBor, ↓isLst, ↓isLl, ↓isI, ↓items1, ↓itemsD, ↓argsM, ↓putB, ↓pjs, ↓outsOf, ↓fin, ↓startE, ↓wipeK, ↓wipeE, ↓unw, ↓noOwnB, gEq_ii, gEq_ss, gEq_bb, own_no, own_dat, own_lst, own_ll, List.getD_cons_zero, List.getD_cons_succ, List.set_cons_zero, List.set_cons_succ, List.replicate_succ, List.replicate_zero, List.cons_append, List.nil_append, List.length_cons, List.length_nil, List.map_cons, List.map_nil, List.all_cons, List.all_nil, Nat.reduceAdd, Nat.reduceSub, Bool.not_false, Bool.not_true, Bool.and_true, Bool.and_self, if_true, if_false, reduceCtorEq, List.zipIdx_cons, List.zipIdx_nil, List.filterMap_cons, List.filterMap_nil, Option.map_some, Option.map_none, decide_true, Nat.zero_add, reduceIte, Bool.false_eq_true, true_and, and_true, scr, List.length_map]
  by_cases h : k < ns.length
  · rw [decide_eq_true h, if_pos rfl]
    obtain ⟨x, hx, hm⟩ := atI_int (xs := ns.map PyData.int) hk (by rw [List.length_map]; exact h)
    obtain ⟨z, _, rfl⟩ := List.mem_map.mp hm
    exact ⟨_, hx, hp z⟩
  · rw [decide_eq_false h, if_neg Bool.false_ne_true]
    refine gEq_dat (α := List Int) (x := ns) (y := []) ?_
    simp only [↓sRet, ↓sNil, ↓sIf, ↓sSet, ↓sAsg, ↓sPar, ↓sPar3, ↓sSub, ↓sSub2, ↓sExpr, ↓sExprR, ↓sRetV, ↓sRetN, ↓sRaise, ↓sBrk, ↓sCt, ↓fOf, ↓fFz, ↓fName, ↓fFrz, ↓fC, ↓fBin, ↓fBinN, ↓fT, ↓fNot, ↓fAnd, ↓fOr, ↓fAndV, ↓fOrV, ↓fNotV, ↓fIf, ↓fIfN, ↓fChain, ↓fNil, ↓fCons, ↓fTup, ↓fLst, ↓fNeg, ↓fCall, ↓fIsI, ↓fJoin, ↓fApp, ↓fExt, ↓fPop, ↓fPopAt, ↓fSl, ↓fPart, ↓fNoPart, ↓fSeq, ↓fRng1, ↓fRng2, ↓fEnum, ↓fZip, ↓fGN, ↓fGT, ↓fGcons, ↓fGnil, ↓fLc, ↓fLl, ↓fYes, ↓fOwn, ↓fAt2, ↓fCount, ↓fIndex, ↓fRev, ↓fMulL, ↓fSel, ↓sTry, ↓fIsP, ↓isLk, ↓L3.gSub, ↓gMulI, ↓gDiv, ↓gMod, ↓gPow, ↓gLt, ↓gLe, ↓gGt, ↓gGe, ↓gI, ↓gIC, ↓gAdd, ↓gIx, ↓gSl, ↓gLen, ↓gAll, ↓gAny, ↓gSum, ↓gMin2, ↓gMax2, ↓gList, ↓gTuple, ↓gNe, ↓gNotIn, ↓gIs, ↓gIsNot, ↓isNone, ↓look, ↓withD, ↓isD, ↓isB, ↓areD, ↓withDs, ↓isBor, ↓isLst, ↓isLl, ↓isI, ↓items1, ↓itemsD, ↓argsM, ↓putB, ↓pjs, ↓outsOf, ↓fin, ↓startE, ↓wipeK, ↓wipeE, ↓unw, ↓noOwnB, gEq_ii, gEq_ss, gEq_bb, own_no, own_dat, own_lst, own_ll, List.getD_cons_zero, List.getD_cons_succ, List.set_cons_zero, List.set_cons_succ, List.replicate_succ, List.replicate_zero, List.cons_append, List.nil_append, List.length_cons, List.length_nil, List.map_cons, List.map_nil, List.all_cons, List.all_nil, Nat.reduceAdd, Nat.reduceSub, Bool.not_false, Bool.not_true, Bool.and_true, Bool.and_self, if_true, if_false, reduceCtorEq, List.zipIdx_cons, List.zipIdx_nil, List.filterMap_cons, List.filterMap_nil, Option.map_some, Option.map_none, decide_true, Nat.zero_add, reduceIte, Bool.false_eq_true, true_and, and_true]
    by_cases h2 : ns = []
    · rw [decide_eq_true h2, if_pos rfl]; exact hp 0
    · rw [decide_eq_false h2, if_neg Bool.false_ne_true]
      have hl : 0 < ns.length := List.length_pos_iff.mpr h2
      have a1 : 0 ≤ k % (ns.length : Int) := Int.emod_nonneg _ (by omega)
      have a2 : k % (ns.length : Int) < ns.length := Int.emod_lt_of_pos _ (by omega)
      obtain ⟨x, hx, hm⟩ := atI_int (xs := ns.map PyData.int) a1 (by rw [List.length_map]; exact a2)
      obtain ⟨z, _, rfl⟩ := List.mem_map.mp hm
      refine ⟨by omega, _, hx, ?_, hp _⟩
      exact .inr ⟨by decide, by decide⟩
def T__law_mixed : TXS :=
  (sSeq (sSet 3 (fOf (fBin gMod (fFz (fBinN gAdd (fFz (fBinN gAdd (fBin gMulI (fFz (fOwn [none, none] (dsp__law_cell_at) (fCons (fName 0) (fCons (fName 1) fNil)))) (fC (.int 1103515245))) (fBin gMulI (fC (.int 7919)) (fName 1)))) (fC (.int 12345)))) (fC (.int 2147483647)))))
  (sRet (fOf (fBin gMod (fBin gMod (fBin gMod (fBin gPow (fName 3) (fC (.int 5))) (fC (.int 2147483647))) (fC (.int 999983))) (fName 2)))))

def dsp__law_mixed : DSp := fun es post _ => ∃ (ns : List Int) (k many : Int), es = [scr ns, .dat (.int k), .dat (.int many)] ∧ 0 ≤ k ∧ 0 < many ∧ ∀ z : Int, 0 ≤ z → z < many → post (.dat (.int z)) []
theorem good__law_mixed : Good [] 4 3 T__law_mixed dsp__law_mixed := by
  rintro es post xp ⟨ns, k, many, rfl, hk, hm, hp⟩ _
  simp only [T__law_mixed, sSeq, sFor, ↓sRet, ↓sNil, ↓sIf, ↓sSet, ↓sAsg, ↓sPar, ↓sPar3, ↓sSub, ↓sSub2, ↓sExpr, ↓sExprR, ↓sRetV, ↓sRetN, ↓sRaise, ↓sBrk, ↓sCt, ↓fOf, ↓fFz, ↓fName, ↓fFrz, ↓fC, ↓fBin, ↓fBinN, ↓fT, ↓fNot, ↓fAnd, ↓fOr, ↓fAndV, ↓fOrV, ↓fNotV, ↓fIf, ↓fIfN, ↓fChain, ↓fNil, ↓fCons, ↓fTup, ↓fLst, ↓fNeg, ↓fCall, ↓fIsI, ↓fJoin, ↓fApp, ↓fExt, ↓fPop, ↓fPopAt, ↓fSl, ↓fPart, ↓fNoPart, ↓fSeq, ↓fRng1, ↓fRng2, ↓fEnum, ↓fZip, ↓fGN, ↓fGT, ↓fGcons, ↓fGnil, ↓fLc, ↓fLl, ↓fYes, ↓fOwn, ↓fAt2, ↓fCount, ↓fIndex, ↓fRev, ↓fMulL, ↓fSel, ↓sTry, ↓fIsP, ↓isLk, ↓L3.gSub, ↓gMulI, ↓gDiv, ↓gMod, ↓gPow, ↓gLt, ↓gLe, ↓gGt, ↓gGe, ↓gI, ↓gIC, ↓gAdd, ↓gIx, ↓gSl, ↓gLen, ↓gAll, ↓gAny, ↓gSum, ↓gMin2, ↓gMax2, ↓gList, ↓gTuple, ↓gNe, ↓gNotIn, ↓gIs, ↓gIsNot, ↓isNone, ↓look, ↓withD, ↓isD, ↓isB, ↓areD, ↓withDs, ↓isBor, ↓isLst, ↓isLl, ↓isI, ↓items1, ↓itemsD, ↓argsM, ↓putB, ↓pjs, ↓outsOf, ↓fin, ↓startE, ↓wipeK, ↓wipeE, ↓unw, ↓noOwnB, gEq_ii, gEq_ss, gEq_bb, own_no, own_dat, own_lst, own_ll, List.getD_cons_zero, List.getD_cons_succ, List.set_cons_zero, List.set_cons_succ, List.replicate_succ, List.replicate_zero, List.cons_append, List.nil_append, List.length_cons, List.length_nil, List.map_cons, List.map_nil, List.all_cons, List.all_nil, Nat.reduceAdd, Nat.reduceSub, Bool.not_false, Bool.not_true, Bool.and_true, Bool.and_self, if_true, if_false, reduceCtorEq, List.zipIdx_cons, List.zipIdx_nil, List.filterMap_cons, List.filterMap_nil, Option.map_some, Option.map_none, decide_true, Nat.zero_add, reduceIte, Bool.false_eq_true, true_and, and_true, scr, dsp__law_cell_at]
  refine ⟨ns, k, rfl, hk, fun z => ?_⟩
  refine ⟨.inr ⟨by decide, by decide⟩, .inl ⟨by decide, by decide⟩, by decide, ?_⟩
  generalize z * 1103515245 + 7919 * k + 12345 = y
  have a1 : 0 ≤ y % 2147483647 := Int.emod_nonneg _ (by decide)
  have a2 : y % 2147483647 < 2147483647 := Int.emod_lt_of_pos _ (by decide)
  refine ⟨⟨by decide, by decide, by omega⟩, by decide, by decide, hm, ?_⟩
  exact hp _ (Int.emod_nonneg _ (by omega)) (Int.emod_lt_of_pos _ hm)
def T__law_draw : TXS :=
  (sSeq (sExprR (fApp (fName 1) (fC (.int 0))))
  (sRet (fOwn [none, none, none] (dsp__law_mixed) (fCons (fName 0) (fCons (fFz (fCall gLen (fCons (fName 1) fNil))) (fCons (fName 2) fNil))))))

/-- a draw: any number below many; the town grows by one -/
def dsp__law_draw : DSp := fun es post _ => ∃ (ns : List Int) (tw : List PyData) (many : Int), es = [scr ns, .lst tw, .dat (.int many)] ∧ tw.length < sizeLine ∧ 0 < many ∧ ∀ z : Int, 0 ≤ z → z < many → post (.dat (.int z)) [.lst (tw ++ [.int 0])]
theorem good__law_draw : Good [1] 3 3 T__law_draw dsp__law_draw := by
  rintro es post xp ⟨ns, tw, many, rfl, ht, hm, hp⟩ _
  simp only [T__law_draw, sSeq, sFor, ↓sRet, ↓sNil, ↓sIf, ↓sSet, ↓sAsg, ↓sPar, ↓sPar3, ↓sSub, ↓sSub2, ↓sExpr, ↓sExprR, ↓sRetV, ↓sRetN, ↓sRaise, ↓sBrk, ↓sCt, ↓fOf, ↓fFz, ↓fName, ↓fFrz, ↓fC, ↓fBin, ↓fBinN, ↓fT, ↓fNot, ↓fAnd, ↓fOr, ↓fAndV, ↓fOrV, ↓fNotV, ↓fIf, ↓fIfN, ↓fChain, ↓fNil, ↓fCons, ↓fTup, ↓fLst, ↓fNeg, ↓fCall, ↓fIsI, ↓fJoin, ↓fApp, ↓fExt, ↓fPop, ↓fPopAt, ↓fSl, ↓fPart, ↓fNoPart, ↓fSeq, ↓fRng1, ↓fRng2, ↓fEnum, ↓fZip, ↓fGN, ↓fGT, ↓fGcons, ↓fGnil, ↓fLc, ↓fLl, ↓fYes, ↓fOwn, ↓fAt2, ↓fCount, ↓fIndex, ↓fRev, ↓fMulL, ↓fSel, ↓sTry, ↓fIsP, ↓isLk, ↓L3.gSub, ↓gMulI, ↓gDiv, ↓gMod, ↓gPow, ↓gLt, ↓gLe, ↓gGt, ↓gGe, ↓gI, ↓gIC, ↓gAdd, ↓gIx, ↓gSl, ↓gLen, ↓gAll, ↓gAny, ↓gSum, ↓gMin2, ↓gMax2, ↓gList, ↓gTuple, ↓gNe, ↓gNotIn, ↓gIs, ↓gIsNot, ↓isNone, ↓look, ↓withD, ↓isD, ↓isB, ↓areD, ↓withDs, ↓isBor, ↓isLst, ↓isLl, ↓isI, ↓items1, ↓itemsD, ↓argsM, ↓putB, ↓pjs, ↓outsOf, ↓fin, ↓startE, ↓wipeK, ↓wipeE, ↓unw, ↓noOwnB, gEq_ii, gEq_ss, gEq_bb, own_no, own_dat, own_lst, own_ll, List.getD_cons_zero, List.getD_cons_succ, List.set_cons_zero, List.set_cons_succ, List.replicate_succ, List.replicate_zero, List.cons_append, List.nil_append, List.length_cons, List.length_nil, List.map_cons, List.map_nil, List.all_cons, List.all_nil, Nat.reduceAdd, Nat.reduceSub, Bool.not_false, Bool.not_true, Bool.and_true, Bool.and_self, if_true, if_false, reduceCtorEq, List.zipIdx_cons, List.zipIdx_nil, List.filterMap_cons, List.filterMap_nil, Option.map_some, Option.map_none, decide_true, Nat.zero_add, reduceIte, Bool.false_eq_true, true_and, and_true, scr, dsp__law_mixed]
  exact ⟨ht, ns, _, many, rfl, by omega, hm, hp⟩
def T__law_pick : TXS :=
  (sRet (fOf (fBin gIx (fName 2) (fFz (fOwn [none, some 1, none] (dsp__law_draw) (fCons (fName 0) (fCons (fName 1) (fCons (fFz (fCall gLen (fCons (fName 2) fNil))) fNil))))))))

def dsp__law_pick : DSp := fun es post _ => ∃ (ns : List Int) (tw : List PyData) (some : List PyData), (es = [scr ns, .lst tw, .dat (.list some)] ∨ es = [scr ns, .lst tw, .dat (.tuple some)]) ∧ tw.length < sizeLine ∧ some ≠ [] ∧ ∀ z ∈ some, post (.dat z) [.lst (tw ++ [.int 0])]
theorem good__law_pick : Good [1] 3 3 T__law_pick dsp__law_pick := by
  rintro es post xp ⟨ns, tw, ds, he, ht, hn, hp⟩ _
  have hl : 0 < ds.length := List.length_pos_iff.mpr hn
  rcases he with rfl | rfl
  all_goals
    simp only [T__law_pick, sSeq, sFor, ↓sRet, ↓sNil, ↓sIf, ↓sSet, ↓sAsg, ↓sPar, ↓sPar3, ↓sSub, ↓sSub2, ↓sExpr, ↓sExprR, ↓sRetV, ↓sRetN, ↓sRaise, ↓sBrk, ↓sCt, ↓fOf, ↓fFz, ↓fName, ↓fFrz, ↓fC, ↓fBin, ↓fBinN, ↓fT, ↓fNot, ↓fAnd, ↓fOr, ↓fAndV, ↓fOrV, ↓fNotV, ↓fIf, ↓fIfN, ↓fChain, ↓fNil, ↓fCons, ↓fTup, ↓fLst, ↓fNeg, ↓fCall, ↓fIsI, ↓fJoin, ↓fApp, ↓fExt, ↓fPop, ↓fPopAt, ↓fSl, ↓fPart, ↓fNoPart, ↓fSeq, ↓fRng1, ↓fRng2, ↓fEnum, ↓fZip, ↓fGN, ↓fGT, ↓fGcons, ↓fGnil, ↓fLc, ↓fLl, ↓fYes, ↓fOwn, ↓fAt2, ↓fCount, ↓fIndex, ↓fRev, ↓fMulL, ↓fSel, ↓sTry, ↓fIsP, ↓isLk, ↓L3.gSub, ↓gMulI, ↓gDiv, ↓gMod, ↓gPow, ↓gLt, ↓gLe, ↓gGt, ↓gGe, ↓gI, ↓gIC, ↓gAdd, ↓gIx, ↓gSl, ↓gLen, ↓gAll, ↓gAny, ↓gSum, ↓gMin2, ↓gMax2, ↓gList, ↓gTuple, ↓gNe, ↓gNotIn, ↓gIs, ↓gIsNot, ↓isNone, ↓look, ↓withD, ↓isD, ↓isB, ↓areD, ↓withDs, ↓isBor, ↓isLst, ↓isLl, ↓isI, ↓items1, ↓itemsD, ↓argsM, ↓putB, ↓pjs, ↓outsOf, ↓fin, ↓startE, ↓wipeK, ↓wipeE, ↓unw, ↓noOwnB, gEq_ii, gEq_ss, gEq_bb, own_no, own_dat, own_lst, own_ll, List.getD_cons_zero, List.getD_cons_succ, List.set_cons_zero, List.set_cons_succ, List.replicate_succ, List.replicate_zero, List.cons_append, List.nil_append, List.length_cons, List.length_nil, List.map_cons, List.map_nil, List.all_cons, List.all_nil, Nat.reduceAdd, Nat.reduceSub, Bool.not_false, Bool.not_true, Bool.and_true, Bool.and_self, if_true, if_false, reduceCtorEq, List.zipIdx_cons, List.zipIdx_nil, List.filterMap_cons, List.filterMap_nil, Option.map_some, Option.map_none, decide_true, Nat.zero_add, reduceIte, Bool.false_eq_true, true_and, and_true, scr, dsp__law_draw]
    refine ⟨ns, tw, _, rfl, ht, by omega, fun z h0 h1 => ?_⟩
    obtain ⟨x, hx, hm⟩ := atI_int h0 h1
    exact ⟨x, hx, hp x hm⟩
end My

namespace My
open PySem PySem.Spec PyProof.Rows L2 L3
/-! ### pictures -/
def sg : Bool → Nat
  | true => 35
  | false => 46
def lineS (r : List Bool) : Str := ⟨(r.map sg).toArray⟩
def encL (r : List Bool) : PyData := .str (lineS r)
def encP (p : List (List Bool)) : PyData := .tuple (p.map encL)
structure Wf (h w : Nat) (p : List (List Bool)) : Prop where
  h1 : 1 ≤ h
  h8 : h ≤ 8
  w1 : 1 ≤ w
  w8 : w ≤ 8
  len : p.length = h
  row : ∀ r ∈ p, r.length = w
/-- one sign -/
def chS (b : Bool) : Str := ⟨#[sg b]⟩
def chD (b : Bool) : PyData := .str (chS b)
theorem lineS_len (r : List Bool) : (lineS r).length = r.length := by
  unfold lineS Str.length
  simp
theorem lineS_cps (r : List Bool) : (lineS r).cps.toList = r.map sg := rfl
theorem hash_chS : Str.ofString "#" = chS true := by decide
theorem dot_chS : Str.ofString "." = chS false := by decide
theorem join_signs : ∀ r : List Bool, Txt.join (Str.ofString "") (r.map chS) = lineS r := by
  intro r
  show Builtin.Str.glued (Str.ofString "") (r.map chS) = _
  rw [StrLaws.glued_eq_join]
  have e0 : Str.ofString "" = ⟨#[]⟩ := by decide
  have e1 : r.map chS = (r.map sg).map fun k => (⟨#[k]⟩ : Str) := by rw [List.map_map]; rfl
  rw [e0, e1]
  exact join_ones _
theorem chS_len (b : Bool) : (chS b).length = 1 := rfl
theorem chS_sum : ∀ r : List Bool, ((r.map chS).map (·.length)).sum = r.length
  | [] => rfl
  | b :: r => by
    rw [List.map_cons, List.map_cons, List.sum_cons, chS_sum r, chS_len, List.length_cons, Nat.add_comm]
def T__law_picture : TXS :=
  (sSeq (sAsg (fTup (fCons (fFz (fBinN gAdd (fC (.int 1)) (fFz (fOwn [none, some 1, none] (dsp__law_draw) (fCons (fName 0) (fCons (fName 1) (fCons (fName 2) fNil))))))) (fCons (fFz (fBinN gAdd (fC (.int 1)) (fFz (fOwn [none, some 1, none] (dsp__law_draw) (fCons (fName 0) (fCons (fName 1) (fCons (fName 3) fNil))))))) fNil))) (fGT 2 (fGcons (fGN 4) (fGcons (fGN 5) fGnil))))
  (sSeq (sSet 6 (fOf (fFz (fOwn [none, some 1, none] (dsp__law_pick) (fCons (fName 0) (fCons (fName 1) (fCons (fFz (fLst (fCons (fC (.int 1)) (fCons (fC (.int 3)) (fCons (fC (.int 5)) (fCons (fC (.int 7)) (fCons (fC (.int 9)) fNil))))))) fNil)))))))
  (sSeq (sSet 7 (fLl (fRng1 (fCons (fName 4) fNil)) (fGN 8) fYes (fLc (fRng1 (fCons (fName 5) fNil)) (fGN 9) fYes (fIf (fT (fBin gLt (fFz (fOwn [none, some 1, none] (dsp__law_draw) (fCons (fName 0) (fCons (fName 1) (fCons (fC (.int 10)) fNil))))) (fName 6))) (fC (.str "#")) (fC (.str "."))) [9]) [8]))
  (sSeq (sIf (fT (fBin gEq (fFz (fOwn [none, some 1, none] (dsp__law_draw) (fCons (fName 0) (fCons (fName 1) (fCons (fC (.int 3)) fNil))))) (fC (.int 0)))) (sSeq (sSet 10 (fOf (fFz (fOwn [none, some 1, none] (dsp__law_pick) (fCons (fName 0) (fCons (fName 1) (fCons (fFz (fLst (fCons (fC (.str "#")) (fCons (fC (.str "#")) (fCons (fC (.str ".")) fNil))))) fNil)))))))
  (sSeq (sPar 11 12 (fCons (fFz (fOwn [none, some 1, none] (dsp__law_draw) (fCons (fName 0) (fCons (fName 1) (fCons (fName 4) fNil))))) (fCons (fFz (fOwn [none, some 1, none] (dsp__law_draw) (fCons (fName 0) (fCons (fName 1) (fCons (fName 5) fNil))))) fNil)))
  (sFor (fRng2 (fCons (fName 11) (fCons (fFz (fCall gMin2 (fCons (fName 4) (fCons (fFz (fBinN gAdd (fFz (fBinN gAdd (fName 11) (fC (.int 1)))) (fFz (fOwn [none, some 1, none] (dsp__law_draw) (fCons (fName 0) (fCons (fName 1) (fCons (fC (.int 5)) fNil))))))) fNil)))) fNil))) (fGN 8) (sFor (fRng2 (fCons (fName 12) (fCons (fFz (fCall gMin2 (fCons (fName 5) (fCons (fFz (fBinN gAdd (fName 12) (fC (.int 3)))) fNil)))) fNil))) (fGN 13) (sSub2 (fName 10) 7 8 13))))) sNil)
  (sRet (fCall gTuple (fCons (fFz (fLc (fSeq (fFrz 7)) (fGN 8) fYes (fJoin (fC (.str "")) (fName 8)) [8])) fNil)))))))

def dsp__law_picture : DSp := fun es post _ => ∃ (ns : List Int) (tw : List PyData) (high wide : Nat), es = [scr ns, .lst tw, .dat (.int high), .dat (.int wide)] ∧ tw.length + 100 < sizeLine ∧ 1 ≤ high ∧ high ≤ 8 ∧ 1 ≤ wide ∧ wide ≤ 8 ∧
  ∀ (p : List (List Bool)) (h w : Nat) (tw' : List PyData), Wf h w p → h ≤ high → w ≤ wide → tw'.length ≤ tw.length + 100 → post (.dat (encP p)) [.lst tw']
def encR (r : List Bool) : List PyData := r.map chD
/-- the last line of a picture that is drawn -/
theorem pic_end {h w : Nat} {rows : List (List Bool)} (W : Wf h w rows) {a0 a1 a2 a3 a4 a5 a6 a8 a9 a10 a11 a12 a13 : E} (ha : a8.own = false) {Q : E → List E → Prop} {Ex : XC}
    (hq : ∀ ρ, ρ.getD 1 .no = a1 → Q (.dat (encP rows)) ρ) :
    (fCall gTuple (fCons (fFz (fLc (fSeq (fFrz 7)) (fGN 8) fYes (fJoin (fC (.str "")) (fName 8)) [8])) fNil)) [a0, a1, a2, a3, a4, a5, a6, .ll (rows.map encR), a8, a9, a10, a11, a12, a13] Q Ex := by
  simp only [sFor, ↓sRet, ↓sNil, ↓sIf, ↓sSet, ↓sAsg, ↓sPar, ↓sPar3, ↓sSub, ↓sSub2, ↓sExpr, ↓sExprR, ↓sRetV, ↓sRetN, ↓sRaise, ↓sBrk, ↓sCt, ↓fOf, ↓fFz, ↓fName, ↓fFrz, ↓fC, ↓fBin, ↓fBinN, ↓fT, ↓fNot, ↓fAnd, ↓fOr, ↓fAndV, ↓fOrV, ↓fNotV, ↓fIf, ↓fIfN, ↓fChain, ↓fNil, ↓fCons, ↓fTup, ↓fLst, ↓fNeg, ↓fCall, ↓fIsI, ↓fJoin, ↓fApp, ↓fExt, ↓fPop, ↓fPopAt, ↓fSl, ↓fPart, ↓fNoPart, ↓fSeq, ↓fRng1, ↓fRng2, ↓fEnum, ↓fZip, ↓fGN, ↓fGT, ↓fGcons, ↓fGnil, ↓fLc, ↓fLl, ↓fYes, ↓fOwn, ↓fAt2, ↓fCount, ↓fIndex, ↓fRev, ↓fMulL, ↓fSel, ↓sTry, ↓fIsP, ↓isLk, ↓L3.gSub, ↓gMulI, ↓gDiv, ↓gMod, ↓gPow, ↓gLt, ↓gLe, ↓gGt, ↓gGe, ↓gI, ↓gIC, ↓gAdd, ↓gIx, ↓gSl, ↓gLen, ↓gAll, ↓gAny, ↓gSum, ↓gMin2, ↓gMax2, ↓gList, ↓gTuple, ↓gNe, ↓gNotIn, ↓gIs, ↓gIsNot, ↓isNone, ↓look, ↓withD, ↓isD, ↓isB, ↓areD, ↓withDs, ↓isBor, ↓isLst, ↓isLl, ↓isI, ↓items1, ↓itemsD, ↓argsM, ↓putB, ↓pjs, ↓outsOf, ↓fin, ↓startE, ↓wipeK, ↓wipeE, ↓unw, ↓noOwnB, gEq_ii, gEq_ss, gEq_bb, own_no, own_dat, own_lst, own_ll, List.getD_cons_zero, List.getD_cons_succ, List.set_cons_zero, List.set_cons_succ, List.replicate_succ, List.replicate_zero, List.cons_append, List.nil_append, List.length_cons, List.length_nil, List.map_cons, List.map_nil, List.all_cons, List.all_nil, Nat.reduceAdd, Nat.reduceSub, Bool.not_false, Bool.not_true, Bool.and_true, Bool.and_self, if_true, if_false, reduceCtorEq, List.zipIdx_cons, List.zipIdx_nil, List.filterMap_cons, List.filterMap_nil, Option.map_some, Option.map_none, decide_true, Nat.zero_add, reduceIte, Bool.false_eq_true, true_and, and_true, ha]
  have l8 : (rows.map encR).length < sizeLine := by
    rw [List.length_map, W.len]; exact Nat.lt_of_le_of_lt W.h8 line8
  refine ⟨by rw [List.length_map]; exact l8, ?_⟩
  rw [List.map_map]
  refine lcR_enc1 (fun r => PyData.list (encR r)) encL (fun r hr k hk => ?_) ?_
  · simp only [lcStep, ↓sRet, ↓sNil, ↓sIf, ↓sSet, ↓sAsg, ↓sPar, ↓sPar3, ↓sSub, ↓sSub2, ↓sExpr, ↓sExprR, ↓sRetV, ↓sRetN, ↓sRaise, ↓sBrk, ↓sCt, ↓fOf, ↓fFz, ↓fName, ↓fFrz, ↓fC, ↓fBin, ↓fBinN, ↓fT, ↓fNot, ↓fAnd, ↓fOr, ↓fAndV, ↓fOrV, ↓fNotV, ↓fIf, ↓fIfN, ↓fChain, ↓fNil, ↓fCons, ↓fTup, ↓fLst, ↓fNeg, ↓fCall, ↓fIsI, ↓fJoin, ↓fApp, ↓fExt, ↓fPop, ↓fPopAt, ↓fSl, ↓fPart, ↓fNoPart, ↓fSeq, ↓fRng1, ↓fRng2, ↓fEnum, ↓fZip, ↓fGN, ↓fGT, ↓fGcons, ↓fGnil, ↓fLc, ↓fLl, ↓fYes, ↓fOwn, ↓fAt2, ↓fCount, ↓fIndex, ↓fRev, ↓fMulL, ↓fSel, ↓sTry, ↓fIsP, ↓isLk, ↓L3.gSub, ↓gMulI, ↓gDiv, ↓gMod, ↓gPow, ↓gLt, ↓gLe, ↓gGt, ↓gGe, ↓gI, ↓gIC, ↓gAdd, ↓gIx, ↓gSl, ↓gLen, ↓gAll, ↓gAny, ↓gSum, ↓gMin2, ↓gMax2, ↓gList, ↓gTuple, ↓gNe, ↓gNotIn, ↓gIs, ↓gIsNot, ↓isNone, ↓look, ↓withD, ↓isD, ↓isB, ↓areD, ↓withDs, ↓isBor, ↓isLst, ↓isLl, ↓isI, ↓items1, ↓itemsD, ↓argsM, ↓putB, ↓pjs, ↓outsOf, ↓fin, ↓startE, ↓wipeK, ↓wipeE, ↓unw, ↓noOwnB, gEq_ii, gEq_ss, gEq_bb, own_no, own_dat, own_lst, own_ll, List.getD_cons_zero, List.getD_cons_succ, List.set_cons_zero, List.set_cons_succ, List.replicate_succ, List.replicate_zero, List.cons_append, List.nil_append, List.length_cons, List.length_nil, List.map_cons, List.map_nil, List.all_cons, List.all_nil, Nat.reduceAdd, Nat.reduceSub, Bool.not_false, Bool.not_true, Bool.and_true, Bool.and_self, if_true, if_false, reduceCtorEq, List.zipIdx_cons, List.zipIdx_nil, List.filterMap_cons, List.filterMap_nil, Option.map_some, Option.map_none, decide_true, Nat.zero_add, reduceIte, Bool.false_eq_true, true_and, and_true]
    refine ⟨r.map chS, by unfold encR chD; rw [List.map_map]; rfl, ?_, ?_⟩
    · rw [chS_sum, List.length_map, W.row r hr]
      have := W.w8
      have e : (Str.ofString "").length = 0 := by decide
      rw [e]; omega
    · rw [join_signs]; exact hk
  · simp only [List.nil_append]
    exact hq _ rfl
/-- a picture that is drawn -/
def rowsOk (h w : Nat) (rows : List (List Bool)) : Prop := rows.length = h ∧ ∀ r ∈ rows, r.length = w
theorem rows_set {h w m c : Nat} {rows : List (List Bool)} (R : rowsOk h w rows) (b : Bool) : rowsOk h w (rows.set m ((rows.getD m []).set c b)) := by
  refine ⟨by rw [List.length_set]; exact R.1, fun r hr => ?_⟩
  rcases List.mem_or_eq_of_mem_set hr with hr | rfl
  · exact R.2 r hr
  · by_cases hm : m < rows.length
    · rw [List.length_set, List.getD_eq_getElem?_getD, List.getElem?_eq_getElem hm]
      exact R.2 _ (List.getElem_mem _)
    · rw [List.set_eq_of_length_le (by omega)] at hr
      exact R.2 _ hr
theorem rangeD_get {lo : Int} {n i : Nat} {d : PyData} (h : (rangeD lo n)[i]? = some d) : i < n ∧ d = .int (lo + (i : Nat)) := by
  unfold rangeD at h
  rw [List.getElem?_map] at h
  by_cases hi : i < n
  · rw [List.getElem?_range hi] at h
    exact ⟨hi, (Option.some.inj h).symm⟩
  · rw [List.getElem?_eq_none (by rw [List.length_range]; omega)] at h
    cases h
theorem rangeD_len {lo : Int} {n : Nat} : (rangeD lo n).length = n := by unfold rangeD; rw [List.length_map, List.length_range]
theorem b62 {i : Int} (h0 : -1000000000 ≤ i) (h1 : i ≤ 1000000000) : B62 i := by
  have e : (2 : Int) ^ 62 = 4611686018427387904 := by decide
  unfold B62
  rw [e]
  omega
theorem ixN_int {n : Nat} {i : Int} (h0 : 0 ≤ i) (h1 : i < n) : ixN n i = some i.toNat := by
  unfold ixN
  rw [if_pos h0, if_pos h1]
theorem small {n : Nat} (h : n ≤ 100000) : n < sizeLine := Nat.lt_of_le_of_lt h (by decide)
theorem good__law_picture : Good [1] 14 4 T__law_picture dsp__law_picture := by
  rintro es post xp ⟨ns, tw, high, wide, rfl, ht, a1, a2, b1, b2, hp⟩ _
  unfold T__law_picture
  refine sSeq_g fun N hN => ?_
  simp only [sFor, ↓sRet, ↓sNil, ↓sIf, ↓sSet, ↓sAsg, ↓sPar, ↓sPar3, ↓sSub, ↓sSub2, ↓sExpr, ↓sExprR, ↓sRetV, ↓sRetN, ↓sRaise, ↓sBrk, ↓sCt, ↓fOf, ↓fFz, ↓fName, ↓fFrz, ↓fC, ↓fBin, ↓fBinN, ↓fT, ↓fNot, ↓fAnd, ↓fOr, ↓fAndV, ↓fOrV, ↓fNotV, ↓fIf, ↓fIfN, ↓fChain, ↓fNil, ↓fCons, ↓fTup, ↓fLst, ↓fNeg, ↓fCall, ↓fIsI, ↓fJoin, ↓fApp, ↓fExt, ↓fPop, ↓fPopAt, ↓fSl, ↓fPart, ↓fNoPart, ↓fSeq, ↓fRng1, ↓fRng2, ↓fEnum, ↓fZip, ↓fGN, ↓fGT, ↓fGcons, ↓fGnil, ↓fLc, ↓fLl, ↓fYes, ↓fOwn, ↓fAt2, ↓fCount, ↓fIndex, ↓fRev, ↓fMulL, ↓fSel, ↓sTry, ↓fIsP, ↓isLk, ↓L3.gSub, ↓gMulI, ↓gDiv, ↓gMod, ↓gPow, ↓gLt, ↓gLe, ↓gGt, ↓gGe, ↓gI, ↓gIC, ↓gAdd, ↓gIx, ↓gSl, ↓gLen, ↓gAll, ↓gAny, ↓gSum, ↓gMin2, ↓gMax2, ↓gList, ↓gTuple, ↓gNe, ↓gNotIn, ↓gIs, ↓gIsNot, ↓isNone, ↓look, ↓withD, ↓isD, ↓isB, ↓areD, ↓withDs, ↓isBor, ↓isLst, ↓isLl, ↓isI, ↓items1, ↓itemsD, ↓argsM, ↓putB, ↓pjs, ↓outsOf, ↓fin, ↓startE, ↓wipeK, ↓wipeE, ↓unw, ↓noOwnB, gEq_ii, gEq_ss, gEq_bb, own_no, own_dat, own_lst, own_ll, List.getD_cons_zero, List.getD_cons_succ, List.set_cons_zero, List.set_cons_succ, List.replicate_succ, List.replicate_zero, List.cons_append, List.nil_append, List.length_cons, List.length_nil, List.map_cons, List.map_nil, List.all_cons, List.all_nil, Nat.reduceAdd, Nat.reduceSub, Bool.not_false, Bool.not_true, Bool.and_true, Bool.and_self, if_true, if_false, reduceCtorEq, List.zipIdx_cons, List.zipIdx_nil, List.filterMap_cons, List.filterMap_nil, Option.map_some, Option.map_none, decide_true, Nat.zero_add, reduceIte, Bool.false_eq_true, true_and, and_true, scr, dsp__law_draw]
  refine ⟨ns, tw, _, rfl, by omega, by omega, fun z1 z1a z1b => ⟨ns, _, _, rfl, by simp; omega, by omega, fun z2 z2a z2b => hN _ ?_⟩⟩
  clear hN N
  obtain ⟨h, eh⟩ : ∃ h : Nat, 1 + z1 = (h : Int) := ⟨(1 + z1).toNat, by omega⟩
  obtain ⟨w, ew⟩ : ∃ w : Nat, 1 + z2 = (w : Int) := ⟨(1 + z2).toNat, by omega⟩
  rw [eh, ew]
  have hl1 : (tw ++ [PyData.int 0] ++ [PyData.int 0]).length = tw.length + 2 := by simp
  generalize tw ++ [PyData.int 0] ++ [PyData.int 0] = tw1 at hl1 ⊢
  have g1 : 1 ≤ h ∧ h ≤ high ∧ 1 ≤ w ∧ w ≤ wide := by omega
  -- the share
  refine sSeq_g fun N hN => ?_
  simp only [sFor, ↓sRet, ↓sNil, ↓sIf, ↓sSet, ↓sAsg, ↓sPar, ↓sPar3, ↓sSub, ↓sSub2, ↓sExpr, ↓sExprR, ↓sRetV, ↓sRetN, ↓sRaise, ↓sBrk, ↓sCt, ↓fOf, ↓fFz, ↓fName, ↓fFrz, ↓fC, ↓fBin, ↓fBinN, ↓fT, ↓fNot, ↓fAnd, ↓fOr, ↓fAndV, ↓fOrV, ↓fNotV, ↓fIf, ↓fIfN, ↓fChain, ↓fNil, ↓fCons, ↓fTup, ↓fLst, ↓fNeg, ↓fCall, ↓fIsI, ↓fJoin, ↓fApp, ↓fExt, ↓fPop, ↓fPopAt, ↓fSl, ↓fPart, ↓fNoPart, ↓fSeq, ↓fRng1, ↓fRng2, ↓fEnum, ↓fZip, ↓fGN, ↓fGT, ↓fGcons, ↓fGnil, ↓fLc, ↓fLl, ↓fYes, ↓fOwn, ↓fAt2, ↓fCount, ↓fIndex, ↓fRev, ↓fMulL, ↓fSel, ↓sTry, ↓fIsP, ↓isLk, ↓L3.gSub, ↓gMulI, ↓gDiv, ↓gMod, ↓gPow, ↓gLt, ↓gLe, ↓gGt, ↓gGe, ↓gI, ↓gIC, ↓gAdd, ↓gIx, ↓gSl, ↓gLen, ↓gAll, ↓gAny, ↓gSum, ↓gMin2, ↓gMax2, ↓gList, ↓gTuple, ↓gNe, ↓gNotIn, ↓gIs, ↓gIsNot, ↓isNone, ↓look, ↓withD, ↓isD, ↓isB, ↓areD, ↓withDs, ↓isBor, ↓isLst, ↓isLl, ↓isI, ↓items1, ↓itemsD, ↓argsM, ↓putB, ↓pjs, ↓outsOf, ↓fin, ↓startE, ↓wipeK, ↓wipeE, ↓unw, ↓noOwnB, gEq_ii, gEq_ss, gEq_bb, own_no, own_dat, own_lst, own_ll, List.getD_cons_zero, List.getD_cons_succ, List.set_cons_zero, List.set_cons_succ, List.replicate_succ, List.replicate_zero, List.cons_append, List.nil_append, List.length_cons, List.length_nil, List.map_cons, List.map_nil, List.all_cons, List.all_nil, Nat.reduceAdd, Nat.reduceSub, Bool.not_false, Bool.not_true, Bool.and_true, Bool.and_self, if_true, if_false, reduceCtorEq, List.zipIdx_cons, List.zipIdx_nil, List.filterMap_cons, List.filterMap_nil, Option.map_some, Option.map_none, decide_true, Nat.zero_add, reduceIte, Bool.false_eq_true, true_and, and_true, dsp__law_pick]
  refine ⟨ns, tw1, _, .inl rfl, by omega, by simp, fun z hz => hN _ ?_⟩
  clear hN N
  obtain ⟨sh, rfl⟩ : ∃ sh : Int, z = .int sh := by
    simp at hz
    rcases hz with rfl | rfl | rfl | rfl | rfl <;> exact ⟨_, rfl⟩
  clear hz
  have hl2 : (tw1 ++ [PyData.int 0]).length = tw.length + 3 := by simp; omega
  generalize tw1 ++ [PyData.int 0] = tw2 at hl2 ⊢
  -- the rows
  refine sSeq_g fun N hN => ?_
  simp only [sFor, ↓sRet, ↓sNil, ↓sIf, ↓sSet, ↓sAsg, ↓sPar, ↓sPar3, ↓sSub, ↓sSub2, ↓sExpr, ↓sExprR, ↓sRetV, ↓sRetN, ↓sRaise, ↓sBrk, ↓sCt, ↓fOf, ↓fFz, ↓fName, ↓fFrz, ↓fC, ↓fBin, ↓fBinN, ↓fT, ↓fNot, ↓fAnd, ↓fOr, ↓fAndV, ↓fOrV, ↓fNotV, ↓fIf, ↓fIfN, ↓fChain, ↓fNil, ↓fCons, ↓fTup, ↓fLst, ↓fNeg, ↓fCall, ↓fIsI, ↓fJoin, ↓fApp, ↓fExt, ↓fPop, ↓fPopAt, ↓fSl, ↓fPart, ↓fNoPart, ↓fSeq, ↓fRng1, ↓fRng2, ↓fEnum, ↓fZip, ↓fGN, ↓fGT, ↓fGcons, ↓fGnil, ↓fLc, ↓fLl, ↓fYes, ↓fOwn, ↓fAt2, ↓fCount, ↓fIndex, ↓fRev, ↓fMulL, ↓fSel, ↓sTry, ↓fIsP, ↓isLk, ↓L3.gSub, ↓gMulI, ↓gDiv, ↓gMod, ↓gPow, ↓gLt, ↓gLe, ↓gGt, ↓gGe, ↓gI, ↓gIC, ↓gAdd, ↓gIx, ↓gSl, ↓gLen, ↓gAll, ↓gAny, ↓gSum, ↓gMin2, ↓gMax2, ↓gList, ↓gTuple, ↓gNe, ↓gNotIn, ↓gIs, ↓gIsNot, ↓isNone, ↓look, ↓withD, ↓isD, ↓isB, ↓areD, ↓withDs, ↓isBor, ↓isLst, ↓isLl, ↓isI, ↓items1, ↓itemsD, ↓argsM, ↓putB, ↓pjs, ↓outsOf, ↓fin, ↓startE, ↓wipeK, ↓wipeE, ↓unw, ↓noOwnB, gEq_ii, gEq_ss, gEq_bb, own_no, own_dat, own_lst, own_ll, List.getD_cons_zero, List.getD_cons_succ, List.set_cons_zero, List.set_cons_succ, List.replicate_succ, List.replicate_zero, List.cons_append, List.nil_append, List.length_cons, List.length_nil, List.map_cons, List.map_nil, List.all_cons, List.all_nil, Nat.reduceAdd, Nat.reduceSub, Bool.not_false, Bool.not_true, Bool.and_true, Bool.and_self, if_true, if_false, reduceCtorEq, List.zipIdx_cons, List.zipIdx_nil, List.filterMap_cons, List.filterMap_nil, Option.map_some, Option.map_none, decide_true, Nat.zero_add, reduceIte, Bool.false_eq_true, true_and, and_true]
  refine ⟨b62 (by omega) (by omega), by rw [rangeD_len]; exact small (by omega), ?_⟩
  refine llR_inv (fun i acc ρ => ∃ tw' rows, ρ = [scr ns, .lst tw', .dat (.int high), .dat (.int wide), .dat (.int h), .dat (.int w), .dat (.int sh), .no, .no, .no, .no, .no, .no, .no] ∧ tw'.length = tw.length + 3 + i * w ∧ acc = rows.map encR ∧ rowsOk i w rows) 0 (fun i d acc ρ k hd hP hk => ?_) ⟨tw2, [], rfl, by simp; omega, rfl, rfl, fun r hr => absurd hr (by simp)⟩ (fun acc ρ hP => ?_)
  · obtain ⟨tw', rows, rfl, hl, rfl, R⟩ := hP
    obtain ⟨hi, rfl⟩ := rangeD_get hd
    have hi8 : i < 8 := by omega
    have hw8 : w ≤ 8 := by omega
    have hiw : (0 + i) * w ≤ 56 := by
      have : (0 + i) * w ≤ 7 * 8 := Nat.mul_le_mul (by omega) (by omega)
      omega
    simp only [llStep, ↓sRet, ↓sNil, ↓sIf, ↓sSet, ↓sAsg, ↓sPar, ↓sPar3, ↓sSub, ↓sSub2, ↓sExpr, ↓sExprR, ↓sRetV, ↓sRetN, ↓sRaise, ↓sBrk, ↓sCt, ↓fOf, ↓fFz, ↓fName, ↓fFrz, ↓fC, ↓fBin, ↓fBinN, ↓fT, ↓fNot, ↓fAnd, ↓fOr, ↓fAndV, ↓fOrV, ↓fNotV, ↓fIf, ↓fIfN, ↓fChain, ↓fNil, ↓fCons, ↓fTup, ↓fLst, ↓fNeg, ↓fCall, ↓fIsI, ↓fJoin, ↓fApp, ↓fExt, ↓fPop, ↓fPopAt, ↓fSl, ↓fPart, ↓fNoPart, ↓fSeq, ↓fRng1, ↓fRng2, ↓fEnum, ↓fZip, ↓fGN, ↓fGT, ↓fGcons, ↓fGnil, ↓fLc, ↓fLl, ↓fYes, ↓fOwn, ↓fAt2, ↓fCount, ↓fIndex, ↓fRev, ↓fMulL, ↓fSel, ↓sTry, ↓fIsP, ↓isLk, ↓L3.gSub, ↓gMulI, ↓gDiv, ↓gMod, ↓gPow, ↓gLt, ↓gLe, ↓gGt, ↓gGe, ↓gI, ↓gIC, ↓gAdd, ↓gIx, ↓gSl, ↓gLen, ↓gAll, ↓gAny, ↓gSum, ↓gMin2, ↓gMax2, ↓gList, ↓gTuple, ↓gNe, ↓gNotIn, ↓gIs, ↓gIsNot, ↓isNone, ↓look, ↓withD, ↓isD, ↓isB, ↓areD, ↓withDs, ↓isBor, ↓isLst, ↓isLl, ↓isI, ↓items1, ↓itemsD, ↓argsM, ↓putB, ↓pjs, ↓outsOf, ↓fin, ↓startE, ↓wipeK, ↓wipeE, ↓unw, ↓noOwnB, gEq_ii, gEq_ss, gEq_bb, own_no, own_dat, own_lst, own_ll, List.getD_cons_zero, List.getD_cons_succ, List.set_cons_zero, List.set_cons_succ, List.replicate_succ, List.replicate_zero, List.cons_append, List.nil_append, List.length_cons, List.length_nil, List.map_cons, List.map_nil, List.all_cons, List.all_nil, Nat.reduceAdd, Nat.reduceSub, Bool.not_false, Bool.not_true, Bool.and_true, Bool.and_self, if_true, if_false, reduceCtorEq, List.zipIdx_cons, List.zipIdx_nil, List.filterMap_cons, List.filterMap_nil, Option.map_some, Option.map_none, decide_true, Nat.zero_add, reduceIte, Bool.false_eq_true, true_and, and_true]
    refine ⟨b62 (by omega) (by omega), by rw [rangeD_len]; exact small (by omega), ?_⟩
    refine lcR_inv (fun j acc ρ => ∃ tw'' r, ρ = [scr ns, .lst tw'', .dat (.int high), .dat (.int wide), .dat (.int h), .dat (.int w), .dat (.int sh), .no, .dat (.int (0 + (i : Nat))), .no, .no, .no, .no, .no] ∧ tw''.length = tw'.length + j ∧ acc = encR r ∧ r.length = j) 0 (fun j d2 acc ρ k2 hd2 hP hk2 => ?_) ⟨tw', [], rfl, rfl, rfl, rfl⟩ (fun acc ρ hP => ?_)
    · obtain ⟨tw'', r, rfl, hl2, rfl, hr⟩ := hP
      obtain ⟨hj, rfl⟩ := rangeD_get hd2
      simp only [lcStep, ↓sRet, ↓sNil, ↓sIf, ↓sSet, ↓sAsg, ↓sPar, ↓sPar3, ↓sSub, ↓sSub2, ↓sExpr, ↓sExprR, ↓sRetV, ↓sRetN, ↓sRaise, ↓sBrk, ↓sCt, ↓fOf, ↓fFz, ↓fName, ↓fFrz, ↓fC, ↓fBin, ↓fBinN, ↓fT, ↓fNot, ↓fAnd, ↓fOr, ↓fAndV, ↓fOrV, ↓fNotV, ↓fIf, ↓fIfN, ↓fChain, ↓fNil, ↓fCons, ↓fTup, ↓fLst, ↓fNeg, ↓fCall, ↓fIsI, ↓fJoin, ↓fApp, ↓fExt, ↓fPop, ↓fPopAt, ↓fSl, ↓fPart, ↓fNoPart, ↓fSeq, ↓fRng1, ↓fRng2, ↓fEnum, ↓fZip, ↓fGN, ↓fGT, ↓fGcons, ↓fGnil, ↓fLc, ↓fLl, ↓fYes, ↓fOwn, ↓fAt2, ↓fCount, ↓fIndex, ↓fRev, ↓fMulL, ↓fSel, ↓sTry, ↓fIsP, ↓isLk, ↓L3.gSub, ↓gMulI, ↓gDiv, ↓gMod, ↓gPow, ↓gLt, ↓gLe, ↓gGt, ↓gGe, ↓gI, ↓gIC, ↓gAdd, ↓gIx, ↓gSl, ↓gLen, ↓gAll, ↓gAny, ↓gSum, ↓gMin2, ↓gMax2, ↓gList, ↓gTuple, ↓gNe, ↓gNotIn, ↓gIs, ↓gIsNot, ↓isNone, ↓look, ↓withD, ↓isD, ↓isB, ↓areD, ↓withDs, ↓isBor, ↓isLst, ↓isLl, ↓isI, ↓items1, ↓itemsD, ↓argsM, ↓putB, ↓pjs, ↓outsOf, ↓fin, ↓startE, ↓wipeK, ↓wipeE, ↓unw, ↓noOwnB, gEq_ii, gEq_ss, gEq_bb, own_no, own_dat, own_lst, own_ll, List.getD_cons_zero, List.getD_cons_succ, List.set_cons_zero, List.set_cons_succ, List.replicate_succ, List.replicate_zero, List.cons_append, List.nil_append, List.length_cons, List.length_nil, List.map_cons, List.map_nil, List.all_cons, List.all_nil, Nat.reduceAdd, Nat.reduceSub, Bool.not_false, Bool.not_true, Bool.and_true, Bool.and_self, if_true, if_false, reduceCtorEq, List.zipIdx_cons, List.zipIdx_nil, List.filterMap_cons, List.filterMap_nil, Option.map_some, Option.map_none, decide_true, Nat.zero_add, reduceIte, Bool.false_eq_true, true_and, and_true, dsp__law_draw]
      refine ⟨ns, tw'', 10, rfl, by omega, by decide, fun z _ _ => ?_⟩
      by_cases hz : z < sh
      · rw [decide_eq_true hz, if_pos rfl, hash_chS]
        exact hk2 (some (chD true)) _ ⟨_, r ++ [true], rfl, by simp; omega, by simp [accO, encR], by simp [hr]⟩
      · rw [decide_eq_false hz, if_neg Bool.false_ne_true, dot_chS]
        exact hk2 (some (chD false)) _ ⟨_, r ++ [false], rfl, by simp; omega, by simp [accO, encR], by simp [hr]⟩
    · obtain ⟨tw'', r, rfl, hl2, rfl, hr⟩ := hP
      rw [rangeD_len] at hr hl2
      simp only [sFor, ↓sRet, ↓sNil, ↓sIf, ↓sSet, ↓sAsg, ↓sPar, ↓sPar3, ↓sSub, ↓sSub2, ↓sExpr, ↓sExprR, ↓sRetV, ↓sRetN, ↓sRaise, ↓sBrk, ↓sCt, ↓fOf, ↓fFz, ↓fName, ↓fFrz, ↓fC, ↓fBin, ↓fBinN, ↓fT, ↓fNot, ↓fAnd, ↓fOr, ↓fAndV, ↓fOrV, ↓fNotV, ↓fIf, ↓fIfN, ↓fChain, ↓fNil, ↓fCons, ↓fTup, ↓fLst, ↓fNeg, ↓fCall, ↓fIsI, ↓fJoin, ↓fApp, ↓fExt, ↓fPop, ↓fPopAt, ↓fSl, ↓fPart, ↓fNoPart, ↓fSeq, ↓fRng1, ↓fRng2, ↓fEnum, ↓fZip, ↓fGN, ↓fGT, ↓fGcons, ↓fGnil, ↓fLc, ↓fLl, ↓fYes, ↓fOwn, ↓fAt2, ↓fCount, ↓fIndex, ↓fRev, ↓fMulL, ↓fSel, ↓sTry, ↓fIsP, ↓isLk, ↓L3.gSub, ↓gMulI, ↓gDiv, ↓gMod, ↓gPow, ↓gLt, ↓gLe, ↓gGt, ↓gGe, ↓gI, ↓gIC, ↓gAdd, ↓gIx, ↓gSl, ↓gLen, ↓gAll, ↓gAny, ↓gSum, ↓gMin2, ↓gMax2, ↓gList, ↓gTuple, ↓gNe, ↓gNotIn, ↓gIs, ↓gIsNot, ↓isNone, ↓look, ↓withD, ↓isD, ↓isB, ↓areD, ↓withDs, ↓isBor, ↓isLst, ↓isLl, ↓isI, ↓items1, ↓itemsD, ↓argsM, ↓putB, ↓pjs, ↓outsOf, ↓fin, ↓startE, ↓wipeK, ↓wipeE, ↓unw, ↓noOwnB, gEq_ii, gEq_ss, gEq_bb, own_no, own_dat, own_lst, own_ll, List.getD_cons_zero, List.getD_cons_succ, List.set_cons_zero, List.set_cons_succ, List.replicate_succ, List.replicate_zero, List.cons_append, List.nil_append, List.length_cons, List.length_nil, List.map_cons, List.map_nil, List.all_cons, List.all_nil, Nat.reduceAdd, Nat.reduceSub, Bool.not_false, Bool.not_true, Bool.and_true, Bool.and_self, if_true, if_false, reduceCtorEq, List.zipIdx_cons, List.zipIdx_nil, List.filterMap_cons, List.filterMap_nil, Option.map_some, Option.map_none, decide_true, Nat.zero_add, reduceIte, Bool.false_eq_true, true_and, and_true]
      refine hk (some (encR r)) _ ⟨tw'', rows ++ [r], rfl, ?_, by simp [accO], by simp [R.1], fun r' hr' => ?_⟩
      · have : (0 + i + 1) * w = (0 + i) * w + w := by rw [Nat.succ_mul]
        omega
      · rcases List.mem_append.mp hr' with hr' | hr'
        · exact R.2 r' hr'
        · have : r' = r := by simpa using hr'
          subst this
          omega
  obtain ⟨tw3, rows, rfl, hl3, rfl, R⟩ := hP
  rw [rangeD_len] at hl3 R
  have hhw : (0 + h) * w ≤ 64 := by
    have : (0 + h) * w ≤ 8 * 8 := Nat.mul_le_mul (by omega) (by omega)
    omega
  have e0 : 0 + (h : Int).toNat = h := by omega
  rw [e0] at R
  have hl3' : tw3.length ≤ tw.length + 67 := by
    have : 0 + (h : Int).toNat = 0 + h := by omega
    rw [this] at hl3
    omega
  simp only [sFor, ↓sRet, ↓sNil, ↓sIf, ↓sSet, ↓sAsg, ↓sPar, ↓sPar3, ↓sSub, ↓sSub2, ↓sExpr, ↓sExprR, ↓sRetV, ↓sRetN, ↓sRaise, ↓sBrk, ↓sCt, ↓fOf, ↓fFz, ↓fName, ↓fFrz, ↓fC, ↓fBin, ↓fBinN, ↓fT, ↓fNot, ↓fAnd, ↓fOr, ↓fAndV, ↓fOrV, ↓fNotV, ↓fIf, ↓fIfN, ↓fChain, ↓fNil, ↓fCons, ↓fTup, ↓fLst, ↓fNeg, ↓fCall, ↓fIsI, ↓fJoin, ↓fApp, ↓fExt, ↓fPop, ↓fPopAt, ↓fSl, ↓fPart, ↓fNoPart, ↓fSeq, ↓fRng1, ↓fRng2, ↓fEnum, ↓fZip, ↓fGN, ↓fGT, ↓fGcons, ↓fGnil, ↓fLc, ↓fLl, ↓fYes, ↓fOwn, ↓fAt2, ↓fCount, ↓fIndex, ↓fRev, ↓fMulL, ↓fSel, ↓sTry, ↓fIsP, ↓isLk, ↓L3.gSub, ↓gMulI, ↓gDiv, ↓gMod, ↓gPow, ↓gLt, ↓gLe, ↓gGt, ↓gGe, ↓gI, ↓gIC, ↓gAdd, ↓gIx, ↓gSl, ↓gLen, ↓gAll, ↓gAny, ↓gSum, ↓gMin2, ↓gMax2, ↓gList, ↓gTuple, ↓gNe, ↓gNotIn, ↓gIs, ↓gIsNot, ↓isNone, ↓look, ↓withD, ↓isD, ↓isB, ↓areD, ↓withDs, ↓isBor, ↓isLst, ↓isLl, ↓isI, ↓items1, ↓itemsD, ↓argsM, ↓putB, ↓pjs, ↓outsOf, ↓fin, ↓startE, ↓wipeK, ↓wipeE, ↓unw, ↓noOwnB, gEq_ii, gEq_ss, gEq_bb, own_no, own_dat, own_lst, own_ll, List.getD_cons_zero, List.getD_cons_succ, List.set_cons_zero, List.set_cons_succ, List.replicate_succ, List.replicate_zero, List.cons_append, List.nil_append, List.length_cons, List.length_nil, List.map_cons, List.map_nil, List.all_cons, List.all_nil, Nat.reduceAdd, Nat.reduceSub, Bool.not_false, Bool.not_true, Bool.and_true, Bool.and_self, if_true, if_false, reduceCtorEq, List.zipIdx_cons, List.zipIdx_nil, List.filterMap_cons, List.filterMap_nil, Option.map_some, Option.map_none, decide_true, Nat.zero_add, reduceIte, Bool.false_eq_true, true_and, and_true]
  refine hN _ ?_
  clear hN N hl3
  -- the last line
  have last : ∀ (rows : List (List Bool)) (tw' : List PyData) (x8 x9 x10 x11 x12 x13 : E), rowsOk h w rows → tw'.length ≤ tw.length + 100 → x8.own = false →
      sRet (fCall gTuple (fCons (fFz (fLc (fSeq (fFrz 7)) (fGN 8) fYes (fJoin (fC (.str "")) (fName 8)) [8])) fNil)) (fin [1] post xp) [scr ns, .lst tw', .dat (.int high), .dat (.int wide), .dat (.int h), .dat (.int w), .dat (.int sh), .ll (rows.map encR), x8, x9, x10, x11, x12, x13] := fun rows tw' x8 x9 x10 x11 x12 x13 R hl ho => by
    have W : Wf h w rows := ⟨g1.1, by omega, g1.2.2.1, by omega, R.1, R.2⟩
    refine pic_end W ho fun ρ hρ => ?_
    show post (.dat (encP rows)) (outsOf [1] ρ)
    simp only [outsOf, List.map_cons, List.map_nil, hρ]
    exact hp rows h w tw' W g1.2.1 g1.2.2.2 hl
  refine sSeq_g fun N hN => ?_
  simp only [sFor, ↓sRet, ↓sNil, ↓sIf, ↓sSet, ↓sAsg, ↓sPar, ↓sPar3, ↓sSub, ↓sSub2, ↓sExpr, ↓sExprR, ↓sRetV, ↓sRetN, ↓sRaise, ↓sBrk, ↓sCt, ↓fOf, ↓fFz, ↓fName, ↓fFrz, ↓fC, ↓fBin, ↓fBinN, ↓fT, ↓fNot, ↓fAnd, ↓fOr, ↓fAndV, ↓fOrV, ↓fNotV, ↓fIf, ↓fIfN, ↓fChain, ↓fNil, ↓fCons, ↓fTup, ↓fLst, ↓fNeg, ↓fCall, ↓fIsI, ↓fJoin, ↓fApp, ↓fExt, ↓fPop, ↓fPopAt, ↓fSl, ↓fPart, ↓fNoPart, ↓fSeq, ↓fRng1, ↓fRng2, ↓fEnum, ↓fZip, ↓fGN, ↓fGT, ↓fGcons, ↓fGnil, ↓fLc, ↓fLl, ↓fYes, ↓fOwn, ↓fAt2, ↓fCount, ↓fIndex, ↓fRev, ↓fMulL, ↓fSel, ↓sTry, ↓fIsP, ↓isLk, ↓L3.gSub, ↓gMulI, ↓gDiv, ↓gMod, ↓gPow, ↓gLt, ↓gLe, ↓gGt, ↓gGe, ↓gI, ↓gIC, ↓gAdd, ↓gIx, ↓gSl, ↓gLen, ↓gAll, ↓gAny, ↓gSum, ↓gMin2, ↓gMax2, ↓gList, ↓gTuple, ↓gNe, ↓gNotIn, ↓gIs, ↓gIsNot, ↓isNone, ↓look, ↓withD, ↓isD, ↓isB, ↓areD, ↓withDs, ↓isBor, ↓isLst, ↓isLl, ↓isI, ↓items1, ↓itemsD, ↓argsM, ↓putB, ↓pjs, ↓outsOf, ↓fin, ↓startE, ↓wipeK, ↓wipeE, ↓unw, ↓noOwnB, gEq_ii, gEq_ss, gEq_bb, own_no, own_dat, own_lst, own_ll, List.getD_cons_zero, List.getD_cons_succ, List.set_cons_zero, List.set_cons_succ, List.replicate_succ, List.replicate_zero, List.cons_append, List.nil_append, List.length_cons, List.length_nil, List.map_cons, List.map_nil, List.all_cons, List.all_nil, Nat.reduceAdd, Nat.reduceSub, Bool.not_false, Bool.not_true, Bool.and_true, Bool.and_self, if_true, if_false, reduceCtorEq, List.zipIdx_cons, List.zipIdx_nil, List.filterMap_cons, List.filterMap_nil, Option.map_some, Option.map_none, decide_true, Nat.zero_add, reduceIte, Bool.false_eq_true, true_and, and_true, dsp__law_draw]
  refine ⟨ns, tw3, 3, rfl, by omega, by decide, fun z _ _ => ?_⟩
  have hl4 : (tw3 ++ [PyData.int 0]).length ≤ tw.length + 68 := by simp; omega
  generalize tw3 ++ [PyData.int 0] = tw4 at hl4 ⊢
  by_cases hz : z = 0
  case neg =>
    rw [decide_eq_false hz, if_neg Bool.false_ne_true]
    exact hN _ (last rows tw4 _ _ _ _ _ _ R (by omega) rfl)
  rw [decide_eq_true hz, if_pos rfl]
  refine sSeq_g fun N2 hN2 => ?_
  simp only [sFor, ↓sRet, ↓sNil, ↓sIf, ↓sSet, ↓sAsg, ↓sPar, ↓sPar3, ↓sSub, ↓sSub2, ↓sExpr, ↓sExprR, ↓sRetV, ↓sRetN, ↓sRaise, ↓sBrk, ↓sCt, ↓fOf, ↓fFz, ↓fName, ↓fFrz, ↓fC, ↓fBin, ↓fBinN, ↓fT, ↓fNot, ↓fAnd, ↓fOr, ↓fAndV, ↓fOrV, ↓fNotV, ↓fIf, ↓fIfN, ↓fChain, ↓fNil, ↓fCons, ↓fTup, ↓fLst, ↓fNeg, ↓fCall, ↓fIsI, ↓fJoin, ↓fApp, ↓fExt, ↓fPop, ↓fPopAt, ↓fSl, ↓fPart, ↓fNoPart, ↓fSeq, ↓fRng1, ↓fRng2, ↓fEnum, ↓fZip, ↓fGN, ↓fGT, ↓fGcons, ↓fGnil, ↓fLc, ↓fLl, ↓fYes, ↓fOwn, ↓fAt2, ↓fCount, ↓fIndex, ↓fRev, ↓fMulL, ↓fSel, ↓sTry, ↓fIsP, ↓isLk, ↓L3.gSub, ↓gMulI, ↓gDiv, ↓gMod, ↓gPow, ↓gLt, ↓gLe, ↓gGt, ↓gGe, ↓gI, ↓gIC, ↓gAdd, ↓gIx, ↓gSl, ↓gLen, ↓gAll, ↓gAny, ↓gSum, ↓gMin2, ↓gMax2, ↓gList, ↓gTuple, ↓gNe, ↓gNotIn, ↓gIs, ↓gIsNot, ↓isNone, ↓look, ↓withD, ↓isD, ↓isB, ↓areD, ↓withDs, ↓isBor, ↓isLst, ↓isLl, ↓isI, ↓items1, ↓itemsD, ↓argsM, ↓putB, ↓pjs, ↓outsOf, ↓fin, ↓startE, ↓wipeK, ↓wipeE, ↓unw, ↓noOwnB, gEq_ii, gEq_ss, gEq_bb, own_no, own_dat, own_lst, own_ll, List.getD_cons_zero, List.getD_cons_succ, List.set_cons_zero, List.set_cons_succ, List.replicate_succ, List.replicate_zero, List.cons_append, List.nil_append, List.length_cons, List.length_nil, List.map_cons, List.map_nil, List.all_cons, List.all_nil, Nat.reduceAdd, Nat.reduceSub, Bool.not_false, Bool.not_true, Bool.and_true, Bool.and_self, if_true, if_false, reduceCtorEq, List.zipIdx_cons, List.zipIdx_nil, List.filterMap_cons, List.filterMap_nil, Option.map_some, Option.map_none, decide_true, Nat.zero_add, reduceIte, Bool.false_eq_true, true_and, and_true, dsp__law_pick]
  refine ⟨ns, tw4, _, .inl rfl, by omega, by simp, fun z hz => hN2 _ ?_⟩
  clear hN2 N2
  obtain ⟨b, rfl⟩ : ∃ b : Bool, z = chD b := by
    simp at hz
    rcases hz with rfl | rfl
    · exact ⟨true, by rw [hash_chS]; rfl⟩
    · exact ⟨false, by rw [dot_chS]; rfl⟩
  clear hz
  have hl5 : (tw4 ++ [PyData.int 0]).length ≤ tw.length + 69 := by simp; omega
  generalize tw4 ++ [PyData.int 0] = tw5 at hl5 ⊢
  refine sSeq_g fun N2 hN2 => ?_
  simp only [sFor, ↓sRet, ↓sNil, ↓sIf, ↓sSet, ↓sAsg, ↓sPar, ↓sPar3, ↓sSub, ↓sSub2, ↓sExpr, ↓sExprR, ↓sRetV, ↓sRetN, ↓sRaise, ↓sBrk, ↓sCt, ↓fOf, ↓fFz, ↓fName, ↓fFrz, ↓fC, ↓fBin, ↓fBinN, ↓fT, ↓fNot, ↓fAnd, ↓fOr, ↓fAndV, ↓fOrV, ↓fNotV, ↓fIf, ↓fIfN, ↓fChain, ↓fNil, ↓fCons, ↓fTup, ↓fLst, ↓fNeg, ↓fCall, ↓fIsI, ↓fJoin, ↓fApp, ↓fExt, ↓fPop, ↓fPopAt, ↓fSl, ↓fPart, ↓fNoPart, ↓fSeq, ↓fRng1, ↓fRng2, ↓fEnum, ↓fZip, ↓fGN, ↓fGT, ↓fGcons, ↓fGnil, ↓fLc, ↓fLl, ↓fYes, ↓fOwn, ↓fAt2, ↓fCount, ↓fIndex, ↓fRev, ↓fMulL, ↓fSel, ↓sTry, ↓fIsP, ↓isLk, ↓L3.gSub, ↓gMulI, ↓gDiv, ↓gMod, ↓gPow, ↓gLt, ↓gLe, ↓gGt, ↓gGe, ↓gI, ↓gIC, ↓gAdd, ↓gIx, ↓gSl, ↓gLen, ↓gAll, ↓gAny, ↓gSum, ↓gMin2, ↓gMax2, ↓gList, ↓gTuple, ↓gNe, ↓gNotIn, ↓gIs, ↓gIsNot, ↓isNone, ↓look, ↓withD, ↓isD, ↓isB, ↓areD, ↓withDs, ↓isBor, ↓isLst, ↓isLl, ↓isI, ↓items1, ↓itemsD, ↓argsM, ↓putB, ↓pjs, ↓outsOf, ↓fin, ↓startE, ↓wipeK, ↓wipeE, ↓unw, ↓noOwnB, gEq_ii, gEq_ss, gEq_bb, own_no, own_dat, own_lst, own_ll, List.getD_cons_zero, List.getD_cons_succ, List.set_cons_zero, List.set_cons_succ, List.replicate_succ, List.replicate_zero, List.cons_append, List.nil_append, List.length_cons, List.length_nil, List.map_cons, List.map_nil, List.all_cons, List.all_nil, Nat.reduceAdd, Nat.reduceSub, Bool.not_false, Bool.not_true, Bool.and_true, Bool.and_self, if_true, if_false, reduceCtorEq, List.zipIdx_cons, List.zipIdx_nil, List.filterMap_cons, List.filterMap_nil, Option.map_some, Option.map_none, decide_true, Nat.zero_add, reduceIte, Bool.false_eq_true, true_and, and_true, dsp__law_draw]
  refine ⟨ns, tw5, _, rfl, by omega, by omega, fun top t0 t1 => ⟨ns, _, _, rfl, by simp; omega, by omega, fun left l0 l1 => hN2 _ ?_⟩⟩
  clear hN2 N2
  have hl6 : (tw5 ++ [PyData.int 0] ++ [PyData.int 0]).length ≤ tw.length + 71 := by simp; omega
  generalize tw5 ++ [PyData.int 0] ++ [PyData.int 0] = tw6 at hl6 ⊢
  simp only [sFor, ↓sRet, ↓sNil, ↓sIf, ↓sSet, ↓sAsg, ↓sPar, ↓sPar3, ↓sSub, ↓sSub2, ↓sExpr, ↓sExprR, ↓sRetV, ↓sRetN, ↓sRaise, ↓sBrk, ↓sCt, ↓fOf, ↓fFz, ↓fName, ↓fFrz, ↓fC, ↓fBin, ↓fBinN, ↓fT, ↓fNot, ↓fAnd, ↓fOr, ↓fAndV, ↓fOrV, ↓fNotV, ↓fIf, ↓fIfN, ↓fChain, ↓fNil, ↓fCons, ↓fTup, ↓fLst, ↓fNeg, ↓fCall, ↓fIsI, ↓fJoin, ↓fApp, ↓fExt, ↓fPop, ↓fPopAt, ↓fSl, ↓fPart, ↓fNoPart, ↓fSeq, ↓fRng1, ↓fRng2, ↓fEnum, ↓fZip, ↓fGN, ↓fGT, ↓fGcons, ↓fGnil, ↓fLc, ↓fLl, ↓fYes, ↓fOwn, ↓fAt2, ↓fCount, ↓fIndex, ↓fRev, ↓fMulL, ↓fSel, ↓sTry, ↓fIsP, ↓isLk, ↓L3.gSub, ↓gMulI, ↓gDiv, ↓gMod, ↓gPow, ↓gLt, ↓gLe, ↓gGt, ↓gGe, ↓gI, ↓gIC, ↓gAdd, ↓gIx, ↓gSl, ↓gLen, ↓gAll, ↓gAny, ↓gSum, ↓gMin2, ↓gMax2, ↓gList, ↓gTuple, ↓gNe, ↓gNotIn, ↓gIs, ↓gIsNot, ↓isNone, ↓look, ↓withD, ↓isD, ↓isB, ↓areD, ↓withDs, ↓isBor, ↓isLst, ↓isLl, ↓isI, ↓items1, ↓itemsD, ↓argsM, ↓putB, ↓pjs, ↓outsOf, ↓fin, ↓startE, ↓wipeK, ↓wipeE, ↓unw, ↓noOwnB, gEq_ii, gEq_ss, gEq_bb, own_no, own_dat, own_lst, own_ll, List.getD_cons_zero, List.getD_cons_succ, List.set_cons_zero, List.set_cons_succ, List.replicate_succ, List.replicate_zero, List.cons_append, List.nil_append, List.length_cons, List.length_nil, List.map_cons, List.map_nil, List.all_cons, List.all_nil, Nat.reduceAdd, Nat.reduceSub, Bool.not_false, Bool.not_true, Bool.and_true, Bool.and_self, if_true, if_false, reduceCtorEq, List.zipIdx_cons, List.zipIdx_nil, List.filterMap_cons, List.filterMap_nil, Option.map_some, Option.map_none, decide_true, Nat.zero_add, reduceIte, Bool.false_eq_true, true_and, and_true, dsp__law_draw]
  refine ⟨ns, tw6, 5, rfl, by omega, by decide, fun z z0 z5 => ?_⟩
  have hl7 : (tw6 ++ [PyData.int 0]).length ≤ tw.length + 72 := by simp; omega
  generalize tw6 ++ [PyData.int 0] = tw7 at hl7 ⊢
  generalize hend : (if top + 1 + z < (h : Int) then top + 1 + z else (h : Int)) = en
  have en1 : en ≤ h ∧ 0 ≤ en := by rw [← hend]; split <;> omega
  refine ⟨b62 (by omega) (by omega), b62 (by omega) (by omega), ?_⟩
  refine forR_inv (fun i ρ => ∃ rows x8 x13, ρ = [scr ns, .lst tw7, .dat (.int high), .dat (.int wide), .dat (.int h), .dat (.int w), .dat (.int sh), .ll (rows.map encR), x8, .no, .dat (chD b), .dat (.int top), .dat (.int left), x13] ∧ rowsOk h w rows ∧ x8.own = false) 0 (fun i d ρ M hd hP hM => ?_) ⟨rows, _, _, rfl, R, rfl⟩ (fun ρ hP => ?_)
  · obtain ⟨rows, x8, x13, rfl, R, ho⟩ := hP
    obtain ⟨hi, rfl⟩ := rangeD_get hd
    simp only [sFor, ↓sRet, ↓sNil, ↓sIf, ↓sSet, ↓sAsg, ↓sPar, ↓sPar3, ↓sSub, ↓sSub2, ↓sExpr, ↓sExprR, ↓sRetV, ↓sRetN, ↓sRaise, ↓sBrk, ↓sCt, ↓fOf, ↓fFz, ↓fName, ↓fFrz, ↓fC, ↓fBin, ↓fBinN, ↓fT, ↓fNot, ↓fAnd, ↓fOr, ↓fAndV, ↓fOrV, ↓fNotV, ↓fIf, ↓fIfN, ↓fChain, ↓fNil, ↓fCons, ↓fTup, ↓fLst, ↓fNeg, ↓fCall, ↓fIsI, ↓fJoin, ↓fApp, ↓fExt, ↓fPop, ↓fPopAt, ↓fSl, ↓fPart, ↓fNoPart, ↓fSeq, ↓fRng1, ↓fRng2, ↓fEnum, ↓fZip, ↓fGN, ↓fGT, ↓fGcons, ↓fGnil, ↓fLc, ↓fLl, ↓fYes, ↓fOwn, ↓fAt2, ↓fCount, ↓fIndex, ↓fRev, ↓fMulL, ↓fSel, ↓sTry, ↓fIsP, ↓isLk, ↓L3.gSub, ↓gMulI, ↓gDiv, ↓gMod, ↓gPow, ↓gLt, ↓gLe, ↓gGt, ↓gGe, ↓gI, ↓gIC, ↓gAdd, ↓gIx, ↓gSl, ↓gLen, ↓gAll, ↓gAny, ↓gSum, ↓gMin2, ↓gMax2, ↓gList, ↓gTuple, ↓gNe, ↓gNotIn, ↓gIs, ↓gIsNot, ↓isNone, ↓look, ↓withD, ↓isD, ↓isB, ↓areD, ↓withDs, ↓isBor, ↓isLst, ↓isLl, ↓isI, ↓items1, ↓itemsD, ↓argsM, ↓putB, ↓pjs, ↓outsOf, ↓fin, ↓startE, ↓wipeK, ↓wipeE, ↓unw, ↓noOwnB, gEq_ii, gEq_ss, gEq_bb, own_no, own_dat, own_lst, own_ll, List.getD_cons_zero, List.getD_cons_succ, List.set_cons_zero, List.set_cons_succ, List.replicate_succ, List.replicate_zero, List.cons_append, List.nil_append, List.length_cons, List.length_nil, List.map_cons, List.map_nil, List.all_cons, List.all_nil, Nat.reduceAdd, Nat.reduceSub, Bool.not_false, Bool.not_true, Bool.and_true, Bool.and_self, if_true, if_false, reduceCtorEq, List.zipIdx_cons, List.zipIdx_nil, List.filterMap_cons, List.filterMap_nil, Option.map_some, Option.map_none, decide_true, Nat.zero_add, reduceIte, Bool.false_eq_true, true_and, and_true]
    generalize hend2 : (if left + 3 < (w : Int) then left + 3 else (w : Int)) = en2
    have en3 : en2 ≤ w ∧ 0 ≤ en2 := by rw [← hend2]; split <;> omega
    refine ⟨b62 (by omega) (by omega), b62 (by omega) (by omega), ?_⟩
    refine forR_inv (fun j ρ => ∃ rows x13, ρ = [scr ns, .lst tw7, .dat (.int high), .dat (.int wide), .dat (.int h), .dat (.int w), .dat (.int sh), .ll (rows.map encR), .dat (.int (top + (i : Nat))), .no, .dat (chD b), .dat (.int top), .dat (.int left), x13] ∧ rowsOk h w rows) 0 (fun j d ρ M2 hd2 hP hM2 => ?_) ⟨rows, _, rfl, R⟩ (fun ρ hP => ?_)
    · obtain ⟨rows, x13, rfl, R⟩ := hP
      obtain ⟨hj, rfl⟩ := rangeD_get hd2
      simp only [sFor, ↓sRet, ↓sNil, ↓sIf, ↓sSet, ↓sAsg, ↓sPar, ↓sPar3, ↓sSub, ↓sSub2, ↓sExpr, ↓sExprR, ↓sRetV, ↓sRetN, ↓sRaise, ↓sBrk, ↓sCt, ↓fOf, ↓fFz, ↓fName, ↓fFrz, ↓fC, ↓fBin, ↓fBinN, ↓fT, ↓fNot, ↓fAnd, ↓fOr, ↓fAndV, ↓fOrV, ↓fNotV, ↓fIf, ↓fIfN, ↓fChain, ↓fNil, ↓fCons, ↓fTup, ↓fLst, ↓fNeg, ↓fCall, ↓fIsI, ↓fJoin, ↓fApp, ↓fExt, ↓fPop, ↓fPopAt, ↓fSl, ↓fPart, ↓fNoPart, ↓fSeq, ↓fRng1, ↓fRng2, ↓fEnum, ↓fZip, ↓fGN, ↓fGT, ↓fGcons, ↓fGnil, ↓fLc, ↓fLl, ↓fYes, ↓fOwn, ↓fAt2, ↓fCount, ↓fIndex, ↓fRev, ↓fMulL, ↓fSel, ↓sTry, ↓fIsP, ↓isLk, ↓L3.gSub, ↓gMulI, ↓gDiv, ↓gMod, ↓gPow, ↓gLt, ↓gLe, ↓gGt, ↓gGe, ↓gI, ↓gIC, ↓gAdd, ↓gIx, ↓gSl, ↓gLen, ↓gAll, ↓gAny, ↓gSum, ↓gMin2, ↓gMax2, ↓gList, ↓gTuple, ↓gNe, ↓gNotIn, ↓gIs, ↓gIsNot, ↓isNone, ↓look, ↓withD, ↓isD, ↓isB, ↓areD, ↓withDs, ↓isBor, ↓isLst, ↓isLl, ↓isI, ↓items1, ↓itemsD, ↓argsM, ↓putB, ↓pjs, ↓outsOf, ↓fin, ↓startE, ↓wipeK, ↓wipeE, ↓unw, ↓noOwnB, gEq_ii, gEq_ss, gEq_bb, own_no, own_dat, own_lst, own_ll, List.getD_cons_zero, List.getD_cons_succ, List.set_cons_zero, List.set_cons_succ, List.replicate_succ, List.replicate_zero, List.cons_append, List.nil_append, List.length_cons, List.length_nil, List.map_cons, List.map_nil, List.all_cons, List.all_nil, Nat.reduceAdd, Nat.reduceSub, Bool.not_false, Bool.not_true, Bool.and_true, Bool.and_self, if_true, if_false, reduceCtorEq, List.zipIdx_cons, List.zipIdx_nil, List.filterMap_cons, List.filterMap_nil, Option.map_some, Option.map_none, decide_true, Nat.zero_add, reduceIte, Bool.false_eq_true, true_and, and_true]
      have r0 : (top + (i : Int)).toNat < rows.length := by rw [R.1]; omega
      have r1 : (rows[(top + (i : Int)).toNat]).length = w := R.2 _ (List.getElem_mem _)
      refine ⟨(top + (i : Int)).toNat, encR rows[(top + (i : Int)).toNat], (left + (j : Int)).toNat, ixN_int (by omega) (by rw [List.length_map, R.1]; omega), by rw [List.getElem?_map, List.getElem?_eq_getElem r0]; rfl, ixN_int (by omega) (by unfold encR; rw [List.length_map, r1]; omega), hM2 _ ⟨rows.set (top + (i : Int)).toNat ((rows[(top + (i : Int)).toNat]).set (left + (j : Int)).toNat b), .dat (.int (left + (j : Int))), ?_, ?_⟩⟩
      · rw [List.map_set]
        unfold encR
        rw [List.map_set]
      · have z := rows_set (m := (top + (i : Int)).toNat) (c := (left + (j : Int)).toNat) R b
        rw [List.getD_eq_getElem?_getD, List.getElem?_eq_getElem r0] at z
        exact z
    · obtain ⟨rows, x13, rfl, R⟩ := hP
      exact hM _ ⟨rows, _, _, rfl, R, rfl⟩
  · obtain ⟨rows, x8, x13, rfl, R, ho⟩ := hP
    exact hN _ (last rows tw7 _ _ _ _ _ _ R (by omega) ho)
end My

namespace My
open PySem PySem.Spec PyProof.Rows L2 L3
/-! ### parts of pictures -/
def partOf (p : List (List Bool)) (r c h w : Nat) : List (List Bool) := ((p.drop r).take h).map fun l => (l.drop c).take w
theorem sIx_nat' {n d k : Nat} {i : Int} (e : i = (k : Int)) : HT.sIx n d (some i) = min k n := by rw [e]; exact HT.sIx_nat n d k
theorem cut_nat {α : Type} (ds : List α) (a b : Nat) : (ds.drop (min a ds.length)).take (min b ds.length - min a ds.length) = (ds.drop a).take (b - a) := by
  apply List.ext_getElem?
  intro i
  simp only [List.getElem?_take, List.getElem?_drop]
  by_cases h1 : i < min b ds.length - min a ds.length
  · have e1 : min a ds.length = a := by omega
    have e2 : i < b - a := by omega
    rw [if_pos h1, if_pos e2, e1]
  · rw [if_neg h1]
    by_cases h2 : i < b - a
    · rw [if_pos h2, List.getElem?_eq_none (by omega)]
    · rw [if_neg h2]
theorem cutD_nat {ds : List PyData} {i j : Int} {a b : Nat} (hi : i = (a : Int)) (hj : j = (b : Int)) : L3.cutD ds (some i) (some j) = (ds.drop a).take (b - a) := by
  unfold L3.cutD
  rw [sIx_nat' hi, sIx_nat' hj]
  exact cut_nat ds a b
theorem cutS_nat {r : List Bool} {i j : Int} {a b : Nat} (hi : i = (a : Int)) (hj : j = (b : Int)) : cutS (lineS r) (some i) (some j) = lineS ((r.drop a).take (b - a)) := by
  unfold cutS
  rw [sIx_nat' hi, sIx_nat' hj]
  have e : (lineS r).length = (lineS r).cps.toList.length := rfl
  rw [e, cut_nat, lineS_cps, ← List.map_drop, ← List.map_take]
  rfl
def T_part_at : TXS :=
  (sRet (fCall gTuple (fCons (fFz (fLc (fSeq (fFz (fSl (fName 0) (fPart (fName 1)) (fPart (fFz (fBinN gAdd (fName 1) (fName 3))))))) (fGN 5) fYes (fFz (fSl (fName 5) (fPart (fName 2)) (fPart (fFz (fBinN gAdd (fName 2) (fName 4)))))) [5])) fNil)))

def T__law_part : TXS :=
  (sRet (fCall gTuple (fCons (fFz (fLc (fSeq (fFz (fSl (fName 0) (fPart (fName 1)) (fPart (fFz (fBinN gAdd (fName 1) (fName 3))))))) (fGN 5) fYes (fFz (fSl (fName 5) (fPart (fName 2)) (fPart (fFz (fBinN gAdd (fName 2) (fName 4)))))) [5])) fNil)))

/-- p's lines are short -/
def Short (p : List (List Bool)) : Prop := p.length ≤ 1000 ∧ ∀ r ∈ p, r.length ≤ 1000
theorem Wf.short {h w : Nat} {p : List (List Bool)} (W : Wf h w p) : Short p := ⟨by have := W.len; have := W.h8; omega, fun r hr => by have := W.row r hr; have := W.w8; omega⟩
def dsp_part_at : DSp := fun es post _ => ∃ (p : List (List Bool)) (r c h w : Nat), es = [.dat (encP p), .dat (.int r), .dat (.int c), .dat (.int h), .dat (.int w)] ∧ Short p ∧ post (.dat (encP (partOf p r c h w))) []
def dsp__law_part : DSp := dsp_part_at
theorem good_part_at : Good [] 6 5 T_part_at dsp_part_at := by
  rintro es post xp ⟨p, r, c, h, w, rfl, hs, hp⟩ _
  simp only [T_part_at, sSeq, sFor, ↓sRet, ↓sNil, ↓sIf, ↓sSet, ↓sAsg, ↓sPar, ↓sPar3, ↓sSub, ↓sSub2, ↓sExpr, ↓sExprR, ↓sRetV, ↓sRetN, ↓sRaise, ↓sBrk, ↓sCt, ↓fOf, ↓fFz, ↓fName, ↓fFrz, ↓fC, ↓fBin, ↓fBinN, ↓fT, ↓fNot, ↓fAnd, ↓fOr, ↓fAndV, ↓fOrV, ↓fNotV, ↓fIf, ↓fIfN, ↓fChain, ↓fNil, ↓fCons, ↓fTup, ↓fLst, ↓fNeg, ↓fCall, ↓fIsI, ↓fJoin, ↓fApp, ↓fExt, ↓fPop, ↓fPopAt, ↓fSl, ↓fPart, ↓fNoPart, ↓fSeq, ↓fRng1, ↓fRng2, ↓fEnum, ↓fZip, ↓fGN, ↓fGT, ↓fGcons, ↓fGnil, ↓fLc, ↓fLl, ↓fYes, ↓fOwn, ↓fAt2, ↓fCount, ↓fIndex, ↓fRev, ↓fMulL, ↓fSel, ↓sTry, ↓fIsP, ↓isLk, ↓L3.gSub, ↓gMulI, ↓gDiv, ↓gMod, ↓gPow, ↓gLt, ↓gLe, ↓gGt, ↓gGe, ↓gI, ↓gIC, ↓gAdd, ↓gIx, ↓gSl, ↓gLen, ↓gAll, ↓gAny, ↓gSum, ↓gMin2, ↓gMax2, ↓gList, ↓gTuple, ↓gNe, ↓gNotIn, ↓gIs, ↓gIsNot, ↓isNone, ↓look, ↓withD, ↓isD, ↓isB, ↓areD, ↓withDs, ↓isBor, ↓isLst, ↓isLl, ↓isI, ↓items1, ↓itemsD, ↓argsM, ↓putB, ↓pjs, ↓outsOf, ↓fin, ↓startE, ↓wipeK, ↓wipeE, ↓unw, ↓noOwnB, gEq_ii, gEq_ss, gEq_bb, own_no, own_dat, own_lst, own_ll, List.getD_cons_zero, List.getD_cons_succ, List.set_cons_zero, List.set_cons_succ, List.replicate_succ, List.replicate_zero, List.cons_append, List.nil_append, List.length_cons, List.length_nil, List.map_cons, List.map_nil, List.all_cons, List.all_nil, Nat.reduceAdd, Nat.reduceSub, Bool.not_false, Bool.not_true, Bool.and_true, Bool.and_self, if_true, if_false, reduceCtorEq, List.zipIdx_cons, List.zipIdx_nil, List.filterMap_cons, List.filterMap_nil, Option.map_some, Option.map_none, decide_true, Nat.zero_add, reduceIte, Bool.false_eq_true, true_and, and_true, encP]
  rw [cutD_nat (a := r) (b := r + h) rfl (by simp), show r + h - r = h by omega, ← List.map_drop, ← List.map_take]
  refine ⟨by rw [List.length_map, List.length_take, List.length_drop]; exact small (by have := hs.1; omega), ?_⟩
  refine lcR_enc1 encL (fun l => encL ((l.drop c).take w)) (fun l hl k hk => ?_) ?_
  · simp only [lcStep, ↓sRet, ↓sNil, ↓sIf, ↓sSet, ↓sAsg, ↓sPar, ↓sPar3, ↓sSub, ↓sSub2, ↓sExpr, ↓sExprR, ↓sRetV, ↓sRetN, ↓sRaise, ↓sBrk, ↓sCt, ↓fOf, ↓fFz, ↓fName, ↓fFrz, ↓fC, ↓fBin, ↓fBinN, ↓fT, ↓fNot, ↓fAnd, ↓fOr, ↓fAndV, ↓fOrV, ↓fNotV, ↓fIf, ↓fIfN, ↓fChain, ↓fNil, ↓fCons, ↓fTup, ↓fLst, ↓fNeg, ↓fCall, ↓fIsI, ↓fJoin, ↓fApp, ↓fExt, ↓fPop, ↓fPopAt, ↓fSl, ↓fPart, ↓fNoPart, ↓fSeq, ↓fRng1, ↓fRng2, ↓fEnum, ↓fZip, ↓fGN, ↓fGT, ↓fGcons, ↓fGnil, ↓fLc, ↓fLl, ↓fYes, ↓fOwn, ↓fAt2, ↓fCount, ↓fIndex, ↓fRev, ↓fMulL, ↓fSel, ↓sTry, ↓fIsP, ↓isLk, ↓L3.gSub, ↓gMulI, ↓gDiv, ↓gMod, ↓gPow, ↓gLt, ↓gLe, ↓gGt, ↓gGe, ↓gI, ↓gIC, ↓gAdd, ↓gIx, ↓gSl, ↓gLen, ↓gAll, ↓gAny, ↓gSum, ↓gMin2, ↓gMax2, ↓gList, ↓gTuple, ↓gNe, ↓gNotIn, ↓gIs, ↓gIsNot, ↓isNone, ↓look, ↓withD, ↓isD, ↓isB, ↓areD, ↓withDs, ↓isBor, ↓isLst, ↓isLl, ↓isI, ↓items1, ↓itemsD, ↓argsM, ↓putB, ↓pjs, ↓outsOf, ↓fin, ↓startE, ↓wipeK, ↓wipeE, ↓unw, ↓noOwnB, gEq_ii, gEq_ss, gEq_bb, own_no, own_dat, own_lst, own_ll, List.getD_cons_zero, List.getD_cons_succ, List.set_cons_zero, List.set_cons_succ, List.replicate_succ, List.replicate_zero, List.cons_append, List.nil_append, List.length_cons, List.length_nil, List.map_cons, List.map_nil, List.all_cons, List.all_nil, Nat.reduceAdd, Nat.reduceSub, Bool.not_false, Bool.not_true, Bool.and_true, Bool.and_self, if_true, if_false, reduceCtorEq, List.zipIdx_cons, List.zipIdx_nil, List.filterMap_cons, List.filterMap_nil, Option.map_some, Option.map_none, decide_true, Nat.zero_add, reduceIte, Bool.false_eq_true, true_and, and_true, encL]
    have hm : l ∈ p := List.mem_of_mem_drop (List.mem_of_mem_take hl)
    refine ⟨by rw [lineS_len]; exact Nat.le_of_lt (small (by have := hs.2 l hm; omega)), ?_⟩
    rw [cutS_nat (a := c) (b := c + w) rfl (by simp), show c + w - c = w by omega]
    exact hk
  · simp only [List.nil_append]
    have e : (List.take h (List.drop r p)).map (fun l => encL ((l.drop c).take w)) = (partOf p r c h w).map encL := by unfold partOf; rw [List.map_map]; rfl
    rw [e]
    exact hp
theorem good__law_part : Good [] 6 5 T__law_part dsp__law_part := good_part_at
/-! ### the cells -/
abbrev Cell := Nat × Nat
def encC (c : Cell) : PyData := .tuple [.int c.1, .int c.2]
def rowCells (r : Nat) (l : List Bool) : List Cell := ((List.range l.length).filter fun c => l.getD c false).map fun c => (r, c)
def cellsTo (p : List (List Bool)) (i : Nat) : List Cell := (List.range i).flatMap fun r => rowCells r (p.getD r [])
def cellsOf (p : List (List Bool)) : List Cell := cellsTo p p.length
theorem rowCells_len (r : Nat) (l : List Bool) : (rowCells r l).length ≤ l.length := by
  unfold rowCells
  rw [List.length_map]
  exact Nat.le_trans (List.length_filter_le _ _) (by rw [List.length_range]; exact Nat.le_refl _)
theorem cellsTo_succ (p : List (List Bool)) (i : Nat) : cellsTo p (i + 1) = cellsTo p i ++ rowCells i (p.getD i []) := by
  unfold cellsTo
  rw [List.range_succ, List.flatMap_append]
  simp
theorem cellsTo_len {p : List (List Bool)} {w : Nat} (h : ∀ r ∈ p, r.length ≤ w) : ∀ i, (cellsTo p i).length ≤ i * w
  | 0 => by simp [cellsTo]
  | i + 1 => by
    rw [cellsTo_succ, List.length_append, Nat.succ_mul]
    have h1 := cellsTo_len h i
    have h2 := rowCells_len i (p.getD i [])
    have h3 : (p.getD i []).length ≤ w := by
      rw [List.getD_eq_getElem?_getD]
      by_cases hi : i < p.length
      · rw [List.getElem?_eq_getElem hi]; exact h _ (List.getElem_mem _)
      · rw [List.getElem?_eq_none (by omega)]; exact Nat.zero_le _
    omega
theorem chS_eq {a b : Bool} : (chS a = chS b) ↔ a = b := by cases a <;> cases b <;> decide
/-- a sign of a line -/
theorem line_at {l : List Bool} {c : Nat} (h : c < l.length) : atI (lineS l).cps.toList (c : Int) = some (sg (l.getD c false)) := by
  refine atI_nat ?_
  rw [lineS_cps, List.getElem?_map, List.getElem?_eq_getElem h, List.getD_eq_getElem?_getD, List.getElem?_eq_getElem h]
  rfl
theorem is_hash (b : Bool) : decide ((⟨#[sg b]⟩ : Str) = Str.ofString "#") = b := by
  rw [hash_chS]
  show decide (chS b = chS true) = b
  cases b <;> decide
theorem rangeD_map (n : Nat) : rangeD 0 n = (List.range n).map fun i => PyData.int (i : Nat) := by
  unfold rangeD
  exact List.map_congr_left fun i _ => by rw [Int.zero_add]
def T__law_cells : TXS :=
  (sSeq (sSet 1 (fLst fNil))
  (sSeq (sFor (fEnum (fCons (fName 0) fNil)) (fGT 2 (fGcons (fGN 2) (fGcons (fGN 3) fGnil))) (sExprR (fExt (fName 1) (fLc (fRng1 (fCons (fFz (fCall gLen (fCons (fName 3) fNil))) fNil)) (fGN 4) (fT (fBin gEq (fBin gIx (fName 3) (fName 4)) (fC (.str "#")))) (fTup (fCons (fName 2) (fCons (fName 4) fNil))) [4]))))
  (sRetV 1)))

def dsp__law_cells : DSp := fun es post _ => ∃ (p : List (List Bool)) (h w : Nat), es = [.dat (encP p)] ∧ Wf h w p ∧ post (.lst ((cellsOf p).map encC)) []
theorem good__law_cells : Good [] 5 1 T__law_cells dsp__law_cells := by
  rintro es post xp ⟨p, h, w, rfl, W, hp⟩ _
  unfold T__law_cells
  refine sSeq_g fun N hN => ?_
  simp only [sFor, ↓sRet, ↓sNil, ↓sIf, ↓sSet, ↓sAsg, ↓sPar, ↓sPar3, ↓sSub, ↓sSub2, ↓sExpr, ↓sExprR, ↓sRetV, ↓sRetN, ↓sRaise, ↓sBrk, ↓sCt, ↓fOf, ↓fFz, ↓fName, ↓fFrz, ↓fC, ↓fBin, ↓fBinN, ↓fT, ↓fNot, ↓fAnd, ↓fOr, ↓fAndV, ↓fOrV, ↓fNotV, ↓fIf, ↓fIfN, ↓fChain, ↓fNil, ↓fCons, ↓fTup, ↓fLst, ↓fNeg, ↓fCall, ↓fIsI, ↓fJoin, ↓fApp, ↓fExt, ↓fPop, ↓fPopAt, ↓fSl, ↓fPart, ↓fNoPart, ↓fSeq, ↓fRng1, ↓fRng2, ↓fEnum, ↓fZip, ↓fGN, ↓fGT, ↓fGcons, ↓fGnil, ↓fLc, ↓fLl, ↓fYes, ↓fOwn, ↓fAt2, ↓fCount, ↓fIndex, ↓fRev, ↓fMulL, ↓fSel, ↓sTry, ↓fIsP, ↓isLk, ↓L3.gSub, ↓gMulI, ↓gDiv, ↓gMod, ↓gPow, ↓gLt, ↓gLe, ↓gGt, ↓gGe, ↓gI, ↓gIC, ↓gAdd, ↓gIx, ↓gSl, ↓gLen, ↓gAll, ↓gAny, ↓gSum, ↓gMin2, ↓gMax2, ↓gList, ↓gTuple, ↓gNe, ↓gNotIn, ↓gIs, ↓gIsNot, ↓isNone, ↓look, ↓withD, ↓isD, ↓isB, ↓areD, ↓withDs, ↓isBor, ↓isLst, ↓isLl, ↓isI, ↓items1, ↓itemsD, ↓argsM, ↓putB, ↓pjs, ↓outsOf, ↓fin, ↓startE, ↓wipeK, ↓wipeE, ↓unw, ↓noOwnB, gEq_ii, gEq_ss, gEq_bb, own_no, own_dat, own_lst, own_ll, List.getD_cons_zero, List.getD_cons_succ, List.set_cons_zero, List.set_cons_succ, List.replicate_succ, List.replicate_zero, List.cons_append, List.nil_append, List.length_cons, List.length_nil, List.map_cons, List.map_nil, List.all_cons, List.all_nil, Nat.reduceAdd, Nat.reduceSub, Bool.not_false, Bool.not_true, Bool.and_true, Bool.and_self, if_true, if_false, reduceCtorEq, List.zipIdx_cons, List.zipIdx_nil, List.filterMap_cons, List.filterMap_nil, Option.map_some, Option.map_none, decide_true, Nat.zero_add, reduceIte, Bool.false_eq_true, true_and, and_true]
  refine hN _ ?_
  clear hN N
  refine sSeq_g fun N hN => ?_
  simp only [sFor, ↓sRet, ↓sNil, ↓sIf, ↓sSet, ↓sAsg, ↓sPar, ↓sPar3, ↓sSub, ↓sSub2, ↓sExpr, ↓sExprR, ↓sRetV, ↓sRetN, ↓sRaise, ↓sBrk, ↓sCt, ↓fOf, ↓fFz, ↓fName, ↓fFrz, ↓fC, ↓fBin, ↓fBinN, ↓fT, ↓fNot, ↓fAnd, ↓fOr, ↓fAndV, ↓fOrV, ↓fNotV, ↓fIf, ↓fIfN, ↓fChain, ↓fNil, ↓fCons, ↓fTup, ↓fLst, ↓fNeg, ↓fCall, ↓fIsI, ↓fJoin, ↓fApp, ↓fExt, ↓fPop, ↓fPopAt, ↓fSl, ↓fPart, ↓fNoPart, ↓fSeq, ↓fRng1, ↓fRng2, ↓fEnum, ↓fZip, ↓fGN, ↓fGT, ↓fGcons, ↓fGnil, ↓fLc, ↓fLl, ↓fYes, ↓fOwn, ↓fAt2, ↓fCount, ↓fIndex, ↓fRev, ↓fMulL, ↓fSel, ↓sTry, ↓fIsP, ↓isLk, ↓L3.gSub, ↓gMulI, ↓gDiv, ↓gMod, ↓gPow, ↓gLt, ↓gLe, ↓gGt, ↓gGe, ↓gI, ↓gIC, ↓gAdd, ↓gIx, ↓gSl, ↓gLen, ↓gAll, ↓gAny, ↓gSum, ↓gMin2, ↓gMax2, ↓gList, ↓gTuple, ↓gNe, ↓gNotIn, ↓gIs, ↓gIsNot, ↓isNone, ↓look, ↓withD, ↓isD, ↓isB, ↓areD, ↓withDs, ↓isBor, ↓isLst, ↓isLl, ↓isI, ↓items1, ↓itemsD, ↓argsM, ↓putB, ↓pjs, ↓outsOf, ↓fin, ↓startE, ↓wipeK, ↓wipeE, ↓unw, ↓noOwnB, gEq_ii, gEq_ss, gEq_bb, own_no, own_dat, own_lst, own_ll, List.getD_cons_zero, List.getD_cons_succ, List.set_cons_zero, List.set_cons_succ, List.replicate_succ, List.replicate_zero, List.cons_append, List.nil_append, List.length_cons, List.length_nil, List.map_cons, List.map_nil, List.all_cons, List.all_nil, Nat.reduceAdd, Nat.reduceSub, Bool.not_false, Bool.not_true, Bool.and_true, Bool.and_self, if_true, if_false, reduceCtorEq, List.zipIdx_cons, List.zipIdx_nil, List.filterMap_cons, List.filterMap_nil, Option.map_some, Option.map_none, decide_true, Nat.zero_add, reduceIte, Bool.false_eq_true, true_and, and_true, encP]
  refine forR_inv (fun i ρ => ∃ x2 x3 x4, ρ = [.dat (encP p), .lst ((cellsTo p i).map encC), x2, x3, x4] ∧ x4.own = false) 0 (fun i d ρ M hd hP hM => ?_) ⟨_, _, _, rfl, rfl⟩ (fun ρ hP => ?_)
  · obtain ⟨x2, x3, x4, rfl, ho⟩ := hP
    rw [Nat.zero_add] at *
    have hi : i < p.length := by
      have z := (List.getElem?_eq_some_iff.mp hd).1
      rw [enumD_len, List.length_map] at z
      exact z
    have e : (p.map encL)[i]? = some (encL p[i]) := by rw [List.getElem?_map, List.getElem?_eq_getElem hi]; rfl
    rw [enumD_get e] at hd
    cases hd
    have hl := W.row _ (List.getElem_mem hi)
    have w8 := W.w8
    have h8 := W.h8
    simp only [sFor, ↓sRet, ↓sNil, ↓sIf, ↓sSet, ↓sAsg, ↓sPar, ↓sPar3, ↓sSub, ↓sSub2, ↓sExpr, ↓sExprR, ↓sRetV, ↓sRetN, ↓sRaise, ↓sBrk, ↓sCt, ↓fOf, ↓fFz, ↓fName, ↓fFrz, ↓fC, ↓fBin, ↓fBinN, ↓fT, ↓fNot, ↓fAnd, ↓fOr, ↓fAndV, ↓fOrV, ↓fNotV, ↓fIf, ↓fIfN, ↓fChain, ↓fNil, ↓fCons, ↓fTup, ↓fLst, ↓fNeg, ↓fCall, ↓fIsI, ↓fJoin, ↓fApp, ↓fExt, ↓fPop, ↓fPopAt, ↓fSl, ↓fPart, ↓fNoPart, ↓fSeq, ↓fRng1, ↓fRng2, ↓fEnum, ↓fZip, ↓fGN, ↓fGT, ↓fGcons, ↓fGnil, ↓fLc, ↓fLl, ↓fYes, ↓fOwn, ↓fAt2, ↓fCount, ↓fIndex, ↓fRev, ↓fMulL, ↓fSel, ↓sTry, ↓fIsP, ↓isLk, ↓L3.gSub, ↓gMulI, ↓gDiv, ↓gMod, ↓gPow, ↓gLt, ↓gLe, ↓gGt, ↓gGe, ↓gI, ↓gIC, ↓gAdd, ↓gIx, ↓gSl, ↓gLen, ↓gAll, ↓gAny, ↓gSum, ↓gMin2, ↓gMax2, ↓gList, ↓gTuple, ↓gNe, ↓gNotIn, ↓gIs, ↓gIsNot, ↓isNone, ↓look, ↓withD, ↓isD, ↓isB, ↓areD, ↓withDs, ↓isBor, ↓isLst, ↓isLl, ↓isI, ↓items1, ↓itemsD, ↓argsM, ↓putB, ↓pjs, ↓outsOf, ↓fin, ↓startE, ↓wipeK, ↓wipeE, ↓unw, ↓noOwnB, gEq_ii, gEq_ss, gEq_bb, own_no, own_dat, own_lst, own_ll, List.getD_cons_zero, List.getD_cons_succ, List.set_cons_zero, List.set_cons_succ, List.replicate_succ, List.replicate_zero, List.cons_append, List.nil_append, List.length_cons, List.length_nil, List.map_cons, List.map_nil, List.all_cons, List.all_nil, Nat.reduceAdd, Nat.reduceSub, Bool.not_false, Bool.not_true, Bool.and_true, Bool.and_self, if_true, if_false, reduceCtorEq, List.zipIdx_cons, List.zipIdx_nil, List.filterMap_cons, List.filterMap_nil, Option.map_some, Option.map_none, decide_true, Nat.zero_add, reduceIte, Bool.false_eq_true, true_and, and_true, ho, encL]
    have sl : (lineS p[i]).length = w := by rw [lineS_len, hl]
    refine ⟨by rw [sl]; exact Nat.le_of_lt (small (by omega)), b62 (by omega) (by rw [sl]; omega), by rw [rangeD_len, sl]; exact small (by omega), ?_⟩
    rw [rangeD_map]
    refine lcR_encF (fun c : Nat => PyData.int (c : Nat)) (fun c => p[i].getD c false) (fun c => encC (i, c)) (fun c hc k ht hf => ?_) ?_
    · have hc' : c < p[i].length := by
        have z := List.mem_range.mp hc
        rw [sl] at z
        omega
      simp only [lcStep, ↓sRet, ↓sNil, ↓sIf, ↓sSet, ↓sAsg, ↓sPar, ↓sPar3, ↓sSub, ↓sSub2, ↓sExpr, ↓sExprR, ↓sRetV, ↓sRetN, ↓sRaise, ↓sBrk, ↓sCt, ↓fOf, ↓fFz, ↓fName, ↓fFrz, ↓fC, ↓fBin, ↓fBinN, ↓fT, ↓fNot, ↓fAnd, ↓fOr, ↓fAndV, ↓fOrV, ↓fNotV, ↓fIf, ↓fIfN, ↓fChain, ↓fNil, ↓fCons, ↓fTup, ↓fLst, ↓fNeg, ↓fCall, ↓fIsI, ↓fJoin, ↓fApp, ↓fExt, ↓fPop, ↓fPopAt, ↓fSl, ↓fPart, ↓fNoPart, ↓fSeq, ↓fRng1, ↓fRng2, ↓fEnum, ↓fZip, ↓fGN, ↓fGT, ↓fGcons, ↓fGnil, ↓fLc, ↓fLl, ↓fYes, ↓fOwn, ↓fAt2, ↓fCount, ↓fIndex, ↓fRev, ↓fMulL, ↓fSel, ↓sTry, ↓fIsP, ↓isLk, ↓L3.gSub, ↓gMulI, ↓gDiv, ↓gMod, ↓gPow, ↓gLt, ↓gLe, ↓gGt, ↓gGe, ↓gI, ↓gIC, ↓gAdd, ↓gIx, ↓gSl, ↓gLen, ↓gAll, ↓gAny, ↓gSum, ↓gMin2, ↓gMax2, ↓gList, ↓gTuple, ↓gNe, ↓gNotIn, ↓gIs, ↓gIsNot, ↓isNone, ↓look, ↓withD, ↓isD, ↓isB, ↓areD, ↓withDs, ↓isBor, ↓isLst, ↓isLl, ↓isI, ↓items1, ↓itemsD, ↓argsM, ↓putB, ↓pjs, ↓outsOf, ↓fin, ↓startE, ↓wipeK, ↓wipeE, ↓unw, ↓noOwnB, gEq_ii, gEq_ss, gEq_bb, own_no, own_dat, own_lst, own_ll, List.getD_cons_zero, List.getD_cons_succ, List.set_cons_zero, List.set_cons_succ, List.replicate_succ, List.replicate_zero, List.cons_append, List.nil_append, List.length_cons, List.length_nil, List.map_cons, List.map_nil, List.all_cons, List.all_nil, Nat.reduceAdd, Nat.reduceSub, Bool.not_false, Bool.not_true, Bool.and_true, Bool.and_self, if_true, if_false, reduceCtorEq, List.zipIdx_cons, List.zipIdx_nil, List.filterMap_cons, List.filterMap_nil, Option.map_some, Option.map_none, decide_true, Nat.zero_add, reduceIte, Bool.false_eq_true, true_and, and_true]
      refine ⟨by rw [sl]; exact Nat.le_of_lt (small (by omega)), _, line_at hc', ?_⟩
      rw [is_hash]
      cases q : p[i].getD c false with
      | true => exact ht q
      | false => exact hf q
    · simp only [sFor, ↓sRet, ↓sNil, ↓sIf, ↓sSet, ↓sAsg, ↓sPar, ↓sPar3, ↓sSub, ↓sSub2, ↓sExpr, ↓sExprR, ↓sRetV, ↓sRetN, ↓sRaise, ↓sBrk, ↓sCt, ↓fOf, ↓fFz, ↓fName, ↓fFrz, ↓fC, ↓fBin, ↓fBinN, ↓fT, ↓fNot, ↓fAnd, ↓fOr, ↓fAndV, ↓fOrV, ↓fNotV, ↓fIf, ↓fIfN, ↓fChain, ↓fNil, ↓fCons, ↓fTup, ↓fLst, ↓fNeg, ↓fCall, ↓fIsI, ↓fJoin, ↓fApp, ↓fExt, ↓fPop, ↓fPopAt, ↓fSl, ↓fPart, ↓fNoPart, ↓fSeq, ↓fRng1, ↓fRng2, ↓fEnum, ↓fZip, ↓fGN, ↓fGT, ↓fGcons, ↓fGnil, ↓fLc, ↓fLl, ↓fYes, ↓fOwn, ↓fAt2, ↓fCount, ↓fIndex, ↓fRev, ↓fMulL, ↓fSel, ↓sTry, ↓fIsP, ↓isLk, ↓L3.gSub, ↓gMulI, ↓gDiv, ↓gMod, ↓gPow, ↓gLt, ↓gLe, ↓gGt, ↓gGe, ↓gI, ↓gIC, ↓gAdd, ↓gIx, ↓gSl, ↓gLen, ↓gAll, ↓gAny, ↓gSum, ↓gMin2, ↓gMax2, ↓gList, ↓gTuple, ↓gNe, ↓gNotIn, ↓gIs, ↓gIsNot, ↓isNone, ↓look, ↓withD, ↓isD, ↓isB, ↓areD, ↓withDs, ↓isBor, ↓isLst, ↓isLl, ↓isI, ↓items1, ↓itemsD, ↓argsM, ↓putB, ↓pjs, ↓outsOf, ↓fin, ↓startE, ↓wipeK, ↓wipeE, ↓unw, ↓noOwnB, gEq_ii, gEq_ss, gEq_bb, own_no, own_dat, own_lst, own_ll, List.getD_cons_zero, List.getD_cons_succ, List.set_cons_zero, List.set_cons_succ, List.replicate_succ, List.replicate_zero, List.cons_append, List.nil_append, List.length_cons, List.length_nil, List.map_cons, List.map_nil, List.all_cons, List.all_nil, Nat.reduceAdd, Nat.reduceSub, Bool.not_false, Bool.not_true, Bool.and_true, Bool.and_self, if_true, if_false, reduceCtorEq, List.zipIdx_cons, List.zipIdx_nil, List.filterMap_cons, List.filterMap_nil, Option.map_some, Option.map_none, decide_true, Nat.zero_add, reduceIte, Bool.false_eq_true, true_and, and_true, ho]
      have e1 : (List.filter (fun c => p[i].getD c false) (List.range ((lineS p[i]).length : Int).toNat)).map (fun c => encC (i, c)) = (rowCells i (p.getD i [])).map encC := by
        unfold rowCells
        rw [List.getD_eq_getElem?_getD (l := p), List.getElem?_eq_getElem hi, List.map_map, lineS_len]
        rfl
      rw [e1]
      have l1 := cellsTo_len (p := p) (w := w) (fun r hr => Nat.le_of_eq (W.row r hr)) i
      have l2 : (rowCells i (p.getD i [])).length ≤ w := by
        rw [List.getD_eq_getElem?_getD, List.getElem?_eq_getElem hi]
        exact Nat.le_trans (rowCells_len _ _) (Nat.le_of_eq hl)
      have l3 : i * w ≤ 8 * 8 := Nat.mul_le_mul (by have := W.len; omega) w8
      refine ⟨by rw [List.length_map, List.length_map]; exact Nat.le_of_lt (small (by omega)), ?_⟩
      refine hM _ ⟨.dat (.int (i : Nat)), .dat (encL p[i]), x4, ?_, ho⟩
      rw [cellsTo_succ, List.map_append]
      rfl
  · obtain ⟨x2, x3, x4, rfl, ho⟩ := hP
    refine hN _ ?_
    simp only [sFor, ↓sRet, ↓sNil, ↓sIf, ↓sSet, ↓sAsg, ↓sPar, ↓sPar3, ↓sSub, ↓sSub2, ↓sExpr, ↓sExprR, ↓sRetV, ↓sRetN, ↓sRaise, ↓sBrk, ↓sCt, ↓fOf, ↓fFz, ↓fName, ↓fFrz, ↓fC, ↓fBin, ↓fBinN, ↓fT, ↓fNot, ↓fAnd, ↓fOr, ↓fAndV, ↓fOrV, ↓fNotV, ↓fIf, ↓fIfN, ↓fChain, ↓fNil, ↓fCons, ↓fTup, ↓fLst, ↓fNeg, ↓fCall, ↓fIsI, ↓fJoin, ↓fApp, ↓fExt, ↓fPop, ↓fPopAt, ↓fSl, ↓fPart, ↓fNoPart, ↓fSeq, ↓fRng1, ↓fRng2, ↓fEnum, ↓fZip, ↓fGN, ↓fGT, ↓fGcons, ↓fGnil, ↓fLc, ↓fLl, ↓fYes, ↓fOwn, ↓fAt2, ↓fCount, ↓fIndex, ↓fRev, ↓fMulL, ↓fSel, ↓sTry, ↓fIsP, ↓isLk, ↓L3.gSub, ↓gMulI, ↓gDiv, ↓gMod, ↓gPow, ↓gLt, ↓gLe, ↓gGt, ↓gGe, ↓gI, ↓gIC, ↓gAdd, ↓gIx, ↓gSl, ↓gLen, ↓gAll, ↓gAny, ↓gSum, ↓gMin2, ↓gMax2, ↓gList, ↓gTuple, ↓gNe, ↓gNotIn, ↓gIs, ↓gIsNot, ↓isNone, ↓look, ↓withD, ↓isD, ↓isB, ↓areD, ↓withDs, ↓isBor, ↓isLst, ↓isLl, ↓isI, ↓items1, ↓itemsD, ↓argsM, ↓putB, ↓pjs, ↓outsOf, ↓fin, ↓startE, ↓wipeK, ↓wipeE, ↓unw, ↓noOwnB, gEq_ii, gEq_ss, gEq_bb, own_no, own_dat, own_lst, own_ll, List.getD_cons_zero, List.getD_cons_succ, List.set_cons_zero, List.set_cons_succ, List.replicate_succ, List.replicate_zero, List.cons_append, List.nil_append, List.length_cons, List.length_nil, List.map_cons, List.map_nil, List.all_cons, List.all_nil, Nat.reduceAdd, Nat.reduceSub, Bool.not_false, Bool.not_true, Bool.and_true, Bool.and_self, if_true, if_false, reduceCtorEq, List.zipIdx_cons, List.zipIdx_nil, List.filterMap_cons, List.filterMap_nil, Option.map_some, Option.map_none, decide_true, Nat.zero_add, reduceIte, Bool.false_eq_true, true_and, and_true]
    have e : (enumD (p.map encL)).length = p.length := by rw [enumD_len, List.length_map]
    rw [e]
    exact hp
/-! ### found -/
theorem Wf.isPic {h w : Nat} {p : List (List Bool)} (W : Wf h w p) : isPicD (encP p) = true := by
  have hl : ∀ d ∈ p.map encL, isLineD d = true ∧ lenD d = w := fun d hd => by
    obtain ⟨r, hr, rfl⟩ := List.mem_map.mp hd
    have e := W.row r hr
    refine ⟨?_, by show (lineS r).length = w; rw [lineS_len, e]⟩
    show isLineS (lineS r) = true
    unfold isLineS
    rw [lineS_len, e, decide_eq_true W.w1, decide_eq_true W.w8, lineS_cps, Bool.true_and, Bool.true_and, List.all_map, List.all_eq_true]
    intro b _
    cases b <;> decide
  show isPicL (p.map encL) = true
  have l := W.len
  unfold isPicL
  rw [List.length_map, l, decide_eq_true W.h1, decide_eq_true W.h8, Bool.true_and, Bool.true_and, Bool.and_eq_true, List.all_eq_true, List.all_eq_true]
  refine ⟨fun d hd => (hl d hd).1, fun d hd => decide_eq_true ?_⟩
  rw [(hl d hd).2]
  have h0 : 0 < (p.map encL).length := by rw [List.length_map, l]; exact W.h1
  rw [List.getD_eq_getElem?_getD, List.getElem?_eq_getElem h0]
  exact (hl _ (List.getElem_mem h0)).2.symm
theorem Wf.smallP {h w : Nat} {p : List (List Bool)} (W : Wf h w p) : smallP (encP p) := fun d hd => by
  obtain ⟨r, hr, rfl⟩ := List.mem_map.mp hd
  show (lineS r).length ≤ sizeLine
  rw [lineS_len, W.row r hr]
  exact Nat.le_of_lt (small (by have := W.w8; omega))
theorem Wf.head {h w : Nat} {p : List (List Bool)} (W : Wf h w p) : ∃ l, atI (p.map encL) 0 = some (encL l) ∧ l.length = w ∧ p[0]? = some l := by
  have h0 : 0 < p.length := by rw [W.len]; exact W.h1
  refine ⟨p[0], ?_, W.row _ (List.getElem_mem h0), List.getElem?_eq_getElem h0⟩
  exact atI_nat (j := 0) (by rw [List.getElem?_map, List.getElem?_eq_getElem h0]; rfl)
theorem lineS_inj {a b : List Bool} (h : lineS a = lineS b) : a = b := by
  have e : a.map sg = b.map sg := by
    have z := congrArg (fun s : Str => s.cps.toList) h
    simpa [lineS] using z
  have inj : ∀ x y : Bool, sg x = sg y → x = y := fun x y h => by cases x <;> cases y <;> first | rfl | cases h
  clear h
  induction a generalizing b with
  | nil => cases b with
    | nil => rfl
    | cons _ _ => cases e
  | cons x a ih => cases b with
    | nil => cases e
    | cons y b =>
      rw [List.map_cons, List.map_cons] at e
      injection e with e1 e2
      rw [inj x y e1, ih e2]
theorem lines_inj : ∀ {p q : List (List Bool)}, p.map lineS = q.map lineS → p = q
  | [], [], _ => rfl
  | [], _ :: _, h => by cases h
  | _ :: _, [], h => by cases h
  | a :: p, b :: q, h => by
    rw [List.map_cons, List.map_cons] at h
    injection h with h1 h2
    rw [lineS_inj h1, lines_inj h2]
theorem encP_toD (p : List (List Bool)) : encP p = PySem.W.Datum.toD (PySem.W.Tup.mk (p.map lineS)) := by
  show PyData.tuple (p.map encL) = PyData.tuple ((p.map lineS).map PyData.str)
  rw [List.map_map]
  rfl
theorem tup_eq {p q : List (List Bool)} : decide (PySem.W.Tup.mk (p.map lineS) = PySem.W.Tup.mk (q.map lineS)) = decide (p = q) := decide_eq_decide.mpr ⟨fun e => lines_inj (by injection e), fun e => by rw [e]⟩
theorem gEq_pic {p q : List (List Bool)} {Q : PyData → Prop} (h : Q (.bool (decide (p = q)))) : gEq (encP p) (encP q) Q := by
  rw [encP_toD, encP_toD]
  exact gEq_dat (by rw [tup_eq]; exact h)
theorem gNe_pic {p q : List (List Bool)} {Q : PyData → Prop} (h : Q (.bool (!decide (p = q)))) : gNe (encP p) (encP q) Q := gEq_pic (Q := fun r => isB r fun b => Q (.bool (!b))) h
theorem encC_inj {a b : Cell} : ((a.1 : Int), (a.2 : Int)) = ((b.1 : Int), (b.2 : Int)) ↔ a = b := by
  constructor
  · intro h
    have h1 := congrArg Prod.fst h
    have h2 := congrArg Prod.snd h
    exact Prod.ext (Int.ofNat.inj h1) (Int.ofNat.inj h2)
  · intro h; rw [h]
def cI (c : Cell) : Int × Int := ((c.1 : Int), (c.2 : Int))
theorem cI_inj {a b : Cell} (h : cI a = cI b) : a = b := encC_inj.mp h
theorem encC_toD (c : Cell) : encC c = PySem.W.Datum.toD (cI c) := rfl
theorem encCs_toD (cs : List Cell) : cs.map encC = (cs.map cI).map PySem.W.Datum.toD := by rw [List.map_map]; rfl
theorem map_inj {α β : Type} {f : α → β} (hf : ∀ a b, f a = f b → a = b) : ∀ {p q : List α}, p.map f = q.map f → p = q
  | [], [], _ => rfl
  | [], _ :: _, h => by cases h
  | _ :: _, [], h => by cases h
  | a :: p, b :: q, h => by
    rw [List.map_cons, List.map_cons] at h
    injection h with h1 h2
    rw [hf _ _ h1, map_inj hf h2]
theorem gEq_cells {p q : List Cell} {Q : PyData → Prop} (h : Q (.bool (decide (p = q)))) : gEq (.list (p.map encC)) (.list (q.map encC)) Q := by
  rw [encCs_toD, encCs_toD]
  refine gEq_dat (α := List (Int × Int)) ?_
  rw [show decide (p.map cI = q.map cI) = decide (p = q) from decide_eq_decide.mpr ⟨fun e => map_inj (fun _ _ => cI_inj) e, fun e => by rw [e]⟩]
  exact h
theorem gNe_cells {p q : List Cell} {Q : PyData → Prop} (h : Q (.bool (!decide (p = q)))) : gNe (.list (p.map encC)) (.list (q.map encC)) Q := gEq_cells (Q := fun r => isB r fun b => Q (.bool (!b))) h
theorem gIn_cell {c : Cell} {cs : List Cell} {Q : PyData → Prop} (h : Q (.bool (decide (c ∈ cs)))) : gIn (encC c) (.list (cs.map encC)) Q := by
  rw [encCs_toD, encC_toD]
  refine gIn_dat ?_
  refine Eq.mp (congrArg (fun b => Q (PyData.bool b)) (decide_eq_decide.mpr ⟨fun e => List.mem_map.mpr ⟨c, e, rfl⟩, fun e => ?_⟩)) h
  obtain ⟨d, hd, e⟩ := List.mem_map.mp e
  rw [← cI_inj e]; exact hd
theorem gNotIn_cell {c : Cell} {cs : List Cell} {Q : PyData → Prop} (h : Q (.bool (!decide (c ∈ cs)))) : gNotIn (encC c) (.list (cs.map encC)) Q := gIn_cell (Q := fun r => isB r fun b => Q (.bool (!b))) h
def T_found_at (cs : Cs) : TXS :=
  (sSeq (sExpr (fOwn [none] (dsp_need_picture cs) (fCons (fName 0) fNil)))
  (sSeq (sExpr (fOwn [none] (dsp_need_picture cs) (fCons (fName 1) fNil)))
  (sSeq (sPar 2 3 (fCons (fFz (fCall gLen (fCons (fName 1) fNil))) (fCons (fFz (fCall gLen (fCons (fBin gIx (fName 1) (fC (.int 0))) fNil))) fNil)))
  (sSeq (sSet 4 (fLst fNil))
  (sSeq (sFor (fRng1 (fCons (fFz (fBinN gAdd (fBin gSub (fFz (fCall gLen (fCons (fName 0) fNil))) (fName 2)) (fC (.int 1)))) fNil)) (fGN 5) (sFor (fRng1 (fCons (fFz (fBinN gAdd (fBin gSub (fFz (fCall gLen (fCons (fBin gIx (fName 0) (fC (.int 0))) fNil))) (fName 3)) (fC (.int 1)))) fNil)) (fGN 6) (sIf (fT (fBin gEq (fFz (fOwn [none, none, none, none, none] (dsp_part_at) (fCons (fName 0) (fCons (fName 5) (fCons (fName 6) (fCons (fName 2) (fCons (fName 3) fNil))))))) (fName 1))) (sExprR (fApp (fName 4) (fTup (fCons (fName 5) (fCons (fName 6) fNil))))) sNil)))
  (sRetV 4))))))

def foundIn (p q : List (List Bool)) (h w : Nat) (nc r : Nat) : List Cell := ((List.range nc).filter fun c => decide (partOf p r c h w = q)).map fun c => (r, c)
/-- where q stands in p: nr rows and nc columns are tried -/
def foundL (p q : List (List Bool)) (h w nc : Nat) (i : Nat) : List Cell := (List.range i).flatMap fun r => foundIn p q h w nc r
theorem foundL_succ (p q : List (List Bool)) (h w nc i : Nat) : foundL p q h w nc (i + 1) = foundL p q h w nc i ++ foundIn p q h w nc i := by
  unfold foundL
  rw [List.range_succ, List.flatMap_append]
  simp
theorem foundIn_succ (p q : List (List Bool)) (h w r j : Nat) : foundIn p q h w (j + 1) r = foundIn p q h w j r ++ (if partOf p r j h w = q then [(r, j)] else []) := by
  unfold foundIn
  rw [List.range_succ, List.filter_append, List.map_append]
  by_cases e : partOf p r j h w = q
  · simp [e]
  · simp [e]
theorem foundIn_len (p q : List (List Bool)) (h w nc r : Nat) : (foundIn p q h w nc r).length ≤ nc := by
  unfold foundIn
  rw [List.length_map]
  exact Nat.le_trans (List.length_filter_le _ _) (by rw [List.length_range]; exact Nat.le_refl _)
theorem foundL_len (p q : List (List Bool)) (h w nc : Nat) : ∀ i, (foundL p q h w nc i).length ≤ i * nc
  | 0 => by simp [foundL]
  | i + 1 => by
    rw [foundL_succ, List.length_append, Nat.succ_mul]
    have h1 := foundL_len p q h w nc i
    have h2 := foundIn_len p q h w nc i
    omega
def foundAt (p q : List (List Bool)) (H W h w : Nat) : List Cell := foundL p q h w (W + 1 - w) (H + 1 - h)
def dspV_found_at (cs : Cs) : DSp := fun es post _ => ∃ (p q : List (List Bool)) (H W h w : Nat), es = [.dat (encP p), .dat (encP q)] ∧ Wf H W p ∧ Wf h w q ∧ post (.lst ((foundAt p q H W h w).map encC)) []
/-- a loop that tries: the rows -/
theorem goodV_found_at (cs : Cs) : Good [] 7 2 (T_found_at cs) (dspV_found_at cs) := by
  rintro es post xp ⟨p, q, H, W, h, w, rfl, WP, WQ, hp⟩ _
  unfold T_found_at
  refine sSeq_g fun N hN => ?_
  simp only [sFor, ↓sRet, ↓sNil, ↓sIf, ↓sSet, ↓sAsg, ↓sPar, ↓sPar3, ↓sSub, ↓sSub2, ↓sExpr, ↓sExprR, ↓sRetV, ↓sRetN, ↓sRaise, ↓sBrk, ↓sCt, ↓fOf, ↓fFz, ↓fName, ↓fFrz, ↓fC, ↓fBin, ↓fBinN, ↓fT, ↓fNot, ↓fAnd, ↓fOr, ↓fAndV, ↓fOrV, ↓fNotV, ↓fIf, ↓fIfN, ↓fChain, ↓fNil, ↓fCons, ↓fTup, ↓fLst, ↓fNeg, ↓fCall, ↓fIsI, ↓fJoin, ↓fApp, ↓fExt, ↓fPop, ↓fPopAt, ↓fSl, ↓fPart, ↓fNoPart, ↓fSeq, ↓fRng1, ↓fRng2, ↓fEnum, ↓fZip, ↓fGN, ↓fGT, ↓fGcons, ↓fGnil, ↓fLc, ↓fLl, ↓fYes, ↓fOwn, ↓fAt2, ↓fCount, ↓fIndex, ↓fRev, ↓fMulL, ↓fSel, ↓sTry, ↓fIsP, ↓isLk, ↓L3.gSub, ↓gMulI, ↓gDiv, ↓gMod, ↓gPow, ↓gLt, ↓gLe, ↓gGt, ↓gGe, ↓gI, ↓gIC, ↓gAdd, ↓gIx, ↓gSl, ↓gLen, ↓gAll, ↓gAny, ↓gSum, ↓gMin2, ↓gMax2, ↓gList, ↓gTuple, ↓gNe, ↓gNotIn, ↓gIs, ↓gIsNot, ↓isNone, ↓look, ↓withD, ↓isD, ↓isB, ↓areD, ↓withDs, ↓isBor, ↓isLst, ↓isLl, ↓isI, ↓items1, ↓itemsD, ↓argsM, ↓putB, ↓pjs, ↓outsOf, ↓fin, ↓startE, ↓wipeK, ↓wipeE, ↓unw, ↓noOwnB, gEq_ii, gEq_ss, gEq_bb, own_no, own_dat, own_lst, own_ll, List.getD_cons_zero, List.getD_cons_succ, List.set_cons_zero, List.set_cons_succ, List.replicate_succ, List.replicate_zero, List.cons_append, List.nil_append, List.length_cons, List.length_nil, List.map_cons, List.map_nil, List.all_cons, List.all_nil, Nat.reduceAdd, Nat.reduceSub, Bool.not_false, Bool.not_true, Bool.and_true, Bool.and_self, if_true, if_false, reduceCtorEq, List.zipIdx_cons, List.zipIdx_nil, List.filterMap_cons, List.filterMap_nil, Option.map_some, Option.map_none, decide_true, Nat.zero_add, reduceIte, Bool.false_eq_true, true_and, and_true, dsp_need_picture]
  refine ⟨_, rfl, WP.smallP, fun _ => hN _ ?_, fun z => by rw [WP.isPic] at z; cases z⟩
  clear hN N
  refine sSeq_g fun N hN => ?_
  simp only [sFor, ↓sRet, ↓sNil, ↓sIf, ↓sSet, ↓sAsg, ↓sPar, ↓sPar3, ↓sSub, ↓sSub2, ↓sExpr, ↓sExprR, ↓sRetV, ↓sRetN, ↓sRaise, ↓sBrk, ↓sCt, ↓fOf, ↓fFz, ↓fName, ↓fFrz, ↓fC, ↓fBin, ↓fBinN, ↓fT, ↓fNot, ↓fAnd, ↓fOr, ↓fAndV, ↓fOrV, ↓fNotV, ↓fIf, ↓fIfN, ↓fChain, ↓fNil, ↓fCons, ↓fTup, ↓fLst, ↓fNeg, ↓fCall, ↓fIsI, ↓fJoin, ↓fApp, ↓fExt, ↓fPop, ↓fPopAt, ↓fSl, ↓fPart, ↓fNoPart, ↓fSeq, ↓fRng1, ↓fRng2, ↓fEnum, ↓fZip, ↓fGN, ↓fGT, ↓fGcons, ↓fGnil, ↓fLc, ↓fLl, ↓fYes, ↓fOwn, ↓fAt2, ↓fCount, ↓fIndex, ↓fRev, ↓fMulL, ↓fSel, ↓sTry, ↓fIsP, ↓isLk, ↓L3.gSub, ↓gMulI, ↓gDiv, ↓gMod, ↓gPow, ↓gLt, ↓gLe, ↓gGt, ↓gGe, ↓gI, ↓gIC, ↓gAdd, ↓gIx, ↓gSl, ↓gLen, ↓gAll, ↓gAny, ↓gSum, ↓gMin2, ↓gMax2, ↓gList, ↓gTuple, ↓gNe, ↓gNotIn, ↓gIs, ↓gIsNot, ↓isNone, ↓look, ↓withD, ↓isD, ↓isB, ↓areD, ↓withDs, ↓isBor, ↓isLst, ↓isLl, ↓isI, ↓items1, ↓itemsD, ↓argsM, ↓putB, ↓pjs, ↓outsOf, ↓fin, ↓startE, ↓wipeK, ↓wipeE, ↓unw, ↓noOwnB, gEq_ii, gEq_ss, gEq_bb, own_no, own_dat, own_lst, own_ll, List.getD_cons_zero, List.getD_cons_succ, List.set_cons_zero, List.set_cons_succ, List.replicate_succ, List.replicate_zero, List.cons_append, List.nil_append, List.length_cons, List.length_nil, List.map_cons, List.map_nil, List.all_cons, List.all_nil, Nat.reduceAdd, Nat.reduceSub, Bool.not_false, Bool.not_true, Bool.and_true, Bool.and_self, if_true, if_false, reduceCtorEq, List.zipIdx_cons, List.zipIdx_nil, List.filterMap_cons, List.filterMap_nil, Option.map_some, Option.map_none, decide_true, Nat.zero_add, reduceIte, Bool.false_eq_true, true_and, and_true, dsp_need_picture]
  refine ⟨_, rfl, WQ.smallP, fun _ => hN _ ?_, fun z => by rw [WQ.isPic] at z; cases z⟩
  clear hN N
  obtain ⟨lq, hq0, hql, _⟩ := WQ.head
  obtain ⟨lp, hp0, hpl, _⟩ := WP.head
  have eH := WP.len
  have eh := WQ.len
  have b1 := WP.h8
  have b2 := WP.w8
  have b3 := WQ.h8
  have b4 := WQ.w8
  refine sSeq_g fun N hN => ?_
  simp only [sFor, ↓sRet, ↓sNil, ↓sIf, ↓sSet, ↓sAsg, ↓sPar, ↓sPar3, ↓sSub, ↓sSub2, ↓sExpr, ↓sExprR, ↓sRetV, ↓sRetN, ↓sRaise, ↓sBrk, ↓sCt, ↓fOf, ↓fFz, ↓fName, ↓fFrz, ↓fC, ↓fBin, ↓fBinN, ↓fT, ↓fNot, ↓fAnd, ↓fOr, ↓fAndV, ↓fOrV, ↓fNotV, ↓fIf, ↓fIfN, ↓fChain, ↓fNil, ↓fCons, ↓fTup, ↓fLst, ↓fNeg, ↓fCall, ↓fIsI, ↓fJoin, ↓fApp, ↓fExt, ↓fPop, ↓fPopAt, ↓fSl, ↓fPart, ↓fNoPart, ↓fSeq, ↓fRng1, ↓fRng2, ↓fEnum, ↓fZip, ↓fGN, ↓fGT, ↓fGcons, ↓fGnil, ↓fLc, ↓fLl, ↓fYes, ↓fOwn, ↓fAt2, ↓fCount, ↓fIndex, ↓fRev, ↓fMulL, ↓fSel, ↓sTry, ↓fIsP, ↓isLk, ↓L3.gSub, ↓gMulI, ↓gDiv, ↓gMod, ↓gPow, ↓gLt, ↓gLe, ↓gGt, ↓gGe, ↓gI, ↓gIC, ↓gAdd, ↓gIx, ↓gSl, ↓gLen, ↓gAll, ↓gAny, ↓gSum, ↓gMin2, ↓gMax2, ↓gList, ↓gTuple, ↓gNe, ↓gNotIn, ↓gIs, ↓gIsNot, ↓isNone, ↓look, ↓withD, ↓isD, ↓isB, ↓areD, ↓withDs, ↓isBor, ↓isLst, ↓isLl, ↓isI, ↓items1, ↓itemsD, ↓argsM, ↓putB, ↓pjs, ↓outsOf, ↓fin, ↓startE, ↓wipeK, ↓wipeE, ↓unw, ↓noOwnB, gEq_ii, gEq_ss, gEq_bb, own_no, own_dat, own_lst, own_ll, List.getD_cons_zero, List.getD_cons_succ, List.set_cons_zero, List.set_cons_succ, List.replicate_succ, List.replicate_zero, List.cons_append, List.nil_append, List.length_cons, List.length_nil, List.map_cons, List.map_nil, List.all_cons, List.all_nil, Nat.reduceAdd, Nat.reduceSub, Bool.not_false, Bool.not_true, Bool.and_true, Bool.and_self, if_true, if_false, reduceCtorEq, List.zipIdx_cons, List.zipIdx_nil, List.filterMap_cons, List.filterMap_nil, Option.map_some, Option.map_none, decide_true, Nat.zero_add, reduceIte, Bool.false_eq_true, true_and, and_true, encP]
  refine ⟨_, hq0, ?_⟩
  simp only [encL, lineS_len, List.length_map]
  refine ⟨Nat.le_of_lt (small (by omega)), hN _ ?_⟩
  clear hN N
  refine sSeq_g fun N hN => ?_
  simp only [sFor, ↓sRet, ↓sNil, ↓sIf, ↓sSet, ↓sAsg, ↓sPar, ↓sPar3, ↓sSub, ↓sSub2, ↓sExpr, ↓sExprR, ↓sRetV, ↓sRetN, ↓sRaise, ↓sBrk, ↓sCt, ↓fOf, ↓fFz, ↓fName, ↓fFrz, ↓fC, ↓fBin, ↓fBinN, ↓fT, ↓fNot, ↓fAnd, ↓fOr, ↓fAndV, ↓fOrV, ↓fNotV, ↓fIf, ↓fIfN, ↓fChain, ↓fNil, ↓fCons, ↓fTup, ↓fLst, ↓fNeg, ↓fCall, ↓fIsI, ↓fJoin, ↓fApp, ↓fExt, ↓fPop, ↓fPopAt, ↓fSl, ↓fPart, ↓fNoPart, ↓fSeq, ↓fRng1, ↓fRng2, ↓fEnum, ↓fZip, ↓fGN, ↓fGT, ↓fGcons, ↓fGnil, ↓fLc, ↓fLl, ↓fYes, ↓fOwn, ↓fAt2, ↓fCount, ↓fIndex, ↓fRev, ↓fMulL, ↓fSel, ↓sTry, ↓fIsP, ↓isLk, ↓L3.gSub, ↓gMulI, ↓gDiv, ↓gMod, ↓gPow, ↓gLt, ↓gLe, ↓gGt, ↓gGe, ↓gI, ↓gIC, ↓gAdd, ↓gIx, ↓gSl, ↓gLen, ↓gAll, ↓gAny, ↓gSum, ↓gMin2, ↓gMax2, ↓gList, ↓gTuple, ↓gNe, ↓gNotIn, ↓gIs, ↓gIsNot, ↓isNone, ↓look, ↓withD, ↓isD, ↓isB, ↓areD, ↓withDs, ↓isBor, ↓isLst, ↓isLl, ↓isI, ↓items1, ↓itemsD, ↓argsM, ↓putB, ↓pjs, ↓outsOf, ↓fin, ↓startE, ↓wipeK, ↓wipeE, ↓unw, ↓noOwnB, gEq_ii, gEq_ss, gEq_bb, own_no, own_dat, own_lst, own_ll, List.getD_cons_zero, List.getD_cons_succ, List.set_cons_zero, List.set_cons_succ, List.replicate_succ, List.replicate_zero, List.cons_append, List.nil_append, List.length_cons, List.length_nil, List.map_cons, List.map_nil, List.all_cons, List.all_nil, Nat.reduceAdd, Nat.reduceSub, Bool.not_false, Bool.not_true, Bool.and_true, Bool.and_self, if_true, if_false, reduceCtorEq, List.zipIdx_cons, List.zipIdx_nil, List.filterMap_cons, List.filterMap_nil, Option.map_some, Option.map_none, decide_true, Nat.zero_add, reduceIte, Bool.false_eq_true, true_and, and_true]
  refine hN _ ?_
  clear hN N
  refine sSeq_g fun N hN => ?_
  simp only [sFor, ↓sRet, ↓sNil, ↓sIf, ↓sSet, ↓sAsg, ↓sPar, ↓sPar3, ↓sSub, ↓sSub2, ↓sExpr, ↓sExprR, ↓sRetV, ↓sRetN, ↓sRaise, ↓sBrk, ↓sCt, ↓fOf, ↓fFz, ↓fName, ↓fFrz, ↓fC, ↓fBin, ↓fBinN, ↓fT, ↓fNot, ↓fAnd, ↓fOr, ↓fAndV, ↓fOrV, ↓fNotV, ↓fIf, ↓fIfN, ↓fChain, ↓fNil, ↓fCons, ↓fTup, ↓fLst, ↓fNeg, ↓fCall, ↓fIsI, ↓fJoin, ↓fApp, ↓fExt, ↓fPop, ↓fPopAt, ↓fSl, ↓fPart, ↓fNoPart, ↓fSeq, ↓fRng1, ↓fRng2, ↓fEnum, ↓fZip, ↓fGN, ↓fGT, ↓fGcons, ↓fGnil, ↓fLc, ↓fLl, ↓fYes, ↓fOwn, ↓fAt2, ↓fCount, ↓fIndex, ↓fRev, ↓fMulL, ↓fSel, ↓sTry, ↓fIsP, ↓isLk, ↓L3.gSub, ↓gMulI, ↓gDiv, ↓gMod, ↓gPow, ↓gLt, ↓gLe, ↓gGt, ↓gGe, ↓gI, ↓gIC, ↓gAdd, ↓gIx, ↓gSl, ↓gLen, ↓gAll, ↓gAny, ↓gSum, ↓gMin2, ↓gMax2, ↓gList, ↓gTuple, ↓gNe, ↓gNotIn, ↓gIs, ↓gIsNot, ↓isNone, ↓look, ↓withD, ↓isD, ↓isB, ↓areD, ↓withDs, ↓isBor, ↓isLst, ↓isLl, ↓isI, ↓items1, ↓itemsD, ↓argsM, ↓putB, ↓pjs, ↓outsOf, ↓fin, ↓startE, ↓wipeK, ↓wipeE, ↓unw, ↓noOwnB, gEq_ii, gEq_ss, gEq_bb, own_no, own_dat, own_lst, own_ll, List.getD_cons_zero, List.getD_cons_succ, List.set_cons_zero, List.set_cons_succ, List.replicate_succ, List.replicate_zero, List.cons_append, List.nil_append, List.length_cons, List.length_nil, List.map_cons, List.map_nil, List.all_cons, List.all_nil, Nat.reduceAdd, Nat.reduceSub, Bool.not_false, Bool.not_true, Bool.and_true, Bool.and_self, if_true, if_false, reduceCtorEq, List.zipIdx_cons, List.zipIdx_nil, List.filterMap_cons, List.filterMap_nil, Option.map_some, Option.map_none, decide_true, Nat.zero_add, reduceIte, Bool.false_eq_true, true_and, and_true, encP, List.length_map]
  refine ⟨b62 (by omega) (by omega), ?_⟩
  rw [hql]
  refine forR_inv (fun i ρ => ∃ x5 x6, ρ = [.dat (encP p), .dat (encP q), .dat (.int q.length), .dat (.int w), .lst ((foundL p q h w (W + 1 - w) i).map encC), x5, x6]) 0 (fun i d ρ M hd hP hM => ?_) ⟨_, _, rfl⟩ (fun ρ hP => ?_)
  · obtain ⟨x5, x6, rfl⟩ := hP
    obtain ⟨hi, rfl⟩ := rangeD_get hd
    rw [Nat.zero_add] at *
    rw [Int.zero_add] at *
    simp only [sFor, ↓sRet, ↓sNil, ↓sIf, ↓sSet, ↓sAsg, ↓sPar, ↓sPar3, ↓sSub, ↓sSub2, ↓sExpr, ↓sExprR, ↓sRetV, ↓sRetN, ↓sRaise, ↓sBrk, ↓sCt, ↓fOf, ↓fFz, ↓fName, ↓fFrz, ↓fC, ↓fBin, ↓fBinN, ↓fT, ↓fNot, ↓fAnd, ↓fOr, ↓fAndV, ↓fOrV, ↓fNotV, ↓fIf, ↓fIfN, ↓fChain, ↓fNil, ↓fCons, ↓fTup, ↓fLst, ↓fNeg, ↓fCall, ↓fIsI, ↓fJoin, ↓fApp, ↓fExt, ↓fPop, ↓fPopAt, ↓fSl, ↓fPart, ↓fNoPart, ↓fSeq, ↓fRng1, ↓fRng2, ↓fEnum, ↓fZip, ↓fGN, ↓fGT, ↓fGcons, ↓fGnil, ↓fLc, ↓fLl, ↓fYes, ↓fOwn, ↓fAt2, ↓fCount, ↓fIndex, ↓fRev, ↓fMulL, ↓fSel, ↓sTry, ↓fIsP, ↓isLk, ↓L3.gSub, ↓gMulI, ↓gDiv, ↓gMod, ↓gPow, ↓gLt, ↓gLe, ↓gGt, ↓gGe, ↓gI, ↓gIC, ↓gAdd, ↓gIx, ↓gSl, ↓gLen, ↓gAll, ↓gAny, ↓gSum, ↓gMin2, ↓gMax2, ↓gList, ↓gTuple, ↓gNe, ↓gNotIn, ↓gIs, ↓gIsNot, ↓isNone, ↓look, ↓withD, ↓isD, ↓isB, ↓areD, ↓withDs, ↓isBor, ↓isLst, ↓isLl, ↓isI, ↓items1, ↓itemsD, ↓argsM, ↓putB, ↓pjs, ↓outsOf, ↓fin, ↓startE, ↓wipeK, ↓wipeE, ↓unw, ↓noOwnB, gEq_ii, gEq_ss, gEq_bb, own_no, own_dat, own_lst, own_ll, List.getD_cons_zero, List.getD_cons_succ, List.set_cons_zero, List.set_cons_succ, List.replicate_succ, List.replicate_zero, List.cons_append, List.nil_append, List.length_cons, List.length_nil, List.map_cons, List.map_nil, List.all_cons, List.all_nil, Nat.reduceAdd, Nat.reduceSub, Bool.not_false, Bool.not_true, Bool.and_true, Bool.and_self, if_true, if_false, reduceCtorEq, List.zipIdx_cons, List.zipIdx_nil, List.filterMap_cons, List.filterMap_nil, Option.map_some, Option.map_none, decide_true, Nat.zero_add, reduceIte, Bool.false_eq_true, true_and, and_true, encP, List.length_map]
    refine ⟨_, hp0, ?_⟩
    simp only [encL, lineS_len]
    refine ⟨Nat.le_of_lt (small (by omega)), b62 (by omega) (by omega), ?_⟩
    refine forR_inv (fun j ρ => ∃ x6, ρ = [.dat (encP p), .dat (encP q), .dat (.int q.length), .dat (.int w), .lst ((foundL p q h w (W + 1 - w) i ++ foundIn p q h w j i).map encC), .dat (.int (i : Nat)), x6]) 0 (fun j d ρ M hd hP hM => ?_) ⟨x6, by simp [foundIn, encP]⟩ (fun ρ hP => ?_)
    · obtain ⟨x6, rfl⟩ := hP
      obtain ⟨hj, rfl⟩ := rangeD_get hd
      rw [Nat.zero_add] at *
      rw [Int.zero_add] at *
      simp only [sFor, ↓sRet, ↓sNil, ↓sIf, ↓sSet, ↓sAsg, ↓sPar, ↓sPar3, ↓sSub, ↓sSub2, ↓sExpr, ↓sExprR, ↓sRetV, ↓sRetN, ↓sRaise, ↓sBrk, ↓sCt, ↓fOf, ↓fFz, ↓fName, ↓fFrz, ↓fC, ↓fBin, ↓fBinN, ↓fT, ↓fNot, ↓fAnd, ↓fOr, ↓fAndV, ↓fOrV, ↓fNotV, ↓fIf, ↓fIfN, ↓fChain, ↓fNil, ↓fCons, ↓fTup, ↓fLst, ↓fNeg, ↓fCall, ↓fIsI, ↓fJoin, ↓fApp, ↓fExt, ↓fPop, ↓fPopAt, ↓fSl, ↓fPart, ↓fNoPart, ↓fSeq, ↓fRng1, ↓fRng2, ↓fEnum, ↓fZip, ↓fGN, ↓fGT, ↓fGcons, ↓fGnil, ↓fLc, ↓fLl, ↓fYes, ↓fOwn, ↓fAt2, ↓fCount, ↓fIndex, ↓fRev, ↓fMulL, ↓fSel, ↓sTry, ↓fIsP, ↓isLk, ↓L3.gSub, ↓gMulI, ↓gDiv, ↓gMod, ↓gPow, ↓gLt, ↓gLe, ↓gGt, ↓gGe, ↓gI, ↓gIC, ↓gAdd, ↓gIx, ↓gSl, ↓gLen, ↓gAll, ↓gAny, ↓gSum, ↓gMin2, ↓gMax2, ↓gList, ↓gTuple, ↓gNe, ↓gNotIn, ↓gIs, ↓gIsNot, ↓isNone, ↓look, ↓withD, ↓isD, ↓isB, ↓areD, ↓withDs, ↓isBor, ↓isLst, ↓isLl, ↓isI, ↓items1, ↓itemsD, ↓argsM, ↓putB, ↓pjs, ↓outsOf, ↓fin, ↓startE, ↓wipeK, ↓wipeE, ↓unw, ↓noOwnB, gEq_ii, gEq_ss, gEq_bb, own_no, own_dat, own_lst, own_ll, List.getD_cons_zero, List.getD_cons_succ, List.set_cons_zero, List.set_cons_succ, List.replicate_succ, List.replicate_zero, List.cons_append, List.nil_append, List.length_cons, List.length_nil, List.map_cons, List.map_nil, List.all_cons, List.all_nil, Nat.reduceAdd, Nat.reduceSub, Bool.not_false, Bool.not_true, Bool.and_true, Bool.and_self, if_true, if_false, reduceCtorEq, List.zipIdx_cons, List.zipIdx_nil, List.filterMap_cons, List.filterMap_nil, Option.map_some, Option.map_none, decide_true, Nat.zero_add, reduceIte, Bool.false_eq_true, true_and, and_true, dsp_part_at]
      refine ⟨p, i, j, h, w, by rw [eh], WP.short, ?_⟩
      refine gEq_pic ?_
      simp only [sFor, ↓sRet, ↓sNil, ↓sIf, ↓sSet, ↓sAsg, ↓sPar, ↓sPar3, ↓sSub, ↓sSub2, ↓sExpr, ↓sExprR, ↓sRetV, ↓sRetN, ↓sRaise, ↓sBrk, ↓sCt, ↓fOf, ↓fFz, ↓fName, ↓fFrz, ↓fC, ↓fBin, ↓fBinN, ↓fT, ↓fNot, ↓fAnd, ↓fOr, ↓fAndV, ↓fOrV, ↓fNotV, ↓fIf, ↓fIfN, ↓fChain, ↓fNil, ↓fCons, ↓fTup, ↓fLst, ↓fNeg, ↓fCall, ↓fIsI, ↓fJoin, ↓fApp, ↓fExt, ↓fPop, ↓fPopAt, ↓fSl, ↓fPart, ↓fNoPart, ↓fSeq, ↓fRng1, ↓fRng2, ↓fEnum, ↓fZip, ↓fGN, ↓fGT, ↓fGcons, ↓fGnil, ↓fLc, ↓fLl, ↓fYes, ↓fOwn, ↓fAt2, ↓fCount, ↓fIndex, ↓fRev, ↓fMulL, ↓fSel, ↓sTry, ↓fIsP, ↓isLk, ↓L3.gSub, ↓gMulI, ↓gDiv, ↓gMod, ↓gPow, ↓gLt, ↓gLe, ↓gGt, ↓gGe, ↓gI, ↓gIC, ↓gAdd, ↓gIx, ↓gSl, ↓gLen, ↓gAll, ↓gAny, ↓gSum, ↓gMin2, ↓gMax2, ↓gList, ↓gTuple, ↓gNe, ↓gNotIn, ↓gIs, ↓gIsNot, ↓isNone, ↓look, ↓withD, ↓isD, ↓isB, ↓areD, ↓withDs, ↓isBor, ↓isLst, ↓isLl, ↓isI, ↓items1, ↓itemsD, ↓argsM, ↓putB, ↓pjs, ↓outsOf, ↓fin, ↓startE, ↓wipeK, ↓wipeE, ↓unw, ↓noOwnB, gEq_ii, gEq_ss, gEq_bb, own_no, own_dat, own_lst, own_ll, List.getD_cons_zero, List.getD_cons_succ, List.set_cons_zero, List.set_cons_succ, List.replicate_succ, List.replicate_zero, List.cons_append, List.nil_append, List.length_cons, List.length_nil, List.map_cons, List.map_nil, List.all_cons, List.all_nil, Nat.reduceAdd, Nat.reduceSub, Bool.not_false, Bool.not_true, Bool.and_true, Bool.and_self, if_true, if_false, reduceCtorEq, List.zipIdx_cons, List.zipIdx_nil, List.filterMap_cons, List.filterMap_nil, Option.map_some, Option.map_none, decide_true, Nat.zero_add, reduceIte, Bool.false_eq_true, true_and, and_true]
      by_cases e : partOf p i j h w = q
      · rw [decide_eq_true e, if_pos rfl]
        have l1 := foundL_len p q h w (W + 1 - w) i
        have l2 := foundIn_len p q h w j i
        have l3 : i * (W + 1 - w) ≤ 9 * 9 := Nat.mul_le_mul (by omega) (by omega)
        refine ⟨by rw [List.length_map, List.length_append]; exact small (by omega), hM _ ⟨.dat (.int (j : Nat)), ?_⟩⟩
        rw [foundIn_succ, if_pos e]
        simp only [List.map_append, List.append_assoc]
        rfl
      · rw [decide_eq_false e, if_neg Bool.false_ne_true]
        refine hM _ ⟨.dat (.int (j : Nat)), ?_⟩
        rw [foundIn_succ, if_neg e, List.append_nil]
    · obtain ⟨x6, rfl⟩ := hP
      refine hM _ ⟨.dat (.int (i : Nat)), x6, ?_⟩
      rw [foundL_succ, Nat.zero_add, rangeD_len]
      have e : (((W : Int) - w + 1).toNat) = W + 1 - w := by omega
      rw [hpl, e]
  · obtain ⟨x5, x6, rfl⟩ := hP
    refine hN _ ?_
    simp only [sFor, ↓sRet, ↓sNil, ↓sIf, ↓sSet, ↓sAsg, ↓sPar, ↓sPar3, ↓sSub, ↓sSub2, ↓sExpr, ↓sExprR, ↓sRetV, ↓sRetN, ↓sRaise, ↓sBrk, ↓sCt, ↓fOf, ↓fFz, ↓fName, ↓fFrz, ↓fC, ↓fBin, ↓fBinN, ↓fT, ↓fNot, ↓fAnd, ↓fOr, ↓fAndV, ↓fOrV, ↓fNotV, ↓fIf, ↓fIfN, ↓fChain, ↓fNil, ↓fCons, ↓fTup, ↓fLst, ↓fNeg, ↓fCall, ↓fIsI, ↓fJoin, ↓fApp, ↓fExt, ↓fPop, ↓fPopAt, ↓fSl, ↓fPart, ↓fNoPart, ↓fSeq, ↓fRng1, ↓fRng2, ↓fEnum, ↓fZip, ↓fGN, ↓fGT, ↓fGcons, ↓fGnil, ↓fLc, ↓fLl, ↓fYes, ↓fOwn, ↓fAt2, ↓fCount, ↓fIndex, ↓fRev, ↓fMulL, ↓fSel, ↓sTry, ↓fIsP, ↓isLk, ↓L3.gSub, ↓gMulI, ↓gDiv, ↓gMod, ↓gPow, ↓gLt, ↓gLe, ↓gGt, ↓gGe, ↓gI, ↓gIC, ↓gAdd, ↓gIx, ↓gSl, ↓gLen, ↓gAll, ↓gAny, ↓gSum, ↓gMin2, ↓gMax2, ↓gList, ↓gTuple, ↓gNe, ↓gNotIn, ↓gIs, ↓gIsNot, ↓isNone, ↓look, ↓withD, ↓isD, ↓isB, ↓areD, ↓withDs, ↓isBor, ↓isLst, ↓isLl, ↓isI, ↓items1, ↓itemsD, ↓argsM, ↓putB, ↓pjs, ↓outsOf, ↓fin, ↓startE, ↓wipeK, ↓wipeE, ↓unw, ↓noOwnB, gEq_ii, gEq_ss, gEq_bb, own_no, own_dat, own_lst, own_ll, List.getD_cons_zero, List.getD_cons_succ, List.set_cons_zero, List.set_cons_succ, List.replicate_succ, List.replicate_zero, List.cons_append, List.nil_append, List.length_cons, List.length_nil, List.map_cons, List.map_nil, List.all_cons, List.all_nil, Nat.reduceAdd, Nat.reduceSub, Bool.not_false, Bool.not_true, Bool.and_true, Bool.and_self, if_true, if_false, reduceCtorEq, List.zipIdx_cons, List.zipIdx_nil, List.filterMap_cons, List.filterMap_nil, Option.map_some, Option.map_none, decide_true, Nat.zero_add, reduceIte, Bool.false_eq_true, true_and, and_true]
    rw [rangeD_len]
    have e : (((p.length : Int) - q.length + 1).toNat) = H + 1 - h := by omega
    rw [e]
    exact hp
end My

namespace My
open PySem PySem.Spec PyProof.Rows L2 L3
/-! ### cells of a picture -/
def atP (p : List (List Bool)) (r c : Nat) : Bool := (p.getD r []).getD c false
theorem getD_lt {α : Type} {l : List α} {i : Nat} {d : α} (h : l.getD i d ≠ d) : i < l.length := by
  by_cases hi : i < l.length
  · exact hi
  · rw [List.getD_eq_getElem?_getD, List.getElem?_eq_none (by omega)] at h
    exact absurd rfl h
theorem getD_at {α : Type} {l : List α} {i : Nat} {d : α} (h : i < l.length) : l.getD i d = l[i] := by rw [List.getD_eq_getElem?_getD, List.getElem?_eq_getElem h]; rfl
theorem Wf.atP_lt {h w : Nat} {p : List (List Bool)} (W : Wf h w p) {r c : Nat} (e : atP p r c = true) : r < h ∧ c < w := by
  unfold atP at e
  have h1 : r < p.length := getD_lt (d := []) fun z => by rw [z] at e; simp at e
  have h2 : c < (p.getD r []).length := getD_lt (d := false) fun z => by rw [z] at e; cases e
  rw [getD_at h1] at h2
  exact ⟨by rw [← W.len]; exact h1, by rw [← W.row _ (List.getElem_mem h1)]; exact h2⟩
theorem mem_rowCells {i r c : Nat} {l : List Bool} : (r, c) ∈ rowCells i l ↔ r = i ∧ l.getD c false = true := by
  unfold rowCells
  rw [List.mem_map]
  constructor
  · rintro ⟨x, hx, e⟩
    cases e
    exact ⟨rfl, by simpa using (List.mem_filter.mp hx).2⟩
  · rintro ⟨rfl, e⟩
    exact ⟨c, List.mem_filter.mpr ⟨List.mem_range.mpr (getD_lt (d := false) fun z => by rw [z] at e; cases e), e⟩, rfl⟩
theorem mem_cellsOf {p : List (List Bool)} {r c : Nat} : (r, c) ∈ cellsOf p ↔ atP p r c = true := by
  unfold cellsOf cellsTo
  rw [List.mem_flatMap]
  constructor
  · rintro ⟨i, _, hx⟩
    obtain ⟨rfl, e⟩ := mem_rowCells.mp hx
    exact e
  · intro e
    exact ⟨r, List.mem_range.mpr (getD_lt (d := []) fun z => by unfold atP at e; rw [z] at e; simp at e), mem_rowCells.mpr ⟨rfl, e⟩⟩
/-- what bounds the cells -/
structure Box (p : List (List Bool)) (r0 r1 c0 c1 : Nat) : Prop where
  a : ∃ c, atP p r0 c = true
  b : ∃ c, atP p r1 c = true
  c : ∃ r, atP p r c0 = true
  d : ∃ r, atP p r c1 = true
  all : ∀ r c, atP p r c = true → (r0 ≤ r ∧ r ≤ r1) ∧ c0 ≤ c ∧ c ≤ c1
theorem Box.uniq {p : List (List Bool)} {r0 r1 c0 c1 s0 s1 d0 d1 : Nat} (x : Box p r0 r1 c0 c1) (y : Box p s0 s1 d0 d1) : r0 = s0 ∧ r1 = s1 ∧ c0 = d0 ∧ c1 = d1 := by
  obtain ⟨_, xa⟩ := x.a; obtain ⟨_, xb⟩ := x.b; obtain ⟨_, xc⟩ := x.c; obtain ⟨_, xd⟩ := x.d
  obtain ⟨_, ya⟩ := y.a; obtain ⟨_, yb⟩ := y.b; obtain ⟨_, yc⟩ := y.c; obtain ⟨_, yd⟩ := y.d
  have := x.all _ _ ya; have := x.all _ _ yb; have := x.all _ _ yc; have := x.all _ _ yd
  have := y.all _ _ xa; have := y.all _ _ xb; have := y.all _ _ xc; have := y.all _ _ xd
  omega
/-! ### a part of a part -/
section
variable {p : List (List Bool)} {H W : Nat}
theorem partOf_len (r c h w : Nat) : (partOf p r c h w).length = min h (p.length - r) := by
  unfold partOf
  rw [List.length_map, List.length_take, List.length_drop]
theorem Wf.part (X : Wf H W p) {r c h w : Nat} (hr : r < H) (hc : c < W) (hh : 1 ≤ h) (hw : 1 ≤ w) : Wf (min h (H - r)) (min w (W - c)) (partOf p r c h w) := by
  have a := X.h8
  have b := X.w8
  refine ⟨by omega, by omega, by omega, by omega, by rw [partOf_len, X.len], fun l hl => ?_⟩
  unfold partOf at hl
  obtain ⟨l', hl', rfl⟩ := List.mem_map.mp hl
  rw [List.length_take, List.length_drop, X.row _ (List.mem_of_mem_drop (List.mem_of_mem_take hl'))]
theorem Wf.clip (X : Wf H W p) (r c h w : Nat) : partOf p r c (min h (H - r)) (min w (W - c)) = partOf p r c h w := by
  unfold partOf
  have e : (p.drop r).take (min h (H - r)) = (p.drop r).take h := List.take_eq_take_iff.mpr (by rw [List.length_drop, X.len]; omega)
  rw [e]
  refine List.map_congr_left fun l hl => List.take_eq_take_iff.mpr ?_
  rw [List.length_drop, X.row _ (List.mem_of_mem_drop (List.mem_of_mem_take hl))]
  omega
theorem Wf.whole (X : Wf H W p) : partOf p 0 0 H W = p := by
  unfold partOf
  have e : (p.drop 0).take H = p := List.take_of_length_le (by rw [List.length_drop, X.len]; omega)
  rw [e]
  conv => rhs; rw [← List.map_id p]
  exact List.map_congr_left fun l hl => List.take_of_length_le (by rw [List.length_drop, X.row _ hl]; omega)
theorem atP_part {r c h w i j : Nat} (hi : i < h) (hj : j < w) : atP (partOf p r c h w) i j = atP p (r + i) (c + j) := by
  unfold atP partOf
  have e : ((((p.drop r).take h).map fun l => (l.drop c).take w).getD i []) = ((p.getD (r + i) []).drop c).take w := by
    rw [List.getD_eq_getElem?_getD, List.getD_eq_getElem?_getD, List.getElem?_map, List.getElem?_take, if_pos hi, List.getElem?_drop]
    cases p[r + i]? <;> simp
  rw [e, List.getD_eq_getElem?_getD, List.getD_eq_getElem?_getD, List.getElem?_take, if_pos hj, List.getElem?_drop]
  simp [List.getD_eq_getElem?_getD]
theorem atP_part_lt {r c h w i j : Nat} (e : atP (partOf p r c h w) i j = true) : i < h ∧ j < w := by
  unfold atP at e
  have h1 : i < (partOf p r c h w).length := getD_lt (d := []) fun z => by rw [z] at e; simp at e
  have h2 : j < ((partOf p r c h w).getD i []).length := getD_lt (d := false) fun z => by rw [z] at e; cases e
  rw [getD_at h1] at h2
  have h3 := List.getElem_mem h1
  rw [partOf_len] at h1
  unfold partOf at h3
  obtain ⟨l, _, e2⟩ := List.mem_map.mp h3
  have e3 : (partOf p r c h w)[i] = (l.drop c).take w := e2.symm
  rw [e3, List.length_take] at h2
  omega
/-- what the box cuts out -/
theorem Box.cut {r0 r1 c0 c1 : Nat} (B : Box p r0 r1 c0 c1) : Box (partOf p r0 c0 (r1 - r0 + 1) (c1 - c0 + 1)) 0 (r1 - r0) 0 (c1 - c0) := by
  obtain ⟨x, ha⟩ := B.a
  obtain ⟨y, hb⟩ := B.b
  obtain ⟨z, hc⟩ := B.c
  obtain ⟨u, hd⟩ := B.d
  have := B.all _ _ ha; have := B.all _ _ hb; have := B.all _ _ hc; have := B.all _ _ hd
  refine ⟨⟨x - c0, ?_⟩, ⟨y - c0, ?_⟩, ⟨z - r0, ?_⟩, ⟨u - r0, ?_⟩, fun r c e => ?_⟩
  · rw [atP_part (by omega) (by omega), show r0 + 0 = r0 by omega, show c0 + (x - c0) = x by omega]; exact ha
  · rw [atP_part (by omega) (by omega), show r0 + (r1 - r0) = r1 by omega, show c0 + (y - c0) = y by omega]; exact hb
  · rw [atP_part (by omega) (by omega), show r0 + (z - r0) = z by omega, show c0 + 0 = c0 by omega]; exact hc
  · rw [atP_part (by omega) (by omega), show r0 + (u - r0) = u by omega, show c0 + (c1 - c0) = c1 by omega]; exact hd
  · have := atP_part_lt e
    omega
theorem Box.wf {r0 r1 c0 c1 : Nat} (B : Box p r0 r1 c0 c1) (X : Wf H W p) : Wf (r1 - r0 + 1) (c1 - c0 + 1) (partOf p r0 c0 (r1 - r0 + 1) (c1 - c0 + 1)) := by
  obtain ⟨x, ha⟩ := B.a
  obtain ⟨y, hb⟩ := B.b
  obtain ⟨z, hc⟩ := B.c
  obtain ⟨u, hd⟩ := B.d
  have := B.all _ _ ha; have := B.all _ _ hb; have := B.all _ _ hc; have := B.all _ _ hd
  have := X.atP_lt ha; have := X.atP_lt hb; have := X.atP_lt hc; have := X.atP_lt hd
  have z := X.part (r := r0) (c := c0) (h := r1 - r0 + 1) (w := c1 - c0 + 1) (by omega) (by omega) (by omega) (by omega)
  rw [show min (r1 - r0 + 1) (H - r0) = r1 - r0 + 1 by omega, show min (c1 - c0 + 1) (W - c0) = c1 - c0 + 1 by omega] at z
  exact z
end
/-! ### first and last of what is filtered -/
theorem filt_ends {n : Nat} {P : Nat → Bool} (h : (List.range n).filter P ≠ []) : ∃ a b, atI (((List.range n).filter P).map fun i => PyData.int (i : Nat)) 0 = some (.int (a : Nat)) ∧ atI (((List.range n).filter P).map fun i => PyData.int (i : Nat)) (-1) = some (.int (b : Nat)) ∧ P a = true ∧ P b = true ∧ a < n ∧ b < n ∧ ∀ x, x < n → P x = true → a ≤ x ∧ x ≤ b := by
  have hp : ((List.range n).filter P).Pairwise (· < ·) := List.Pairwise.filter _ List.pairwise_lt_range
  have hm : ∀ x, x ∈ (List.range n).filter P ↔ x < n ∧ P x = true := fun x => by rw [List.mem_filter, List.mem_range]
  generalize (List.range n).filter P = L at h hp hm
  have el : L = L.dropLast ++ [L.getLast h] := (List.dropLast_concat_getLast h).symm
  have ml := (hm (L.getLast h)).mp (List.getLast_mem h)
  refine ⟨L.head h, L.getLast h, ?_, ?_, ((hm _).mp (List.head_mem h)).2, ml.2, ((hm _).mp (List.head_mem h)).1, ml.1, fun x h1 h2 => ?_⟩
  · cases L with
    | nil => exact absurd rfl h
    | cons x xs => exact atI0
  · have z := atI_last (L.dropLast.map fun i => PyData.int (i : Nat)) (PyData.int ((L.getLast h : Nat) : Int))
    have e2 : (L.map fun i => PyData.int (i : Nat)) = L.dropLast.map (fun i => PyData.int (i : Nat)) ++ [PyData.int ((L.getLast h : Nat) : Int)] := by
      conv => lhs; rw [el]
      rw [List.map_append]
      rfl
    rw [e2]
    exact z
  · have hx := (hm x).mpr ⟨h1, h2⟩
    constructor
    · cases L with
      | nil => exact absurd rfl h
      | cons y ys =>
        rcases List.mem_cons.mp hx with rfl | hx
        · exact Nat.le_refl _
        · exact Nat.le_of_lt (List.rel_of_pairwise_cons hp hx)
    · rw [el] at hx hp
      rcases List.mem_append.mp hx with hx | hx
      · exact Nat.le_of_lt ((List.pairwise_append.mp hp).2.2 x hx _ (by simp))
      · have : x = L.getLast h := by simpa using hx
        exact Nat.le_of_eq this
def T_cut (cs : Cs) : TXS :=
  (sSeq (sExpr (fOwn [none] (dsp_need_picture cs) (fCons (fName 0) fNil)))
  (sSeq (sSet 1 (fLc (fEnum (fCons (fName 0) fNil)) (fGT 2 (fGcons (fGN 2) (fGcons (fGN 3) fGnil))) (fT (fBin gIn (fC (.str "#")) (fName 3))) (fName 2) [2, 3]))
  (sSeq (sIf (fT (fBin gEq (fName 1) (fFz (fLst fNil)))) (sRet (fOf (fC .none))) sNil)
  (sSeq (sSet 4 (fLc (fRng1 (fCons (fFz (fCall gLen (fCons (fBin gIx (fName 0) (fC (.int 0))) fNil))) fNil)) (fGN 5) (fT (fFz (fCall gAny (fCons (fFz (fLc (fSeq (fName 0)) (fGN 3) fYes (fBin gEq (fBin gIx (fName 3) (fName 5)) (fC (.str "#"))) [3])) fNil)))) (fName 5) [5]))
  (sRet (fOwn [none, none, none, none, none] (dsp_part_at) (fCons (fName 0) (fCons (fBin gIx (fName 1) (fC (.int 0))) (fCons (fBin gIx (fName 4) (fC (.int 0))) (fCons (fFz (fBinN gAdd (fBin gSub (fBin gIx (fName 1) (fNeg (fC (.int 1)))) (fBin gIx (fName 1) (fC (.int 0)))) (fC (.int 1)))) (fCons (fFz (fBinN gAdd (fBin gSub (fBin gIx (fName 4) (fNeg (fC (.int 1)))) (fBin gIx (fName 4) (fC (.int 0)))) (fC (.int 1)))) fNil)))))))))))

def dspV_cut (cs : Cs) : DSp := fun es post _ => ∃ (p : List (List Bool)) (h w : Nat), es = [.dat (encP p)] ∧ Wf h w p ∧ ((∀ r c, atP p r c = false) → post (.dat .none) []) ∧
  ∀ r0 r1 c0 c1, Box p r0 r1 c0 c1 → post (.dat (encP (partOf p r0 c0 (r1 - r0 + 1) (c1 - c0 + 1)))) []
theorem hash_in (r : List Bool) : decide (35 ∈ (lineS r).cps.toList) = r.any id := by
  rw [lineS_cps]
  rw [Bool.eq_iff_iff, decide_eq_true_eq, List.any_eq_true, List.mem_map]
  constructor
  · rintro ⟨b, hb, e⟩
    exact ⟨b, hb, by cases b with
      | true => rfl
      | false => cases e⟩
  · rintro ⟨b, hb, e⟩
    have e : b = true := e
    subst e
    exact ⟨true, hb, rfl⟩
theorem any_getD {l : List Bool} : l.any id = true ↔ ∃ c, l.getD c false = true := by
  rw [List.any_eq_true]
  constructor
  · rintro ⟨b, hb, e⟩
    obtain ⟨i, hi, rfl⟩ := List.mem_iff_getElem.mp hb
    exact ⟨i, by rw [getD_at hi]; exact e⟩
  · rintro ⟨c, e⟩
    have hc : c < l.length := getD_lt (d := false) fun z => by rw [z] at e; cases e
    rw [getD_at hc] at e
    exact ⟨_, List.getElem_mem hc, e⟩
theorem enumD_map {α : Type} (f : α → PyData) (xs : List α) : enumD (xs.map f) = (xs.zipIdx).map fun p => .tuple [.int (p.2 : Nat), f p.1] := by
  unfold enumD
  rw [List.zipIdx_map, List.map_map]
  rfl
theorem zip_filter {α : Type} (P : α → Bool) (d : α) : ∀ (xs : List α) (k : Nat), ((xs.zipIdx k).filter fun p => P p.1).map (fun p => p.2) = ((List.range xs.length).filter fun i => P (xs.getD i d)).map fun i => k + i
  | [], k => by simp
  | x :: xs, k => by
    have ih := zip_filter P d xs (k + 1)
    rw [List.zipIdx_cons, List.length_cons, List.range_succ_eq_map, List.filter_cons, List.filter_cons]
    have e : (List.map Nat.succ (List.range xs.length)).filter (fun i => P ((x :: xs).getD i d)) = ((List.range xs.length).filter fun i => P (xs.getD i d)).map Nat.succ := by
      rw [List.filter_map]
      rfl
    rw [e]
    by_cases q : P x = true
    · simp only [q, if_true, List.map_cons, List.getD_cons_zero, ih, List.map_map]
      rw [Nat.add_zero]
      congr 1
      exact List.map_congr_left fun i _ => by simp; omega
    · rw [if_neg q, if_neg (by simpa using q), ih, List.map_map]
      exact List.map_congr_left fun i _ => by simp; omega
theorem goodV_cut (cs : Cs) : Good [] 6 1 (T_cut cs) (dspV_cut cs) := by
  rintro es post xp ⟨p, h, w, rfl, W, hno, hbox⟩ _
  have hlen := W.len
  have h8 := W.h8
  have w8 := W.w8
  have h1 := W.h1
  obtain ⟨lp, hp0, hpl, _⟩ := W.head
  unfold T_cut
  refine sSeq_g fun N hN => ?_
  simp only [↓sRet, ↓sNil, ↓sIf, ↓sSet, ↓sAsg, ↓sPar, ↓sPar3, ↓sSub, ↓sSub2, ↓sExpr, ↓sExprR, ↓sRetV, ↓sRetN, ↓sRaise, ↓sBrk, ↓sCt, ↓fOf, ↓fFz, ↓fName, ↓fFrz, ↓fC, ↓fBin, ↓fBinN, ↓fT, ↓fNot, ↓fAnd, ↓fOr, ↓fAndV, ↓fOrV, ↓fNotV, ↓fIf, ↓fIfN, ↓fChain, ↓fNil, ↓fCons, ↓fTup, ↓fLst, ↓fNeg, ↓fCall, ↓fIsI, ↓fJoin, ↓fApp, ↓fExt, ↓fPop, ↓fPopAt, ↓fSl, ↓fPart, ↓fNoPart, ↓fSeq, ↓fRng1, ↓fRng2, ↓fEnum, ↓fZip, ↓fGN, ↓fGT, ↓fGcons, ↓fGnil, ↓fLc, ↓fLl, ↓fYes, ↓fOwn, ↓fAt2, ↓fCount, ↓fIndex, ↓fRev, ↓fMulL, ↓fSel, ↓sTry, ↓fIsP, ↓isLk, ↓L3.gSub, ↓gMulI, ↓gDiv, ↓gMod, ↓gPow, ↓gLt, ↓gLe, ↓gGt, ↓gGe, ↓gI, ↓gIC, ↓gAdd, ↓gIx, ↓gSl, ↓gLen, ↓gAll, ↓gAny, ↓gSum, ↓gMin2, ↓gMax2, ↓gList, ↓gTuple, ↓gNe, ↓gNotIn, ↓gIs, ↓gIsNot, ↓isNone, ↓look, ↓withD, ↓isD, ↓isB, ↓areD, ↓withDs, ↓isBor, ↓isLst, ↓isLl, ↓isI, ↓items1, ↓itemsD, ↓argsM, ↓putB, ↓pjs, ↓outsOf, ↓fin, ↓startE, ↓wipeK, ↓wipeE, ↓unw, ↓noOwnB, gEq_ii, gEq_ss, gEq_bb, own_no, own_dat, own_lst, own_ll, List.getD_cons_zero, List.getD_cons_succ, List.set_cons_zero, List.set_cons_succ, List.replicate_succ, List.replicate_zero, List.cons_append, List.nil_append, List.length_cons, List.length_nil, List.map_cons, List.map_nil, List.all_cons, List.all_nil, Nat.reduceAdd, Nat.reduceSub, Bool.not_false, Bool.not_true, Bool.and_true, Bool.and_self, if_true, if_false, reduceCtorEq, List.zipIdx_cons, List.zipIdx_nil, List.filterMap_cons, List.filterMap_nil, Option.map_some, Option.map_none, decide_true, Nat.zero_add, reduceIte, Bool.false_eq_true, true_and, and_true, dsp_need_picture]
  refine ⟨_, rfl, W.smallP, fun _ => hN _ ?_, fun z => by rw [W.isPic] at z; cases z⟩
  clear hN N
  refine sSeq_g fun N hN => ?_
  simp only [↓sRet, ↓sNil, ↓sIf, ↓sSet, ↓sAsg, ↓sPar, ↓sPar3, ↓sSub, ↓sSub2, ↓sExpr, ↓sExprR, ↓sRetV, ↓sRetN, ↓sRaise, ↓sBrk, ↓sCt, ↓fOf, ↓fFz, ↓fName, ↓fFrz, ↓fC, ↓fBin, ↓fBinN, ↓fT, ↓fNot, ↓fAnd, ↓fOr, ↓fAndV, ↓fOrV, ↓fNotV, ↓fIf, ↓fIfN, ↓fChain, ↓fNil, ↓fCons, ↓fTup, ↓fLst, ↓fNeg, ↓fCall, ↓fIsI, ↓fJoin, ↓fApp, ↓fExt, ↓fPop, ↓fPopAt, ↓fSl, ↓fPart, ↓fNoPart, ↓fSeq, ↓fRng1, ↓fRng2, ↓fEnum, ↓fZip, ↓fGN, ↓fGT, ↓fGcons, ↓fGnil, ↓fLc, ↓fLl, ↓fYes, ↓fOwn, ↓fAt2, ↓fCount, ↓fIndex, ↓fRev, ↓fMulL, ↓fSel, ↓sTry, ↓fIsP, ↓isLk, ↓L3.gSub, ↓gMulI, ↓gDiv, ↓gMod, ↓gPow, ↓gLt, ↓gLe, ↓gGt, ↓gGe, ↓gI, ↓gIC, ↓gAdd, ↓gIx, ↓gSl, ↓gLen, ↓gAll, ↓gAny, ↓gSum, ↓gMin2, ↓gMax2, ↓gList, ↓gTuple, ↓gNe, ↓gNotIn, ↓gIs, ↓gIsNot, ↓isNone, ↓look, ↓withD, ↓isD, ↓isB, ↓areD, ↓withDs, ↓isBor, ↓isLst, ↓isLl, ↓isI, ↓items1, ↓itemsD, ↓argsM, ↓putB, ↓pjs, ↓outsOf, ↓fin, ↓startE, ↓wipeK, ↓wipeE, ↓unw, ↓noOwnB, gEq_ii, gEq_ss, gEq_bb, own_no, own_dat, own_lst, own_ll, List.getD_cons_zero, List.getD_cons_succ, List.set_cons_zero, List.set_cons_succ, List.replicate_succ, List.replicate_zero, List.cons_append, List.nil_append, List.length_cons, List.length_nil, List.map_cons, List.map_nil, List.all_cons, List.all_nil, Nat.reduceAdd, Nat.reduceSub, Bool.not_false, Bool.not_true, Bool.and_true, Bool.and_self, if_true, if_false, reduceCtorEq, List.zipIdx_cons, List.zipIdx_nil, List.filterMap_cons, List.filterMap_nil, Option.map_some, Option.map_none, decide_true, Nat.zero_add, reduceIte, Bool.false_eq_true, true_and, and_true, encP]
  refine ⟨by rw [enumD_len, List.length_map]; exact small (by omega), ?_⟩
  rw [enumD_map]
  refine lcR_encF (fun q : List Bool × Nat => PyData.tuple [.int (q.2 : Nat), encL q.1]) (fun q => q.1.any id) (fun q => PyData.int (q.2 : Nat)) (fun q hq k ht hf => ?_) ?_
  · simp only [lcStep, ↓sRet, ↓sNil, ↓sIf, ↓sSet, ↓sAsg, ↓sPar, ↓sPar3, ↓sSub, ↓sSub2, ↓sExpr, ↓sExprR, ↓sRetV, ↓sRetN, ↓sRaise, ↓sBrk, ↓sCt, ↓fOf, ↓fFz, ↓fName, ↓fFrz, ↓fC, ↓fBin, ↓fBinN, ↓fT, ↓fNot, ↓fAnd, ↓fOr, ↓fAndV, ↓fOrV, ↓fNotV, ↓fIf, ↓fIfN, ↓fChain, ↓fNil, ↓fCons, ↓fTup, ↓fLst, ↓fNeg, ↓fCall, ↓fIsI, ↓fJoin, ↓fApp, ↓fExt, ↓fPop, ↓fPopAt, ↓fSl, ↓fPart, ↓fNoPart, ↓fSeq, ↓fRng1, ↓fRng2, ↓fEnum, ↓fZip, ↓fGN, ↓fGT, ↓fGcons, ↓fGnil, ↓fLc, ↓fLl, ↓fYes, ↓fOwn, ↓fAt2, ↓fCount, ↓fIndex, ↓fRev, ↓fMulL, ↓fSel, ↓sTry, ↓fIsP, ↓isLk, ↓L3.gSub, ↓gMulI, ↓gDiv, ↓gMod, ↓gPow, ↓gLt, ↓gLe, ↓gGt, ↓gGe, ↓gI, ↓gIC, ↓gAdd, ↓gIx, ↓gSl, ↓gLen, ↓gAll, ↓gAny, ↓gSum, ↓gMin2, ↓gMax2, ↓gList, ↓gTuple, ↓gNe, ↓gNotIn, ↓gIs, ↓gIsNot, ↓isNone, ↓look, ↓withD, ↓isD, ↓isB, ↓areD, ↓withDs, ↓isBor, ↓isLst, ↓isLl, ↓isI, ↓items1, ↓itemsD, ↓argsM, ↓putB, ↓pjs, ↓outsOf, ↓fin, ↓startE, ↓wipeK, ↓wipeE, ↓unw, ↓noOwnB, gEq_ii, gEq_ss, gEq_bb, own_no, own_dat, own_lst, own_ll, List.getD_cons_zero, List.getD_cons_succ, List.set_cons_zero, List.set_cons_succ, List.replicate_succ, List.replicate_zero, List.cons_append, List.nil_append, List.length_cons, List.length_nil, List.map_cons, List.map_nil, List.all_cons, List.all_nil, Nat.reduceAdd, Nat.reduceSub, Bool.not_false, Bool.not_true, Bool.and_true, Bool.and_self, if_true, if_false, reduceCtorEq, List.zipIdx_cons, List.zipIdx_nil, List.filterMap_cons, List.filterMap_nil, Option.map_some, Option.map_none, decide_true, Nat.zero_add, reduceIte, Bool.false_eq_true, true_and, and_true, encL]
    refine ⟨35, by decide, ?_⟩
    rw [hash_in]
    cases e : q.1.any id with
    | true => exact ht e
    | false => exact hf e
  simp only [↓sRet, ↓sNil, ↓sIf, ↓sSet, ↓sAsg, ↓sPar, ↓sPar3, ↓sSub, ↓sSub2, ↓sExpr, ↓sExprR, ↓sRetV, ↓sRetN, ↓sRaise, ↓sBrk, ↓sCt, ↓fOf, ↓fFz, ↓fName, ↓fFrz, ↓fC, ↓fBin, ↓fBinN, ↓fT, ↓fNot, ↓fAnd, ↓fOr, ↓fAndV, ↓fOrV, ↓fNotV, ↓fIf, ↓fIfN, ↓fChain, ↓fNil, ↓fCons, ↓fTup, ↓fLst, ↓fNeg, ↓fCall, ↓fIsI, ↓fJoin, ↓fApp, ↓fExt, ↓fPop, ↓fPopAt, ↓fSl, ↓fPart, ↓fNoPart, ↓fSeq, ↓fRng1, ↓fRng2, ↓fEnum, ↓fZip, ↓fGN, ↓fGT, ↓fGcons, ↓fGnil, ↓fLc, ↓fLl, ↓fYes, ↓fOwn, ↓fAt2, ↓fCount, ↓fIndex, ↓fRev, ↓fMulL, ↓fSel, ↓sTry, ↓fIsP, ↓isLk, ↓L3.gSub, ↓gMulI, ↓gDiv, ↓gMod, ↓gPow, ↓gLt, ↓gLe, ↓gGt, ↓gGe, ↓gI, ↓gIC, ↓gAdd, ↓gIx, ↓gSl, ↓gLen, ↓gAll, ↓gAny, ↓gSum, ↓gMin2, ↓gMax2, ↓gList, ↓gTuple, ↓gNe, ↓gNotIn, ↓gIs, ↓gIsNot, ↓isNone, ↓look, ↓withD, ↓isD, ↓isB, ↓areD, ↓withDs, ↓isBor, ↓isLst, ↓isLl, ↓isI, ↓items1, ↓itemsD, ↓argsM, ↓putB, ↓pjs, ↓outsOf, ↓fin, ↓startE, ↓wipeK, ↓wipeE, ↓unw, ↓noOwnB, gEq_ii, gEq_ss, gEq_bb, own_no, own_dat, own_lst, own_ll, List.getD_cons_zero, List.getD_cons_succ, List.set_cons_zero, List.set_cons_succ, List.replicate_succ, List.replicate_zero, List.cons_append, List.nil_append, List.length_cons, List.length_nil, List.map_cons, List.map_nil, List.all_cons, List.all_nil, Nat.reduceAdd, Nat.reduceSub, Bool.not_false, Bool.not_true, Bool.and_true, Bool.and_self, if_true, if_false, reduceCtorEq, List.zipIdx_cons, List.zipIdx_nil, List.filterMap_cons, List.filterMap_nil, Option.map_some, Option.map_none, decide_true, Nat.zero_add, reduceIte, Bool.false_eq_true, true_and, and_true]
  refine hN _ ?_
  clear hN N
  have er : (List.filter (fun q : List Bool × Nat => q.1.any id) p.zipIdx).map (fun q => PyData.int (q.2 : Nat)) = ((List.range p.length).filter fun r => (p.getD r []).any id).map fun i => PyData.int (i : Nat) := by
    have z := zip_filter (fun l : List Bool => l.any id) [] p 0
    have z2 := congrArg (List.map fun i : Nat => PyData.int (i : Nat)) z
    rw [List.map_map, List.map_map] at z2
    refine Eq.trans z2 (List.map_congr_left fun i _ => ?_)
    show PyData.int ((0 + i : Nat) : Int) = _
    rw [Nat.zero_add]
  rw [er]
  refine sSeq_g fun N hN => ?_
  simp only [↓sRet, ↓sNil, ↓sIf, ↓sSet, ↓sAsg, ↓sPar, ↓sPar3, ↓sSub, ↓sSub2, ↓sExpr, ↓sExprR, ↓sRetV, ↓sRetN, ↓sRaise, ↓sBrk, ↓sCt, ↓fOf, ↓fFz, ↓fName, ↓fFrz, ↓fC, ↓fBin, ↓fBinN, ↓fT, ↓fNot, ↓fAnd, ↓fOr, ↓fAndV, ↓fOrV, ↓fNotV, ↓fIf, ↓fIfN, ↓fChain, ↓fNil, ↓fCons, ↓fTup, ↓fLst, ↓fNeg, ↓fCall, ↓fIsI, ↓fJoin, ↓fApp, ↓fExt, ↓fPop, ↓fPopAt, ↓fSl, ↓fPart, ↓fNoPart, ↓fSeq, ↓fRng1, ↓fRng2, ↓fEnum, ↓fZip, ↓fGN, ↓fGT, ↓fGcons, ↓fGnil, ↓fLc, ↓fLl, ↓fYes, ↓fOwn, ↓fAt2, ↓fCount, ↓fIndex, ↓fRev, ↓fMulL, ↓fSel, ↓sTry, ↓fIsP, ↓isLk, ↓L3.gSub, ↓gMulI, ↓gDiv, ↓gMod, ↓gPow, ↓gLt, ↓gLe, ↓gGt, ↓gGe, ↓gI, ↓gIC, ↓gAdd, ↓gIx, ↓gSl, ↓gLen, ↓gAll, ↓gAny, ↓gSum, ↓gMin2, ↓gMax2, ↓gList, ↓gTuple, ↓gNe, ↓gNotIn, ↓gIs, ↓gIsNot, ↓isNone, ↓look, ↓withD, ↓isD, ↓isB, ↓areD, ↓withDs, ↓isBor, ↓isLst, ↓isLl, ↓isI, ↓items1, ↓itemsD, ↓argsM, ↓putB, ↓pjs, ↓outsOf, ↓fin, ↓startE, ↓wipeK, ↓wipeE, ↓unw, ↓noOwnB, gEq_ii, gEq_ss, gEq_bb, own_no, own_dat, own_lst, own_ll, List.getD_cons_zero, List.getD_cons_succ, List.set_cons_zero, List.set_cons_succ, List.replicate_succ, List.replicate_zero, List.cons_append, List.nil_append, List.length_cons, List.length_nil, List.map_cons, List.map_nil, List.all_cons, List.all_nil, Nat.reduceAdd, Nat.reduceSub, Bool.not_false, Bool.not_true, Bool.and_true, Bool.and_self, if_true, if_false, reduceCtorEq, List.zipIdx_cons, List.zipIdx_nil, List.filterMap_cons, List.filterMap_nil, Option.map_some, Option.map_none, decide_true, Nat.zero_add, reduceIte, Bool.false_eq_true, true_and, and_true]
  have ed : ∀ L : List Nat, L.map (fun i => PyData.int (i : Nat)) = (L.map fun i : Nat => (i : Int)).map PyData.int := fun L => by rw [List.map_map]; rfl
  rw [ed]
  refine gEq_dat (α := List Int) (x := _) (y := []) ?_
  simp only [↓sRet, ↓sNil, ↓sIf, ↓sSet, ↓sAsg, ↓sPar, ↓sPar3, ↓sSub, ↓sSub2, ↓sExpr, ↓sExprR, ↓sRetV, ↓sRetN, ↓sRaise, ↓sBrk, ↓sCt, ↓fOf, ↓fFz, ↓fName, ↓fFrz, ↓fC, ↓fBin, ↓fBinN, ↓fT, ↓fNot, ↓fAnd, ↓fOr, ↓fAndV, ↓fOrV, ↓fNotV, ↓fIf, ↓fIfN, ↓fChain, ↓fNil, ↓fCons, ↓fTup, ↓fLst, ↓fNeg, ↓fCall, ↓fIsI, ↓fJoin, ↓fApp, ↓fExt, ↓fPop, ↓fPopAt, ↓fSl, ↓fPart, ↓fNoPart, ↓fSeq, ↓fRng1, ↓fRng2, ↓fEnum, ↓fZip, ↓fGN, ↓fGT, ↓fGcons, ↓fGnil, ↓fLc, ↓fLl, ↓fYes, ↓fOwn, ↓fAt2, ↓fCount, ↓fIndex, ↓fRev, ↓fMulL, ↓fSel, ↓sTry, ↓fIsP, ↓isLk, ↓L3.gSub, ↓gMulI, ↓gDiv, ↓gMod, ↓gPow, ↓gLt, ↓gLe, ↓gGt, ↓gGe, ↓gI, ↓gIC, ↓gAdd, ↓gIx, ↓gSl, ↓gLen, ↓gAll, ↓gAny, ↓gSum, ↓gMin2, ↓gMax2, ↓gList, ↓gTuple, ↓gNe, ↓gNotIn, ↓gIs, ↓gIsNot, ↓isNone, ↓look, ↓withD, ↓isD, ↓isB, ↓areD, ↓withDs, ↓isBor, ↓isLst, ↓isLl, ↓isI, ↓items1, ↓itemsD, ↓argsM, ↓putB, ↓pjs, ↓outsOf, ↓fin, ↓startE, ↓wipeK, ↓wipeE, ↓unw, ↓noOwnB, gEq_ii, gEq_ss, gEq_bb, own_no, own_dat, own_lst, own_ll, List.getD_cons_zero, List.getD_cons_succ, List.set_cons_zero, List.set_cons_succ, List.replicate_succ, List.replicate_zero, List.cons_append, List.nil_append, List.length_cons, List.length_nil, List.map_cons, List.map_nil, List.all_cons, List.all_nil, Nat.reduceAdd, Nat.reduceSub, Bool.not_false, Bool.not_true, Bool.and_true, Bool.and_self, if_true, if_false, reduceCtorEq, List.zipIdx_cons, List.zipIdx_nil, List.filterMap_cons, List.filterMap_nil, Option.map_some, Option.map_none, decide_true, Nat.zero_add, reduceIte, Bool.false_eq_true, true_and, and_true]
  rw [← ed]
  by_cases hr : (List.range p.length).filter (fun r => (p.getD r []).any id) = []
  · rw [hr]
    simp only [List.map_nil, decide_true, if_true]
    refine hno fun r c => ?_
    cases e : atP p r c with
    | false => rfl
    | true =>
      have hl := W.atP_lt e
      have : r ∈ (List.range p.length).filter (fun r => (p.getD r []).any id) := List.mem_filter.mpr ⟨List.mem_range.mpr (by omega), any_getD.mpr ⟨c, e⟩⟩
      rw [hr] at this
      cases this
  have hrn : ¬ (List.map (fun i : Nat => (i : Int)) ((List.range p.length).filter (fun r => (p.getD r []).any id)) = []) := fun z => hr (List.map_eq_nil_iff.mp z)
  rw [decide_eq_false hrn, if_neg Bool.false_ne_true]
  refine hN _ ?_
  clear hN N hrn
  obtain ⟨r0, r1, er0, er1, pr0, pr1, lr0, lr1, hrall⟩ := filt_ends hr
  refine sSeq_g fun N hN => ?_
  simp only [↓sRet, ↓sNil, ↓sIf, ↓sSet, ↓sAsg, ↓sPar, ↓sPar3, ↓sSub, ↓sSub2, ↓sExpr, ↓sExprR, ↓sRetV, ↓sRetN, ↓sRaise, ↓sBrk, ↓sCt, ↓fOf, ↓fFz, ↓fName, ↓fFrz, ↓fC, ↓fBin, ↓fBinN, ↓fT, ↓fNot, ↓fAnd, ↓fOr, ↓fAndV, ↓fOrV, ↓fNotV, ↓fIf, ↓fIfN, ↓fChain, ↓fNil, ↓fCons, ↓fTup, ↓fLst, ↓fNeg, ↓fCall, ↓fIsI, ↓fJoin, ↓fApp, ↓fExt, ↓fPop, ↓fPopAt, ↓fSl, ↓fPart, ↓fNoPart, ↓fSeq, ↓fRng1, ↓fRng2, ↓fEnum, ↓fZip, ↓fGN, ↓fGT, ↓fGcons, ↓fGnil, ↓fLc, ↓fLl, ↓fYes, ↓fOwn, ↓fAt2, ↓fCount, ↓fIndex, ↓fRev, ↓fMulL, ↓fSel, ↓sTry, ↓fIsP, ↓isLk, ↓L3.gSub, ↓gMulI, ↓gDiv, ↓gMod, ↓gPow, ↓gLt, ↓gLe, ↓gGt, ↓gGe, ↓gI, ↓gIC, ↓gAdd, ↓gIx, ↓gSl, ↓gLen, ↓gAll, ↓gAny, ↓gSum, ↓gMin2, ↓gMax2, ↓gList, ↓gTuple, ↓gNe, ↓gNotIn, ↓gIs, ↓gIsNot, ↓isNone, ↓look, ↓withD, ↓isD, ↓isB, ↓areD, ↓withDs, ↓isBor, ↓isLst, ↓isLl, ↓isI, ↓items1, ↓itemsD, ↓argsM, ↓putB, ↓pjs, ↓outsOf, ↓fin, ↓startE, ↓wipeK, ↓wipeE, ↓unw, ↓noOwnB, gEq_ii, gEq_ss, gEq_bb, own_no, own_dat, own_lst, own_ll, List.getD_cons_zero, List.getD_cons_succ, List.set_cons_zero, List.set_cons_succ, List.replicate_succ, List.replicate_zero, List.cons_append, List.nil_append, List.length_cons, List.length_nil, List.map_cons, List.map_nil, List.all_cons, List.all_nil, Nat.reduceAdd, Nat.reduceSub, Bool.not_false, Bool.not_true, Bool.and_true, Bool.and_self, if_true, if_false, reduceCtorEq, List.zipIdx_cons, List.zipIdx_nil, List.filterMap_cons, List.filterMap_nil, Option.map_some, Option.map_none, decide_true, Nat.zero_add, reduceIte, Bool.false_eq_true, true_and, and_true, encP]
  refine ⟨_, hp0, ?_⟩
  simp only [encL, lineS_len]
  rw [hpl]
  refine ⟨Nat.le_of_lt (small (by omega)), b62 (by omega) (by omega), by rw [rangeD_len]; exact small (by omega), ?_⟩
  rw [rangeD_map]
  have ew : (w : Int).toNat = w := by omega
  rw [ew]
  refine lcR_encF (fun c : Nat => PyData.int (c : Nat)) (fun c => p.any fun l => l.getD c false) (fun c => PyData.int (c : Nat)) (fun c hc k ht hf => ?_) ?_
  · have hc' := List.mem_range.mp hc
    simp only [lcStep, ↓sRet, ↓sNil, ↓sIf, ↓sSet, ↓sAsg, ↓sPar, ↓sPar3, ↓sSub, ↓sSub2, ↓sExpr, ↓sExprR, ↓sRetV, ↓sRetN, ↓sRaise, ↓sBrk, ↓sCt, ↓fOf, ↓fFz, ↓fName, ↓fFrz, ↓fC, ↓fBin, ↓fBinN, ↓fT, ↓fNot, ↓fAnd, ↓fOr, ↓fAndV, ↓fOrV, ↓fNotV, ↓fIf, ↓fIfN, ↓fChain, ↓fNil, ↓fCons, ↓fTup, ↓fLst, ↓fNeg, ↓fCall, ↓fIsI, ↓fJoin, ↓fApp, ↓fExt, ↓fPop, ↓fPopAt, ↓fSl, ↓fPart, ↓fNoPart, ↓fSeq, ↓fRng1, ↓fRng2, ↓fEnum, ↓fZip, ↓fGN, ↓fGT, ↓fGcons, ↓fGnil, ↓fLc, ↓fLl, ↓fYes, ↓fOwn, ↓fAt2, ↓fCount, ↓fIndex, ↓fRev, ↓fMulL, ↓fSel, ↓sTry, ↓fIsP, ↓isLk, ↓L3.gSub, ↓gMulI, ↓gDiv, ↓gMod, ↓gPow, ↓gLt, ↓gLe, ↓gGt, ↓gGe, ↓gI, ↓gIC, ↓gAdd, ↓gIx, ↓gSl, ↓gLen, ↓gAll, ↓gAny, ↓gSum, ↓gMin2, ↓gMax2, ↓gList, ↓gTuple, ↓gNe, ↓gNotIn, ↓gIs, ↓gIsNot, ↓isNone, ↓look, ↓withD, ↓isD, ↓isB, ↓areD, ↓withDs, ↓isBor, ↓isLst, ↓isLl, ↓isI, ↓items1, ↓itemsD, ↓argsM, ↓putB, ↓pjs, ↓outsOf, ↓fin, ↓startE, ↓wipeK, ↓wipeE, ↓unw, ↓noOwnB, gEq_ii, gEq_ss, gEq_bb, own_no, own_dat, own_lst, own_ll, List.getD_cons_zero, List.getD_cons_succ, List.set_cons_zero, List.set_cons_succ, List.replicate_succ, List.replicate_zero, List.cons_append, List.nil_append, List.length_cons, List.length_nil, List.map_cons, List.map_nil, List.all_cons, List.all_nil, Nat.reduceAdd, Nat.reduceSub, Bool.not_false, Bool.not_true, Bool.and_true, Bool.and_self, if_true, if_false, reduceCtorEq, List.zipIdx_cons, List.zipIdx_nil, List.filterMap_cons, List.filterMap_nil, Option.map_some, Option.map_none, decide_true, Nat.zero_add, reduceIte, Bool.false_eq_true, true_and, and_true, List.length_map]
    refine ⟨small (by omega), ?_⟩
    refine lcR_enc1 encL (fun l => PyData.bool (l.getD c false)) (fun l hl k2 hk2 => ?_) ?_
    · have el := W.row l hl
      simp only [lcStep, ↓sRet, ↓sNil, ↓sIf, ↓sSet, ↓sAsg, ↓sPar, ↓sPar3, ↓sSub, ↓sSub2, ↓sExpr, ↓sExprR, ↓sRetV, ↓sRetN, ↓sRaise, ↓sBrk, ↓sCt, ↓fOf, ↓fFz, ↓fName, ↓fFrz, ↓fC, ↓fBin, ↓fBinN, ↓fT, ↓fNot, ↓fAnd, ↓fOr, ↓fAndV, ↓fOrV, ↓fNotV, ↓fIf, ↓fIfN, ↓fChain, ↓fNil, ↓fCons, ↓fTup, ↓fLst, ↓fNeg, ↓fCall, ↓fIsI, ↓fJoin, ↓fApp, ↓fExt, ↓fPop, ↓fPopAt, ↓fSl, ↓fPart, ↓fNoPart, ↓fSeq, ↓fRng1, ↓fRng2, ↓fEnum, ↓fZip, ↓fGN, ↓fGT, ↓fGcons, ↓fGnil, ↓fLc, ↓fLl, ↓fYes, ↓fOwn, ↓fAt2, ↓fCount, ↓fIndex, ↓fRev, ↓fMulL, ↓fSel, ↓sTry, ↓fIsP, ↓isLk, ↓L3.gSub, ↓gMulI, ↓gDiv, ↓gMod, ↓gPow, ↓gLt, ↓gLe, ↓gGt, ↓gGe, ↓gI, ↓gIC, ↓gAdd, ↓gIx, ↓gSl, ↓gLen, ↓gAll, ↓gAny, ↓gSum, ↓gMin2, ↓gMax2, ↓gList, ↓gTuple, ↓gNe, ↓gNotIn, ↓gIs, ↓gIsNot, ↓isNone, ↓look, ↓withD, ↓isD, ↓isB, ↓areD, ↓withDs, ↓isBor, ↓isLst, ↓isLl, ↓isI, ↓items1, ↓itemsD, ↓argsM, ↓putB, ↓pjs, ↓outsOf, ↓fin, ↓startE, ↓wipeK, ↓wipeE, ↓unw, ↓noOwnB, gEq_ii, gEq_ss, gEq_bb, own_no, own_dat, own_lst, own_ll, List.getD_cons_zero, List.getD_cons_succ, List.set_cons_zero, List.set_cons_succ, List.replicate_succ, List.replicate_zero, List.cons_append, List.nil_append, List.length_cons, List.length_nil, List.map_cons, List.map_nil, List.all_cons, List.all_nil, Nat.reduceAdd, Nat.reduceSub, Bool.not_false, Bool.not_true, Bool.and_true, Bool.and_self, if_true, if_false, reduceCtorEq, List.zipIdx_cons, List.zipIdx_nil, List.filterMap_cons, List.filterMap_nil, Option.map_some, Option.map_none, decide_true, Nat.zero_add, reduceIte, Bool.false_eq_true, true_and, and_true, encL]
      refine ⟨by rw [lineS_len]; exact Nat.le_of_lt (small (by omega)), _, line_at (by omega), ?_⟩
      rw [is_hash]
      exact hk2
    · simp only [↓sRet, ↓sNil, ↓sIf, ↓sSet, ↓sAsg, ↓sPar, ↓sPar3, ↓sSub, ↓sSub2, ↓sExpr, ↓sExprR, ↓sRetV, ↓sRetN, ↓sRaise, ↓sBrk, ↓sCt, ↓fOf, ↓fFz, ↓fName, ↓fFrz, ↓fC, ↓fBin, ↓fBinN, ↓fT, ↓fNot, ↓fAnd, ↓fOr, ↓fAndV, ↓fOrV, ↓fNotV, ↓fIf, ↓fIfN, ↓fChain, ↓fNil, ↓fCons, ↓fTup, ↓fLst, ↓fNeg, ↓fCall, ↓fIsI, ↓fJoin, ↓fApp, ↓fExt, ↓fPop, ↓fPopAt, ↓fSl, ↓fPart, ↓fNoPart, ↓fSeq, ↓fRng1, ↓fRng2, ↓fEnum, ↓fZip, ↓fGN, ↓fGT, ↓fGcons, ↓fGnil, ↓fLc, ↓fLl, ↓fYes, ↓fOwn, ↓fAt2, ↓fCount, ↓fIndex, ↓fRev, ↓fMulL, ↓fSel, ↓sTry, ↓fIsP, ↓isLk, ↓L3.gSub, ↓gMulI, ↓gDiv, ↓gMod, ↓gPow, ↓gLt, ↓gLe, ↓gGt, ↓gGe, ↓gI, ↓gIC, ↓gAdd, ↓gIx, ↓gSl, ↓gLen, ↓gAll, ↓gAny, ↓gSum, ↓gMin2, ↓gMax2, ↓gList, ↓gTuple, ↓gNe, ↓gNotIn, ↓gIs, ↓gIsNot, ↓isNone, ↓look, ↓withD, ↓isD, ↓isB, ↓areD, ↓withDs, ↓isBor, ↓isLst, ↓isLl, ↓isI, ↓items1, ↓itemsD, ↓argsM, ↓putB, ↓pjs, ↓outsOf, ↓fin, ↓startE, ↓wipeK, ↓wipeE, ↓unw, ↓noOwnB, gEq_ii, gEq_ss, gEq_bb, own_no, own_dat, own_lst, own_ll, List.getD_cons_zero, List.getD_cons_succ, List.set_cons_zero, List.set_cons_succ, List.replicate_succ, List.replicate_zero, List.cons_append, List.nil_append, List.length_cons, List.length_nil, List.map_cons, List.map_nil, List.all_cons, List.all_nil, Nat.reduceAdd, Nat.reduceSub, Bool.not_false, Bool.not_true, Bool.and_true, Bool.and_self, if_true, if_false, reduceCtorEq, List.zipIdx_cons, List.zipIdx_nil, List.filterMap_cons, List.filterMap_nil, Option.map_some, Option.map_none, decide_true, Nat.zero_add, reduceIte, Bool.false_eq_true, true_and, and_true]
      refine ⟨p.map fun l => l.getD c false, by rw [List.map_map]; rfl, ?_⟩
      rw [any_id_map]
      cases e : p.any (fun l => l.getD c false) with
      | true => exact ht e
      | false => exact hf e
  simp only [↓sRet, ↓sNil, ↓sIf, ↓sSet, ↓sAsg, ↓sPar, ↓sPar3, ↓sSub, ↓sSub2, ↓sExpr, ↓sExprR, ↓sRetV, ↓sRetN, ↓sRaise, ↓sBrk, ↓sCt, ↓fOf, ↓fFz, ↓fName, ↓fFrz, ↓fC, ↓fBin, ↓fBinN, ↓fT, ↓fNot, ↓fAnd, ↓fOr, ↓fAndV, ↓fOrV, ↓fNotV, ↓fIf, ↓fIfN, ↓fChain, ↓fNil, ↓fCons, ↓fTup, ↓fLst, ↓fNeg, ↓fCall, ↓fIsI, ↓fJoin, ↓fApp, ↓fExt, ↓fPop, ↓fPopAt, ↓fSl, ↓fPart, ↓fNoPart, ↓fSeq, ↓fRng1, ↓fRng2, ↓fEnum, ↓fZip, ↓fGN, ↓fGT, ↓fGcons, ↓fGnil, ↓fLc, ↓fLl, ↓fYes, ↓fOwn, ↓fAt2, ↓fCount, ↓fIndex, ↓fRev, ↓fMulL, ↓fSel, ↓sTry, ↓fIsP, ↓isLk, ↓L3.gSub, ↓gMulI, ↓gDiv, ↓gMod, ↓gPow, ↓gLt, ↓gLe, ↓gGt, ↓gGe, ↓gI, ↓gIC, ↓gAdd, ↓gIx, ↓gSl, ↓gLen, ↓gAll, ↓gAny, ↓gSum, ↓gMin2, ↓gMax2, ↓gList, ↓gTuple, ↓gNe, ↓gNotIn, ↓gIs, ↓gIsNot, ↓isNone, ↓look, ↓withD, ↓isD, ↓isB, ↓areD, ↓withDs, ↓isBor, ↓isLst, ↓isLl, ↓isI, ↓items1, ↓itemsD, ↓argsM, ↓putB, ↓pjs, ↓outsOf, ↓fin, ↓startE, ↓wipeK, ↓wipeE, ↓unw, ↓noOwnB, gEq_ii, gEq_ss, gEq_bb, own_no, own_dat, own_lst, own_ll, List.getD_cons_zero, List.getD_cons_succ, List.set_cons_zero, List.set_cons_succ, List.replicate_succ, List.replicate_zero, List.cons_append, List.nil_append, List.length_cons, List.length_nil, List.map_cons, List.map_nil, List.all_cons, List.all_nil, Nat.reduceAdd, Nat.reduceSub, Bool.not_false, Bool.not_true, Bool.and_true, Bool.and_self, if_true, if_false, reduceCtorEq, List.zipIdx_cons, List.zipIdx_nil, List.filterMap_cons, List.filterMap_nil, Option.map_some, Option.map_none, decide_true, Nat.zero_add, reduceIte, Bool.false_eq_true, true_and, and_true]
  refine hN _ ?_
  clear hN N
  have pc : ∀ c, (p.any fun l => l.getD c false) = true ↔ ∃ r, atP p r c = true := fun c => by
    rw [List.any_eq_true]
    constructor
    · rintro ⟨l, hl, e⟩
      obtain ⟨i, hi, rfl⟩ := List.mem_iff_getElem.mp hl
      exact ⟨i, by unfold atP; rw [getD_at hi]; exact e⟩
    · rintro ⟨r, e⟩
      have hl := W.atP_lt e
      unfold atP at e
      have z : p.getD r [] = p[r] := getD_at (by omega)
      rw [z] at e
      exact ⟨_, List.getElem_mem _, e⟩
  obtain ⟨cx, hcx⟩ := any_getD.mp pr0
  have hcn : (List.range w).filter (fun c => p.any fun l => l.getD c false) ≠ [] := fun z => by
    have : cx ∈ (List.range w).filter (fun c => p.any fun l => l.getD c false) := List.mem_filter.mpr ⟨List.mem_range.mpr (W.atP_lt (r := r0) (c := cx) hcx).2, (pc cx).mpr ⟨r0, hcx⟩⟩
    rw [z] at this
    cases this
  obtain ⟨c0, c1, ec0, ec1, pc0, pc1, lc0, lc1, hcall⟩ := filt_ends hcn
  have hB : Box p r0 r1 c0 c1 := by
    refine ⟨any_getD.mp pr0, any_getD.mp pr1, (pc _).mp pc0, (pc _).mp pc1, fun r c e => ?_⟩
    have hl := W.atP_lt e
    exact ⟨hrall r (by omega) (any_getD.mpr ⟨c, e⟩), hcall c hl.2 ((pc c).mpr ⟨r, e⟩)⟩
  have hrr := (hrall r1 lr1 pr1).1
  have hcc := (hcall c1 lc1 pc1).1
  simp only [↓sRet, ↓sNil, ↓sIf, ↓sSet, ↓sAsg, ↓sPar, ↓sPar3, ↓sSub, ↓sSub2, ↓sExpr, ↓sExprR, ↓sRetV, ↓sRetN, ↓sRaise, ↓sBrk, ↓sCt, ↓fOf, ↓fFz, ↓fName, ↓fFrz, ↓fC, ↓fBin, ↓fBinN, ↓fT, ↓fNot, ↓fAnd, ↓fOr, ↓fAndV, ↓fOrV, ↓fNotV, ↓fIf, ↓fIfN, ↓fChain, ↓fNil, ↓fCons, ↓fTup, ↓fLst, ↓fNeg, ↓fCall, ↓fIsI, ↓fJoin, ↓fApp, ↓fExt, ↓fPop, ↓fPopAt, ↓fSl, ↓fPart, ↓fNoPart, ↓fSeq, ↓fRng1, ↓fRng2, ↓fEnum, ↓fZip, ↓fGN, ↓fGT, ↓fGcons, ↓fGnil, ↓fLc, ↓fLl, ↓fYes, ↓fOwn, ↓fAt2, ↓fCount, ↓fIndex, ↓fRev, ↓fMulL, ↓fSel, ↓sTry, ↓fIsP, ↓isLk, ↓L3.gSub, ↓gMulI, ↓gDiv, ↓gMod, ↓gPow, ↓gLt, ↓gLe, ↓gGt, ↓gGe, ↓gI, ↓gIC, ↓gAdd, ↓gIx, ↓gSl, ↓gLen, ↓gAll, ↓gAny, ↓gSum, ↓gMin2, ↓gMax2, ↓gList, ↓gTuple, ↓gNe, ↓gNotIn, ↓gIs, ↓gIsNot, ↓isNone, ↓look, ↓withD, ↓isD, ↓isB, ↓areD, ↓withDs, ↓isBor, ↓isLst, ↓isLl, ↓isI, ↓items1, ↓itemsD, ↓argsM, ↓putB, ↓pjs, ↓outsOf, ↓fin, ↓startE, ↓wipeK, ↓wipeE, ↓unw, ↓noOwnB, gEq_ii, gEq_ss, gEq_bb, own_no, own_dat, own_lst, own_ll, List.getD_cons_zero, List.getD_cons_succ, List.set_cons_zero, List.set_cons_succ, List.replicate_succ, List.replicate_zero, List.cons_append, List.nil_append, List.length_cons, List.length_nil, List.map_cons, List.map_nil, List.all_cons, List.all_nil, Nat.reduceAdd, Nat.reduceSub, Bool.not_false, Bool.not_true, Bool.and_true, Bool.and_self, if_true, if_false, reduceCtorEq, List.zipIdx_cons, List.zipIdx_nil, List.filterMap_cons, List.filterMap_nil, Option.map_some, Option.map_none, decide_true, Nat.zero_add, reduceIte, Bool.false_eq_true, true_and, and_true, dsp_part_at]
  refine ⟨_, er0, _, ec0, _, er1, _, er0, _, ec1, _, ec0, p, r0, c0, r1 - r0 + 1, c1 - c0 + 1, ?_, W.short, ?_⟩
  · rw [show ((r1 : Int) - r0 + 1) = ((r1 - r0 + 1 : Nat) : Int) by omega, show ((c1 : Int) - c0 + 1) = ((c1 - c0 + 1 : Nat) : Int) by omega]
    rfl
  · exact hbox r0 r1 c0 c1 hB
end My

namespace My
open PySem PySem.Spec PyProof.Rows L2 L3
/-! ### pictures by their cells -/
def mkP (h w : Nat) (f : Nat → Nat → Bool) : List (List Bool) := (List.range h).map fun r => (List.range w).map fun c => f r c
theorem getD_map_range {α : Type} {n i : Nat} {f : Nat → α} {d : α} (h : i < n) : ((List.range n).map f).getD i d = f i := by
  rw [List.getD_eq_getElem?_getD, List.getElem?_map, List.getElem?_range h]
  rfl
theorem atP_mk {h w r c : Nat} {f : Nat → Nat → Bool} (hr : r < h) (hc : c < w) : atP (mkP h w f) r c = f r c := by
  unfold atP mkP
  rw [getD_map_range hr, getD_map_range hc]
theorem wf_mk {h w : Nat} {f : Nat → Nat → Bool} (h1 : 1 ≤ h) (h8 : h ≤ 8) (w1 : 1 ≤ w) (w8 : w ≤ 8) : Wf h w (mkP h w f) := by
  refine ⟨h1, h8, w1, w8, by unfold mkP; rw [List.length_map, List.length_range], fun r hr => ?_⟩
  unfold mkP at hr
  obtain ⟨i, _, rfl⟩ := List.mem_map.mp hr
  rw [List.length_map, List.length_range]
theorem atP_get {h w : Nat} {p : List (List Bool)} (W : Wf h w p) {r c : Nat} (hr : r < h) (hc : c < w) : ∃ h1 : r < p.length, ∃ h2 : c < p[r].length, atP p r c = p[r][c] := by
  have h1 : r < p.length := by rw [W.len]; exact hr
  have h2 : c < p[r].length := by rw [W.row _ (List.getElem_mem h1)]; exact hc
  refine ⟨h1, h2, ?_⟩
  unfold atP
  have z : p.getD r [] = p[r] := getD_at h1
  rw [z, getD_at h2]
theorem pic_ext {h w : Nat} {p q : List (List Bool)} (P : Wf h w p) (Q : Wf h w q) (e : ∀ r c, r < h → c < w → atP p r c = atP q r c) : p = q := by
  apply List.ext_getElem (by rw [P.len, Q.len])
  intro r h1 h2
  have hr : r < h := by rw [← P.len]; exact h1
  have l1 := P.row _ (List.getElem_mem h1)
  have l2 := Q.row _ (List.getElem_mem h2)
  apply List.ext_getElem (by rw [l1, l2])
  intro c g1 g2
  have hc : c < w := by rw [← l1]; exact g1
  obtain ⟨_, _, a⟩ := atP_get P hr hc
  obtain ⟨_, _, b⟩ := atP_get Q hr hc
  rw [← a, ← b]
  exact e r c hr hc
/-! ### row by row -/
def rowL (h w : Nat) (P : Nat → Nat → Bool) : List Cell := (List.range h).flatMap fun r => ((List.range w).filter fun c => P r c).map fun c => (r, c)
theorem mem_rowL {h w r c : Nat} {P : Nat → Nat → Bool} : (r, c) ∈ rowL h w P ↔ (r < h ∧ c < w) ∧ P r c = true := by
  unfold rowL
  rw [List.mem_flatMap]
  constructor
  · rintro ⟨i, hi, hx⟩
    obtain ⟨j, hj, e⟩ := List.mem_map.mp hx
    cases e
    obtain ⟨a, b⟩ := List.mem_filter.mp hj
    exact ⟨⟨List.mem_range.mp hi, List.mem_range.mp a⟩, b⟩
  · rintro ⟨⟨a, b⟩, e⟩
    exact ⟨r, List.mem_range.mpr a, List.mem_map.mpr ⟨c, List.mem_filter.mpr ⟨List.mem_range.mpr b, e⟩, rfl⟩⟩
def cLt (a b : Cell) : Prop := a.1 < b.1 ∨ (a.1 = b.1 ∧ a.2 < b.2)
theorem rowL_succ (h w : Nat) (P : Nat → Nat → Bool) : rowL (h + 1) w P = rowL h w P ++ ((List.range w).filter fun c => P h c).map fun c => (h, c) := by
  unfold rowL
  rw [List.range_succ, List.flatMap_append]
  simp
theorem rowL_sorted (w : Nat) (P : Nat → Nat → Bool) : ∀ h, (rowL h w P).Pairwise cLt
  | 0 => by unfold rowL; simp
  | h + 1 => by
    rw [rowL_succ, List.pairwise_append]
    refine ⟨rowL_sorted w P h, ?_, fun a ha b hb => ?_⟩
    · rw [List.pairwise_map]
      refine List.Pairwise.imp (fun {a b} z => Or.inr ⟨rfl, z⟩) (List.Pairwise.filter _ List.pairwise_lt_range)
    · obtain ⟨a1, a2⟩ := a
      obtain ⟨j, _, rfl⟩ := List.mem_map.mp hb
      exact Or.inl (mem_rowL.mp ha).1.1
theorem sorted_uniq : ∀ {L M : List Cell}, L.Pairwise cLt → M.Pairwise cLt → (∀ x, x ∈ L ↔ x ∈ M) → L = M
  | [], [], _, _, _ => rfl
  | [], y :: M, _, _, h => absurd ((h y).mpr List.mem_cons_self) (by simp)
  | x :: L, [], _, _, h => absurd ((h x).mp List.mem_cons_self) (by simp)
  | x :: L, y :: M, hl, hm, h => by
    have irr : ∀ a : Cell, ¬ cLt a a := fun a z => by unfold cLt at z; omega
    have asym : ∀ a b : Cell, cLt a b → ¬ cLt b a := fun a b z1 z2 => by unfold cLt at z1 z2; omega
    have hl' := List.pairwise_cons.mp hl
    have hm' := List.pairwise_cons.mp hm
    have e : x = y := by
      rcases List.mem_cons.mp ((h x).mp List.mem_cons_self) with e | hx
      · exact e
      · rcases List.mem_cons.mp ((h y).mpr List.mem_cons_self) with e | hy
        · exact e.symm
        · exact absurd (hl'.1 y hy) (asym _ _ (hm'.1 x hx))
    subst e
    rw [sorted_uniq hl'.2 hm'.2 fun z => ?_]
    constructor
    · intro hz
      rcases List.mem_cons.mp ((h z).mp (List.mem_cons_of_mem _ hz)) with e | hz'
      · subst e; exact absurd (hl'.1 z hz) (irr z)
      · exact hz'
    · intro hz
      rcases List.mem_cons.mp ((h z).mpr (List.mem_cons_of_mem _ hz)) with e | hz'
      · subst e; exact absurd (hm'.1 z hz) (irr z)
      · exact hz'
theorem rowL_ext {h w : Nat} {P Q : Nat → Nat → Bool} (e : ∀ r c, r < h → c < w → P r c = Q r c) : rowL h w P = rowL h w Q :=
  sorted_uniq (rowL_sorted w P h) (rowL_sorted w Q h) fun ⟨r, c⟩ => by
    rw [mem_rowL, mem_rowL]
    constructor
    · rintro ⟨⟨a, b⟩, z⟩; exact ⟨⟨a, b⟩, by rw [← e r c a b]; exact z⟩
    · rintro ⟨⟨a, b⟩, z⟩; exact ⟨⟨a, b⟩, by rw [e r c a b]; exact z⟩
theorem Wf.cells {h w : Nat} {p : List (List Bool)} (W : Wf h w p) : cellsOf p = rowL h w (atP p) := by
  unfold cellsOf cellsTo rowL
  rw [W.len]
  have key : ∀ n, n ≤ h → (List.range n).flatMap (fun r => rowCells r (p.getD r [])) = (List.range n).flatMap fun r => ((List.range w).filter fun c => atP p r c).map fun c => (r, c) := fun n => by
    induction n with
    | zero => intro _; rfl
    | succ n ih =>
      intro hn
      rw [List.range_succ, List.flatMap_append, List.flatMap_append, ih (by omega)]
      congr 1
      have h1 : n < p.length := by rw [W.len]; omega
      have z : p.getD n [] = p[n] := getD_at h1
      have l := W.row _ (List.getElem_mem h1)
      have e : rowCells n (p.getD n []) = ((List.range w).filter fun c => atP p n c).map fun c => (n, c) := by
        unfold rowCells atP
        rw [z, l]
      simp only [List.flatMap_cons, List.flatMap_nil, List.append_nil]
      exact e
  exact key h (Nat.le_refl _)
/-- what sorted gives of cells -/
theorem cells_alike (cs : List Cell) : PySem.W.AllAlike (cs.map encC) := fun d hd d' hd' => by
  obtain ⟨a, _, rfl⟩ := List.mem_map.mp hd
  obtain ⟨b, _, rfl⟩ := List.mem_map.mp hd'
  simp [encC, PySem.W.alike, PySem.W.alikeAll]
theorem cells_sortable (cs : List Cell) : PySem.W.Sortable (cs.map encC) := .inl fun d hd => by
  obtain ⟨a, _, rfl⟩ := List.mem_map.mp hd
  exact ⟨_, _, rfl⟩
theorem cells_depth (b : Cell) : (encC b).depth ≤ 60 := by simp [encC, PyData.depth, PyData.depthAll]
def cLe (a b : Cell) : Bool := decide ((a.1 : Int) < b.1 ∨ ((a.1 : Int) = b.1 ∧ (a.2 : Int) ≤ b.2))
theorem dataLe_cells : PySem.W.dataLe false encC = cLe := PySem.W.dataLe_ii (fun c : Cell => (c.1 : Int)) fun c : Cell => (c.2 : Int)
theorem sort_cells {cs M : List Cell} (hn : cs.Nodup) (hM : M.Pairwise cLt) (h : ∀ x, x ∈ cs ↔ x ∈ M) : cs.mergeSort (PySem.W.dataLe false encC) = M := by
  rw [dataLe_cells]
  have hp := List.mergeSort_perm cs cLe
  have hs : (cs.mergeSort cLe).Pairwise fun a b => cLe a b = true := List.pairwise_mergeSort (fun a b c z1 z2 => by
    unfold cLe at *
    rw [decide_eq_true_eq] at *
    omega) (fun a b => by
    unfold cLe
    rw [Bool.or_eq_true, decide_eq_true_eq, decide_eq_true_eq]
    omega) cs
  refine sorted_uniq ?_ hM fun x => (hp.mem_iff).trans (h x)
  have hnd : (cs.mergeSort cLe).Nodup := hp.nodup_iff.mpr hn
  refine List.Pairwise.imp₂ (fun a b z1 z2 => ?_) hs hnd
  unfold cLe at z1
  rw [decide_eq_true_eq] at z1
  unfold cLt
  have : ¬ (a.1 = b.1 ∧ a.2 = b.2) := fun ⟨x, y⟩ => z2 (Prod.ext x y)
  omega
end My

namespace My
open PySem PySem.Spec PyProof.Rows L2 L3
/-! ### two pictures -/
def T_need_two (cs : Cs) : TXS :=
  (sSeq (sExpr (fOwn [none] (dsp_need_picture cs) (fCons (fName 0) fNil)))
  (sSeq (sExpr (fOwn [none] (dsp_need_picture cs) (fCons (fName 1) fNil)))
  (sIf (fOr (fT (fBin gNe (fFz (fCall gLen (fCons (fName 0) fNil))) (fFz (fCall gLen (fCons (fName 1) fNil))))) (fT (fBin gNe (fFz (fCall gLen (fCons (fBin gIx (fName 0) (fC (.int 0))) fNil))) (fFz (fCall gLen (fCons (fBin gIx (fName 1) (fC (.int 0))) fNil)))))) (sRaise (.ref cs.NoSize)) sNil)))

def widthD : PyData → Nat
  | .tuple ds => lenD (ds.getD 0 .none)
  | _ => 0
def heightD : PyData → Nat
  | .tuple ds => ds.length
  | _ => 0
/-- what is asked of a pair -/
def dsp_need_two (cs : Cs) : DSp := fun es post xp => ∃ d e, es = [.dat d, .dat e] ∧ smallP d ∧ smallP e ∧ (isPicD d = false → xp (.ref cs.NoPicture) []) ∧ (isPicD d = true → isPicD e = false → xp (.ref cs.NoPicture) []) ∧
  (∀ (p q : List (List Bool)) (h w h' w' : Nat), d = encP p → e = encP q → Wf h w p → Wf h' w' q → if h = h' ∧ w = w' then post (.dat .none) [] else xp (.ref cs.NoSize) [])
theorem isLine_enc {d : PyData} (h : isLineD d = true) : ∃ r : List Bool, d = encL r ∧ 1 ≤ r.length ∧ r.length ≤ 8 := by
  obtain ⟨s, rfl, hs⟩ := isLine_str h
  unfold isLineS at hs
  rw [Bool.and_eq_true, Bool.and_eq_true, decide_eq_true_eq, decide_eq_true_eq, List.all_eq_true] at hs
  obtain ⟨⟨h1, h2⟩, h3⟩ := hs
  have key : ∀ l : List Nat, (∀ x ∈ l, decide (x = 35 ∨ x = 46) = true) → ∃ r : List Bool, l = r.map sg := fun l => by
    induction l with
    | nil => intro _; exact ⟨[], rfl⟩
    | cons x l ih =>
      intro hl
      obtain ⟨r, rfl⟩ := ih fun y hy => hl y (List.mem_cons_of_mem _ hy)
      rcases of_decide_eq_true (hl x List.mem_cons_self) with rfl | rfl
      · exact ⟨true :: r, rfl⟩
      · exact ⟨false :: r, rfl⟩
  obtain ⟨r, hr⟩ := key s.cps.toList h3
  have e : s = lineS r := by
    unfold lineS
    rw [← hr]
  refine ⟨r, by rw [e]; rfl, ?_, ?_⟩
  · rw [e, lineS_len] at h1; exact h1
  · rw [e, lineS_len] at h2; exact h2
theorem isPic_enc {d : PyData} (h : isPicD d = true) : ∃ p hh ww, d = encP p ∧ Wf hh ww p := by
  cases d with
  | tuple ds =>
    have h' : isPicL ds = true := h
    unfold isPicL at h'
    rw [Bool.and_eq_true, Bool.and_eq_true, Bool.and_eq_true, decide_eq_true_eq, decide_eq_true_eq, List.all_eq_true, List.all_eq_true] at h'
    obtain ⟨⟨⟨h1, h2⟩, h3⟩, h4⟩ := h'
    have key : ∀ l : List PyData, (∀ x ∈ l, isLineD x = true) → ∃ p : List (List Bool), l = p.map encL ∧ ∀ r ∈ p, 1 ≤ r.length ∧ r.length ≤ 8 := fun l => by
      induction l with
      | nil => intro _; exact ⟨[], rfl, fun r hr => absurd hr (by simp)⟩
      | cons x l ih =>
        intro hl
        obtain ⟨p, rfl, hp⟩ := ih fun y hy => hl y (List.mem_cons_of_mem _ hy)
        obtain ⟨r, rfl, a, b⟩ := isLine_enc (hl x List.mem_cons_self)
        exact ⟨r :: p, rfl, fun r' hr' => by
          rcases List.mem_cons.mp hr' with rfl | hr'
          · exact ⟨a, b⟩
          · exact hp r' hr'⟩
    obtain ⟨p, rfl, hp⟩ := key ds h3
    rw [List.length_map] at h1 h2
    have h0 : 0 < p.length := h1
    have e0 : (p.map encL).getD 0 .none = encL p[0] := by rw [List.getD_eq_getElem?_getD, List.getElem?_map, List.getElem?_eq_getElem h0]; rfl
    obtain ⟨a, b⟩ := hp _ (List.getElem_mem h0)
    refine ⟨p, p.length, p[0].length, rfl, h1, h2, a, b, rfl, fun r hr => ?_⟩
    have z := of_decide_eq_true (h4 _ (List.mem_map.mpr ⟨r, hr, rfl⟩))
    rw [e0] at z
    have z2 : (lineS r).length = (lineS p[0]).length := z
    rwa [lineS_len, lineS_len] at z2
  | _ => cases h
theorem good_need_two (cs : Cs) : Good [] 2 2 (T_need_two cs) (dsp_need_two cs) := by
  rintro es post xp ⟨d, e, rfl, hd, he, x1, x2, hp⟩ _
  unfold T_need_two
  refine sSeq_g fun N hN => ?_
  simp only [↓sRet, ↓sNil, ↓sIf, ↓sSet, ↓sAsg, ↓sPar, ↓sPar3, ↓sSub, ↓sSub2, ↓sExpr, ↓sExprR, ↓sRetV, ↓sRetN, ↓sRaise, ↓sBrk, ↓sCt, ↓fOf, ↓fFz, ↓fName, ↓fFrz, ↓fC, ↓fBin, ↓fBinN, ↓fT, ↓fNot, ↓fAnd, ↓fOr, ↓fAndV, ↓fOrV, ↓fNotV, ↓fIf, ↓fIfN, ↓fChain, ↓fNil, ↓fCons, ↓fTup, ↓fLst, ↓fNeg, ↓fCall, ↓fIsI, ↓fJoin, ↓fApp, ↓fExt, ↓fPop, ↓fPopAt, ↓fSl, ↓fPart, ↓fNoPart, ↓fSeq, ↓fRng1, ↓fRng2, ↓fEnum, ↓fZip, ↓fGN, ↓fGT, ↓fGcons, ↓fGnil, ↓fLc, ↓fLl, ↓fYes, ↓fOwn, ↓fAt2, ↓fCount, ↓fIndex, ↓fRev, ↓fMulL, ↓fSel, ↓sTry, ↓fIsP, ↓isLk, ↓L3.gSub, ↓gMulI, ↓gDiv, ↓gMod, ↓gPow, ↓gLt, ↓gLe, ↓gGt, ↓gGe, ↓gI, ↓gIC, ↓gAdd, ↓gIx, ↓gSl, ↓gLen, ↓gAll, ↓gAny, ↓gSum, ↓gMin2, ↓gMax2, ↓gList, ↓gTuple, ↓gNe, ↓gNotIn, ↓gIs, ↓gIsNot, ↓isNone, ↓look, ↓withD, ↓isD, ↓isB, ↓areD, ↓withDs, ↓isBor, ↓isLst, ↓isLl, ↓isI, ↓items1, ↓itemsD, ↓argsM, ↓putB, ↓pjs, ↓outsOf, ↓fin, ↓startE, ↓wipeK, ↓wipeE, ↓unw, ↓noOwnB, gEq_ii, gEq_ss, gEq_bb, own_no, own_dat, own_lst, own_ll, List.getD_cons_zero, List.getD_cons_succ, List.set_cons_zero, List.set_cons_succ, List.replicate_succ, List.replicate_zero, List.cons_append, List.nil_append, List.length_cons, List.length_nil, List.map_cons, List.map_nil, List.all_cons, List.all_nil, Nat.reduceAdd, Nat.reduceSub, Bool.not_false, Bool.not_true, Bool.and_true, Bool.and_self, if_true, if_false, reduceCtorEq, List.zipIdx_cons, List.zipIdx_nil, List.filterMap_cons, List.filterMap_nil, Option.map_some, Option.map_none, decide_true, Nat.zero_add, reduceIte, Bool.false_eq_true, true_and, and_true, dsp_need_picture]
  refine ⟨d, rfl, hd, fun pd => hN _ ?_, fun z => x1 z⟩
  clear hN N
  refine sSeq_g fun N hN => ?_
  simp only [↓sRet, ↓sNil, ↓sIf, ↓sSet, ↓sAsg, ↓sPar, ↓sPar3, ↓sSub, ↓sSub2, ↓sExpr, ↓sExprR, ↓sRetV, ↓sRetN, ↓sRaise, ↓sBrk, ↓sCt, ↓fOf, ↓fFz, ↓fName, ↓fFrz, ↓fC, ↓fBin, ↓fBinN, ↓fT, ↓fNot, ↓fAnd, ↓fOr, ↓fAndV, ↓fOrV, ↓fNotV, ↓fIf, ↓fIfN, ↓fChain, ↓fNil, ↓fCons, ↓fTup, ↓fLst, ↓fNeg, ↓fCall, ↓fIsI, ↓fJoin, ↓fApp, ↓fExt, ↓fPop, ↓fPopAt, ↓fSl, ↓fPart, ↓fNoPart, ↓fSeq, ↓fRng1, ↓fRng2, ↓fEnum, ↓fZip, ↓fGN, ↓fGT, ↓fGcons, ↓fGnil, ↓fLc, ↓fLl, ↓fYes, ↓fOwn, ↓fAt2, ↓fCount, ↓fIndex, ↓fRev, ↓fMulL, ↓fSel, ↓sTry, ↓fIsP, ↓isLk, ↓L3.gSub, ↓gMulI, ↓gDiv, ↓gMod, ↓gPow, ↓gLt, ↓gLe, ↓gGt, ↓gGe, ↓gI, ↓gIC, ↓gAdd, ↓gIx, ↓gSl, ↓gLen, ↓gAll, ↓gAny, ↓gSum, ↓gMin2, ↓gMax2, ↓gList, ↓gTuple, ↓gNe, ↓gNotIn, ↓gIs, ↓gIsNot, ↓isNone, ↓look, ↓withD, ↓isD, ↓isB, ↓areD, ↓withDs, ↓isBor, ↓isLst, ↓isLl, ↓isI, ↓items1, ↓itemsD, ↓argsM, ↓putB, ↓pjs, ↓outsOf, ↓fin, ↓startE, ↓wipeK, ↓wipeE, ↓unw, ↓noOwnB, gEq_ii, gEq_ss, gEq_bb, own_no, own_dat, own_lst, own_ll, List.getD_cons_zero, List.getD_cons_succ, List.set_cons_zero, List.set_cons_succ, List.replicate_succ, List.replicate_zero, List.cons_append, List.nil_append, List.length_cons, List.length_nil, List.map_cons, List.map_nil, List.all_cons, List.all_nil, Nat.reduceAdd, Nat.reduceSub, Bool.not_false, Bool.not_true, Bool.and_true, Bool.and_self, if_true, if_false, reduceCtorEq, List.zipIdx_cons, List.zipIdx_nil, List.filterMap_cons, List.filterMap_nil, Option.map_some, Option.map_none, decide_true, Nat.zero_add, reduceIte, Bool.false_eq_true, true_and, and_true, dsp_need_picture]
  refine ⟨e, rfl, he, fun pe => hN _ ?_, fun z => x2 pd z⟩
  clear hN N
  obtain ⟨p, h, w, rfl, P⟩ := isPic_enc pd
  obtain ⟨q, h', w', rfl, Q⟩ := isPic_enc pe
  have hp := hp p q h w h' w' rfl rfl P Q
  obtain ⟨lp, a1, a2, _⟩ := P.head
  obtain ⟨lq, b1, b2, _⟩ := Q.head
  have l1 := P.len
  have l2 := Q.len
  have w1 := P.w8
  have w2 := Q.w8
  simp only [↓sRet, ↓sNil, ↓sIf, ↓sSet, ↓sAsg, ↓sPar, ↓sPar3, ↓sSub, ↓sSub2, ↓sExpr, ↓sExprR, ↓sRetV, ↓sRetN, ↓sRaise, ↓sBrk, ↓sCt, ↓fOf, ↓fFz, ↓fName, ↓fFrz, ↓fC, ↓fBin, ↓fBinN, ↓fT, ↓fNot, ↓fAnd, ↓fOr, ↓fAndV, ↓fOrV, ↓fNotV, ↓fIf, ↓fIfN, ↓fChain, ↓fNil, ↓fCons, ↓fTup, ↓fLst, ↓fNeg, ↓fCall, ↓fIsI, ↓fJoin, ↓fApp, ↓fExt, ↓fPop, ↓fPopAt, ↓fSl, ↓fPart, ↓fNoPart, ↓fSeq, ↓fRng1, ↓fRng2, ↓fEnum, ↓fZip, ↓fGN, ↓fGT, ↓fGcons, ↓fGnil, ↓fLc, ↓fLl, ↓fYes, ↓fOwn, ↓fAt2, ↓fCount, ↓fIndex, ↓fRev, ↓fMulL, ↓fSel, ↓sTry, ↓fIsP, ↓isLk, ↓L3.gSub, ↓gMulI, ↓gDiv, ↓gMod, ↓gPow, ↓gLt, ↓gLe, ↓gGt, ↓gGe, ↓gI, ↓gIC, ↓gAdd, ↓gIx, ↓gSl, ↓gLen, ↓gAll, ↓gAny, ↓gSum, ↓gMin2, ↓gMax2, ↓gList, ↓gTuple, ↓gNe, ↓gNotIn, ↓gIs, ↓gIsNot, ↓isNone, ↓look, ↓withD, ↓isD, ↓isB, ↓areD, ↓withDs, ↓isBor, ↓isLst, ↓isLl, ↓isI, ↓items1, ↓itemsD, ↓argsM, ↓putB, ↓pjs, ↓outsOf, ↓fin, ↓startE, ↓wipeK, ↓wipeE, ↓unw, ↓noOwnB, gEq_ii, gEq_ss, gEq_bb, own_no, own_dat, own_lst, own_ll, List.getD_cons_zero, List.getD_cons_succ, List.set_cons_zero, List.set_cons_succ, List.replicate_succ, List.replicate_zero, List.cons_append, List.nil_append, List.length_cons, List.length_nil, List.map_cons, List.map_nil, List.all_cons, List.all_nil, Nat.reduceAdd, Nat.reduceSub, Bool.not_false, Bool.not_true, Bool.and_true, Bool.and_self, if_true, if_false, reduceCtorEq, List.zipIdx_cons, List.zipIdx_nil, List.filterMap_cons, List.filterMap_nil, Option.map_some, Option.map_none, decide_true, Nat.zero_add, reduceIte, Bool.false_eq_true, true_and, and_true, encP, List.length_map, a1, b1, l1, l2]
  by_cases hh : h = h'
  · rw [decide_eq_true (show (h : Int) = (h' : Int) by omega)]
    simp only [↓sRet, ↓sNil, ↓sIf, ↓sSet, ↓sAsg, ↓sPar, ↓sPar3, ↓sSub, ↓sSub2, ↓sExpr, ↓sExprR, ↓sRetV, ↓sRetN, ↓sRaise, ↓sBrk, ↓sCt, ↓fOf, ↓fFz, ↓fName, ↓fFrz, ↓fC, ↓fBin, ↓fBinN, ↓fT, ↓fNot, ↓fAnd, ↓fOr, ↓fAndV, ↓fOrV, ↓fNotV, ↓fIf, ↓fIfN, ↓fChain, ↓fNil, ↓fCons, ↓fTup, ↓fLst, ↓fNeg, ↓fCall, ↓fIsI, ↓fJoin, ↓fApp, ↓fExt, ↓fPop, ↓fPopAt, ↓fSl, ↓fPart, ↓fNoPart, ↓fSeq, ↓fRng1, ↓fRng2, ↓fEnum, ↓fZip, ↓fGN, ↓fGT, ↓fGcons, ↓fGnil, ↓fLc, ↓fLl, ↓fYes, ↓fOwn, ↓fAt2, ↓fCount, ↓fIndex, ↓fRev, ↓fMulL, ↓fSel, ↓sTry, ↓fIsP, ↓isLk, ↓L3.gSub, ↓gMulI, ↓gDiv, ↓gMod, ↓gPow, ↓gLt, ↓gLe, ↓gGt, ↓gGe, ↓gI, ↓gIC, ↓gAdd, ↓gIx, ↓gSl, ↓gLen, ↓gAll, ↓gAny, ↓gSum, ↓gMin2, ↓gMax2, ↓gList, ↓gTuple, ↓gNe, ↓gNotIn, ↓gIs, ↓gIsNot, ↓isNone, ↓look, ↓withD, ↓isD, ↓isB, ↓areD, ↓withDs, ↓isBor, ↓isLst, ↓isLl, ↓isI, ↓items1, ↓itemsD, ↓argsM, ↓putB, ↓pjs, ↓outsOf, ↓fin, ↓startE, ↓wipeK, ↓wipeE, ↓unw, ↓noOwnB, gEq_ii, gEq_ss, gEq_bb, own_no, own_dat, own_lst, own_ll, List.getD_cons_zero, List.getD_cons_succ, List.set_cons_zero, List.set_cons_succ, List.replicate_succ, List.replicate_zero, List.cons_append, List.nil_append, List.length_cons, List.length_nil, List.map_cons, List.map_nil, List.all_cons, List.all_nil, Nat.reduceAdd, Nat.reduceSub, Bool.not_false, Bool.not_true, Bool.and_true, Bool.and_self, if_true, if_false, reduceCtorEq, List.zipIdx_cons, List.zipIdx_nil, List.filterMap_cons, List.filterMap_nil, Option.map_some, Option.map_none, decide_true, Nat.zero_add, reduceIte, Bool.false_eq_true, true_and, and_true, encL]
    refine ⟨_, rfl, by rw [lineS_len]; exact Nat.le_of_lt (small (by omega)), _, rfl, by rw [lineS_len]; exact Nat.le_of_lt (small (by omega)), ?_⟩
    rw [lineS_len, lineS_len, a2, b2]
    by_cases hw : w = w'
    · rw [decide_eq_true (show (w : Int) = (w' : Int) by omega)]
      rw [if_pos ⟨hh, hw⟩] at hp
      simpa [↓sRet, ↓sNil, ↓sIf, ↓sSet, ↓sAsg, ↓sPar, ↓sPar3, ↓sSub, ↓sSub2, ↓sExpr, ↓sExprR, ↓sRetV, ↓sRetN, ↓sRaise, ↓sBrk, ↓sCt, ↓fOf, ↓fFz, ↓fName, ↓fFrz, ↓fC, ↓fBin, ↓fBinN, ↓fT, ↓fNot, ↓fAnd, ↓fOr, ↓fAndV, ↓fOrV, ↓fNotV, ↓fIf, ↓fIfN, ↓fChain, ↓fNil, ↓fCons, ↓fTup, ↓fLst, ↓fNeg, ↓fCall, ↓fIsI, ↓fJoin, ↓fApp, ↓fExt, ↓fPop, ↓fPopAt, ↓fSl, ↓fPart, ↓fNoPart, ↓fSeq, ↓fRng1, ↓fRng2, ↓fEnum, ↓fZip, ↓fGN, ↓fGT, ↓fGcons, ↓fGnil, ↓fLc, ↓fLl, ↓fYes, ↓fOwn, ↓fAt2, ↓fCount, ↓fIndex, ↓fRev, ↓fMulL, ↓fSel, ↓sTry, ↓fIsP, ↓isLk, ↓L3.gSub, ↓gMulI, ↓gDiv, ↓gMod, ↓gPow, ↓gLt, ↓gLe, ↓gGt, ↓gGe, ↓gI, ↓gIC, ↓gAdd, ↓gIx, ↓gSl, ↓gLen, ↓gAll, ↓gAny, ↓gSum, ↓gMin2, ↓gMax2, ↓gList, ↓gTuple, ↓gNe, ↓gNotIn, ↓gIs, ↓gIsNot, ↓isNone, ↓look, ↓withD, ↓isD, ↓isB, ↓areD, ↓withDs, ↓isBor, ↓isLst, ↓isLl, ↓isI, ↓items1, ↓itemsD, ↓argsM, ↓putB, ↓pjs, ↓outsOf, ↓fin, ↓startE, ↓wipeK, ↓wipeE, ↓unw, ↓noOwnB, gEq_ii, gEq_ss, gEq_bb, own_no, own_dat, own_lst, own_ll, List.getD_cons_zero, List.getD_cons_succ, List.set_cons_zero, List.set_cons_succ, List.replicate_succ, List.replicate_zero, List.cons_append, List.nil_append, List.length_cons, List.length_nil, List.map_cons, List.map_nil, List.all_cons, List.all_nil, Nat.reduceAdd, Nat.reduceSub, Bool.not_false, Bool.not_true, Bool.and_true, Bool.and_self, if_true, if_false, reduceCtorEq, List.zipIdx_cons, List.zipIdx_nil, List.filterMap_cons, List.filterMap_nil, Option.map_some, Option.map_none, decide_true, Nat.zero_add, reduceIte, Bool.false_eq_true, true_and, and_true] using hp
    · rw [decide_eq_false (show ¬ (w : Int) = (w' : Int) by omega)]
      rw [if_neg (fun z => hw z.2)] at hp
      simpa [↓sRet, ↓sNil, ↓sIf, ↓sSet, ↓sAsg, ↓sPar, ↓sPar3, ↓sSub, ↓sSub2, ↓sExpr, ↓sExprR, ↓sRetV, ↓sRetN, ↓sRaise, ↓sBrk, ↓sCt, ↓fOf, ↓fFz, ↓fName, ↓fFrz, ↓fC, ↓fBin, ↓fBinN, ↓fT, ↓fNot, ↓fAnd, ↓fOr, ↓fAndV, ↓fOrV, ↓fNotV, ↓fIf, ↓fIfN, ↓fChain, ↓fNil, ↓fCons, ↓fTup, ↓fLst, ↓fNeg, ↓fCall, ↓fIsI, ↓fJoin, ↓fApp, ↓fExt, ↓fPop, ↓fPopAt, ↓fSl, ↓fPart, ↓fNoPart, ↓fSeq, ↓fRng1, ↓fRng2, ↓fEnum, ↓fZip, ↓fGN, ↓fGT, ↓fGcons, ↓fGnil, ↓fLc, ↓fLl, ↓fYes, ↓fOwn, ↓fAt2, ↓fCount, ↓fIndex, ↓fRev, ↓fMulL, ↓fSel, ↓sTry, ↓fIsP, ↓isLk, ↓L3.gSub, ↓gMulI, ↓gDiv, ↓gMod, ↓gPow, ↓gLt, ↓gLe, ↓gGt, ↓gGe, ↓gI, ↓gIC, ↓gAdd, ↓gIx, ↓gSl, ↓gLen, ↓gAll, ↓gAny, ↓gSum, ↓gMin2, ↓gMax2, ↓gList, ↓gTuple, ↓gNe, ↓gNotIn, ↓gIs, ↓gIsNot, ↓isNone, ↓look, ↓withD, ↓isD, ↓isB, ↓areD, ↓withDs, ↓isBor, ↓isLst, ↓isLl, ↓isI, ↓items1, ↓itemsD, ↓argsM, ↓putB, ↓pjs, ↓outsOf, ↓fin, ↓startE, ↓wipeK, ↓wipeE, ↓unw, ↓noOwnB, gEq_ii, gEq_ss, gEq_bb, own_no, own_dat, own_lst, own_ll, List.getD_cons_zero, List.getD_cons_succ, List.set_cons_zero, List.set_cons_succ, List.replicate_succ, List.replicate_zero, List.cons_append, List.nil_append, List.length_cons, List.length_nil, List.map_cons, List.map_nil, List.all_cons, List.all_nil, Nat.reduceAdd, Nat.reduceSub, Bool.not_false, Bool.not_true, Bool.and_true, Bool.and_self, if_true, if_false, reduceCtorEq, List.zipIdx_cons, List.zipIdx_nil, List.filterMap_cons, List.filterMap_nil, Option.map_some, Option.map_none, decide_true, Nat.zero_add, reduceIte, Bool.false_eq_true, true_and, and_true] using hp
  · rw [decide_eq_false (show ¬ (h : Int) = (h' : Int) by omega)]
    rw [if_neg (fun z => hh z.1)] at hp
    simpa [↓sRet, ↓sNil, ↓sIf, ↓sSet, ↓sAsg, ↓sPar, ↓sPar3, ↓sSub, ↓sSub2, ↓sExpr, ↓sExprR, ↓sRetV, ↓sRetN, ↓sRaise, ↓sBrk, ↓sCt, ↓fOf, ↓fFz, ↓fName, ↓fFrz, ↓fC, ↓fBin, ↓fBinN, ↓fT, ↓fNot, ↓fAnd, ↓fOr, ↓fAndV, ↓fOrV, ↓fNotV, ↓fIf, ↓fIfN, ↓fChain, ↓fNil, ↓fCons, ↓fTup, ↓fLst, ↓fNeg, ↓fCall, ↓fIsI, ↓fJoin, ↓fApp, ↓fExt, ↓fPop, ↓fPopAt, ↓fSl, ↓fPart, ↓fNoPart, ↓fSeq, ↓fRng1, ↓fRng2, ↓fEnum, ↓fZip, ↓fGN, ↓fGT, ↓fGcons, ↓fGnil, ↓fLc, ↓fLl, ↓fYes, ↓fOwn, ↓fAt2, ↓fCount, ↓fIndex, ↓fRev, ↓fMulL, ↓fSel, ↓sTry, ↓fIsP, ↓isLk, ↓L3.gSub, ↓gMulI, ↓gDiv, ↓gMod, ↓gPow, ↓gLt, ↓gLe, ↓gGt, ↓gGe, ↓gI, ↓gIC, ↓gAdd, ↓gIx, ↓gSl, ↓gLen, ↓gAll, ↓gAny, ↓gSum, ↓gMin2, ↓gMax2, ↓gList, ↓gTuple, ↓gNe, ↓gNotIn, ↓gIs, ↓gIsNot, ↓isNone, ↓look, ↓withD, ↓isD, ↓isB, ↓areD, ↓withDs, ↓isBor, ↓isLst, ↓isLl, ↓isI, ↓items1, ↓itemsD, ↓argsM, ↓putB, ↓pjs, ↓outsOf, ↓fin, ↓startE, ↓wipeK, ↓wipeE, ↓unw, ↓noOwnB, gEq_ii, gEq_ss, gEq_bb, own_no, own_dat, own_lst, own_ll, List.getD_cons_zero, List.getD_cons_succ, List.set_cons_zero, List.set_cons_succ, List.replicate_succ, List.replicate_zero, List.cons_append, List.nil_append, List.length_cons, List.length_nil, List.map_cons, List.map_nil, List.all_cons, List.all_nil, Nat.reduceAdd, Nat.reduceSub, Bool.not_false, Bool.not_true, Bool.and_true, Bool.and_self, if_true, if_false, reduceCtorEq, List.zipIdx_cons, List.zipIdx_nil, List.filterMap_cons, List.filterMap_nil, Option.map_some, Option.map_none, decide_true, Nat.zero_add, reduceIte, Bool.false_eq_true, true_and, and_true] using hp
def zipP (g : Bool → Bool → Bool) (p q : List (List Bool)) : List (List Bool) := List.zipWith (List.zipWith g) p q
def T_put_together : TXS :=
  (sSeq (sSet 3 (fLst fNil))
  (sSeq (sFor (fZip (fCons (fName 0) (fCons (fName 1) fNil))) (fGT 2 (fGcons (fGN 4) (fGcons (fGN 5) fGnil))) (sExprR (fApp (fName 3) (fJoin (fC (.str "")) (fFz (fLc (fZip (fCons (fName 4) (fCons (fName 5) fNil))) (fGT 2 (fGcons (fGN 6) (fGcons (fGN 7) fGnil))) fYes (fIf (fT (fBin gGe (fCount (fFz (fLst (fCons (fName 6) (fCons (fName 7) fNil)))) (fC (.str "#"))) (fName 2))) (fC (.str "#")) (fC (.str "."))) [6, 7]))))))
  (sRet (fCall gTuple (fCons (fName 3) fNil)))))

def dsp_put_together : DSp := fun es post _ => ∃ (p q : List (List Bool)) (h w : Nat) (n : Int) (g : Bool → Bool → Bool), es = [.dat (encP p), .dat (encP q), .dat (.int n)] ∧ Wf h w p ∧ Wf h w q ∧
  (∀ a b, g a b = decide (n ≤ ((if a then 1 else 0) + (if b then 1 else 0) : Nat))) ∧ post (.dat (encP (zipP g p q))) []
theorem count_hash (a b : Bool) : (([chD a, chD b] : List PyData).countP fun z => PyData.eqv z (chD true)) = (if a then 1 else 0) + (if b then 1 else 0) := by
  cases a <;> cases b <;> rfl
theorem okD_ch (a : Bool) : okD (chD a) = true := by cases a <;> decide
theorem okD_chs (a b : Bool) : okD (.list [chD a, chD b]) = true := by cases a <;> cases b <;> decide
theorem zipD_map {α β : Type} (f : α → PyData) (g : β → PyData) (xs : List α) (ys : List β) : zipD (xs.map f) (ys.map g) = (xs.zip ys).map fun p => .tuple [f p.1, g p.2] := by
  unfold zipD
  rw [List.zip_map, List.map_map]
  rfl
theorem signs_map (r : List Bool) : ((lineS r).cps.toList.map fun c => PyData.str ⟨#[c]⟩) = r.map chD := by
  rw [lineS_cps, List.map_map]
  rfl
theorem join_chs (r : List Bool) : ∃ ys : List Str, r.map chD = ys.map PyData.str ∧ (ys.map (·.length)).sum + ys.length * (Str.ofString "").length = r.length ∧ Txt.join (Str.ofString "") ys = lineS r := by
  refine ⟨r.map chS, by rw [List.map_map]; rfl, ?_, join_signs r⟩
  have e : (Str.ofString "").length = 0 := by decide
  rw [chS_sum, e]
  omega
theorem zip_len {α β : Type} {xs : List α} {ys : List β} : (xs.zip ys).length = min xs.length ys.length := List.length_zip
theorem good_put_together : Good [] 8 3 T_put_together dsp_put_together := by
  rintro es post xp ⟨p, q, h, w, n, g, rfl, P, Q, hg, hp⟩ _
  have h8 := P.h8
  have w8 := P.w8
  unfold T_put_together
  refine sSeq_g fun N hN => ?_
  simp only [↓sRet, ↓sNil, ↓sIf, ↓sSet, ↓sAsg, ↓sPar, ↓sPar3, ↓sSub, ↓sSub2, ↓sExpr, ↓sExprR, ↓sRetV, ↓sRetN, ↓sRaise, ↓sBrk, ↓sCt, ↓fOf, ↓fFz, ↓fName, ↓fFrz, ↓fC, ↓fBin, ↓fBinN, ↓fT, ↓fNot, ↓fAnd, ↓fOr, ↓fAndV, ↓fOrV, ↓fNotV, ↓fIf, ↓fIfN, ↓fChain, ↓fNil, ↓fCons, ↓fTup, ↓fLst, ↓fNeg, ↓fCall, ↓fIsI, ↓fJoin, ↓fApp, ↓fExt, ↓fPop, ↓fPopAt, ↓fSl, ↓fPart, ↓fNoPart, ↓fSeq, ↓fRng1, ↓fRng2, ↓fEnum, ↓fZip, ↓fGN, ↓fGT, ↓fGcons, ↓fGnil, ↓fLc, ↓fLl, ↓fYes, ↓fOwn, ↓fAt2, ↓fCount, ↓fIndex, ↓fRev, ↓fMulL, ↓fSel, ↓sTry, ↓fIsP, ↓isLk, ↓L3.gSub, ↓gMulI, ↓gDiv, ↓gMod, ↓gPow, ↓gLt, ↓gLe, ↓gGt, ↓gGe, ↓gI, ↓gIC, ↓gAdd, ↓gIx, ↓gSl, ↓gLen, ↓gAll, ↓gAny, ↓gSum, ↓gMin2, ↓gMax2, ↓gList, ↓gTuple, ↓gNe, ↓gNotIn, ↓gIs, ↓gIsNot, ↓isNone, ↓look, ↓withD, ↓isD, ↓isB, ↓areD, ↓withDs, ↓isBor, ↓isLst, ↓isLl, ↓isI, ↓items1, ↓itemsD, ↓argsM, ↓putB, ↓pjs, ↓outsOf, ↓fin, ↓startE, ↓wipeK, ↓wipeE, ↓unw, ↓noOwnB, gEq_ii, gEq_ss, gEq_bb, own_no, own_dat, own_lst, own_ll, List.getD_cons_zero, List.getD_cons_succ, List.set_cons_zero, List.set_cons_succ, List.replicate_succ, List.replicate_zero, List.cons_append, List.nil_append, List.length_cons, List.length_nil, List.map_cons, List.map_nil, List.all_cons, List.all_nil, Nat.reduceAdd, Nat.reduceSub, Bool.not_false, Bool.not_true, Bool.and_true, Bool.and_self, if_true, if_false, reduceCtorEq, List.zipIdx_cons, List.zipIdx_nil, List.filterMap_cons, List.filterMap_nil, Option.map_some, Option.map_none, decide_true, Nat.zero_add, reduceIte, Bool.false_eq_true, true_and, and_true]
  refine hN _ ?_
  clear hN N
  refine sSeq_g fun N hN => sFor_g fun F hF => ?_
  simp only [↓sRet, ↓sNil, ↓sIf, ↓sSet, ↓sAsg, ↓sPar, ↓sPar3, ↓sSub, ↓sSub2, ↓sExpr, ↓sExprR, ↓sRetV, ↓sRetN, ↓sRaise, ↓sBrk, ↓sCt, ↓fOf, ↓fFz, ↓fName, ↓fFrz, ↓fC, ↓fBin, ↓fBinN, ↓fT, ↓fNot, ↓fAnd, ↓fOr, ↓fAndV, ↓fOrV, ↓fNotV, ↓fIf, ↓fIfN, ↓fChain, ↓fNil, ↓fCons, ↓fTup, ↓fLst, ↓fNeg, ↓fCall, ↓fIsI, ↓fJoin, ↓fApp, ↓fExt, ↓fPop, ↓fPopAt, ↓fSl, ↓fPart, ↓fNoPart, ↓fSeq, ↓fRng1, ↓fRng2, ↓fEnum, ↓fZip, ↓fGN, ↓fGT, ↓fGcons, ↓fGnil, ↓fLc, ↓fLl, ↓fYes, ↓fOwn, ↓fAt2, ↓fCount, ↓fIndex, ↓fRev, ↓fMulL, ↓fSel, ↓sTry, ↓fIsP, ↓isLk, ↓L3.gSub, ↓gMulI, ↓gDiv, ↓gMod, ↓gPow, ↓gLt, ↓gLe, ↓gGt, ↓gGe, ↓gI, ↓gIC, ↓gAdd, ↓gIx, ↓gSl, ↓gLen, ↓gAll, ↓gAny, ↓gSum, ↓gMin2, ↓gMax2, ↓gList, ↓gTuple, ↓gNe, ↓gNotIn, ↓gIs, ↓gIsNot, ↓isNone, ↓look, ↓withD, ↓isD, ↓isB, ↓areD, ↓withDs, ↓isBor, ↓isLst, ↓isLl, ↓isI, ↓items1, ↓itemsD, ↓argsM, ↓putB, ↓pjs, ↓outsOf, ↓fin, ↓startE, ↓wipeK, ↓wipeE, ↓unw, ↓noOwnB, gEq_ii, gEq_ss, gEq_bb, own_no, own_dat, own_lst, own_ll, List.getD_cons_zero, List.getD_cons_succ, List.set_cons_zero, List.set_cons_succ, List.replicate_succ, List.replicate_zero, List.cons_append, List.nil_append, List.length_cons, List.length_nil, List.map_cons, List.map_nil, List.all_cons, List.all_nil, Nat.reduceAdd, Nat.reduceSub, Bool.not_false, Bool.not_true, Bool.and_true, Bool.and_self, if_true, if_false, reduceCtorEq, List.zipIdx_cons, List.zipIdx_nil, List.filterMap_cons, List.filterMap_nil, Option.map_some, Option.map_none, decide_true, Nat.zero_add, reduceIte, Bool.false_eq_true, true_and, and_true, encP]
  refine hF _ _ ?_
  clear hF F
  rw [zipD_map]
  refine forR_inv (fun i ρ => ∃ x4 x5 x6 x7, ρ = [.dat (encP p), .dat (encP q), .dat (.int n), .lst (((zipP g p q).take i).map encL), x4, x5, x6, x7] ∧ x6.own = false ∧ x7.own = false) 0 (fun i d ρ M hd hP hM => ?_) ⟨_, _, _, _, rfl, rfl, rfl⟩ (fun ρ hP => ?_)
  · obtain ⟨x4, x5, x6, x7, rfl, o6, o7⟩ := hP
    rw [Nat.zero_add] at *
    rw [List.getElem?_map] at hd
    obtain ⟨⟨l, m⟩, hlm, rfl⟩ := Option.map_eq_some_iff.mp hd
    obtain ⟨hl, hm⟩ := List.getElem?_zip_eq_some.mp hlm
    have wl := P.row l (List.mem_of_getElem? hl)
    have wm := Q.row m (List.mem_of_getElem? hm)
    have hi : i < p.length := (List.getElem?_eq_some_iff.mp hl).1
    have hp' := P.len
    simp only [↓sRet, ↓sNil, ↓sIf, ↓sSet, ↓sAsg, ↓sPar, ↓sPar3, ↓sSub, ↓sSub2, ↓sExpr, ↓sExprR, ↓sRetV, ↓sRetN, ↓sRaise, ↓sBrk, ↓sCt, ↓fOf, ↓fFz, ↓fName, ↓fFrz, ↓fC, ↓fBin, ↓fBinN, ↓fT, ↓fNot, ↓fAnd, ↓fOr, ↓fAndV, ↓fOrV, ↓fNotV, ↓fIf, ↓fIfN, ↓fChain, ↓fNil, ↓fCons, ↓fTup, ↓fLst, ↓fNeg, ↓fCall, ↓fIsI, ↓fJoin, ↓fApp, ↓fExt, ↓fPop, ↓fPopAt, ↓fSl, ↓fPart, ↓fNoPart, ↓fSeq, ↓fRng1, ↓fRng2, ↓fEnum, ↓fZip, ↓fGN, ↓fGT, ↓fGcons, ↓fGnil, ↓fLc, ↓fLl, ↓fYes, ↓fOwn, ↓fAt2, ↓fCount, ↓fIndex, ↓fRev, ↓fMulL, ↓fSel, ↓sTry, ↓fIsP, ↓isLk, ↓L3.gSub, ↓gMulI, ↓gDiv, ↓gMod, ↓gPow, ↓gLt, ↓gLe, ↓gGt, ↓gGe, ↓gI, ↓gIC, ↓gAdd, ↓gIx, ↓gSl, ↓gLen, ↓gAll, ↓gAny, ↓gSum, ↓gMin2, ↓gMax2, ↓gList, ↓gTuple, ↓gNe, ↓gNotIn, ↓gIs, ↓gIsNot, ↓isNone, ↓look, ↓withD, ↓isD, ↓isB, ↓areD, ↓withDs, ↓isBor, ↓isLst, ↓isLl, ↓isI, ↓items1, ↓itemsD, ↓argsM, ↓putB, ↓pjs, ↓outsOf, ↓fin, ↓startE, ↓wipeK, ↓wipeE, ↓unw, ↓noOwnB, gEq_ii, gEq_ss, gEq_bb, own_no, own_dat, own_lst, own_ll, List.getD_cons_zero, List.getD_cons_succ, List.set_cons_zero, List.set_cons_succ, List.replicate_succ, List.replicate_zero, List.cons_append, List.nil_append, List.length_cons, List.length_nil, List.map_cons, List.map_nil, List.all_cons, List.all_nil, Nat.reduceAdd, Nat.reduceSub, Bool.not_false, Bool.not_true, Bool.and_true, Bool.and_self, if_true, if_false, reduceCtorEq, List.zipIdx_cons, List.zipIdx_nil, List.filterMap_cons, List.filterMap_nil, Option.map_some, Option.map_none, decide_true, Nat.zero_add, reduceIte, Bool.false_eq_true, true_and, and_true, encL, signs_map, o6, o7]
    rw [zipD_map]
    refine ⟨by rw [List.length_map, zip_len]; exact small (by omega), ?_⟩
    refine lcR_enc1 (fun y : Bool × Bool => PyData.tuple [chD y.1, chD y.2]) (fun y => chD (g y.1 y.2)) (fun y _ k hk => ?_) ?_
    · simp only [lcStep, ↓sRet, ↓sNil, ↓sIf, ↓sSet, ↓sAsg, ↓sPar, ↓sPar3, ↓sSub, ↓sSub2, ↓sExpr, ↓sExprR, ↓sRetV, ↓sRetN, ↓sRaise, ↓sBrk, ↓sCt, ↓fOf, ↓fFz, ↓fName, ↓fFrz, ↓fC, ↓fBin, ↓fBinN, ↓fT, ↓fNot, ↓fAnd, ↓fOr, ↓fAndV, ↓fOrV, ↓fNotV, ↓fIf, ↓fIfN, ↓fChain, ↓fNil, ↓fCons, ↓fTup, ↓fLst, ↓fNeg, ↓fCall, ↓fIsI, ↓fJoin, ↓fApp, ↓fExt, ↓fPop, ↓fPopAt, ↓fSl, ↓fPart, ↓fNoPart, ↓fSeq, ↓fRng1, ↓fRng2, ↓fEnum, ↓fZip, ↓fGN, ↓fGT, ↓fGcons, ↓fGnil, ↓fLc, ↓fLl, ↓fYes, ↓fOwn, ↓fAt2, ↓fCount, ↓fIndex, ↓fRev, ↓fMulL, ↓fSel, ↓sTry, ↓fIsP, ↓isLk, ↓L3.gSub, ↓gMulI, ↓gDiv, ↓gMod, ↓gPow, ↓gLt, ↓gLe, ↓gGt, ↓gGe, ↓gI, ↓gIC, ↓gAdd, ↓gIx, ↓gSl, ↓gLen, ↓gAll, ↓gAny, ↓gSum, ↓gMin2, ↓gMax2, ↓gList, ↓gTuple, ↓gNe, ↓gNotIn, ↓gIs, ↓gIsNot, ↓isNone, ↓look, ↓withD, ↓isD, ↓isB, ↓areD, ↓withDs, ↓isBor, ↓isLst, ↓isLl, ↓isI, ↓items1, ↓itemsD, ↓argsM, ↓putB, ↓pjs, ↓outsOf, ↓fin, ↓startE, ↓wipeK, ↓wipeE, ↓unw, ↓noOwnB, gEq_ii, gEq_ss, gEq_bb, own_no, own_dat, own_lst, own_ll, List.getD_cons_zero, List.getD_cons_succ, List.set_cons_zero, List.set_cons_succ, List.replicate_succ, List.replicate_zero, List.cons_append, List.nil_append, List.length_cons, List.length_nil, List.map_cons, List.map_nil, List.all_cons, List.all_nil, Nat.reduceAdd, Nat.reduceSub, Bool.not_false, Bool.not_true, Bool.and_true, Bool.and_self, if_true, if_false, reduceCtorEq, List.zipIdx_cons, List.zipIdx_nil, List.filterMap_cons, List.filterMap_nil, Option.map_some, Option.map_none, decide_true, Nat.zero_add, reduceIte, Bool.false_eq_true, true_and, and_true]
      rw [hash_chS]
      refine ⟨okD_chs _ _, okD_ch true, ?_⟩
      have e : decide (n ≤ ((([chD y.1, chD y.2] : List PyData).countP fun z => PyData.eqv z (.str (chS true)) : Nat) : Int)) = g y.1 y.2 := by
        rw [show (PyData.str (chS true)) = chD true from rfl, count_hash, hg]
      rw [e]
      cases z : g y.1 y.2 with
      | true => rw [z] at hk; exact hk
      | false =>
        rw [z] at hk
        rw [dot_chS]
        exact hk
    · simp only [↓sRet, ↓sNil, ↓sIf, ↓sSet, ↓sAsg, ↓sPar, ↓sPar3, ↓sSub, ↓sSub2, ↓sExpr, ↓sExprR, ↓sRetV, ↓sRetN, ↓sRaise, ↓sBrk, ↓sCt, ↓fOf, ↓fFz, ↓fName, ↓fFrz, ↓fC, ↓fBin, ↓fBinN, ↓fT, ↓fNot, ↓fAnd, ↓fOr, ↓fAndV, ↓fOrV, ↓fNotV, ↓fIf, ↓fIfN, ↓fChain, ↓fNil, ↓fCons, ↓fTup, ↓fLst, ↓fNeg, ↓fCall, ↓fIsI, ↓fJoin, ↓fApp, ↓fExt, ↓fPop, ↓fPopAt, ↓fSl, ↓fPart, ↓fNoPart, ↓fSeq, ↓fRng1, ↓fRng2, ↓fEnum, ↓fZip, ↓fGN, ↓fGT, ↓fGcons, ↓fGnil, ↓fLc, ↓fLl, ↓fYes, ↓fOwn, ↓fAt2, ↓fCount, ↓fIndex, ↓fRev, ↓fMulL, ↓fSel, ↓sTry, ↓fIsP, ↓isLk, ↓L3.gSub, ↓gMulI, ↓gDiv, ↓gMod, ↓gPow, ↓gLt, ↓gLe, ↓gGt, ↓gGe, ↓gI, ↓gIC, ↓gAdd, ↓gIx, ↓gSl, ↓gLen, ↓gAll, ↓gAny, ↓gSum, ↓gMin2, ↓gMax2, ↓gList, ↓gTuple, ↓gNe, ↓gNotIn, ↓gIs, ↓gIsNot, ↓isNone, ↓look, ↓withD, ↓isD, ↓isB, ↓areD, ↓withDs, ↓isBor, ↓isLst, ↓isLl, ↓isI, ↓items1, ↓itemsD, ↓argsM, ↓putB, ↓pjs, ↓outsOf, ↓fin, ↓startE, ↓wipeK, ↓wipeE, ↓unw, ↓noOwnB, gEq_ii, gEq_ss, gEq_bb, own_no, own_dat, own_lst, own_ll, List.getD_cons_zero, List.getD_cons_succ, List.set_cons_zero, List.set_cons_succ, List.replicate_succ, List.replicate_zero, List.cons_append, List.nil_append, List.length_cons, List.length_nil, List.map_cons, List.map_nil, List.all_cons, List.all_nil, Nat.reduceAdd, Nat.reduceSub, Bool.not_false, Bool.not_true, Bool.and_true, Bool.and_self, if_true, if_false, reduceCtorEq, List.zipIdx_cons, List.zipIdx_nil, List.filterMap_cons, List.filterMap_nil, Option.map_some, Option.map_none, decide_true, Nat.zero_add, reduceIte, Bool.false_eq_true, true_and, and_true, o6, o7]
      have em : (l.zip m).map (fun y => chD (g y.1 y.2)) = (List.zipWith g l m).map chD := by
        rw [List.map_zipWith, List.zip_eq_zipWith, List.map_zipWith]
      rw [em]
      obtain ⟨ys, j1, j2, j3⟩ := join_chs (List.zipWith g l m)
      refine ⟨ys, j1, by rw [j2, List.length_zipWith]; omega, by rw [List.length_map, List.length_take]; exact small (by omega), ?_⟩
      rw [j3]
      refine hM _ ⟨.dat (encL l), .dat (encL m), x6, x7, ?_, o6, o7⟩
      have et : (zipP g p q).take (i + 1) = (zipP g p q).take i ++ [List.zipWith g l m] := by
        have z : (zipP g p q)[i]? = some (List.zipWith g l m) := by
          unfold zipP
          rw [List.getElem?_zipWith, hl, hm]
        rw [List.take_add_one, z]
        rfl
      rw [et, List.map_append]
      rfl
  · obtain ⟨x4, x5, x6, x7, rfl, o6, o7⟩ := hP
    refine hN _ ?_
    simp only [↓sRet, ↓sNil, ↓sIf, ↓sSet, ↓sAsg, ↓sPar, ↓sPar3, ↓sSub, ↓sSub2, ↓sExpr, ↓sExprR, ↓sRetV, ↓sRetN, ↓sRaise, ↓sBrk, ↓sCt, ↓fOf, ↓fFz, ↓fName, ↓fFrz, ↓fC, ↓fBin, ↓fBinN, ↓fT, ↓fNot, ↓fAnd, ↓fOr, ↓fAndV, ↓fOrV, ↓fNotV, ↓fIf, ↓fIfN, ↓fChain, ↓fNil, ↓fCons, ↓fTup, ↓fLst, ↓fNeg, ↓fCall, ↓fIsI, ↓fJoin, ↓fApp, ↓fExt, ↓fPop, ↓fPopAt, ↓fSl, ↓fPart, ↓fNoPart, ↓fSeq, ↓fRng1, ↓fRng2, ↓fEnum, ↓fZip, ↓fGN, ↓fGT, ↓fGcons, ↓fGnil, ↓fLc, ↓fLl, ↓fYes, ↓fOwn, ↓fAt2, ↓fCount, ↓fIndex, ↓fRev, ↓fMulL, ↓fSel, ↓sTry, ↓fIsP, ↓isLk, ↓L3.gSub, ↓gMulI, ↓gDiv, ↓gMod, ↓gPow, ↓gLt, ↓gLe, ↓gGt, ↓gGe, ↓gI, ↓gIC, ↓gAdd, ↓gIx, ↓gSl, ↓gLen, ↓gAll, ↓gAny, ↓gSum, ↓gMin2, ↓gMax2, ↓gList, ↓gTuple, ↓gNe, ↓gNotIn, ↓gIs, ↓gIsNot, ↓isNone, ↓look, ↓withD, ↓isD, ↓isB, ↓areD, ↓withDs, ↓isBor, ↓isLst, ↓isLl, ↓isI, ↓items1, ↓itemsD, ↓argsM, ↓putB, ↓pjs, ↓outsOf, ↓fin, ↓startE, ↓wipeK, ↓wipeE, ↓unw, ↓noOwnB, gEq_ii, gEq_ss, gEq_bb, own_no, own_dat, own_lst, own_ll, List.getD_cons_zero, List.getD_cons_succ, List.set_cons_zero, List.set_cons_succ, List.replicate_succ, List.replicate_zero, List.cons_append, List.nil_append, List.length_cons, List.length_nil, List.map_cons, List.map_nil, List.all_cons, List.all_nil, Nat.reduceAdd, Nat.reduceSub, Bool.not_false, Bool.not_true, Bool.and_true, Bool.and_self, if_true, if_false, reduceCtorEq, List.zipIdx_cons, List.zipIdx_nil, List.filterMap_cons, List.filterMap_nil, Option.map_some, Option.map_none, decide_true, Nat.zero_add, reduceIte, Bool.false_eq_true, true_and, and_true]
    have e : 0 + (List.map (fun y : List Bool × List Bool => PyData.tuple [encL y.1, encL y.2]) (p.zip q)).length = (zipP g p q).length := by
      unfold zipP
      rw [List.length_map, zip_len, List.length_zipWith, Nat.zero_add]
    first
      | rw [e, List.take_length]; exact hp
      | (rw [Nat.zero_add] at e; rw [e, List.take_length]; exact hp)
theorem zip_wf {g : Bool → Bool → Bool} {p q : List (List Bool)} {h w : Nat} (P : Wf h w p) (Q : Wf h w q) : Wf h w (zipP g p q) := by
  refine ⟨P.h1, P.h8, P.w1, P.w8, by unfold zipP; rw [List.length_zipWith, P.len, Q.len]; omega, fun r hr => ?_⟩
  obtain ⟨i, hi, rfl⟩ := List.mem_iff_getElem.mp hr
  unfold zipP at hi ⊢
  rw [List.getElem_zipWith, List.length_zipWith, P.row _ (List.getElem_mem _), Q.row _ (List.getElem_mem _)]
  omega
theorem atP_zip {g : Bool → Bool → Bool} {p q : List (List Bool)} {h w r c : Nat} (P : Wf h w p) (Q : Wf h w q) (hr : r < h) (hc : c < w) : atP (zipP g p q) r c = g (atP p r c) (atP q r c) := by
  obtain ⟨a1, a2, ea⟩ := atP_get P hr hc
  obtain ⟨b1, b2, eb⟩ := atP_get Q hr hc
  obtain ⟨c1, c2, ec⟩ := atP_get (zip_wf (g := g) P Q) hr hc
  rw [ea, eb, ec]
  simp [zipP]
theorem need_two_ok {cs : Cs} {p q : List (List Bool)} {h w : Nat} (P : Wf h w p) (Q : Wf h w q) {post : E → List E → Prop} {xp : Value → List E → Prop} (hp : post (.dat .none) []) : dsp_need_two cs [.dat (encP p), .dat (encP q)] post xp := by
  refine ⟨_, _, rfl, P.smallP, Q.smallP, fun z => (by rw [P.isPic] at z; cases z), fun _ z => (by rw [Q.isPic] at z; cases z), fun p' q' a b c d e1 e2 P' Q' => ?_⟩
  have inj : ∀ {p p' : List (List Bool)}, encP p = encP p' → p = p' := fun {p p'} e => by
    unfold encP at e
    injection e with e
    exact map_inj (fun x y z => lineS_inj (by unfold encL at z; injection z)) e
  have z1 := inj e1
  have z2 := inj e2
  subst z1 z2
  have hw : ∀ {p : List (List Bool)} {a b c d : Nat}, Wf a b p → Wf c d p → a = c ∧ b = d := fun {p a b c d} X Y => by
    have h0 : 0 < p.length := by rw [X.len]; exact X.h1
    exact ⟨by rw [← X.len, Y.len], by rw [← X.row _ (List.getElem_mem h0), Y.row _ (List.getElem_mem h0)]⟩
  have e1 := hw P P'
  have e2 := hw Q Q'
  rw [if_pos ⟨by omega, by omega⟩]
  exact hp
def T_in_both (cs : Cs) : TXS :=
  (sSeq (sExpr (fOwn [none, none] (dsp_need_two cs) (fCons (fName 0) (fCons (fName 1) fNil))))
  (sRet (fOwn [none, none, none] (dsp_put_together) (fCons (fName 0) (fCons (fName 1) (fCons (fC (.int 2)) fNil))))))

def dspV_in_both (cs : Cs) : DSp := fun es post _ => ∃ (p q : List (List Bool)) (h w : Nat), es = [.dat (encP p), .dat (encP q)] ∧ Wf h w p ∧ Wf h w q ∧ post (.dat (encP (zipP (· && ·) p q))) []
theorem goodV_in_both (cs : Cs) : Good [] 2 2 (T_in_both cs) (dspV_in_both cs) := by
  rintro es post xp ⟨p, q, h, w, rfl, P, Q, hp⟩ _
  unfold T_in_both
  refine sSeq_g fun N hN => ?_
  simp only [↓sRet, ↓sNil, ↓sIf, ↓sSet, ↓sAsg, ↓sPar, ↓sPar3, ↓sSub, ↓sSub2, ↓sExpr, ↓sExprR, ↓sRetV, ↓sRetN, ↓sRaise, ↓sBrk, ↓sCt, ↓fOf, ↓fFz, ↓fName, ↓fFrz, ↓fC, ↓fBin, ↓fBinN, ↓fT, ↓fNot, ↓fAnd, ↓fOr, ↓fAndV, ↓fOrV, ↓fNotV, ↓fIf, ↓fIfN, ↓fChain, ↓fNil, ↓fCons, ↓fTup, ↓fLst, ↓fNeg, ↓fCall, ↓fIsI, ↓fJoin, ↓fApp, ↓fExt, ↓fPop, ↓fPopAt, ↓fSl, ↓fPart, ↓fNoPart, ↓fSeq, ↓fRng1, ↓fRng2, ↓fEnum, ↓fZip, ↓fGN, ↓fGT, ↓fGcons, ↓fGnil, ↓fLc, ↓fLl, ↓fYes, ↓fOwn, ↓fAt2, ↓fCount, ↓fIndex, ↓fRev, ↓fMulL, ↓fSel, ↓sTry, ↓fIsP, ↓isLk, ↓L3.gSub, ↓gMulI, ↓gDiv, ↓gMod, ↓gPow, ↓gLt, ↓gLe, ↓gGt, ↓gGe, ↓gI, ↓gIC, ↓gAdd, ↓gIx, ↓gSl, ↓gLen, ↓gAll, ↓gAny, ↓gSum, ↓gMin2, ↓gMax2, ↓gList, ↓gTuple, ↓gNe, ↓gNotIn, ↓gIs, ↓gIsNot, ↓isNone, ↓look, ↓withD, ↓isD, ↓isB, ↓areD, ↓withDs, ↓isBor, ↓isLst, ↓isLl, ↓isI, ↓items1, ↓itemsD, ↓argsM, ↓putB, ↓pjs, ↓outsOf, ↓fin, ↓startE, ↓wipeK, ↓wipeE, ↓unw, ↓noOwnB, gEq_ii, gEq_ss, gEq_bb, own_no, own_dat, own_lst, own_ll, List.getD_cons_zero, List.getD_cons_succ, List.set_cons_zero, List.set_cons_succ, List.replicate_succ, List.replicate_zero, List.cons_append, List.nil_append, List.length_cons, List.length_nil, List.map_cons, List.map_nil, List.all_cons, List.all_nil, Nat.reduceAdd, Nat.reduceSub, Bool.not_false, Bool.not_true, Bool.and_true, Bool.and_self, if_true, if_false, reduceCtorEq, List.zipIdx_cons, List.zipIdx_nil, List.filterMap_cons, List.filterMap_nil, Option.map_some, Option.map_none, decide_true, Nat.zero_add, reduceIte, Bool.false_eq_true, true_and, and_true]
  refine need_two_ok P Q (hN _ ?_)
  clear hN N
  simp only [↓sRet, ↓sNil, ↓sIf, ↓sSet, ↓sAsg, ↓sPar, ↓sPar3, ↓sSub, ↓sSub2, ↓sExpr, ↓sExprR, ↓sRetV, ↓sRetN, ↓sRaise, ↓sBrk, ↓sCt, ↓fOf, ↓fFz, ↓fName, ↓fFrz, ↓fC, ↓fBin, ↓fBinN, ↓fT, ↓fNot, ↓fAnd, ↓fOr, ↓fAndV, ↓fOrV, ↓fNotV, ↓fIf, ↓fIfN, ↓fChain, ↓fNil, ↓fCons, ↓fTup, ↓fLst, ↓fNeg, ↓fCall, ↓fIsI, ↓fJoin, ↓fApp, ↓fExt, ↓fPop, ↓fPopAt, ↓fSl, ↓fPart, ↓fNoPart, ↓fSeq, ↓fRng1, ↓fRng2, ↓fEnum, ↓fZip, ↓fGN, ↓fGT, ↓fGcons, ↓fGnil, ↓fLc, ↓fLl, ↓fYes, ↓fOwn, ↓fAt2, ↓fCount, ↓fIndex, ↓fRev, ↓fMulL, ↓fSel, ↓sTry, ↓fIsP, ↓isLk, ↓L3.gSub, ↓gMulI, ↓gDiv, ↓gMod, ↓gPow, ↓gLt, ↓gLe, ↓gGt, ↓gGe, ↓gI, ↓gIC, ↓gAdd, ↓gIx, ↓gSl, ↓gLen, ↓gAll, ↓gAny, ↓gSum, ↓gMin2, ↓gMax2, ↓gList, ↓gTuple, ↓gNe, ↓gNotIn, ↓gIs, ↓gIsNot, ↓isNone, ↓look, ↓withD, ↓isD, ↓isB, ↓areD, ↓withDs, ↓isBor, ↓isLst, ↓isLl, ↓isI, ↓items1, ↓itemsD, ↓argsM, ↓putB, ↓pjs, ↓outsOf, ↓fin, ↓startE, ↓wipeK, ↓wipeE, ↓unw, ↓noOwnB, gEq_ii, gEq_ss, gEq_bb, own_no, own_dat, own_lst, own_ll, List.getD_cons_zero, List.getD_cons_succ, List.set_cons_zero, List.set_cons_succ, List.replicate_succ, List.replicate_zero, List.cons_append, List.nil_append, List.length_cons, List.length_nil, List.map_cons, List.map_nil, List.all_cons, List.all_nil, Nat.reduceAdd, Nat.reduceSub, Bool.not_false, Bool.not_true, Bool.and_true, Bool.and_self, if_true, if_false, reduceCtorEq, List.zipIdx_cons, List.zipIdx_nil, List.filterMap_cons, List.filterMap_nil, Option.map_some, Option.map_none, decide_true, Nat.zero_add, reduceIte, Bool.false_eq_true, true_and, and_true, dsp_put_together]
  exact ⟨p, q, h, w, 2, _, rfl, P, Q, fun a b => by cases a <;> cases b <;> rfl, hp⟩
def T_either (cs : Cs) : TXS :=
  (sSeq (sExpr (fOwn [none, none] (dsp_need_two cs) (fCons (fName 0) (fCons (fName 1) fNil))))
  (sRet (fOwn [none, none, none] (dsp_put_together) (fCons (fName 0) (fCons (fName 1) (fCons (fC (.int 1)) fNil))))))

def dspV_either (cs : Cs) : DSp := fun es post _ => ∃ (p q : List (List Bool)) (h w : Nat), es = [.dat (encP p), .dat (encP q)] ∧ Wf h w p ∧ Wf h w q ∧ post (.dat (encP (zipP (· || ·) p q))) []
theorem goodV_either (cs : Cs) : Good [] 2 2 (T_either cs) (dspV_either cs) := by
  rintro es post xp ⟨p, q, h, w, rfl, P, Q, hp⟩ _
  unfold T_either
  refine sSeq_g fun N hN => ?_
  simp only [↓sRet, ↓sNil, ↓sIf, ↓sSet, ↓sAsg, ↓sPar, ↓sPar3, ↓sSub, ↓sSub2, ↓sExpr, ↓sExprR, ↓sRetV, ↓sRetN, ↓sRaise, ↓sBrk, ↓sCt, ↓fOf, ↓fFz, ↓fName, ↓fFrz, ↓fC, ↓fBin, ↓fBinN, ↓fT, ↓fNot, ↓fAnd, ↓fOr, ↓fAndV, ↓fOrV, ↓fNotV, ↓fIf, ↓fIfN, ↓fChain, ↓fNil, ↓fCons, ↓fTup, ↓fLst, ↓fNeg, ↓fCall, ↓fIsI, ↓fJoin, ↓fApp, ↓fExt, ↓fPop, ↓fPopAt, ↓fSl, ↓fPart, ↓fNoPart, ↓fSeq, ↓fRng1, ↓fRng2, ↓fEnum, ↓fZip, ↓fGN, ↓fGT, ↓fGcons, ↓fGnil, ↓fLc, ↓fLl, ↓fYes, ↓fOwn, ↓fAt2, ↓fCount, ↓fIndex, ↓fRev, ↓fMulL, ↓fSel, ↓sTry, ↓fIsP, ↓isLk, ↓L3.gSub, ↓gMulI, ↓gDiv, ↓gMod, ↓gPow, ↓gLt, ↓gLe, ↓gGt, ↓gGe, ↓gI, ↓gIC, ↓gAdd, ↓gIx, ↓gSl, ↓gLen, ↓gAll, ↓gAny, ↓gSum, ↓gMin2, ↓gMax2, ↓gList, ↓gTuple, ↓gNe, ↓gNotIn, ↓gIs, ↓gIsNot, ↓isNone, ↓look, ↓withD, ↓isD, ↓isB, ↓areD, ↓withDs, ↓isBor, ↓isLst, ↓isLl, ↓isI, ↓items1, ↓itemsD, ↓argsM, ↓putB, ↓pjs, ↓outsOf, ↓fin, ↓startE, ↓wipeK, ↓wipeE, ↓unw, ↓noOwnB, gEq_ii, gEq_ss, gEq_bb, own_no, own_dat, own_lst, own_ll, List.getD_cons_zero, List.getD_cons_succ, List.set_cons_zero, List.set_cons_succ, List.replicate_succ, List.replicate_zero, List.cons_append, List.nil_append, List.length_cons, List.length_nil, List.map_cons, List.map_nil, List.all_cons, List.all_nil, Nat.reduceAdd, Nat.reduceSub, Bool.not_false, Bool.not_true, Bool.and_true, Bool.and_self, if_true, if_false, reduceCtorEq, List.zipIdx_cons, List.zipIdx_nil, List.filterMap_cons, List.filterMap_nil, Option.map_some, Option.map_none, decide_true, Nat.zero_add, reduceIte, Bool.false_eq_true, true_and, and_true]
  refine need_two_ok P Q (hN _ ?_)
  clear hN N
  simp only [↓sRet, ↓sNil, ↓sIf, ↓sSet, ↓sAsg, ↓sPar, ↓sPar3, ↓sSub, ↓sSub2, ↓sExpr, ↓sExprR, ↓sRetV, ↓sRetN, ↓sRaise, ↓sBrk, ↓sCt, ↓fOf, ↓fFz, ↓fName, ↓fFrz, ↓fC, ↓fBin, ↓fBinN, ↓fT, ↓fNot, ↓fAnd, ↓fOr, ↓fAndV, ↓fOrV, ↓fNotV, ↓fIf, ↓fIfN, ↓fChain, ↓fNil, ↓fCons, ↓fTup, ↓fLst, ↓fNeg, ↓fCall, ↓fIsI, ↓fJoin, ↓fApp, ↓fExt, ↓fPop, ↓fPopAt, ↓fSl, ↓fPart, ↓fNoPart, ↓fSeq, ↓fRng1, ↓fRng2, ↓fEnum, ↓fZip, ↓fGN, ↓fGT, ↓fGcons, ↓fGnil, ↓fLc, ↓fLl, ↓fYes, ↓fOwn, ↓fAt2, ↓fCount, ↓fIndex, ↓fRev, ↓fMulL, ↓fSel, ↓sTry, ↓fIsP, ↓isLk, ↓L3.gSub, ↓gMulI, ↓gDiv, ↓gMod, ↓gPow, ↓gLt, ↓gLe, ↓gGt, ↓gGe, ↓gI, ↓gIC, ↓gAdd, ↓gIx, ↓gSl, ↓gLen, ↓gAll, ↓gAny, ↓gSum, ↓gMin2, ↓gMax2, ↓gList, ↓gTuple, ↓gNe, ↓gNotIn, ↓gIs, ↓gIsNot, ↓isNone, ↓look, ↓withD, ↓isD, ↓isB, ↓areD, ↓withDs, ↓isBor, ↓isLst, ↓isLl, ↓isI, ↓items1, ↓itemsD, ↓argsM, ↓putB, ↓pjs, ↓outsOf, ↓fin, ↓startE, ↓wipeK, ↓wipeE, ↓unw, ↓noOwnB, gEq_ii, gEq_ss, gEq_bb, own_no, own_dat, own_lst, own_ll, List.getD_cons_zero, List.getD_cons_succ, List.set_cons_zero, List.set_cons_succ, List.replicate_succ, List.replicate_zero, List.cons_append, List.nil_append, List.length_cons, List.length_nil, List.map_cons, List.map_nil, List.all_cons, List.all_nil, Nat.reduceAdd, Nat.reduceSub, Bool.not_false, Bool.not_true, Bool.and_true, Bool.and_self, if_true, if_false, reduceCtorEq, List.zipIdx_cons, List.zipIdx_nil, List.filterMap_cons, List.filterMap_nil, Option.map_some, Option.map_none, decide_true, Nat.zero_add, reduceIte, Bool.false_eq_true, true_and, and_true, dsp_put_together]
  exact ⟨p, q, h, w, 1, _, rfl, P, Q, fun a b => by cases a <;> cases b <;> rfl, hp⟩
def T_is_within (cs : Cs) : TXS :=
  (sSeq (sExpr (fOwn [none, none] (dsp_need_two cs) (fCons (fName 0) (fCons (fName 1) fNil))))
  (sRet (fOf (fBin gEq (fFz (fOwn [none, none, none] (dsp_put_together) (fCons (fName 0) (fCons (fName 1) (fCons (fC (.int 2)) fNil))))) (fName 0)))))

def dspV_is_within (cs : Cs) : DSp := fun es post _ => ∃ (p q : List (List Bool)) (h w : Nat), es = [.dat (encP p), .dat (encP q)] ∧ Wf h w p ∧ Wf h w q ∧ post (.dat (.bool (decide (zipP (· && ·) p q = p)))) []
theorem goodV_is_within (cs : Cs) : Good [] 2 2 (T_is_within cs) (dspV_is_within cs) := by
  rintro es post xp ⟨p, q, h, w, rfl, P, Q, hp⟩ _
  unfold T_is_within
  refine sSeq_g fun N hN => ?_
  simp only [↓sRet, ↓sNil, ↓sIf, ↓sSet, ↓sAsg, ↓sPar, ↓sPar3, ↓sSub, ↓sSub2, ↓sExpr, ↓sExprR, ↓sRetV, ↓sRetN, ↓sRaise, ↓sBrk, ↓sCt, ↓fOf, ↓fFz, ↓fName, ↓fFrz, ↓fC, ↓fBin, ↓fBinN, ↓fT, ↓fNot, ↓fAnd, ↓fOr, ↓fAndV, ↓fOrV, ↓fNotV, ↓fIf, ↓fIfN, ↓fChain, ↓fNil, ↓fCons, ↓fTup, ↓fLst, ↓fNeg, ↓fCall, ↓fIsI, ↓fJoin, ↓fApp, ↓fExt, ↓fPop, ↓fPopAt, ↓fSl, ↓fPart, ↓fNoPart, ↓fSeq, ↓fRng1, ↓fRng2, ↓fEnum, ↓fZip, ↓fGN, ↓fGT, ↓fGcons, ↓fGnil, ↓fLc, ↓fLl, ↓fYes, ↓fOwn, ↓fAt2, ↓fCount, ↓fIndex, ↓fRev, ↓fMulL, ↓fSel, ↓sTry, ↓fIsP, ↓isLk, ↓L3.gSub, ↓gMulI, ↓gDiv, ↓gMod, ↓gPow, ↓gLt, ↓gLe, ↓gGt, ↓gGe, ↓gI, ↓gIC, ↓gAdd, ↓gIx, ↓gSl, ↓gLen, ↓gAll, ↓gAny, ↓gSum, ↓gMin2, ↓gMax2, ↓gList, ↓gTuple, ↓gNe, ↓gNotIn, ↓gIs, ↓gIsNot, ↓isNone, ↓look, ↓withD, ↓isD, ↓isB, ↓areD, ↓withDs, ↓isBor, ↓isLst, ↓isLl, ↓isI, ↓items1, ↓itemsD, ↓argsM, ↓putB, ↓pjs, ↓outsOf, ↓fin, ↓startE, ↓wipeK, ↓wipeE, ↓unw, ↓noOwnB, gEq_ii, gEq_ss, gEq_bb, own_no, own_dat, own_lst, own_ll, List.getD_cons_zero, List.getD_cons_succ, List.set_cons_zero, List.set_cons_succ, List.replicate_succ, List.replicate_zero, List.cons_append, List.nil_append, List.length_cons, List.length_nil, List.map_cons, List.map_nil, List.all_cons, List.all_nil, Nat.reduceAdd, Nat.reduceSub, Bool.not_false, Bool.not_true, Bool.and_true, Bool.and_self, if_true, if_false, reduceCtorEq, List.zipIdx_cons, List.zipIdx_nil, List.filterMap_cons, List.filterMap_nil, Option.map_some, Option.map_none, decide_true, Nat.zero_add, reduceIte, Bool.false_eq_true, true_and, and_true]
  refine need_two_ok P Q (hN _ ?_)
  clear hN N
  simp only [↓sRet, ↓sNil, ↓sIf, ↓sSet, ↓sAsg, ↓sPar, ↓sPar3, ↓sSub, ↓sSub2, ↓sExpr, ↓sExprR, ↓sRetV, ↓sRetN, ↓sRaise, ↓sBrk, ↓sCt, ↓fOf, ↓fFz, ↓fName, ↓fFrz, ↓fC, ↓fBin, ↓fBinN, ↓fT, ↓fNot, ↓fAnd, ↓fOr, ↓fAndV, ↓fOrV, ↓fNotV, ↓fIf, ↓fIfN, ↓fChain, ↓fNil, ↓fCons, ↓fTup, ↓fLst, ↓fNeg, ↓fCall, ↓fIsI, ↓fJoin, ↓fApp, ↓fExt, ↓fPop, ↓fPopAt, ↓fSl, ↓fPart, ↓fNoPart, ↓fSeq, ↓fRng1, ↓fRng2, ↓fEnum, ↓fZip, ↓fGN, ↓fGT, ↓fGcons, ↓fGnil, ↓fLc, ↓fLl, ↓fYes, ↓fOwn, ↓fAt2, ↓fCount, ↓fIndex, ↓fRev, ↓fMulL, ↓fSel, ↓sTry, ↓fIsP, ↓isLk, ↓L3.gSub, ↓gMulI, ↓gDiv, ↓gMod, ↓gPow, ↓gLt, ↓gLe, ↓gGt, ↓gGe, ↓gI, ↓gIC, ↓gAdd, ↓gIx, ↓gSl, ↓gLen, ↓gAll, ↓gAny, ↓gSum, ↓gMin2, ↓gMax2, ↓gList, ↓gTuple, ↓gNe, ↓gNotIn, ↓gIs, ↓gIsNot, ↓isNone, ↓look, ↓withD, ↓isD, ↓isB, ↓areD, ↓withDs, ↓isBor, ↓isLst, ↓isLl, ↓isI, ↓items1, ↓itemsD, ↓argsM, ↓putB, ↓pjs, ↓outsOf, ↓fin, ↓startE, ↓wipeK, ↓wipeE, ↓unw, ↓noOwnB, gEq_ii, gEq_ss, gEq_bb, own_no, own_dat, own_lst, own_ll, List.getD_cons_zero, List.getD_cons_succ, List.set_cons_zero, List.set_cons_succ, List.replicate_succ, List.replicate_zero, List.cons_append, List.nil_append, List.length_cons, List.length_nil, List.map_cons, List.map_nil, List.all_cons, List.all_nil, Nat.reduceAdd, Nat.reduceSub, Bool.not_false, Bool.not_true, Bool.and_true, Bool.and_self, if_true, if_false, reduceCtorEq, List.zipIdx_cons, List.zipIdx_nil, List.filterMap_cons, List.filterMap_nil, Option.map_some, Option.map_none, decide_true, Nat.zero_add, reduceIte, Bool.false_eq_true, true_and, and_true, dsp_put_together]
  exact ⟨p, q, h, w, 2, _, rfl, P, Q, fun a b => by cases a <;> cases b <;> rfl, gEq_pic hp⟩
def T_unlike (cs : Cs) : TXS :=
  (sSeq (sExpr (fOwn [none, none] (dsp_need_two cs) (fCons (fName 0) (fCons (fName 1) fNil))))
  (sSeq (sSet 2 (fLst fNil))
  (sSeq (sFor (fRng1 (fCons (fFz (fCall gLen (fCons (fName 0) fNil))) fNil)) (fGN 3) (sExprR (fExt (fName 2) (fLc (fRng1 (fCons (fFz (fCall gLen (fCons (fBin gIx (fName 0) (fC (.int 0))) fNil))) fNil)) (fGN 4) (fT (fBin gNe (fBin gIx (fBin gIx (fName 0) (fName 3)) (fName 4)) (fBin gIx (fBin gIx (fName 1) (fName 3)) (fName 4)))) (fTup (fCons (fName 3) (fCons (fName 4) fNil))) [4]))))
  (sRetV 2))))

def dspV_unlike (cs : Cs) : DSp := fun es post _ => ∃ (p q : List (List Bool)) (h w : Nat), es = [.dat (encP p), .dat (encP q)] ∧ Wf h w p ∧ Wf h w q ∧ post (.lst ((rowL h w fun r c => atP p r c != atP q r c).map encC)) []
theorem rowL_len (h w : Nat) (P : Nat → Nat → Bool) : (rowL h w P).length ≤ h * w := by
  induction h with
  | zero => simp [rowL]
  | succ h ih =>
    rw [rowL_succ, List.length_append, List.length_map, Nat.succ_mul]
    have : ((List.range w).filter fun c => P h c).length ≤ w := Nat.le_trans (List.length_filter_le _ _) (by rw [List.length_range]; exact Nat.le_refl _)
    omega
theorem Wf.at {h w : Nat} {p : List (List Bool)} (P : Wf h w p) {r c : Nat} (hr : r < h) (hc : c < w) : ∃ l, atI (p.map encL) (r : Int) = some (encL l) ∧ l.length = w ∧ atI (lineS l).cps.toList (c : Int) = some (sg (atP p r c)) := by
  have h1 : r < p.length := by rw [P.len]; exact hr
  refine ⟨p[r], atI_nat (by rw [List.getElem?_map, List.getElem?_eq_getElem h1]; rfl), P.row _ (List.getElem_mem h1), ?_⟩
  have z : p.getD r [] = p[r] := getD_at h1
  have z2 := line_at (l := p[r]) (c := c) (by rw [P.row _ (List.getElem_mem h1)]; exact hc)
  unfold atP
  rw [z]
  exact z2
theorem goodV_unlike (cs : Cs) : Good [] 5 2 (T_unlike cs) (dspV_unlike cs) := by
  rintro es post xp ⟨p, q, h, w, rfl, P, Q, hp⟩ _
  have h8 := P.h8
  have w8 := P.w8
  have pl := P.len
  obtain ⟨lp, a1, a2, _⟩ := P.head
  unfold T_unlike
  refine sSeq_g fun N hN => ?_
  simp only [↓sRet, ↓sNil, ↓sIf, ↓sSet, ↓sAsg, ↓sPar, ↓sPar3, ↓sSub, ↓sSub2, ↓sExpr, ↓sExprR, ↓sRetV, ↓sRetN, ↓sRaise, ↓sBrk, ↓sCt, ↓fOf, ↓fFz, ↓fName, ↓fFrz, ↓fC, ↓fBin, ↓fBinN, ↓fT, ↓fNot, ↓fAnd, ↓fOr, ↓fAndV, ↓fOrV, ↓fNotV, ↓fIf, ↓fIfN, ↓fChain, ↓fNil, ↓fCons, ↓fTup, ↓fLst, ↓fNeg, ↓fCall, ↓fIsI, ↓fJoin, ↓fApp, ↓fExt, ↓fPop, ↓fPopAt, ↓fSl, ↓fPart, ↓fNoPart, ↓fSeq, ↓fRng1, ↓fRng2, ↓fEnum, ↓fZip, ↓fGN, ↓fGT, ↓fGcons, ↓fGnil, ↓fLc, ↓fLl, ↓fYes, ↓fOwn, ↓fAt2, ↓fCount, ↓fIndex, ↓fRev, ↓fMulL, ↓fSel, ↓sTry, ↓fIsP, ↓isLk, ↓L3.gSub, ↓gMulI, ↓gDiv, ↓gMod, ↓gPow, ↓gLt, ↓gLe, ↓gGt, ↓gGe, ↓gI, ↓gIC, ↓gAdd, ↓gIx, ↓gSl, ↓gLen, ↓gAll, ↓gAny, ↓gSum, ↓gMin2, ↓gMax2, ↓gList, ↓gTuple, ↓gNe, ↓gNotIn, ↓gIs, ↓gIsNot, ↓isNone, ↓look, ↓withD, ↓isD, ↓isB, ↓areD, ↓withDs, ↓isBor, ↓isLst, ↓isLl, ↓isI, ↓items1, ↓itemsD, ↓argsM, ↓putB, ↓pjs, ↓outsOf, ↓fin, ↓startE, ↓wipeK, ↓wipeE, ↓unw, ↓noOwnB, gEq_ii, gEq_ss, gEq_bb, own_no, own_dat, own_lst, own_ll, List.getD_cons_zero, List.getD_cons_succ, List.set_cons_zero, List.set_cons_succ, List.replicate_succ, List.replicate_zero, List.cons_append, List.nil_append, List.length_cons, List.length_nil, List.map_cons, List.map_nil, List.all_cons, List.all_nil, Nat.reduceAdd, Nat.reduceSub, Bool.not_false, Bool.not_true, Bool.and_true, Bool.and_self, if_true, if_false, reduceCtorEq, List.zipIdx_cons, List.zipIdx_nil, List.filterMap_cons, List.filterMap_nil, Option.map_some, Option.map_none, decide_true, Nat.zero_add, reduceIte, Bool.false_eq_true, true_and, and_true]
  refine need_two_ok P Q (hN _ ?_)
  clear hN N
  refine sSeq_g fun N hN => ?_
  simp only [↓sRet, ↓sNil, ↓sIf, ↓sSet, ↓sAsg, ↓sPar, ↓sPar3, ↓sSub, ↓sSub2, ↓sExpr, ↓sExprR, ↓sRetV, ↓sRetN, ↓sRaise, ↓sBrk, ↓sCt, ↓fOf, ↓fFz, ↓fName, ↓fFrz, ↓fC, ↓fBin, ↓fBinN, ↓fT, ↓fNot, ↓fAnd, ↓fOr, ↓fAndV, ↓fOrV, ↓fNotV, ↓fIf, ↓fIfN, ↓fChain, ↓fNil, ↓fCons, ↓fTup, ↓fLst, ↓fNeg, ↓fCall, ↓fIsI, ↓fJoin, ↓fApp, ↓fExt, ↓fPop, ↓fPopAt, ↓fSl, ↓fPart, ↓fNoPart, ↓fSeq, ↓fRng1, ↓fRng2, ↓fEnum, ↓fZip, ↓fGN, ↓fGT, ↓fGcons, ↓fGnil, ↓fLc, ↓fLl, ↓fYes, ↓fOwn, ↓fAt2, ↓fCount, ↓fIndex, ↓fRev, ↓fMulL, ↓fSel, ↓sTry, ↓fIsP, ↓isLk, ↓L3.gSub, ↓gMulI, ↓gDiv, ↓gMod, ↓gPow, ↓gLt, ↓gLe, ↓gGt, ↓gGe, ↓gI, ↓gIC, ↓gAdd, ↓gIx, ↓gSl, ↓gLen, ↓gAll, ↓gAny, ↓gSum, ↓gMin2, ↓gMax2, ↓gList, ↓gTuple, ↓gNe, ↓gNotIn, ↓gIs, ↓gIsNot, ↓isNone, ↓look, ↓withD, ↓isD, ↓isB, ↓areD, ↓withDs, ↓isBor, ↓isLst, ↓isLl, ↓isI, ↓items1, ↓itemsD, ↓argsM, ↓putB, ↓pjs, ↓outsOf, ↓fin, ↓startE, ↓wipeK, ↓wipeE, ↓unw, ↓noOwnB, gEq_ii, gEq_ss, gEq_bb, own_no, own_dat, own_lst, own_ll, List.getD_cons_zero, List.getD_cons_succ, List.set_cons_zero, List.set_cons_succ, List.replicate_succ, List.replicate_zero, List.cons_append, List.nil_append, List.length_cons, List.length_nil, List.map_cons, List.map_nil, List.all_cons, List.all_nil, Nat.reduceAdd, Nat.reduceSub, Bool.not_false, Bool.not_true, Bool.and_true, Bool.and_self, if_true, if_false, reduceCtorEq, List.zipIdx_cons, List.zipIdx_nil, List.filterMap_cons, List.filterMap_nil, Option.map_some, Option.map_none, decide_true, Nat.zero_add, reduceIte, Bool.false_eq_true, true_and, and_true]
  refine hN _ ?_
  clear hN N
  refine sSeq_g fun N hN => sFor_g fun F hF => ?_
  simp only [↓sRet, ↓sNil, ↓sIf, ↓sSet, ↓sAsg, ↓sPar, ↓sPar3, ↓sSub, ↓sSub2, ↓sExpr, ↓sExprR, ↓sRetV, ↓sRetN, ↓sRaise, ↓sBrk, ↓sCt, ↓fOf, ↓fFz, ↓fName, ↓fFrz, ↓fC, ↓fBin, ↓fBinN, ↓fT, ↓fNot, ↓fAnd, ↓fOr, ↓fAndV, ↓fOrV, ↓fNotV, ↓fIf, ↓fIfN, ↓fChain, ↓fNil, ↓fCons, ↓fTup, ↓fLst, ↓fNeg, ↓fCall, ↓fIsI, ↓fJoin, ↓fApp, ↓fExt, ↓fPop, ↓fPopAt, ↓fSl, ↓fPart, ↓fNoPart, ↓fSeq, ↓fRng1, ↓fRng2, ↓fEnum, ↓fZip, ↓fGN, ↓fGT, ↓fGcons, ↓fGnil, ↓fLc, ↓fLl, ↓fYes, ↓fOwn, ↓fAt2, ↓fCount, ↓fIndex, ↓fRev, ↓fMulL, ↓fSel, ↓sTry, ↓fIsP, ↓isLk, ↓L3.gSub, ↓gMulI, ↓gDiv, ↓gMod, ↓gPow, ↓gLt, ↓gLe, ↓gGt, ↓gGe, ↓gI, ↓gIC, ↓gAdd, ↓gIx, ↓gSl, ↓gLen, ↓gAll, ↓gAny, ↓gSum, ↓gMin2, ↓gMax2, ↓gList, ↓gTuple, ↓gNe, ↓gNotIn, ↓gIs, ↓gIsNot, ↓isNone, ↓look, ↓withD, ↓isD, ↓isB, ↓areD, ↓withDs, ↓isBor, ↓isLst, ↓isLl, ↓isI, ↓items1, ↓itemsD, ↓argsM, ↓putB, ↓pjs, ↓outsOf, ↓fin, ↓startE, ↓wipeK, ↓wipeE, ↓unw, ↓noOwnB, gEq_ii, gEq_ss, gEq_bb, own_no, own_dat, own_lst, own_ll, List.getD_cons_zero, List.getD_cons_succ, List.set_cons_zero, List.set_cons_succ, List.replicate_succ, List.replicate_zero, List.cons_append, List.nil_append, List.length_cons, List.length_nil, List.map_cons, List.map_nil, List.all_cons, List.all_nil, Nat.reduceAdd, Nat.reduceSub, Bool.not_false, Bool.not_true, Bool.and_true, Bool.and_self, if_true, if_false, reduceCtorEq, List.zipIdx_cons, List.zipIdx_nil, List.filterMap_cons, List.filterMap_nil, Option.map_some, Option.map_none, decide_true, Nat.zero_add, reduceIte, Bool.false_eq_true, true_and, and_true, encP, List.length_map]
  refine ⟨b62 (by omega) (by omega), hF _ _ ?_⟩
  clear hF F
  refine forR_inv (fun i ρ => ∃ x3 x4, ρ = [.dat (encP p), .dat (encP q), .lst ((rowL i w fun r c => atP p r c != atP q r c).map encC), x3, x4] ∧ x4.own = false) 0 (fun i d ρ M hd hP hM => ?_) ⟨_, _, rfl, rfl⟩ (fun ρ hP => ?_)
  · obtain ⟨x3, x4, rfl, o4⟩ := hP
    obtain ⟨hi, rfl⟩ := rangeD_get hd
    rw [Nat.zero_add] at *
    rw [Int.zero_add] at *
    simp only [↓sRet, ↓sNil, ↓sIf, ↓sSet, ↓sAsg, ↓sPar, ↓sPar3, ↓sSub, ↓sSub2, ↓sExpr, ↓sExprR, ↓sRetV, ↓sRetN, ↓sRaise, ↓sBrk, ↓sCt, ↓fOf, ↓fFz, ↓fName, ↓fFrz, ↓fC, ↓fBin, ↓fBinN, ↓fT, ↓fNot, ↓fAnd, ↓fOr, ↓fAndV, ↓fOrV, ↓fNotV, ↓fIf, ↓fIfN, ↓fChain, ↓fNil, ↓fCons, ↓fTup, ↓fLst, ↓fNeg, ↓fCall, ↓fIsI, ↓fJoin, ↓fApp, ↓fExt, ↓fPop, ↓fPopAt, ↓fSl, ↓fPart, ↓fNoPart, ↓fSeq, ↓fRng1, ↓fRng2, ↓fEnum, ↓fZip, ↓fGN, ↓fGT, ↓fGcons, ↓fGnil, ↓fLc, ↓fLl, ↓fYes, ↓fOwn, ↓fAt2, ↓fCount, ↓fIndex, ↓fRev, ↓fMulL, ↓fSel, ↓sTry, ↓fIsP, ↓isLk, ↓L3.gSub, ↓gMulI, ↓gDiv, ↓gMod, ↓gPow, ↓gLt, ↓gLe, ↓gGt, ↓gGe, ↓gI, ↓gIC, ↓gAdd, ↓gIx, ↓gSl, ↓gLen, ↓gAll, ↓gAny, ↓gSum, ↓gMin2, ↓gMax2, ↓gList, ↓gTuple, ↓gNe, ↓gNotIn, ↓gIs, ↓gIsNot, ↓isNone, ↓look, ↓withD, ↓isD, ↓isB, ↓areD, ↓withDs, ↓isBor, ↓isLst, ↓isLl, ↓isI, ↓items1, ↓itemsD, ↓argsM, ↓putB, ↓pjs, ↓outsOf, ↓fin, ↓startE, ↓wipeK, ↓wipeE, ↓unw, ↓noOwnB, gEq_ii, gEq_ss, gEq_bb, own_no, own_dat, own_lst, own_ll, List.getD_cons_zero, List.getD_cons_succ, List.set_cons_zero, List.set_cons_succ, List.replicate_succ, List.replicate_zero, List.cons_append, List.nil_append, List.length_cons, List.length_nil, List.map_cons, List.map_nil, List.all_cons, List.all_nil, Nat.reduceAdd, Nat.reduceSub, Bool.not_false, Bool.not_true, Bool.and_true, Bool.and_self, if_true, if_false, reduceCtorEq, List.zipIdx_cons, List.zipIdx_nil, List.filterMap_cons, List.filterMap_nil, Option.map_some, Option.map_none, decide_true, Nat.zero_add, reduceIte, Bool.false_eq_true, true_and, and_true, encP, List.length_map, o4]
    refine ⟨_, a1, ?_⟩
    simp only [encL, lineS_len, a2]
    refine ⟨Nat.le_of_lt (small (by omega)), b62 (by omega) (by omega), by rw [rangeD_len]; exact small (by omega), ?_⟩
    rw [rangeD_map]
    have ew : (w : Int).toNat = w := by omega
    rw [ew]
    refine lcR_encF (fun c : Nat => PyData.int (c : Nat)) (fun c => atP p i c != atP q i c) (fun c => encC (i, c)) (fun c hc k ht hf => ?_) ?_
    · have hc' := List.mem_range.mp hc
      obtain ⟨l1, b1, b2, b3⟩ := P.at (r := i) (c := c) (by omega) hc'
      obtain ⟨l2, c1, c2, c3⟩ := Q.at (r := i) (c := c) (by omega) hc'
      simp only [lcStep, ↓sRet, ↓sNil, ↓sIf, ↓sSet, ↓sAsg, ↓sPar, ↓sPar3, ↓sSub, ↓sSub2, ↓sExpr, ↓sExprR, ↓sRetV, ↓sRetN, ↓sRaise, ↓sBrk, ↓sCt, ↓fOf, ↓fFz, ↓fName, ↓fFrz, ↓fC, ↓fBin, ↓fBinN, ↓fT, ↓fNot, ↓fAnd, ↓fOr, ↓fAndV, ↓fOrV, ↓fNotV, ↓fIf, ↓fIfN, ↓fChain, ↓fNil, ↓fCons, ↓fTup, ↓fLst, ↓fNeg, ↓fCall, ↓fIsI, ↓fJoin, ↓fApp, ↓fExt, ↓fPop, ↓fPopAt, ↓fSl, ↓fPart, ↓fNoPart, ↓fSeq, ↓fRng1, ↓fRng2, ↓fEnum, ↓fZip, ↓fGN, ↓fGT, ↓fGcons, ↓fGnil, ↓fLc, ↓fLl, ↓fYes, ↓fOwn, ↓fAt2, ↓fCount, ↓fIndex, ↓fRev, ↓fMulL, ↓fSel, ↓sTry, ↓fIsP, ↓isLk, ↓L3.gSub, ↓gMulI, ↓gDiv, ↓gMod, ↓gPow, ↓gLt, ↓gLe, ↓gGt, ↓gGe, ↓gI, ↓gIC, ↓gAdd, ↓gIx, ↓gSl, ↓gLen, ↓gAll, ↓gAny, ↓gSum, ↓gMin2, ↓gMax2, ↓gList, ↓gTuple, ↓gNe, ↓gNotIn, ↓gIs, ↓gIsNot, ↓isNone, ↓look, ↓withD, ↓isD, ↓isB, ↓areD, ↓withDs, ↓isBor, ↓isLst, ↓isLl, ↓isI, ↓items1, ↓itemsD, ↓argsM, ↓putB, ↓pjs, ↓outsOf, ↓fin, ↓startE, ↓wipeK, ↓wipeE, ↓unw, ↓noOwnB, gEq_ii, gEq_ss, gEq_bb, own_no, own_dat, own_lst, own_ll, List.getD_cons_zero, List.getD_cons_succ, List.set_cons_zero, List.set_cons_succ, List.replicate_succ, List.replicate_zero, List.cons_append, List.nil_append, List.length_cons, List.length_nil, List.map_cons, List.map_nil, List.all_cons, List.all_nil, Nat.reduceAdd, Nat.reduceSub, Bool.not_false, Bool.not_true, Bool.and_true, Bool.and_self, if_true, if_false, reduceCtorEq, List.zipIdx_cons, List.zipIdx_nil, List.filterMap_cons, List.filterMap_nil, Option.map_some, Option.map_none, decide_true, Nat.zero_add, reduceIte, Bool.false_eq_true, true_and, and_true]
      refine ⟨_, b1, by rw [lineS_len]; exact Nat.le_of_lt (small (by omega)), _, b3, _, c1, by rw [lineS_len]; exact Nat.le_of_lt (small (by omega)), _, c3, ?_⟩
      have e : decide ((⟨#[sg (atP p i c)]⟩ : Str) = ⟨#[sg (atP q i c)]⟩) = (atP p i c == atP q i c) := by
        show decide (chS (atP p i c) = chS (atP q i c)) = _
        cases atP p i c <;> cases atP q i c <;> decide
      rw [e]
      have e2 : (!(atP p i c == atP q i c)) = (atP p i c != atP q i c) := rfl
      rw [e2]
      cases z : (atP p i c != atP q i c) with
      | true => exact ht z
      | false => exact hf z
    · simp only [↓sRet, ↓sNil, ↓sIf, ↓sSet, ↓sAsg, ↓sPar, ↓sPar3, ↓sSub, ↓sSub2, ↓sExpr, ↓sExprR, ↓sRetV, ↓sRetN, ↓sRaise, ↓sBrk, ↓sCt, ↓fOf, ↓fFz, ↓fName, ↓fFrz, ↓fC, ↓fBin, ↓fBinN, ↓fT, ↓fNot, ↓fAnd, ↓fOr, ↓fAndV, ↓fOrV, ↓fNotV, ↓fIf, ↓fIfN, ↓fChain, ↓fNil, ↓fCons, ↓fTup, ↓fLst, ↓fNeg, ↓fCall, ↓fIsI, ↓fJoin, ↓fApp, ↓fExt, ↓fPop, ↓fPopAt, ↓fSl, ↓fPart, ↓fNoPart, ↓fSeq, ↓fRng1, ↓fRng2, ↓fEnum, ↓fZip, ↓fGN, ↓fGT, ↓fGcons, ↓fGnil, ↓fLc, ↓fLl, ↓fYes, ↓fOwn, ↓fAt2, ↓fCount, ↓fIndex, ↓fRev, ↓fMulL, ↓fSel, ↓sTry, ↓fIsP, ↓isLk, ↓L3.gSub, ↓gMulI, ↓gDiv, ↓gMod, ↓gPow, ↓gLt, ↓gLe, ↓gGt, ↓gGe, ↓gI, ↓gIC, ↓gAdd, ↓gIx, ↓gSl, ↓gLen, ↓gAll, ↓gAny, ↓gSum, ↓gMin2, ↓gMax2, ↓gList, ↓gTuple, ↓gNe, ↓gNotIn, ↓gIs, ↓gIsNot, ↓isNone, ↓look, ↓withD, ↓isD, ↓isB, ↓areD, ↓withDs, ↓isBor, ↓isLst, ↓isLl, ↓isI, ↓items1, ↓itemsD, ↓argsM, ↓putB, ↓pjs, ↓outsOf, ↓fin, ↓startE, ↓wipeK, ↓wipeE, ↓unw, ↓noOwnB, gEq_ii, gEq_ss, gEq_bb, own_no, own_dat, own_lst, own_ll, List.getD_cons_zero, List.getD_cons_succ, List.set_cons_zero, List.set_cons_succ, List.replicate_succ, List.replicate_zero, List.cons_append, List.nil_append, List.length_cons, List.length_nil, List.map_cons, List.map_nil, List.all_cons, List.all_nil, Nat.reduceAdd, Nat.reduceSub, Bool.not_false, Bool.not_true, Bool.and_true, Bool.and_self, if_true, if_false, reduceCtorEq, List.zipIdx_cons, List.zipIdx_nil, List.filterMap_cons, List.filterMap_nil, Option.map_some, Option.map_none, decide_true, Nat.zero_add, reduceIte, Bool.false_eq_true, true_and, and_true, o4]
      have l1 := rowL_len i w fun r c => atP p r c != atP q r c
      have l2 : ((List.range w).filter fun c => atP p i c != atP q i c).length ≤ w := Nat.le_trans (List.length_filter_le _ _) (by rw [List.length_range]; exact Nat.le_refl _)
      have l3 : i * w ≤ 8 * 8 := Nat.mul_le_mul (by omega) w8
      refine ⟨by rw [List.length_map, List.length_map]; exact Nat.le_of_lt (small (by omega)), hM _ ⟨.dat (.int (i : Nat)), x4, ?_, o4⟩⟩
      rw [rowL_succ, List.map_append, List.map_map]
      rfl
  · obtain ⟨x3, x4, rfl, o4⟩ := hP
    refine hN _ ?_
    simp only [↓sRet, ↓sNil, ↓sIf, ↓sSet, ↓sAsg, ↓sPar, ↓sPar3, ↓sSub, ↓sSub2, ↓sExpr, ↓sExprR, ↓sRetV, ↓sRetN, ↓sRaise, ↓sBrk, ↓sCt, ↓fOf, ↓fFz, ↓fName, ↓fFrz, ↓fC, ↓fBin, ↓fBinN, ↓fT, ↓fNot, ↓fAnd, ↓fOr, ↓fAndV, ↓fOrV, ↓fNotV, ↓fIf, ↓fIfN, ↓fChain, ↓fNil, ↓fCons, ↓fTup, ↓fLst, ↓fNeg, ↓fCall, ↓fIsI, ↓fJoin, ↓fApp, ↓fExt, ↓fPop, ↓fPopAt, ↓fSl, ↓fPart, ↓fNoPart, ↓fSeq, ↓fRng1, ↓fRng2, ↓fEnum, ↓fZip, ↓fGN, ↓fGT, ↓fGcons, ↓fGnil, ↓fLc, ↓fLl, ↓fYes, ↓fOwn, ↓fAt2, ↓fCount, ↓fIndex, ↓fRev, ↓fMulL, ↓fSel, ↓sTry, ↓fIsP, ↓isLk, ↓L3.gSub, ↓gMulI, ↓gDiv, ↓gMod, ↓gPow, ↓gLt, ↓gLe, ↓gGt, ↓gGe, ↓gI, ↓gIC, ↓gAdd, ↓gIx, ↓gSl, ↓gLen, ↓gAll, ↓gAny, ↓gSum, ↓gMin2, ↓gMax2, ↓gList, ↓gTuple, ↓gNe, ↓gNotIn, ↓gIs, ↓gIsNot, ↓isNone, ↓look, ↓withD, ↓isD, ↓isB, ↓areD, ↓withDs, ↓isBor, ↓isLst, ↓isLl, ↓isI, ↓items1, ↓itemsD, ↓argsM, ↓putB, ↓pjs, ↓outsOf, ↓fin, ↓startE, ↓wipeK, ↓wipeE, ↓unw, ↓noOwnB, gEq_ii, gEq_ss, gEq_bb, own_no, own_dat, own_lst, own_ll, List.getD_cons_zero, List.getD_cons_succ, List.set_cons_zero, List.set_cons_succ, List.replicate_succ, List.replicate_zero, List.cons_append, List.nil_append, List.length_cons, List.length_nil, List.map_cons, List.map_nil, List.all_cons, List.all_nil, Nat.reduceAdd, Nat.reduceSub, Bool.not_false, Bool.not_true, Bool.and_true, Bool.and_self, if_true, if_false, reduceCtorEq, List.zipIdx_cons, List.zipIdx_nil, List.filterMap_cons, List.filterMap_nil, Option.map_some, Option.map_none, decide_true, Nat.zero_add, reduceIte, Bool.false_eq_true, true_and, and_true]
    rw [rangeD_len]
    first
      | (rw [show 0 + (p.length : Int).toNat = h by omega]; exact hp)
      | (rw [show (p.length : Int).toNat = h by omega]; exact hp)
def T_inverted (cs : Cs) : TXS :=
  (sSeq (sExpr (fOwn [none] (dsp_need_picture cs) (fCons (fName 0) fNil)))
  (sRet (fCall gTuple (fCons (fFz (fLc (fSeq (fName 0)) (fGN 1) fYes (fJoin (fC (.str "")) (fFz (fLc (fSeq (fName 1)) (fGN 2) fYes (fIf (fT (fBin gEq (fName 2) (fC (.str "#")))) (fC (.str ".")) (fC (.str "#"))) [2]))) [1])) fNil))))

def invP (p : List (List Bool)) : List (List Bool) := p.map fun l => l.map not
def dsp_inverted (cs : Cs) : DSp := fun es post xp => ∃ d, es = [.dat d] ∧ smallP d ∧ (isPicD d = false → xp (.ref cs.NoPicture) []) ∧ ∀ (p : List (List Bool)) (h w : Nat), d = encP p → Wf h w p → post (.dat (encP (invP p))) []
theorem good_inverted (cs : Cs) : Good [] 3 1 (T_inverted cs) (dsp_inverted cs) := by
  rintro es post xp ⟨d, rfl, hs, hx, hp⟩ _
  unfold T_inverted
  refine sSeq_g fun N hN => ?_
  simp only [↓sRet, ↓sNil, ↓sIf, ↓sSet, ↓sAsg, ↓sPar, ↓sPar3, ↓sSub, ↓sSub2, ↓sExpr, ↓sExprR, ↓sRetV, ↓sRetN, ↓sRaise, ↓sBrk, ↓sCt, ↓fOf, ↓fFz, ↓fName, ↓fFrz, ↓fC, ↓fBin, ↓fBinN, ↓fT, ↓fNot, ↓fAnd, ↓fOr, ↓fAndV, ↓fOrV, ↓fNotV, ↓fIf, ↓fIfN, ↓fChain, ↓fNil, ↓fCons, ↓fTup, ↓fLst, ↓fNeg, ↓fCall, ↓fIsI, ↓fJoin, ↓fApp, ↓fExt, ↓fPop, ↓fPopAt, ↓fSl, ↓fPart, ↓fNoPart, ↓fSeq, ↓fRng1, ↓fRng2, ↓fEnum, ↓fZip, ↓fGN, ↓fGT, ↓fGcons, ↓fGnil, ↓fLc, ↓fLl, ↓fYes, ↓fOwn, ↓fAt2, ↓fCount, ↓fIndex, ↓fRev, ↓fMulL, ↓fSel, ↓sTry, ↓fIsP, ↓isLk, ↓L3.gSub, ↓gMulI, ↓gDiv, ↓gMod, ↓gPow, ↓gLt, ↓gLe, ↓gGt, ↓gGe, ↓gI, ↓gIC, ↓gAdd, ↓gIx, ↓gSl, ↓gLen, ↓gAll, ↓gAny, ↓gSum, ↓gMin2, ↓gMax2, ↓gList, ↓gTuple, ↓gNe, ↓gNotIn, ↓gIs, ↓gIsNot, ↓isNone, ↓look, ↓withD, ↓isD, ↓isB, ↓areD, ↓withDs, ↓isBor, ↓isLst, ↓isLl, ↓isI, ↓items1, ↓itemsD, ↓argsM, ↓putB, ↓pjs, ↓outsOf, ↓fin, ↓startE, ↓wipeK, ↓wipeE, ↓unw, ↓noOwnB, gEq_ii, gEq_ss, gEq_bb, own_no, own_dat, own_lst, own_ll, List.getD_cons_zero, List.getD_cons_succ, List.set_cons_zero, List.set_cons_succ, List.replicate_succ, List.replicate_zero, List.cons_append, List.nil_append, List.length_cons, List.length_nil, List.map_cons, List.map_nil, List.all_cons, List.all_nil, Nat.reduceAdd, Nat.reduceSub, Bool.not_false, Bool.not_true, Bool.and_true, Bool.and_self, if_true, if_false, reduceCtorEq, List.zipIdx_cons, List.zipIdx_nil, List.filterMap_cons, List.filterMap_nil, Option.map_some, Option.map_none, decide_true, Nat.zero_add, reduceIte, Bool.false_eq_true, true_and, and_true, dsp_need_picture]
  refine ⟨d, rfl, hs, fun pd => hN _ ?_, fun z => hx z⟩
  clear hN N
  obtain ⟨p, h, w, rfl, P⟩ := isPic_enc pd
  have hp := hp p h w rfl P
  have h8 := P.h8
  have w8 := P.w8
  have pl := P.len
  simp only [↓sRet, ↓sNil, ↓sIf, ↓sSet, ↓sAsg, ↓sPar, ↓sPar3, ↓sSub, ↓sSub2, ↓sExpr, ↓sExprR, ↓sRetV, ↓sRetN, ↓sRaise, ↓sBrk, ↓sCt, ↓fOf, ↓fFz, ↓fName, ↓fFrz, ↓fC, ↓fBin, ↓fBinN, ↓fT, ↓fNot, ↓fAnd, ↓fOr, ↓fAndV, ↓fOrV, ↓fNotV, ↓fIf, ↓fIfN, ↓fChain, ↓fNil, ↓fCons, ↓fTup, ↓fLst, ↓fNeg, ↓fCall, ↓fIsI, ↓fJoin, ↓fApp, ↓fExt, ↓fPop, ↓fPopAt, ↓fSl, ↓fPart, ↓fNoPart, ↓fSeq, ↓fRng1, ↓fRng2, ↓fEnum, ↓fZip, ↓fGN, ↓fGT, ↓fGcons, ↓fGnil, ↓fLc, ↓fLl, ↓fYes, ↓fOwn, ↓fAt2, ↓fCount, ↓fIndex, ↓fRev, ↓fMulL, ↓fSel, ↓sTry, ↓fIsP, ↓isLk, ↓L3.gSub, ↓gMulI, ↓gDiv, ↓gMod, ↓gPow, ↓gLt, ↓gLe, ↓gGt, ↓gGe, ↓gI, ↓gIC, ↓gAdd, ↓gIx, ↓gSl, ↓gLen, ↓gAll, ↓gAny, ↓gSum, ↓gMin2, ↓gMax2, ↓gList, ↓gTuple, ↓gNe, ↓gNotIn, ↓gIs, ↓gIsNot, ↓isNone, ↓look, ↓withD, ↓isD, ↓isB, ↓areD, ↓withDs, ↓isBor, ↓isLst, ↓isLl, ↓isI, ↓items1, ↓itemsD, ↓argsM, ↓putB, ↓pjs, ↓outsOf, ↓fin, ↓startE, ↓wipeK, ↓wipeE, ↓unw, ↓noOwnB, gEq_ii, gEq_ss, gEq_bb, own_no, own_dat, own_lst, own_ll, List.getD_cons_zero, List.getD_cons_succ, List.set_cons_zero, List.set_cons_succ, List.replicate_succ, List.replicate_zero, List.cons_append, List.nil_append, List.length_cons, List.length_nil, List.map_cons, List.map_nil, List.all_cons, List.all_nil, Nat.reduceAdd, Nat.reduceSub, Bool.not_false, Bool.not_true, Bool.and_true, Bool.and_self, if_true, if_false, reduceCtorEq, List.zipIdx_cons, List.zipIdx_nil, List.filterMap_cons, List.filterMap_nil, Option.map_some, Option.map_none, decide_true, Nat.zero_add, reduceIte, Bool.false_eq_true, true_and, and_true, encP]
  refine ⟨by rw [List.length_map]; exact small (by omega), ?_⟩
  refine lcR_enc1 encL (fun l => encL (l.map not)) (fun l hl k hk => ?_) ?_
  · have wl := P.row l hl
    simp only [lcStep, ↓sRet, ↓sNil, ↓sIf, ↓sSet, ↓sAsg, ↓sPar, ↓sPar3, ↓sSub, ↓sSub2, ↓sExpr, ↓sExprR, ↓sRetV, ↓sRetN, ↓sRaise, ↓sBrk, ↓sCt, ↓fOf, ↓fFz, ↓fName, ↓fFrz, ↓fC, ↓fBin, ↓fBinN, ↓fT, ↓fNot, ↓fAnd, ↓fOr, ↓fAndV, ↓fOrV, ↓fNotV, ↓fIf, ↓fIfN, ↓fChain, ↓fNil, ↓fCons, ↓fTup, ↓fLst, ↓fNeg, ↓fCall, ↓fIsI, ↓fJoin, ↓fApp, ↓fExt, ↓fPop, ↓fPopAt, ↓fSl, ↓fPart, ↓fNoPart, ↓fSeq, ↓fRng1, ↓fRng2, ↓fEnum, ↓fZip, ↓fGN, ↓fGT, ↓fGcons, ↓fGnil, ↓fLc, ↓fLl, ↓fYes, ↓fOwn, ↓fAt2, ↓fCount, ↓fIndex, ↓fRev, ↓fMulL, ↓fSel, ↓sTry, ↓fIsP, ↓isLk, ↓L3.gSub, ↓gMulI, ↓gDiv, ↓gMod, ↓gPow, ↓gLt, ↓gLe, ↓gGt, ↓gGe, ↓gI, ↓gIC, ↓gAdd, ↓gIx, ↓gSl, ↓gLen, ↓gAll, ↓gAny, ↓gSum, ↓gMin2, ↓gMax2, ↓gList, ↓gTuple, ↓gNe, ↓gNotIn, ↓gIs, ↓gIsNot, ↓isNone, ↓look, ↓withD, ↓isD, ↓isB, ↓areD, ↓withDs, ↓isBor, ↓isLst, ↓isLl, ↓isI, ↓items1, ↓itemsD, ↓argsM, ↓putB, ↓pjs, ↓outsOf, ↓fin, ↓startE, ↓wipeK, ↓wipeE, ↓unw, ↓noOwnB, gEq_ii, gEq_ss, gEq_bb, own_no, own_dat, own_lst, own_ll, List.getD_cons_zero, List.getD_cons_succ, List.set_cons_zero, List.set_cons_succ, List.replicate_succ, List.replicate_zero, List.cons_append, List.nil_append, List.length_cons, List.length_nil, List.map_cons, List.map_nil, List.all_cons, List.all_nil, Nat.reduceAdd, Nat.reduceSub, Bool.not_false, Bool.not_true, Bool.and_true, Bool.and_self, if_true, if_false, reduceCtorEq, List.zipIdx_cons, List.zipIdx_nil, List.filterMap_cons, List.filterMap_nil, Option.map_some, Option.map_none, decide_true, Nat.zero_add, reduceIte, Bool.false_eq_true, true_and, and_true, encL, signs_map]
    refine ⟨by rw [List.length_map]; exact small (by omega), ?_⟩
    refine lcR_enc1 chD (fun b => chD (!b)) (fun b _ k2 hk2 => ?_) ?_
    · simp only [lcStep, ↓sRet, ↓sNil, ↓sIf, ↓sSet, ↓sAsg, ↓sPar, ↓sPar3, ↓sSub, ↓sSub2, ↓sExpr, ↓sExprR, ↓sRetV, ↓sRetN, ↓sRaise, ↓sBrk, ↓sCt, ↓fOf, ↓fFz, ↓fName, ↓fFrz, ↓fC, ↓fBin, ↓fBinN, ↓fT, ↓fNot, ↓fAnd, ↓fOr, ↓fAndV, ↓fOrV, ↓fNotV, ↓fIf, ↓fIfN, ↓fChain, ↓fNil, ↓fCons, ↓fTup, ↓fLst, ↓fNeg, ↓fCall, ↓fIsI, ↓fJoin, ↓fApp, ↓fExt, ↓fPop, ↓fPopAt, ↓fSl, ↓fPart, ↓fNoPart, ↓fSeq, ↓fRng1, ↓fRng2, ↓fEnum, ↓fZip, ↓fGN, ↓fGT, ↓fGcons, ↓fGnil, ↓fLc, ↓fLl, ↓fYes, ↓fOwn, ↓fAt2, ↓fCount, ↓fIndex, ↓fRev, ↓fMulL, ↓fSel, ↓sTry, ↓fIsP, ↓isLk, ↓L3.gSub, ↓gMulI, ↓gDiv, ↓gMod, ↓gPow, ↓gLt, ↓gLe, ↓gGt, ↓gGe, ↓gI, ↓gIC, ↓gAdd, ↓gIx, ↓gSl, ↓gLen, ↓gAll, ↓gAny, ↓gSum, ↓gMin2, ↓gMax2, ↓gList, ↓gTuple, ↓gNe, ↓gNotIn, ↓gIs, ↓gIsNot, ↓isNone, ↓look, ↓withD, ↓isD, ↓isB, ↓areD, ↓withDs, ↓isBor, ↓isLst, ↓isLl, ↓isI, ↓items1, ↓itemsD, ↓argsM, ↓putB, ↓pjs, ↓outsOf, ↓fin, ↓startE, ↓wipeK, ↓wipeE, ↓unw, ↓noOwnB, gEq_ii, gEq_ss, gEq_bb, own_no, own_dat, own_lst, own_ll, List.getD_cons_zero, List.getD_cons_succ, List.set_cons_zero, List.set_cons_succ, List.replicate_succ, List.replicate_zero, List.cons_append, List.nil_append, List.length_cons, List.length_nil, List.map_cons, List.map_nil, List.all_cons, List.all_nil, Nat.reduceAdd, Nat.reduceSub, Bool.not_false, Bool.not_true, Bool.and_true, Bool.and_self, if_true, if_false, reduceCtorEq, List.zipIdx_cons, List.zipIdx_nil, List.filterMap_cons, List.filterMap_nil, Option.map_some, Option.map_none, decide_true, Nat.zero_add, reduceIte, Bool.false_eq_true, true_and, and_true, chD]
      rw [hash_chS]
      cases b with
      | true =>
        rw [decide_eq_true rfl, if_pos rfl, dot_chS]
        exact hk2
      | false =>
        rw [decide_eq_false (by decide), if_neg Bool.false_ne_true]
        exact hk2
    · simp only [↓sRet, ↓sNil, ↓sIf, ↓sSet, ↓sAsg, ↓sPar, ↓sPar3, ↓sSub, ↓sSub2, ↓sExpr, ↓sExprR, ↓sRetV, ↓sRetN, ↓sRaise, ↓sBrk, ↓sCt, ↓fOf, ↓fFz, ↓fName, ↓fFrz, ↓fC, ↓fBin, ↓fBinN, ↓fT, ↓fNot, ↓fAnd, ↓fOr, ↓fAndV, ↓fOrV, ↓fNotV, ↓fIf, ↓fIfN, ↓fChain, ↓fNil, ↓fCons, ↓fTup, ↓fLst, ↓fNeg, ↓fCall, ↓fIsI, ↓fJoin, ↓fApp, ↓fExt, ↓fPop, ↓fPopAt, ↓fSl, ↓fPart, ↓fNoPart, ↓fSeq, ↓fRng1, ↓fRng2, ↓fEnum, ↓fZip, ↓fGN, ↓fGT, ↓fGcons, ↓fGnil, ↓fLc, ↓fLl, ↓fYes, ↓fOwn, ↓fAt2, ↓fCount, ↓fIndex, ↓fRev, ↓fMulL, ↓fSel, ↓sTry, ↓fIsP, ↓isLk, ↓L3.gSub, ↓gMulI, ↓gDiv, ↓gMod, ↓gPow, ↓gLt, ↓gLe, ↓gGt, ↓gGe, ↓gI, ↓gIC, ↓gAdd, ↓gIx, ↓gSl, ↓gLen, ↓gAll, ↓gAny, ↓gSum, ↓gMin2, ↓gMax2, ↓gList, ↓gTuple, ↓gNe, ↓gNotIn, ↓gIs, ↓gIsNot, ↓isNone, ↓look, ↓withD, ↓isD, ↓isB, ↓areD, ↓withDs, ↓isBor, ↓isLst, ↓isLl, ↓isI, ↓items1, ↓itemsD, ↓argsM, ↓putB, ↓pjs, ↓outsOf, ↓fin, ↓startE, ↓wipeK, ↓wipeE, ↓unw, ↓noOwnB, gEq_ii, gEq_ss, gEq_bb, own_no, own_dat, own_lst, own_ll, List.getD_cons_zero, List.getD_cons_succ, List.set_cons_zero, List.set_cons_succ, List.replicate_succ, List.replicate_zero, List.cons_append, List.nil_append, List.length_cons, List.length_nil, List.map_cons, List.map_nil, List.all_cons, List.all_nil, Nat.reduceAdd, Nat.reduceSub, Bool.not_false, Bool.not_true, Bool.and_true, Bool.and_self, if_true, if_false, reduceCtorEq, List.zipIdx_cons, List.zipIdx_nil, List.filterMap_cons, List.filterMap_nil, Option.map_some, Option.map_none, decide_true, Nat.zero_add, reduceIte, Bool.false_eq_true, true_and, and_true]
      have em : l.map (fun b => chD (!b)) = (l.map not).map chD := by rw [List.map_map]; rfl
      rw [em]
      obtain ⟨ys, j1, j2, j3⟩ := join_chs (l.map not)
      refine ⟨ys, j1, by rw [j2, List.length_map]; omega, ?_⟩
      rw [j3]
      exact hk
  · simp only [List.nil_append]
    have e : p.map (fun l => encL (l.map not)) = (invP p).map encL := by unfold invP; rw [List.map_map]; rfl
    rw [e]
    exact hp
theorem inv_wf {p : List (List Bool)} {h w : Nat} (P : Wf h w p) : Wf h w (invP p) := ⟨P.h1, P.h8, P.w1, P.w8, by unfold invP; rw [List.length_map, P.len], fun r hr => by
  unfold invP at hr
  obtain ⟨l, hl, rfl⟩ := List.mem_map.mp hr
  rw [List.length_map, P.row l hl]⟩
theorem atP_inv {p : List (List Bool)} {h w r c : Nat} (P : Wf h w p) (hr : r < h) (hc : c < w) : atP (invP p) r c = !atP p r c := by
  obtain ⟨a1, a2, ea⟩ := atP_get P hr hc
  obtain ⟨c1, c2, ec⟩ := atP_get (inv_wf P) hr hc
  rw [ea, ec]
  simp [invP]
theorem inverted_ok {cs : Cs} {p : List (List Bool)} {h w : Nat} (P : Wf h w p) {post : E → List E → Prop} {xp : Value → List E → Prop} (hp : post (.dat (encP (invP p))) []) : dsp_inverted cs [.dat (encP p)] post xp :=
  ⟨_, rfl, P.smallP, fun z => (by rw [P.isPic] at z; cases z), fun p' _ _ e _ => by
    have inj : p = p' := by
      unfold encP at e
      injection e with e
      exact map_inj (fun x y z => lineS_inj (by unfold encL at z; injection z)) e
    rw [← inj]; exact hp⟩
def T__law_of : TXS :=
  (sSeq (sSet 3 (fLst fNil))
  (sSeq (sFor (fRng1 (fCons (fName 0) fNil)) (fGN 4) (sExprR (fApp (fName 3) (fJoin (fC (.str "")) (fFz (fLc (fRng1 (fCons (fName 1) fNil)) (fGN 5) fYes (fIf (fT (fBin gIn (fTup (fCons (fName 4) (fCons (fName 5) fNil))) (fName 2))) (fC (.str "#")) (fC (.str "."))) [5]))))))
  (sRet (fCall gTuple (fCons (fName 3) fNil)))))

def dsp__law_of : DSp := fun es post _ => ∃ (h w : Nat) (cs : List Cell), es = [.dat (.int h), .dat (.int w), .dat (.list (cs.map encC))] ∧ h ≤ 8 ∧ w ≤ 8 ∧ post (.dat (encP (mkP h w fun r c => decide ((r, c) ∈ cs)))) []
theorem good__law_of : Good [] 6 3 T__law_of dsp__law_of := by
  rintro es post xp ⟨h, w, cs, rfl, h8, w8, hp⟩ _
  unfold T__law_of
  refine sSeq_g fun N hN => ?_
  simp only [↓sRet, ↓sNil, ↓sIf, ↓sSet, ↓sAsg, ↓sPar, ↓sPar3, ↓sSub, ↓sSub2, ↓sExpr, ↓sExprR, ↓sRetV, ↓sRetN, ↓sRaise, ↓sBrk, ↓sCt, ↓fOf, ↓fFz, ↓fName, ↓fFrz, ↓fC, ↓fBin, ↓fBinN, ↓fT, ↓fNot, ↓fAnd, ↓fOr, ↓fAndV, ↓fOrV, ↓fNotV, ↓fIf, ↓fIfN, ↓fChain, ↓fNil, ↓fCons, ↓fTup, ↓fLst, ↓fNeg, ↓fCall, ↓fIsI, ↓fJoin, ↓fApp, ↓fExt, ↓fPop, ↓fPopAt, ↓fSl, ↓fPart, ↓fNoPart, ↓fSeq, ↓fRng1, ↓fRng2, ↓fEnum, ↓fZip, ↓fGN, ↓fGT, ↓fGcons, ↓fGnil, ↓fLc, ↓fLl, ↓fYes, ↓fOwn, ↓fAt2, ↓fCount, ↓fIndex, ↓fRev, ↓fMulL, ↓fSel, ↓sTry, ↓fIsP, ↓isLk, ↓L3.gSub, ↓gMulI, ↓gDiv, ↓gMod, ↓gPow, ↓gLt, ↓gLe, ↓gGt, ↓gGe, ↓gI, ↓gIC, ↓gAdd, ↓gIx, ↓gSl, ↓gLen, ↓gAll, ↓gAny, ↓gSum, ↓gMin2, ↓gMax2, ↓gList, ↓gTuple, ↓gNe, ↓gNotIn, ↓gIs, ↓gIsNot, ↓isNone, ↓look, ↓withD, ↓isD, ↓isB, ↓areD, ↓withDs, ↓isBor, ↓isLst, ↓isLl, ↓isI, ↓items1, ↓itemsD, ↓argsM, ↓putB, ↓pjs, ↓outsOf, ↓fin, ↓startE, ↓wipeK, ↓wipeE, ↓unw, ↓noOwnB, gEq_ii, gEq_ss, gEq_bb, own_no, own_dat, own_lst, own_ll, List.getD_cons_zero, List.getD_cons_succ, List.set_cons_zero, List.set_cons_succ, List.replicate_succ, List.replicate_zero, List.cons_append, List.nil_append, List.length_cons, List.length_nil, List.map_cons, List.map_nil, List.all_cons, List.all_nil, Nat.reduceAdd, Nat.reduceSub, Bool.not_false, Bool.not_true, Bool.and_true, Bool.and_self, if_true, if_false, reduceCtorEq, List.zipIdx_cons, List.zipIdx_nil, List.filterMap_cons, List.filterMap_nil, Option.map_some, Option.map_none, decide_true, Nat.zero_add, reduceIte, Bool.false_eq_true, true_and, and_true]
  refine hN _ ?_
  clear hN N
  refine sSeq_g fun N hN => sFor_g fun F hF => ?_
  simp only [↓sRet, ↓sNil, ↓sIf, ↓sSet, ↓sAsg, ↓sPar, ↓sPar3, ↓sSub, ↓sSub2, ↓sExpr, ↓sExprR, ↓sRetV, ↓sRetN, ↓sRaise, ↓sBrk, ↓sCt, ↓fOf, ↓fFz, ↓fName, ↓fFrz, ↓fC, ↓fBin, ↓fBinN, ↓fT, ↓fNot, ↓fAnd, ↓fOr, ↓fAndV, ↓fOrV, ↓fNotV, ↓fIf, ↓fIfN, ↓fChain, ↓fNil, ↓fCons, ↓fTup, ↓fLst, ↓fNeg, ↓fCall, ↓fIsI, ↓fJoin, ↓fApp, ↓fExt, ↓fPop, ↓fPopAt, ↓fSl, ↓fPart, ↓fNoPart, ↓fSeq, ↓fRng1, ↓fRng2, ↓fEnum, ↓fZip, ↓fGN, ↓fGT, ↓fGcons, ↓fGnil, ↓fLc, ↓fLl, ↓fYes, ↓fOwn, ↓fAt2, ↓fCount, ↓fIndex, ↓fRev, ↓fMulL, ↓fSel, ↓sTry, ↓fIsP, ↓isLk, ↓L3.gSub, ↓gMulI, ↓gDiv, ↓gMod, ↓gPow, ↓gLt, ↓gLe, ↓gGt, ↓gGe, ↓gI, ↓gIC, ↓gAdd, ↓gIx, ↓gSl, ↓gLen, ↓gAll, ↓gAny, ↓gSum, ↓gMin2, ↓gMax2, ↓gList, ↓gTuple, ↓gNe, ↓gNotIn, ↓gIs, ↓gIsNot, ↓isNone, ↓look, ↓withD, ↓isD, ↓isB, ↓areD, ↓withDs, ↓isBor, ↓isLst, ↓isLl, ↓isI, ↓items1, ↓itemsD, ↓argsM, ↓putB, ↓pjs, ↓outsOf, ↓fin, ↓startE, ↓wipeK, ↓wipeE, ↓unw, ↓noOwnB, gEq_ii, gEq_ss, gEq_bb, own_no, own_dat, own_lst, own_ll, List.getD_cons_zero, List.getD_cons_succ, List.set_cons_zero, List.set_cons_succ, List.replicate_succ, List.replicate_zero, List.cons_append, List.nil_append, List.length_cons, List.length_nil, List.map_cons, List.map_nil, List.all_cons, List.all_nil, Nat.reduceAdd, Nat.reduceSub, Bool.not_false, Bool.not_true, Bool.and_true, Bool.and_self, if_true, if_false, reduceCtorEq, List.zipIdx_cons, List.zipIdx_nil, List.filterMap_cons, List.filterMap_nil, Option.map_some, Option.map_none, decide_true, Nat.zero_add, reduceIte, Bool.false_eq_true, true_and, and_true]
  refine ⟨b62 (by omega) (by omega), hF _ _ ?_⟩
  clear hF F
  refine forR_inv (fun i ρ => ∃ x4 x5, ρ = [.dat (.int h), .dat (.int w), .dat (.list (cs.map encC)), .lst ((mkP i w fun r c => decide ((r, c) ∈ cs)).map encL), x4, x5] ∧ x5.own = false) 0 (fun i d ρ M hd hP hM => ?_) ⟨_, _, rfl, rfl⟩ (fun ρ hP => ?_)
  · obtain ⟨x4, x5, rfl, o5⟩ := hP
    obtain ⟨hi, rfl⟩ := rangeD_get hd
    rw [Nat.zero_add] at *
    rw [Int.zero_add] at *
    simp only [↓sRet, ↓sNil, ↓sIf, ↓sSet, ↓sAsg, ↓sPar, ↓sPar3, ↓sSub, ↓sSub2, ↓sExpr, ↓sExprR, ↓sRetV, ↓sRetN, ↓sRaise, ↓sBrk, ↓sCt, ↓fOf, ↓fFz, ↓fName, ↓fFrz, ↓fC, ↓fBin, ↓fBinN, ↓fT, ↓fNot, ↓fAnd, ↓fOr, ↓fAndV, ↓fOrV, ↓fNotV, ↓fIf, ↓fIfN, ↓fChain, ↓fNil, ↓fCons, ↓fTup, ↓fLst, ↓fNeg, ↓fCall, ↓fIsI, ↓fJoin, ↓fApp, ↓fExt, ↓fPop, ↓fPopAt, ↓fSl, ↓fPart, ↓fNoPart, ↓fSeq, ↓fRng1, ↓fRng2, ↓fEnum, ↓fZip, ↓fGN, ↓fGT, ↓fGcons, ↓fGnil, ↓fLc, ↓fLl, ↓fYes, ↓fOwn, ↓fAt2, ↓fCount, ↓fIndex, ↓fRev, ↓fMulL, ↓fSel, ↓sTry, ↓fIsP, ↓isLk, ↓L3.gSub, ↓gMulI, ↓gDiv, ↓gMod, ↓gPow, ↓gLt, ↓gLe, ↓gGt, ↓gGe, ↓gI, ↓gIC, ↓gAdd, ↓gIx, ↓gSl, ↓gLen, ↓gAll, ↓gAny, ↓gSum, ↓gMin2, ↓gMax2, ↓gList, ↓gTuple, ↓gNe, ↓gNotIn, ↓gIs, ↓gIsNot, ↓isNone, ↓look, ↓withD, ↓isD, ↓isB, ↓areD, ↓withDs, ↓isBor, ↓isLst, ↓isLl, ↓isI, ↓items1, ↓itemsD, ↓argsM, ↓putB, ↓pjs, ↓outsOf, ↓fin, ↓startE, ↓wipeK, ↓wipeE, ↓unw, ↓noOwnB, gEq_ii, gEq_ss, gEq_bb, own_no, own_dat, own_lst, own_ll, List.getD_cons_zero, List.getD_cons_succ, List.set_cons_zero, List.set_cons_succ, List.replicate_succ, List.replicate_zero, List.cons_append, List.nil_append, List.length_cons, List.length_nil, List.map_cons, List.map_nil, List.all_cons, List.all_nil, Nat.reduceAdd, Nat.reduceSub, Bool.not_false, Bool.not_true, Bool.and_true, Bool.and_self, if_true, if_false, reduceCtorEq, List.zipIdx_cons, List.zipIdx_nil, List.filterMap_cons, List.filterMap_nil, Option.map_some, Option.map_none, decide_true, Nat.zero_add, reduceIte, Bool.false_eq_true, true_and, and_true, o5]
    refine ⟨b62 (by omega) (by omega), by rw [rangeD_len]; exact small (by omega), ?_⟩
    rw [rangeD_map]
    have ew : (w : Int).toNat = w := by omega
    rw [ew]
    refine lcR_enc1 (fun c : Nat => PyData.int (c : Nat)) (fun c => chD (decide ((i, c) ∈ cs))) (fun c _ k hk => ?_) ?_
    · simp only [lcStep, ↓sRet, ↓sNil, ↓sIf, ↓sSet, ↓sAsg, ↓sPar, ↓sPar3, ↓sSub, ↓sSub2, ↓sExpr, ↓sExprR, ↓sRetV, ↓sRetN, ↓sRaise, ↓sBrk, ↓sCt, ↓fOf, ↓fFz, ↓fName, ↓fFrz, ↓fC, ↓fBin, ↓fBinN, ↓fT, ↓fNot, ↓fAnd, ↓fOr, ↓fAndV, ↓fOrV, ↓fNotV, ↓fIf, ↓fIfN, ↓fChain, ↓fNil, ↓fCons, ↓fTup, ↓fLst, ↓fNeg, ↓fCall, ↓fIsI, ↓fJoin, ↓fApp, ↓fExt, ↓fPop, ↓fPopAt, ↓fSl, ↓fPart, ↓fNoPart, ↓fSeq, ↓fRng1, ↓fRng2, ↓fEnum, ↓fZip, ↓fGN, ↓fGT, ↓fGcons, ↓fGnil, ↓fLc, ↓fLl, ↓fYes, ↓fOwn, ↓fAt2, ↓fCount, ↓fIndex, ↓fRev, ↓fMulL, ↓fSel, ↓sTry, ↓fIsP, ↓isLk, ↓L3.gSub, ↓gMulI, ↓gDiv, ↓gMod, ↓gPow, ↓gLt, ↓gLe, ↓gGt, ↓gGe, ↓gI, ↓gIC, ↓gAdd, ↓gIx, ↓gSl, ↓gLen, ↓gAll, ↓gAny, ↓gSum, ↓gMin2, ↓gMax2, ↓gList, ↓gTuple, ↓gNe, ↓gNotIn, ↓gIs, ↓gIsNot, ↓isNone, ↓look, ↓withD, ↓isD, ↓isB, ↓areD, ↓withDs, ↓isBor, ↓isLst, ↓isLl, ↓isI, ↓items1, ↓itemsD, ↓argsM, ↓putB, ↓pjs, ↓outsOf, ↓fin, ↓startE, ↓wipeK, ↓wipeE, ↓unw, ↓noOwnB, gEq_ii, gEq_ss, gEq_bb, own_no, own_dat, own_lst, own_ll, List.getD_cons_zero, List.getD_cons_succ, List.set_cons_zero, List.set_cons_succ, List.replicate_succ, List.replicate_zero, List.cons_append, List.nil_append, List.length_cons, List.length_nil, List.map_cons, List.map_nil, List.all_cons, List.all_nil, Nat.reduceAdd, Nat.reduceSub, Bool.not_false, Bool.not_true, Bool.and_true, Bool.and_self, if_true, if_false, reduceCtorEq, List.zipIdx_cons, List.zipIdx_nil, List.filterMap_cons, List.filterMap_nil, Option.map_some, Option.map_none, decide_true, Nat.zero_add, reduceIte, Bool.false_eq_true, true_and, and_true]
      refine gIn_cell (c := (i, c)) ?_
      simp only [↓sRet, ↓sNil, ↓sIf, ↓sSet, ↓sAsg, ↓sPar, ↓sPar3, ↓sSub, ↓sSub2, ↓sExpr, ↓sExprR, ↓sRetV, ↓sRetN, ↓sRaise, ↓sBrk, ↓sCt, ↓fOf, ↓fFz, ↓fName, ↓fFrz, ↓fC, ↓fBin, ↓fBinN, ↓fT, ↓fNot, ↓fAnd, ↓fOr, ↓fAndV, ↓fOrV, ↓fNotV, ↓fIf, ↓fIfN, ↓fChain, ↓fNil, ↓fCons, ↓fTup, ↓fLst, ↓fNeg, ↓fCall, ↓fIsI, ↓fJoin, ↓fApp, ↓fExt, ↓fPop, ↓fPopAt, ↓fSl, ↓fPart, ↓fNoPart, ↓fSeq, ↓fRng1, ↓fRng2, ↓fEnum, ↓fZip, ↓fGN, ↓fGT, ↓fGcons, ↓fGnil, ↓fLc, ↓fLl, ↓fYes, ↓fOwn, ↓fAt2, ↓fCount, ↓fIndex, ↓fRev, ↓fMulL, ↓fSel, ↓sTry, ↓fIsP, ↓isLk, ↓L3.gSub, ↓gMulI, ↓gDiv, ↓gMod, ↓gPow, ↓gLt, ↓gLe, ↓gGt, ↓gGe, ↓gI, ↓gIC, ↓gAdd, ↓gIx, ↓gSl, ↓gLen, ↓gAll, ↓gAny, ↓gSum, ↓gMin2, ↓gMax2, ↓gList, ↓gTuple, ↓gNe, ↓gNotIn, ↓gIs, ↓gIsNot, ↓isNone, ↓look, ↓withD, ↓isD, ↓isB, ↓areD, ↓withDs, ↓isBor, ↓isLst, ↓isLl, ↓isI, ↓items1, ↓itemsD, ↓argsM, ↓putB, ↓pjs, ↓outsOf, ↓fin, ↓startE, ↓wipeK, ↓wipeE, ↓unw, ↓noOwnB, gEq_ii, gEq_ss, gEq_bb, own_no, own_dat, own_lst, own_ll, List.getD_cons_zero, List.getD_cons_succ, List.set_cons_zero, List.set_cons_succ, List.replicate_succ, List.replicate_zero, List.cons_append, List.nil_append, List.length_cons, List.length_nil, List.map_cons, List.map_nil, List.all_cons, List.all_nil, Nat.reduceAdd, Nat.reduceSub, Bool.not_false, Bool.not_true, Bool.and_true, Bool.and_self, if_true, if_false, reduceCtorEq, List.zipIdx_cons, List.zipIdx_nil, List.filterMap_cons, List.filterMap_nil, Option.map_some, Option.map_none, decide_true, Nat.zero_add, reduceIte, Bool.false_eq_true, true_and, and_true]
      cases z : decide ((i, c) ∈ cs) with
      | true =>
        rw [z] at hk
        rw [if_pos rfl, hash_chS]
        exact hk
      | false =>
        rw [z] at hk
        rw [if_neg Bool.false_ne_true, dot_chS]
        exact hk
    · simp only [↓sRet, ↓sNil, ↓sIf, ↓sSet, ↓sAsg, ↓sPar, ↓sPar3, ↓sSub, ↓sSub2, ↓sExpr, ↓sExprR, ↓sRetV, ↓sRetN, ↓sRaise, ↓sBrk, ↓sCt, ↓fOf, ↓fFz, ↓fName, ↓fFrz, ↓fC, ↓fBin, ↓fBinN, ↓fT, ↓fNot, ↓fAnd, ↓fOr, ↓fAndV, ↓fOrV, ↓fNotV, ↓fIf, ↓fIfN, ↓fChain, ↓fNil, ↓fCons, ↓fTup, ↓fLst, ↓fNeg, ↓fCall, ↓fIsI, ↓fJoin, ↓fApp, ↓fExt, ↓fPop, ↓fPopAt, ↓fSl, ↓fPart, ↓fNoPart, ↓fSeq, ↓fRng1, ↓fRng2, ↓fEnum, ↓fZip, ↓fGN, ↓fGT, ↓fGcons, ↓fGnil, ↓fLc, ↓fLl, ↓fYes, ↓fOwn, ↓fAt2, ↓fCount, ↓fIndex, ↓fRev, ↓fMulL, ↓fSel, ↓sTry, ↓fIsP, ↓isLk, ↓L3.gSub, ↓gMulI, ↓gDiv, ↓gMod, ↓gPow, ↓gLt, ↓gLe, ↓gGt, ↓gGe, ↓gI, ↓gIC, ↓gAdd, ↓gIx, ↓gSl, ↓gLen, ↓gAll, ↓gAny, ↓gSum, ↓gMin2, ↓gMax2, ↓gList, ↓gTuple, ↓gNe, ↓gNotIn, ↓gIs, ↓gIsNot, ↓isNone, ↓look, ↓withD, ↓isD, ↓isB, ↓areD, ↓withDs, ↓isBor, ↓isLst, ↓isLl, ↓isI, ↓items1, ↓itemsD, ↓argsM, ↓putB, ↓pjs, ↓outsOf, ↓fin, ↓startE, ↓wipeK, ↓wipeE, ↓unw, ↓noOwnB, gEq_ii, gEq_ss, gEq_bb, own_no, own_dat, own_lst, own_ll, List.getD_cons_zero, List.getD_cons_succ, List.set_cons_zero, List.set_cons_succ, List.replicate_succ, List.replicate_zero, List.cons_append, List.nil_append, List.length_cons, List.length_nil, List.map_cons, List.map_nil, List.all_cons, List.all_nil, Nat.reduceAdd, Nat.reduceSub, Bool.not_false, Bool.not_true, Bool.and_true, Bool.and_self, if_true, if_false, reduceCtorEq, List.zipIdx_cons, List.zipIdx_nil, List.filterMap_cons, List.filterMap_nil, Option.map_some, Option.map_none, decide_true, Nat.zero_add, reduceIte, Bool.false_eq_true, true_and, and_true, o5]
      have em : (List.range w).map (fun c => chD (decide ((i, c) ∈ cs))) = ((List.range w).map fun c => decide ((i, c) ∈ cs)).map chD := by rw [List.map_map]; rfl
      rw [em]
      obtain ⟨ys, j1, j2, j3⟩ := join_chs ((List.range w).map fun c => decide ((i, c) ∈ cs))
      refine ⟨ys, j1, by rw [j2, List.length_map, List.length_range]; omega, by rw [List.length_map]; unfold mkP; rw [List.length_map, List.length_range]; exact small (by omega), ?_⟩
      rw [j3]
      refine hM _ ⟨.dat (.int (i : Nat)), x5, ?_, o5⟩
      have et : mkP (i + 1) w (fun r c => decide ((r, c) ∈ cs)) = mkP i w (fun r c => decide ((r, c) ∈ cs)) ++ [(List.range w).map fun c => decide ((i, c) ∈ cs)] := by
        unfold mkP
        rw [List.range_succ, List.map_append]
        rfl
      rw [et, List.map_append]
      rfl
  · obtain ⟨x4, x5, rfl, o5⟩ := hP
    refine hN _ ?_
    simp only [↓sRet, ↓sNil, ↓sIf, ↓sSet, ↓sAsg, ↓sPar, ↓sPar3, ↓sSub, ↓sSub2, ↓sExpr, ↓sExprR, ↓sRetV, ↓sRetN, ↓sRaise, ↓sBrk, ↓sCt, ↓fOf, ↓fFz, ↓fName, ↓fFrz, ↓fC, ↓fBin, ↓fBinN, ↓fT, ↓fNot, ↓fAnd, ↓fOr, ↓fAndV, ↓fOrV, ↓fNotV, ↓fIf, ↓fIfN, ↓fChain, ↓fNil, ↓fCons, ↓fTup, ↓fLst, ↓fNeg, ↓fCall, ↓fIsI, ↓fJoin, ↓fApp, ↓fExt, ↓fPop, ↓fPopAt, ↓fSl, ↓fPart, ↓fNoPart, ↓fSeq, ↓fRng1, ↓fRng2, ↓fEnum, ↓fZip, ↓fGN, ↓fGT, ↓fGcons, ↓fGnil, ↓fLc, ↓fLl, ↓fYes, ↓fOwn, ↓fAt2, ↓fCount, ↓fIndex, ↓fRev, ↓fMulL, ↓fSel, ↓sTry, ↓fIsP, ↓isLk, ↓L3.gSub, ↓gMulI, ↓gDiv, ↓gMod, ↓gPow, ↓gLt, ↓gLe, ↓gGt, ↓gGe, ↓gI, ↓gIC, ↓gAdd, ↓gIx, ↓gSl, ↓gLen, ↓gAll, ↓gAny, ↓gSum, ↓gMin2, ↓gMax2, ↓gList, ↓gTuple, ↓gNe, ↓gNotIn, ↓gIs, ↓gIsNot, ↓isNone, ↓look, ↓withD, ↓isD, ↓isB, ↓areD, ↓withDs, ↓isBor, ↓isLst, ↓isLl, ↓isI, ↓items1, ↓itemsD, ↓argsM, ↓putB, ↓pjs, ↓outsOf, ↓fin, ↓startE, ↓wipeK, ↓wipeE, ↓unw, ↓noOwnB, gEq_ii, gEq_ss, gEq_bb, own_no, own_dat, own_lst, own_ll, List.getD_cons_zero, List.getD_cons_succ, List.set_cons_zero, List.set_cons_succ, List.replicate_succ, List.replicate_zero, List.cons_append, List.nil_append, List.length_cons, List.length_nil, List.map_cons, List.map_nil, List.all_cons, List.all_nil, Nat.reduceAdd, Nat.reduceSub, Bool.not_false, Bool.not_true, Bool.and_true, Bool.and_self, if_true, if_false, reduceCtorEq, List.zipIdx_cons, List.zipIdx_nil, List.filterMap_cons, List.filterMap_nil, Option.map_some, Option.map_none, decide_true, Nat.zero_add, reduceIte, Bool.false_eq_true, true_and, and_true]
    rw [rangeD_len]
    first
      | (rw [show 0 + (h : Int).toNat = h by omega]; exact hp)
      | (rw [show (h : Int).toNat = h by omega]; exact hp)
end My

namespace My
open PySem PySem.Spec PyProof.Rows L2 L3
/-! ### clues -/
def cuts : List Bool → List Nat
  | [] => [0]
  | false :: r => 0 :: cuts r
  | true :: r => match cuts r with
    | n :: ns => (n + 1) :: ns
    | [] => [1]
def hashes (n : Nat) : Str := ⟨(List.replicate n 35).toArray⟩
theorem cuts_cons : ∀ r, ∃ n ns, cuts r = n :: ns
  | [] => ⟨0, [], rfl⟩
  | false :: r => ⟨0, cuts r, rfl⟩
  | true :: r => by
    obtain ⟨n, ns, e⟩ := cuts_cons r
    exact ⟨n + 1, ns, by simp only [cuts, e]⟩
def incLast : List Nat → List Nat
  | [] => [1]
  | [n] => [n + 1]
  | n :: m :: ns => n :: incLast (m :: ns)
theorem incLast_app : ∀ (D : List Nat) (t : Nat), incLast (D ++ [t]) = D ++ [t + 1]
  | [], t => rfl
  | [a], t => rfl
  | a :: b :: D, t => by
    show a :: incLast ((b :: D) ++ [t]) = a :: ((b :: D) ++ [t + 1])
    rw [incLast_app (b :: D) t]
theorem cuts_no : ∀ xs, cuts (xs ++ [false]) = cuts xs ++ [0]
  | [] => rfl
  | false :: xs => by
    show 0 :: cuts (xs ++ [false]) = 0 :: cuts xs ++ [0]
    rw [cuts_no xs]; rfl
  | true :: xs => by
    obtain ⟨n, ns, e⟩ := cuts_cons xs
    have ih := cuts_no xs
    rw [e] at ih
    show (match cuts (xs ++ [false]) with | n :: ns => (n + 1) :: ns | [] => [1]) = cuts (true :: xs) ++ [0]
    rw [ih]
    simp only [cuts, e]
    rfl
theorem cuts_yes : ∀ xs, cuts (xs ++ [true]) = incLast (cuts xs)
  | [] => rfl
  | false :: xs => by
    obtain ⟨n, ns, e⟩ := cuts_cons xs
    show 0 :: cuts (xs ++ [true]) = incLast (0 :: cuts xs)
    rw [cuts_yes xs, e]
    rfl
  | true :: xs => by
    obtain ⟨n, ns, e⟩ := cuts_cons xs
    have ih := cuts_yes xs
    rw [e] at ih
    show (match cuts (xs ++ [true]) with | n :: ns => (n + 1) :: ns | [] => [1]) = incLast (cuts (true :: xs))
    rw [ih]
    simp only [cuts, e]
    cases ns with
    | nil => rfl
    | cons m ms => rfl
def clueOf (r : List Bool) : List Nat := (cuts r).filter (· ≠ 0)
theorem cuts_rev : ∀ r : List Bool, cuts r.reverse = (cuts r).reverse
  | [] => rfl
  | false :: r => by
    rw [List.reverse_cons, cuts_no, cuts_rev r]
    show _ = (0 :: cuts r).reverse
    rw [List.reverse_cons]
  | true :: r => by
    obtain ⟨n, ns, e⟩ := cuts_cons r
    rw [List.reverse_cons, cuts_yes, cuts_rev r, e, List.reverse_cons, incLast_app]
    simp only [cuts, e, List.reverse_cons]
theorem clue_rev (r : List Bool) : clueOf r.reverse = (clueOf r).reverse := by
  unfold clueOf
  rw [cuts_rev, List.filter_reverse]
theorem cuts_sum : ∀ r : List Bool, (cuts r).sum = r.count true
  | [] => rfl
  | false :: r => by
    show (0 :: cuts r).sum = _
    rw [List.sum_cons, cuts_sum r]; simp
  | true :: r => by
    obtain ⟨n, ns, e⟩ := cuts_cons r
    have ih := cuts_sum r
    rw [e, List.sum_cons] at ih
    simp only [cuts, e, List.sum_cons]
    rw [List.count_cons]
    simp
    omega
theorem sum_filter0 : ∀ l : List Nat, (l.filter (· ≠ 0)).sum = l.sum
  | [] => rfl
  | 0 :: l => by
    rw [List.filter_cons_of_neg (by simp), sum_filter0 l]; simp
  | (n + 1) :: l => by
    rw [List.filter_cons_of_pos (by simp), List.sum_cons, List.sum_cons, sum_filter0 l]
theorem clue_sum (r : List Bool) : (clueOf r).sum = r.count true := by
  unfold clueOf
  rw [sum_filter0, cuts_sum]
theorem cuts_len : ∀ r : List Bool, (cuts r).length ≤ r.length + 1
  | [] => by simp [cuts]
  | false :: r => by
    have := cuts_len r
    show (0 :: cuts r).length ≤ _
    simp; omega
  | true :: r => by
    obtain ⟨n, ns, e⟩ := cuts_cons r
    have := cuts_len r
    simp only [cuts, e] at this ⊢
    simp at this ⊢
    omega
theorem mem_le_sum : ∀ {l : List Nat} {n : Nat}, n ∈ l → n ≤ l.sum
  | [], _, h => absurd h (by simp)
  | a :: l, n, h => by
    rw [List.sum_cons]
    rcases List.mem_cons.mp h with rfl | h
    · omega
    · have := mem_le_sum h; omega
theorem cuts_le (r : List Bool) (n : Nat) (h : n ∈ cuts r) : n ≤ r.length := by
  have h2 := mem_le_sum h
  rw [cuts_sum] at h2
  have h3 : r.count true ≤ r.length := List.count_le_length
  omega
/-! text and cuts -/
theorem joinL_cuts : ∀ r : List Bool, TL.joinL [46] ((cuts r).map fun n => List.replicate n 35) = r.map sg
  | [] => rfl
  | false :: r => by
    obtain ⟨n, ns, e⟩ := cuts_cons r
    have ih := joinL_cuts r
    rw [e] at ih
    simp only [cuts, e, List.map_cons] at ih ⊢
    show [] ++ ([46] ++ TL.joinL [46] (List.replicate n 35 :: ns.map fun n => List.replicate n 35)) = _
    rw [ih]
    rfl
  | true :: r => by
    obtain ⟨n, ns, e⟩ := cuts_cons r
    have ih := joinL_cuts r
    rw [e] at ih
    simp only [cuts, e, List.map_cons] at ih ⊢
    rw [← ih]
    cases ns with
    | nil => rfl
    | cons m ms => rfl
theorem split_line (r : List Bool) : Txt.split (lineS r) (Str.ofString ".") = (cuts r).map hashes := by
  have hne : (cuts r).map hashes ≠ [] := by
    obtain ⟨n, ns, e⟩ := cuts_cons r
    rw [e]; exact List.cons_ne_nil _ _
  have z := TL.split_join (y := Str.ofString ".") (s := 46) (S := []) (by decide) (by decide +kernel) hne (fun p hp => by
    obtain ⟨n, _, rfl⟩ := List.mem_map.mp hp
    intro hm
    have hm' : 46 ∈ List.replicate n 35 := hm
    have := (List.mem_replicate.mp hm').2
    cases this)
  have ej : Txt.join (Str.ofString ".") ((cuts r).map hashes) = lineS r := by
    rw [TL.join_eq]
    have h1 := TL.tl_join (Str.ofString ".") ((cuts r).map hashes)
    rw [List.map_map] at h1
    have h2 : TL.joinL [46] ((cuts r).map fun n => List.replicate n 35) = r.map sg := joinL_cuts r
    have h3 : (Str.join (Str.ofString ".") ((cuts r).map hashes)).cps.toList = r.map sg := h1.trans h2
    generalize Str.join (Str.ofString ".") ((cuts r).map hashes) = S at h3
    obtain ⟨⟨l⟩⟩ := S
    simp only at h3
    subst h3
    rfl
  rw [ej] at z
  exact z
def T__law_clue : TXS :=
  (sRet (fCall gTuple (fCons (fFz (fLc (fSeq (fFz (fSplit (fName 0) (fC (.str "."))))) (fGN 1) (fT (fBin gNe (fName 1) (fC (.str "")))) (fFz (fCall gLen (fCons (fName 1) fNil))) [1])) fNil)))

def encClue (c : List Nat) : PyData := .tuple (c.map fun n => PyData.int (n : Nat))
def dsp__law_clue : DSp := fun es post _ => ∃ r : List Bool, es = [.dat (encL r)] ∧ r.length ≤ 1000 ∧ post (.dat (encClue (clueOf r))) []
theorem hashes_len (n : Nat) : (hashes n).length = n := by
  unfold hashes Str.length
  simp
theorem good__law_clue : Good [] 2 1 T__law_clue dsp__law_clue := by
  rintro es post xp ⟨r, rfl, hr, hp⟩ _
  simp only [T__law_clue, ↓sRet, ↓sNil, ↓sIf, ↓sSet, ↓sAsg, ↓sPar, ↓sPar3, ↓sSub, ↓sSub2, ↓sExpr, ↓sExprR, ↓sRetV, ↓sRetN, ↓sRaise, ↓sBrk, ↓sCt, ↓fOf, ↓fFz, ↓fName, ↓fFrz, ↓fC, ↓fBin, ↓fBinN, ↓fT, ↓fNot, ↓fAnd, ↓fOr, ↓fAndV, ↓fOrV, ↓fNotV, ↓fIf, ↓fIfN, ↓fChain, ↓fNil, ↓fCons, ↓fTup, ↓fLst, ↓fNeg, ↓fCall, ↓fIsI, ↓fJoin, ↓fApp, ↓fExt, ↓fPop, ↓fPopAt, ↓fSl, ↓fPart, ↓fNoPart, ↓fSeq, ↓fRng1, ↓fRng2, ↓fEnum, ↓fZip, ↓fGN, ↓fGT, ↓fGcons, ↓fGnil, ↓fLc, ↓fLl, ↓fYes, ↓fOwn, ↓fAt2, ↓fCount, ↓fIndex, ↓fRev, ↓fMulL, ↓fSel, ↓sTry, ↓fIsP, ↓isLk, ↓L3.gSub, ↓gMulI, ↓gDiv, ↓gMod, ↓gPow, ↓gLt, ↓gLe, ↓gGt, ↓gGe, ↓gI, ↓gIC, ↓gAdd, ↓gIx, ↓gSl, ↓gLen, ↓gAll, ↓gAny, ↓gSum, ↓gMin2, ↓gMax2, ↓gList, ↓gTuple, ↓gNe, ↓gNotIn, ↓gIs, ↓gIsNot, ↓isNone, ↓look, ↓withD, ↓isD, ↓isB, ↓areD, ↓withDs, ↓isBor, ↓isLst, ↓isLl, ↓isI, ↓items1, ↓itemsD, ↓argsM, ↓putB, ↓pjs, ↓outsOf, ↓fin, ↓startE, ↓wipeK, ↓wipeE, ↓unw, ↓noOwnB, gEq_ii, gEq_ss, gEq_bb, own_no, own_dat, own_lst, own_ll, List.getD_cons_zero, List.getD_cons_succ, List.set_cons_zero, List.set_cons_succ, List.replicate_succ, List.replicate_zero, List.cons_append, List.nil_append, List.length_cons, List.length_nil, List.map_cons, List.map_nil, List.all_cons, List.all_nil, Nat.reduceAdd, Nat.reduceSub, Bool.not_false, Bool.not_true, Bool.and_true, Bool.and_self, if_true, if_false, reduceCtorEq, List.zipIdx_cons, List.zipIdx_nil, List.filterMap_cons, List.filterMap_nil, Option.map_some, Option.map_none, decide_true, Nat.zero_add, reduceIte, Bool.false_eq_true, true_and, and_true, fSplit, encL]
  refine ⟨by decide, by rw [lineS_len]; exact Nat.le_of_lt (small (by omega)), ?_⟩
  rw [split_line, List.map_map]
  have hl := cuts_len r
  refine ⟨by rw [List.length_map]; exact small (by omega), ?_⟩
  refine lcR_encF (fun n => PyData.str (hashes n)) (fun n => decide (n ≠ 0)) (fun n : Nat => PyData.int (n : Nat)) (fun n hn k ht hf => ?_) ?_
  · have hle := cuts_le r n hn
    simp only [lcStep, ↓sRet, ↓sNil, ↓sIf, ↓sSet, ↓sAsg, ↓sPar, ↓sPar3, ↓sSub, ↓sSub2, ↓sExpr, ↓sExprR, ↓sRetV, ↓sRetN, ↓sRaise, ↓sBrk, ↓sCt, ↓fOf, ↓fFz, ↓fName, ↓fFrz, ↓fC, ↓fBin, ↓fBinN, ↓fT, ↓fNot, ↓fAnd, ↓fOr, ↓fAndV, ↓fOrV, ↓fNotV, ↓fIf, ↓fIfN, ↓fChain, ↓fNil, ↓fCons, ↓fTup, ↓fLst, ↓fNeg, ↓fCall, ↓fIsI, ↓fJoin, ↓fApp, ↓fExt, ↓fPop, ↓fPopAt, ↓fSl, ↓fPart, ↓fNoPart, ↓fSeq, ↓fRng1, ↓fRng2, ↓fEnum, ↓fZip, ↓fGN, ↓fGT, ↓fGcons, ↓fGnil, ↓fLc, ↓fLl, ↓fYes, ↓fOwn, ↓fAt2, ↓fCount, ↓fIndex, ↓fRev, ↓fMulL, ↓fSel, ↓sTry, ↓fIsP, ↓isLk, ↓L3.gSub, ↓gMulI, ↓gDiv, ↓gMod, ↓gPow, ↓gLt, ↓gLe, ↓gGt, ↓gGe, ↓gI, ↓gIC, ↓gAdd, ↓gIx, ↓gSl, ↓gLen, ↓gAll, ↓gAny, ↓gSum, ↓gMin2, ↓gMax2, ↓gList, ↓gTuple, ↓gNe, ↓gNotIn, ↓gIs, ↓gIsNot, ↓isNone, ↓look, ↓withD, ↓isD, ↓isB, ↓areD, ↓withDs, ↓isBor, ↓isLst, ↓isLl, ↓isI, ↓items1, ↓itemsD, ↓argsM, ↓putB, ↓pjs, ↓outsOf, ↓fin, ↓startE, ↓wipeK, ↓wipeE, ↓unw, ↓noOwnB, gEq_ii, gEq_ss, gEq_bb, own_no, own_dat, own_lst, own_ll, List.getD_cons_zero, List.getD_cons_succ, List.set_cons_zero, List.set_cons_succ, List.replicate_succ, List.replicate_zero, List.cons_append, List.nil_append, List.length_cons, List.length_nil, List.map_cons, List.map_nil, List.all_cons, List.all_nil, Nat.reduceAdd, Nat.reduceSub, Bool.not_false, Bool.not_true, Bool.and_true, Bool.and_self, if_true, if_false, reduceCtorEq, List.zipIdx_cons, List.zipIdx_nil, List.filterMap_cons, List.filterMap_nil, Option.map_some, Option.map_none, decide_true, Nat.zero_add, reduceIte, Bool.false_eq_true, true_and, and_true, hashes_len]
    by_cases h0 : n = 0
    · subst h0
      have e : decide (hashes 0 = Str.ofString "") = true := by decide
      rw [e]
      exact hf (by simp)
    · have e : decide (hashes n = Str.ofString "") = false := decide_eq_false fun z => h0 (by
        have := congrArg Str.length z
        rw [hashes_len] at this
        rw [this]; decide)
      rw [e]
      simp only [Bool.not_false]
      exact ⟨Nat.le_of_lt (small (by omega)), ht (by simp [h0])⟩
  · simp only [List.nil_append]
    exact hp
/-! ### stretches -/
def stStep (r : List Bool) (L : List Cell) (i : Nat) : List Cell := match r.getD i false with
  | false => L
  | true => match L.getLast? with
    | none => L ++ [(i, i)]
    | some x => if x.2 + 1 = i then L.dropLast ++ [(x.1, i)] else L ++ [(i, i)]
def stTo (r : List Bool) : Nat → List Cell
  | 0 => []
  | i + 1 => stStep r (stTo r i) i
def stOf (r : List Bool) : List Cell := stTo r r.length
def lenOf (x : Cell) : Nat := x.2 - x.1 + 1
structure StInv (r : List Bool) (i : Nat) (L : List Cell) : Prop where
  ex : ∃ D t, cuts (r.take i) = D ++ [t] ∧ (t = 0 → L.map lenOf = D.filter (· ≠ 0) ∧ ∀ x ∈ L, x.2 + 1 < i) ∧
    (t ≠ 0 → ∃ L0 a, L = L0 ++ [(a, i - 1)] ∧ 1 ≤ i ∧ a ≤ i - 1 ∧ t = i - a ∧ L0.map lenOf = D.filter (· ≠ 0))
  ok : ∀ x ∈ L, x.1 ≤ x.2 ∧ x.2 < i
theorem stInv (r : List Bool) : ∀ i, i ≤ r.length → StInv r i (stTo r i)
  | 0, _ => ⟨⟨[], 0, rfl, fun _ => ⟨rfl, fun x hx => absurd hx (by simp [stTo])⟩, fun h => absurd rfl h⟩, fun x hx => absurd hx (by simp [stTo])⟩
  | i + 1, hi => by
    obtain ⟨⟨D, t, e, h0, h1⟩, ok⟩ := stInv r i (by omega)
    have hlt : i < r.length := by omega
    have et : r.take (i + 1) = r.take i ++ [r.getD i false] := by
      rw [List.take_add_one, List.getElem?_eq_getElem hlt, getD_at hlt]
      rfl
    unfold stTo stStep
    cases q : r.getD i false with
    | false =>
      rw [q] at et
      refine ⟨⟨D ++ [t], 0, by rw [et, cuts_no, e], fun _ => ⟨?_, fun x hx => by have := ok x hx; omega⟩, fun h => absurd rfl h⟩, fun x hx => by have := ok x hx; omega⟩
      rw [List.filter_append]
      by_cases ht : t = 0
      · subst ht
        rw [(h0 rfl).1]
        simp
      · obtain ⟨L0, a, hL, b1, b2, b3, b4⟩ := h1 ht
        simp only [hL, List.map_append, b4, List.map_cons, List.map_nil]
        rw [List.filter_cons_of_pos (by simpa using ht), List.filter_nil]
        have : lenOf (a, i - 1) = t := by unfold lenOf; simp only; omega
        rw [this]
    | true =>
      rw [q] at et
      by_cases ht : t = 0
      · subst ht
        obtain ⟨g1, g2⟩ := h0 rfl
        have eL : (match (stTo r i).getLast? with
          | none => stTo r i ++ [(i, i)]
          | some x => if x.2 + 1 = i then (stTo r i).dropLast ++ [(x.1, i)] else stTo r i ++ [(i, i)]) = stTo r i ++ [(i, i)] := by
          cases z : (stTo r i).getLast? with
          | none => rfl
          | some x =>
            have := g2 x (List.mem_of_getLast? z)
            simp only
            rw [if_neg (by omega)]
        simp only [eL]
        refine ⟨⟨D, 1, by rw [et, cuts_yes, e, incLast_app], fun h => absurd h (by decide), fun _ => ⟨stTo r i, i, rfl, by omega, by omega, by omega, g1⟩⟩, fun x hx => ?_⟩
        rcases List.mem_append.mp hx with hx | hx
        · have := ok x hx; omega
        · have : x = (i, i) := by simpa using hx
          subst this
          simp only
          omega
      · obtain ⟨L0, a, hL, b1, b2, b3, b4⟩ := h1 ht
        have eL : (match (stTo r i).getLast? with
          | none => stTo r i ++ [(i, i)]
          | some x => if x.2 + 1 = i then (stTo r i).dropLast ++ [(x.1, i)] else stTo r i ++ [(i, i)]) = L0 ++ [(a, i)] := by
          rw [hL, List.getLast?_concat]
          simp only
          rw [if_pos (by omega), List.dropLast_concat]
        simp only [eL]
        refine ⟨⟨D, t + 1, by rw [et, cuts_yes, e, incLast_app], fun h => absurd h (by omega), fun _ => ⟨L0, a, rfl, by omega, by omega, by omega, b4⟩⟩, fun x hx => ?_⟩
        rcases List.mem_append.mp hx with hx | hx
        · have := ok x (by rw [hL]; exact List.mem_append_left _ hx); omega
        · have : x = (a, i) := by simpa using hx
          subst this
          simp only
          omega
theorem st_clue (r : List Bool) : (stOf r).map lenOf = clueOf r := by
  obtain ⟨⟨D, t, e, h0, h1⟩, ok⟩ := stInv r r.length (Nat.le_refl _)
  rw [List.take_length] at e
  unfold clueOf stOf
  rw [e, List.filter_append]
  by_cases ht : t = 0
  · subst ht
    rw [(h0 rfl).1]; simp
  · obtain ⟨L0, a, hL, b1, b2, b3, b4⟩ := h1 ht
    rw [hL, List.map_append, b4, List.filter_cons_of_pos (by simpa using ht), List.filter_nil]
    have : lenOf (a, r.length - 1) = t := by unfold lenOf; simp only; omega
    rw [List.map_cons, List.map_nil, this]
theorem st_ok {r : List Bool} {x : Cell} (h : x ∈ stOf r) : x.1 ≤ x.2 ∧ x.2 < r.length := (stInv r r.length (Nat.le_refl _)).ok x h
theorem st_len (r : List Bool) : ∀ i, (stTo r i).length ≤ i
  | 0 => by simp [stTo]
  | i + 1 => by
    have ih := st_len r i
    unfold stTo stStep
    cases r.getD i false with
    | false => simp only; omega
    | true =>
      simp only
      cases z : (stTo r i).getLast? with
      | none => simp only [List.length_append, List.length_singleton]; omega
      | some x =>
        simp only
        split
        · rw [List.length_append, List.length_dropLast, List.length_singleton]
          omega
        · rw [List.length_append, List.length_singleton]; omega
def T_stretches : TXS :=
  (sSeq (sSet 1 (fLst fNil))
  (sSeq (sFor (fEnum (fCons (fName 0) fNil)) (fGT 2 (fGcons (fGN 2) (fGcons (fGN 3) fGnil))) (sIf (fAnd (fT (fBin gEq (fName 3) (fC (.str "#")))) (fAnd (fT (fBin gNe (fName 1) (fFz (fLst fNil)))) (fT (fBin gEq (fBin gIx (fBin gIx (fName 1) (fNeg (fC (.int 1)))) (fC (.int 1))) (fBin gSub (fName 2) (fC (.int 1))))))) (sSub (fTup (fCons (fBin gIx (fBin gIx (fName 1) (fNeg (fC (.int 1)))) (fC (.int 0))) (fCons (fName 2) fNil))) (fName 1) (fNeg (fC (.int 1)))) (sIf (fT (fBin gEq (fName 3) (fC (.str "#")))) (sExprR (fApp (fName 1) (fTup (fCons (fName 2) (fCons (fName 2) fNil))))) sNil)))
  (sRetV 1)))

def dsp_stretches : DSp := fun es post _ => ∃ r : List Bool, es = [.dat (encL r)] ∧ r.length ≤ 1000 ∧ post (.lst ((stOf r).map encC)) []
theorem good_stretches : Good [] 4 1 T_stretches dsp_stretches := by
  rintro es post xp ⟨r, rfl, hr, hp⟩ _
  unfold T_stretches
  refine sSeq_g fun N hN => ?_
  simp only [↓sRet, ↓sNil, ↓sIf, ↓sSet, ↓sAsg, ↓sPar, ↓sPar3, ↓sSub, ↓sSub2, ↓sExpr, ↓sExprR, ↓sRetV, ↓sRetN, ↓sRaise, ↓sBrk, ↓sCt, ↓fOf, ↓fFz, ↓fName, ↓fFrz, ↓fC, ↓fBin, ↓fBinN, ↓fT, ↓fNot, ↓fAnd, ↓fOr, ↓fAndV, ↓fOrV, ↓fNotV, ↓fIf, ↓fIfN, ↓fChain, ↓fNil, ↓fCons, ↓fTup, ↓fLst, ↓fNeg, ↓fCall, ↓fIsI, ↓fJoin, ↓fApp, ↓fExt, ↓fPop, ↓fPopAt, ↓fSl, ↓fPart, ↓fNoPart, ↓fSeq, ↓fRng1, ↓fRng2, ↓fEnum, ↓fZip, ↓fGN, ↓fGT, ↓fGcons, ↓fGnil, ↓fLc, ↓fLl, ↓fYes, ↓fOwn, ↓fAt2, ↓fCount, ↓fIndex, ↓fRev, ↓fMulL, ↓fSel, ↓sTry, ↓fIsP, ↓isLk, ↓L3.gSub, ↓gMulI, ↓gDiv, ↓gMod, ↓gPow, ↓gLt, ↓gLe, ↓gGt, ↓gGe, ↓gI, ↓gIC, ↓gAdd, ↓gIx, ↓gSl, ↓gLen, ↓gAll, ↓gAny, ↓gSum, ↓gMin2, ↓gMax2, ↓gList, ↓gTuple, ↓gNe, ↓gNotIn, ↓gIs, ↓gIsNot, ↓isNone, ↓look, ↓withD, ↓isD, ↓isB, ↓areD, ↓withDs, ↓isBor, ↓isLst, ↓isLl, ↓isI, ↓items1, ↓itemsD, ↓argsM, ↓putB, ↓pjs, ↓outsOf, ↓fin, ↓startE, ↓wipeK, ↓wipeE, ↓unw, ↓noOwnB, gEq_ii, gEq_ss, gEq_bb, own_no, own_dat, own_lst, own_ll, List.getD_cons_zero, List.getD_cons_succ, List.set_cons_zero, List.set_cons_succ, List.replicate_succ, List.replicate_zero, List.cons_append, List.nil_append, List.length_cons, List.length_nil, List.map_cons, List.map_nil, List.all_cons, List.all_nil, Nat.reduceAdd, Nat.reduceSub, Bool.not_false, Bool.not_true, Bool.and_true, Bool.and_self, if_true, if_false, reduceCtorEq, List.zipIdx_cons, List.zipIdx_nil, List.filterMap_cons, List.filterMap_nil, Option.map_some, Option.map_none, decide_true, Nat.zero_add, reduceIte, Bool.false_eq_true, true_and, and_true]
  refine hN _ ?_
  clear hN N
  refine sSeq_g fun N hN => sFor_g fun F hF => ?_
  simp only [↓sRet, ↓sNil, ↓sIf, ↓sSet, ↓sAsg, ↓sPar, ↓sPar3, ↓sSub, ↓sSub2, ↓sExpr, ↓sExprR, ↓sRetV, ↓sRetN, ↓sRaise, ↓sBrk, ↓sCt, ↓fOf, ↓fFz, ↓fName, ↓fFrz, ↓fC, ↓fBin, ↓fBinN, ↓fT, ↓fNot, ↓fAnd, ↓fOr, ↓fAndV, ↓fOrV, ↓fNotV, ↓fIf, ↓fIfN, ↓fChain, ↓fNil, ↓fCons, ↓fTup, ↓fLst, ↓fNeg, ↓fCall, ↓fIsI, ↓fJoin, ↓fApp, ↓fExt, ↓fPop, ↓fPopAt, ↓fSl, ↓fPart, ↓fNoPart, ↓fSeq, ↓fRng1, ↓fRng2, ↓fEnum, ↓fZip, ↓fGN, ↓fGT, ↓fGcons, ↓fGnil, ↓fLc, ↓fLl, ↓fYes, ↓fOwn, ↓fAt2, ↓fCount, ↓fIndex, ↓fRev, ↓fMulL, ↓fSel, ↓sTry, ↓fIsP, ↓isLk, ↓L3.gSub, ↓gMulI, ↓gDiv, ↓gMod, ↓gPow, ↓gLt, ↓gLe, ↓gGt, ↓gGe, ↓gI, ↓gIC, ↓gAdd, ↓gIx, ↓gSl, ↓gLen, ↓gAll, ↓gAny, ↓gSum, ↓gMin2, ↓gMax2, ↓gList, ↓gTuple, ↓gNe, ↓gNotIn, ↓gIs, ↓gIsNot, ↓isNone, ↓look, ↓withD, ↓isD, ↓isB, ↓areD, ↓withDs, ↓isBor, ↓isLst, ↓isLl, ↓isI, ↓items1, ↓itemsD, ↓argsM, ↓putB, ↓pjs, ↓outsOf, ↓fin, ↓startE, ↓wipeK, ↓wipeE, ↓unw, ↓noOwnB, gEq_ii, gEq_ss, gEq_bb, own_no, own_dat, own_lst, own_ll, List.getD_cons_zero, List.getD_cons_succ, List.set_cons_zero, List.set_cons_succ, List.replicate_succ, List.replicate_zero, List.cons_append, List.nil_append, List.length_cons, List.length_nil, List.map_cons, List.map_nil, List.all_cons, List.all_nil, Nat.reduceAdd, Nat.reduceSub, Bool.not_false, Bool.not_true, Bool.and_true, Bool.and_self, if_true, if_false, reduceCtorEq, List.zipIdx_cons, List.zipIdx_nil, List.filterMap_cons, List.filterMap_nil, Option.map_some, Option.map_none, decide_true, Nat.zero_add, reduceIte, Bool.false_eq_true, true_and, and_true, encL]
  rw [signs_map]
  refine hF _ _ ?_
  clear hF F
  refine forR_inv (fun i ρ => ∃ x2 x3, ρ = [.dat (.str (lineS r)), .lst ((stTo r i).map encC), x2, x3]) 0 (fun i d ρ M hd hP hM => ?_) ⟨_, _, rfl⟩ (fun ρ hP => ?_)
  · obtain ⟨x2, x3, rfl⟩ := hP
    rw [Nat.zero_add] at *
    have hi : i < r.length := by
      have z := (List.getElem?_eq_some_iff.mp hd).1
      rw [enumD_len, List.length_map] at z
      exact z
    have e : (r.map chD)[i]? = some (chD r[i]) := by rw [List.getElem?_map, List.getElem?_eq_getElem hi]; rfl
    rw [enumD_get e] at hd
    cases hd
    have hl := st_len r i
    have step : stTo r (i + 1) = stStep r (stTo r i) i := rfl
    unfold stStep at step
    rw [getD_at hi] at step
    simp only [↓sRet, ↓sNil, ↓sIf, ↓sSet, ↓sAsg, ↓sPar, ↓sPar3, ↓sSub, ↓sSub2, ↓sExpr, ↓sExprR, ↓sRetV, ↓sRetN, ↓sRaise, ↓sBrk, ↓sCt, ↓fOf, ↓fFz, ↓fName, ↓fFrz, ↓fC, ↓fBin, ↓fBinN, ↓fT, ↓fNot, ↓fAnd, ↓fOr, ↓fAndV, ↓fOrV, ↓fNotV, ↓fIf, ↓fIfN, ↓fChain, ↓fNil, ↓fCons, ↓fTup, ↓fLst, ↓fNeg, ↓fCall, ↓fIsI, ↓fJoin, ↓fApp, ↓fExt, ↓fPop, ↓fPopAt, ↓fSl, ↓fPart, ↓fNoPart, ↓fSeq, ↓fRng1, ↓fRng2, ↓fEnum, ↓fZip, ↓fGN, ↓fGT, ↓fGcons, ↓fGnil, ↓fLc, ↓fLl, ↓fYes, ↓fOwn, ↓fAt2, ↓fCount, ↓fIndex, ↓fRev, ↓fMulL, ↓fSel, ↓sTry, ↓fIsP, ↓isLk, ↓L3.gSub, ↓gMulI, ↓gDiv, ↓gMod, ↓gPow, ↓gLt, ↓gLe, ↓gGt, ↓gGe, ↓gI, ↓gIC, ↓gAdd, ↓gIx, ↓gSl, ↓gLen, ↓gAll, ↓gAny, ↓gSum, ↓gMin2, ↓gMax2, ↓gList, ↓gTuple, ↓gNe, ↓gNotIn, ↓gIs, ↓gIsNot, ↓isNone, ↓look, ↓withD, ↓isD, ↓isB, ↓areD, ↓withDs, ↓isBor, ↓isLst, ↓isLl, ↓isI, ↓items1, ↓itemsD, ↓argsM, ↓putB, ↓pjs, ↓outsOf, ↓fin, ↓startE, ↓wipeK, ↓wipeE, ↓unw, ↓noOwnB, gEq_ii, gEq_ss, gEq_bb, own_no, own_dat, own_lst, own_ll, List.getD_cons_zero, List.getD_cons_succ, List.set_cons_zero, List.set_cons_succ, List.replicate_succ, List.replicate_zero, List.cons_append, List.nil_append, List.length_cons, List.length_nil, List.map_cons, List.map_nil, List.all_cons, List.all_nil, Nat.reduceAdd, Nat.reduceSub, Bool.not_false, Bool.not_true, Bool.and_true, Bool.and_self, if_true, if_false, reduceCtorEq, List.zipIdx_cons, List.zipIdx_nil, List.filterMap_cons, List.filterMap_nil, Option.map_some, Option.map_none, decide_true, Nat.zero_add, reduceIte, Bool.false_eq_true, true_and, and_true, chD]
    rw [hash_chS]
    cases q : r[i] with
    | false =>
      rw [q] at step
      simp only [show decide (chS false = chS true) = false by decide, ↓sRet, ↓sNil, ↓sIf, ↓sSet, ↓sAsg, ↓sPar, ↓sPar3, ↓sSub, ↓sSub2, ↓sExpr, ↓sExprR, ↓sRetV, ↓sRetN, ↓sRaise, ↓sBrk, ↓sCt, ↓fOf, ↓fFz, ↓fName, ↓fFrz, ↓fC, ↓fBin, ↓fBinN, ↓fT, ↓fNot, ↓fAnd, ↓fOr, ↓fAndV, ↓fOrV, ↓fNotV, ↓fIf, ↓fIfN, ↓fChain, ↓fNil, ↓fCons, ↓fTup, ↓fLst, ↓fNeg, ↓fCall, ↓fIsI, ↓fJoin, ↓fApp, ↓fExt, ↓fPop, ↓fPopAt, ↓fSl, ↓fPart, ↓fNoPart, ↓fSeq, ↓fRng1, ↓fRng2, ↓fEnum, ↓fZip, ↓fGN, ↓fGT, ↓fGcons, ↓fGnil, ↓fLc, ↓fLl, ↓fYes, ↓fOwn, ↓fAt2, ↓fCount, ↓fIndex, ↓fRev, ↓fMulL, ↓fSel, ↓sTry, ↓fIsP, ↓isLk, ↓L3.gSub, ↓gMulI, ↓gDiv, ↓gMod, ↓gPow, ↓gLt, ↓gLe, ↓gGt, ↓gGe, ↓gI, ↓gIC, ↓gAdd, ↓gIx, ↓gSl, ↓gLen, ↓gAll, ↓gAny, ↓gSum, ↓gMin2, ↓gMax2, ↓gList, ↓gTuple, ↓gNe, ↓gNotIn, ↓gIs, ↓gIsNot, ↓isNone, ↓look, ↓withD, ↓isD, ↓isB, ↓areD, ↓withDs, ↓isBor, ↓isLst, ↓isLl, ↓isI, ↓items1, ↓itemsD, ↓argsM, ↓putB, ↓pjs, ↓outsOf, ↓fin, ↓startE, ↓wipeK, ↓wipeE, ↓unw, ↓noOwnB, gEq_ii, gEq_ss, gEq_bb, own_no, own_dat, own_lst, own_ll, List.getD_cons_zero, List.getD_cons_succ, List.set_cons_zero, List.set_cons_succ, List.replicate_succ, List.replicate_zero, List.cons_append, List.nil_append, List.length_cons, List.length_nil, List.map_cons, List.map_nil, List.all_cons, List.all_nil, Nat.reduceAdd, Nat.reduceSub, Bool.not_false, Bool.not_true, Bool.and_true, Bool.and_self, if_true, if_false, reduceCtorEq, List.zipIdx_cons, List.zipIdx_nil, List.filterMap_cons, List.filterMap_nil, Option.map_some, Option.map_none, decide_true, Nat.zero_add, reduceIte, Bool.false_eq_true, true_and, and_true]
      refine hM _ ⟨.dat (.int (i : Nat)), .dat (.str (chS false)), ?_⟩
      rw [step]
    | true =>
      rw [q] at step
      simp only [show decide (chS true = chS true) = true by decide, ↓sRet, ↓sNil, ↓sIf, ↓sSet, ↓sAsg, ↓sPar, ↓sPar3, ↓sSub, ↓sSub2, ↓sExpr, ↓sExprR, ↓sRetV, ↓sRetN, ↓sRaise, ↓sBrk, ↓sCt, ↓fOf, ↓fFz, ↓fName, ↓fFrz, ↓fC, ↓fBin, ↓fBinN, ↓fT, ↓fNot, ↓fAnd, ↓fOr, ↓fAndV, ↓fOrV, ↓fNotV, ↓fIf, ↓fIfN, ↓fChain, ↓fNil, ↓fCons, ↓fTup, ↓fLst, ↓fNeg, ↓fCall, ↓fIsI, ↓fJoin, ↓fApp, ↓fExt, ↓fPop, ↓fPopAt, ↓fSl, ↓fPart, ↓fNoPart, ↓fSeq, ↓fRng1, ↓fRng2, ↓fEnum, ↓fZip, ↓fGN, ↓fGT, ↓fGcons, ↓fGnil, ↓fLc, ↓fLl, ↓fYes, ↓fOwn, ↓fAt2, ↓fCount, ↓fIndex, ↓fRev, ↓fMulL, ↓fSel, ↓sTry, ↓fIsP, ↓isLk, ↓L3.gSub, ↓gMulI, ↓gDiv, ↓gMod, ↓gPow, ↓gLt, ↓gLe, ↓gGt, ↓gGe, ↓gI, ↓gIC, ↓gAdd, ↓gIx, ↓gSl, ↓gLen, ↓gAll, ↓gAny, ↓gSum, ↓gMin2, ↓gMax2, ↓gList, ↓gTuple, ↓gNe, ↓gNotIn, ↓gIs, ↓gIsNot, ↓isNone, ↓look, ↓withD, ↓isD, ↓isB, ↓areD, ↓withDs, ↓isBor, ↓isLst, ↓isLl, ↓isI, ↓items1, ↓itemsD, ↓argsM, ↓putB, ↓pjs, ↓outsOf, ↓fin, ↓startE, ↓wipeK, ↓wipeE, ↓unw, ↓noOwnB, gEq_ii, gEq_ss, gEq_bb, own_no, own_dat, own_lst, own_ll, List.getD_cons_zero, List.getD_cons_succ, List.set_cons_zero, List.set_cons_succ, List.replicate_succ, List.replicate_zero, List.cons_append, List.nil_append, List.length_cons, List.length_nil, List.map_cons, List.map_nil, List.all_cons, List.all_nil, Nat.reduceAdd, Nat.reduceSub, Bool.not_false, Bool.not_true, Bool.and_true, Bool.and_self, if_true, if_false, reduceCtorEq, List.zipIdx_cons, List.zipIdx_nil, List.filterMap_cons, List.filterMap_nil, Option.map_some, Option.map_none, decide_true, Nat.zero_add, reduceIte, Bool.false_eq_true, true_and, and_true]
      refine gEq_cells (q := []) ?_
      simp only [↓sRet, ↓sNil, ↓sIf, ↓sSet, ↓sAsg, ↓sPar, ↓sPar3, ↓sSub, ↓sSub2, ↓sExpr, ↓sExprR, ↓sRetV, ↓sRetN, ↓sRaise, ↓sBrk, ↓sCt, ↓fOf, ↓fFz, ↓fName, ↓fFrz, ↓fC, ↓fBin, ↓fBinN, ↓fT, ↓fNot, ↓fAnd, ↓fOr, ↓fAndV, ↓fOrV, ↓fNotV, ↓fIf, ↓fIfN, ↓fChain, ↓fNil, ↓fCons, ↓fTup, ↓fLst, ↓fNeg, ↓fCall, ↓fIsI, ↓fJoin, ↓fApp, ↓fExt, ↓fPop, ↓fPopAt, ↓fSl, ↓fPart, ↓fNoPart, ↓fSeq, ↓fRng1, ↓fRng2, ↓fEnum, ↓fZip, ↓fGN, ↓fGT, ↓fGcons, ↓fGnil, ↓fLc, ↓fLl, ↓fYes, ↓fOwn, ↓fAt2, ↓fCount, ↓fIndex, ↓fRev, ↓fMulL, ↓fSel, ↓sTry, ↓fIsP, ↓isLk, ↓L3.gSub, ↓gMulI, ↓gDiv, ↓gMod, ↓gPow, ↓gLt, ↓gLe, ↓gGt, ↓gGe, ↓gI, ↓gIC, ↓gAdd, ↓gIx, ↓gSl, ↓gLen, ↓gAll, ↓gAny, ↓gSum, ↓gMin2, ↓gMax2, ↓gList, ↓gTuple, ↓gNe, ↓gNotIn, ↓gIs, ↓gIsNot, ↓isNone, ↓look, ↓withD, ↓isD, ↓isB, ↓areD, ↓withDs, ↓isBor, ↓isLst, ↓isLl, ↓isI, ↓items1, ↓itemsD, ↓argsM, ↓putB, ↓pjs, ↓outsOf, ↓fin, ↓startE, ↓wipeK, ↓wipeE, ↓unw, ↓noOwnB, gEq_ii, gEq_ss, gEq_bb, own_no, own_dat, own_lst, own_ll, List.getD_cons_zero, List.getD_cons_succ, List.set_cons_zero, List.set_cons_succ, List.replicate_succ, List.replicate_zero, List.cons_append, List.nil_append, List.length_cons, List.length_nil, List.map_cons, List.map_nil, List.all_cons, List.all_nil, Nat.reduceAdd, Nat.reduceSub, Bool.not_false, Bool.not_true, Bool.and_true, Bool.and_self, if_true, if_false, reduceCtorEq, List.zipIdx_cons, List.zipIdx_nil, List.filterMap_cons, List.filterMap_nil, Option.map_some, Option.map_none, decide_true, Nat.zero_add, reduceIte, Bool.false_eq_true, true_and, and_true]
      rcases List.eq_nil_or_concat (stTo r i) with hn | ⟨L0, x, hn⟩
      · rw [hn] at step ⊢
        simp only [decide_true, ↓sRet, ↓sNil, ↓sIf, ↓sSet, ↓sAsg, ↓sPar, ↓sPar3, ↓sSub, ↓sSub2, ↓sExpr, ↓sExprR, ↓sRetV, ↓sRetN, ↓sRaise, ↓sBrk, ↓sCt, ↓fOf, ↓fFz, ↓fName, ↓fFrz, ↓fC, ↓fBin, ↓fBinN, ↓fT, ↓fNot, ↓fAnd, ↓fOr, ↓fAndV, ↓fOrV, ↓fNotV, ↓fIf, ↓fIfN, ↓fChain, ↓fNil, ↓fCons, ↓fTup, ↓fLst, ↓fNeg, ↓fCall, ↓fIsI, ↓fJoin, ↓fApp, ↓fExt, ↓fPop, ↓fPopAt, ↓fSl, ↓fPart, ↓fNoPart, ↓fSeq, ↓fRng1, ↓fRng2, ↓fEnum, ↓fZip, ↓fGN, ↓fGT, ↓fGcons, ↓fGnil, ↓fLc, ↓fLl, ↓fYes, ↓fOwn, ↓fAt2, ↓fCount, ↓fIndex, ↓fRev, ↓fMulL, ↓fSel, ↓sTry, ↓fIsP, ↓isLk, ↓L3.gSub, ↓gMulI, ↓gDiv, ↓gMod, ↓gPow, ↓gLt, ↓gLe, ↓gGt, ↓gGe, ↓gI, ↓gIC, ↓gAdd, ↓gIx, ↓gSl, ↓gLen, ↓gAll, ↓gAny, ↓gSum, ↓gMin2, ↓gMax2, ↓gList, ↓gTuple, ↓gNe, ↓gNotIn, ↓gIs, ↓gIsNot, ↓isNone, ↓look, ↓withD, ↓isD, ↓isB, ↓areD, ↓withDs, ↓isBor, ↓isLst, ↓isLl, ↓isI, ↓items1, ↓itemsD, ↓argsM, ↓putB, ↓pjs, ↓outsOf, ↓fin, ↓startE, ↓wipeK, ↓wipeE, ↓unw, ↓noOwnB, gEq_ii, gEq_ss, gEq_bb, own_no, own_dat, own_lst, own_ll, List.getD_cons_zero, List.getD_cons_succ, List.set_cons_zero, List.set_cons_succ, List.replicate_succ, List.replicate_zero, List.cons_append, List.nil_append, List.length_cons, List.length_nil, List.map_cons, List.map_nil, List.all_cons, List.all_nil, Nat.reduceAdd, Nat.reduceSub, Bool.not_false, Bool.not_true, Bool.and_true, Bool.and_self, if_true, if_false, reduceCtorEq, List.zipIdx_cons, List.zipIdx_nil, List.filterMap_cons, List.filterMap_nil, Option.map_some, Option.map_none, decide_true, Nat.zero_add, reduceIte, Bool.false_eq_true, true_and, and_true]
        refine ⟨small (by simp), hM _ ⟨.dat (.int (i : Nat)), .dat (.str (chS true)), ?_⟩⟩
        rw [step]
        rfl
      · rw [List.concat_eq_append] at hn
        rw [hn] at step hl ⊢
        rw [List.getLast?_concat] at step
        simp only at step
        have hne : ¬ (L0 ++ [x] = []) := by simp
        rw [decide_eq_false hne]
        simp only [↓sRet, ↓sNil, ↓sIf, ↓sSet, ↓sAsg, ↓sPar, ↓sPar3, ↓sSub, ↓sSub2, ↓sExpr, ↓sExprR, ↓sRetV, ↓sRetN, ↓sRaise, ↓sBrk, ↓sCt, ↓fOf, ↓fFz, ↓fName, ↓fFrz, ↓fC, ↓fBin, ↓fBinN, ↓fT, ↓fNot, ↓fAnd, ↓fOr, ↓fAndV, ↓fOrV, ↓fNotV, ↓fIf, ↓fIfN, ↓fChain, ↓fNil, ↓fCons, ↓fTup, ↓fLst, ↓fNeg, ↓fCall, ↓fIsI, ↓fJoin, ↓fApp, ↓fExt, ↓fPop, ↓fPopAt, ↓fSl, ↓fPart, ↓fNoPart, ↓fSeq, ↓fRng1, ↓fRng2, ↓fEnum, ↓fZip, ↓fGN, ↓fGT, ↓fGcons, ↓fGnil, ↓fLc, ↓fLl, ↓fYes, ↓fOwn, ↓fAt2, ↓fCount, ↓fIndex, ↓fRev, ↓fMulL, ↓fSel, ↓sTry, ↓fIsP, ↓isLk, ↓L3.gSub, ↓gMulI, ↓gDiv, ↓gMod, ↓gPow, ↓gLt, ↓gLe, ↓gGt, ↓gGe, ↓gI, ↓gIC, ↓gAdd, ↓gIx, ↓gSl, ↓gLen, ↓gAll, ↓gAny, ↓gSum, ↓gMin2, ↓gMax2, ↓gList, ↓gTuple, ↓gNe, ↓gNotIn, ↓gIs, ↓gIsNot, ↓isNone, ↓look, ↓withD, ↓isD, ↓isB, ↓areD, ↓withDs, ↓isBor, ↓isLst, ↓isLl, ↓isI, ↓items1, ↓itemsD, ↓argsM, ↓putB, ↓pjs, ↓outsOf, ↓fin, ↓startE, ↓wipeK, ↓wipeE, ↓unw, ↓noOwnB, gEq_ii, gEq_ss, gEq_bb, own_no, own_dat, own_lst, own_ll, List.getD_cons_zero, List.getD_cons_succ, List.set_cons_zero, List.set_cons_succ, List.replicate_succ, List.replicate_zero, List.cons_append, List.nil_append, List.length_cons, List.length_nil, List.map_cons, List.map_nil, List.all_cons, List.all_nil, Nat.reduceAdd, Nat.reduceSub, Bool.not_false, Bool.not_true, Bool.and_true, Bool.and_self, if_true, if_false, reduceCtorEq, List.zipIdx_cons, List.zipIdx_nil, List.filterMap_cons, List.filterMap_nil, Option.map_some, Option.map_none, decide_true, Nat.zero_add, reduceIte, Bool.false_eq_true, true_and, and_true]
        have el : atI ((L0 ++ [x]).map encC) (-1) = some (encC x) := by rw [List.map_append]; exact atI_last _ _
        refine ⟨_, el, ?_⟩
        simp only [encC]
        refine ⟨_, atI_nat (j := 1) rfl, ?_⟩
        rw [gEq_ii]
        by_cases hx : x.2 + 1 = i
        · rw [if_pos hx, List.dropLast_concat] at step
          rw [decide_eq_true (show ((x.2 : Nat) : Int) = (i : Int) - 1 by omega)]
          simp only [↓sRet, ↓sNil, ↓sIf, ↓sSet, ↓sAsg, ↓sPar, ↓sPar3, ↓sSub, ↓sSub2, ↓sExpr, ↓sExprR, ↓sRetV, ↓sRetN, ↓sRaise, ↓sBrk, ↓sCt, ↓fOf, ↓fFz, ↓fName, ↓fFrz, ↓fC, ↓fBin, ↓fBinN, ↓fT, ↓fNot, ↓fAnd, ↓fOr, ↓fAndV, ↓fOrV, ↓fNotV, ↓fIf, ↓fIfN, ↓fChain, ↓fNil, ↓fCons, ↓fTup, ↓fLst, ↓fNeg, ↓fCall, ↓fIsI, ↓fJoin, ↓fApp, ↓fExt, ↓fPop, ↓fPopAt, ↓fSl, ↓fPart, ↓fNoPart, ↓fSeq, ↓fRng1, ↓fRng2, ↓fEnum, ↓fZip, ↓fGN, ↓fGT, ↓fGcons, ↓fGnil, ↓fLc, ↓fLl, ↓fYes, ↓fOwn, ↓fAt2, ↓fCount, ↓fIndex, ↓fRev, ↓fMulL, ↓fSel, ↓sTry, ↓fIsP, ↓isLk, ↓L3.gSub, ↓gMulI, ↓gDiv, ↓gMod, ↓gPow, ↓gLt, ↓gLe, ↓gGt, ↓gGe, ↓gI, ↓gIC, ↓gAdd, ↓gIx, ↓gSl, ↓gLen, ↓gAll, ↓gAny, ↓gSum, ↓gMin2, ↓gMax2, ↓gList, ↓gTuple, ↓gNe, ↓gNotIn, ↓gIs, ↓gIsNot, ↓isNone, ↓look, ↓withD, ↓isD, ↓isB, ↓areD, ↓withDs, ↓isBor, ↓isLst, ↓isLl, ↓isI, ↓items1, ↓itemsD, ↓argsM, ↓putB, ↓pjs, ↓outsOf, ↓fin, ↓startE, ↓wipeK, ↓wipeE, ↓unw, ↓noOwnB, gEq_ii, gEq_ss, gEq_bb, own_no, own_dat, own_lst, own_ll, List.getD_cons_zero, List.getD_cons_succ, List.set_cons_zero, List.set_cons_succ, List.replicate_succ, List.replicate_zero, List.cons_append, List.nil_append, List.length_cons, List.length_nil, List.map_cons, List.map_nil, List.all_cons, List.all_nil, Nat.reduceAdd, Nat.reduceSub, Bool.not_false, Bool.not_true, Bool.and_true, Bool.and_self, if_true, if_false, reduceCtorEq, List.zipIdx_cons, List.zipIdx_nil, List.filterMap_cons, List.filterMap_nil, Option.map_some, Option.map_none, decide_true, Nat.zero_add, reduceIte, Bool.false_eq_true, true_and, and_true]
          refine ⟨_, el, _, atI0, ?_⟩
          have em : ixN ((L0 ++ [x]).map fun c : Cell => PyData.tuple [.int c.1, .int c.2]).length (-1) = some L0.length := by
            rw [List.length_map, List.length_append, List.length_singleton]
            unfold ixN
            rw [if_neg (by decide), if_pos (by omega)]
            congr 1
            omega
          refine ⟨L0.length, em, hM _ ⟨.dat (.int (i : Nat)), .dat (.str (chS true)), ?_⟩⟩
          rw [step, List.map_append, List.map_append]
          have es : ((L0.map encC ++ [encC x]).set L0.length (encC (x.1, i))) = L0.map encC ++ [encC (x.1, i)] := by
            rw [List.set_append_right _ _ (by rw [List.length_map]; exact Nat.le_refl _), List.length_map, Nat.sub_self]
            rfl
          show [E.dat (.str (lineS r)), E.lst ((L0.map encC ++ [encC x]).set L0.length (encC (x.1, i))), _, _] = _
          rw [es]
          rfl
        · rw [if_neg hx] at step
          rw [decide_eq_false (show ¬ ((x.2 : Nat) : Int) = (i : Int) - 1 by omega)]
          simp only [↓sRet, ↓sNil, ↓sIf, ↓sSet, ↓sAsg, ↓sPar, ↓sPar3, ↓sSub, ↓sSub2, ↓sExpr, ↓sExprR, ↓sRetV, ↓sRetN, ↓sRaise, ↓sBrk, ↓sCt, ↓fOf, ↓fFz, ↓fName, ↓fFrz, ↓fC, ↓fBin, ↓fBinN, ↓fT, ↓fNot, ↓fAnd, ↓fOr, ↓fAndV, ↓fOrV, ↓fNotV, ↓fIf, ↓fIfN, ↓fChain, ↓fNil, ↓fCons, ↓fTup, ↓fLst, ↓fNeg, ↓fCall, ↓fIsI, ↓fJoin, ↓fApp, ↓fExt, ↓fPop, ↓fPopAt, ↓fSl, ↓fPart, ↓fNoPart, ↓fSeq, ↓fRng1, ↓fRng2, ↓fEnum, ↓fZip, ↓fGN, ↓fGT, ↓fGcons, ↓fGnil, ↓fLc, ↓fLl, ↓fYes, ↓fOwn, ↓fAt2, ↓fCount, ↓fIndex, ↓fRev, ↓fMulL, ↓fSel, ↓sTry, ↓fIsP, ↓isLk, ↓L3.gSub, ↓gMulI, ↓gDiv, ↓gMod, ↓gPow, ↓gLt, ↓gLe, ↓gGt, ↓gGe, ↓gI, ↓gIC, ↓gAdd, ↓gIx, ↓gSl, ↓gLen, ↓gAll, ↓gAny, ↓gSum, ↓gMin2, ↓gMax2, ↓gList, ↓gTuple, ↓gNe, ↓gNotIn, ↓gIs, ↓gIsNot, ↓isNone, ↓look, ↓withD, ↓isD, ↓isB, ↓areD, ↓withDs, ↓isBor, ↓isLst, ↓isLl, ↓isI, ↓items1, ↓itemsD, ↓argsM, ↓putB, ↓pjs, ↓outsOf, ↓fin, ↓startE, ↓wipeK, ↓wipeE, ↓unw, ↓noOwnB, gEq_ii, gEq_ss, gEq_bb, own_no, own_dat, own_lst, own_ll, List.getD_cons_zero, List.getD_cons_succ, List.set_cons_zero, List.set_cons_succ, List.replicate_succ, List.replicate_zero, List.cons_append, List.nil_append, List.length_cons, List.length_nil, List.map_cons, List.map_nil, List.all_cons, List.all_nil, Nat.reduceAdd, Nat.reduceSub, Bool.not_false, Bool.not_true, Bool.and_true, Bool.and_self, if_true, if_false, reduceCtorEq, List.zipIdx_cons, List.zipIdx_nil, List.filterMap_cons, List.filterMap_nil, Option.map_some, Option.map_none, decide_true, Nat.zero_add, reduceIte, Bool.false_eq_true, true_and, and_true]
          refine ⟨by rw [List.length_map]; exact small (by omega), hM _ ⟨.dat (.int (i : Nat)), .dat (.str (chS true)), ?_⟩⟩
          rw [step, List.map_append (l₂ := [(i, i)])]
          rfl
  · obtain ⟨x2, x3, rfl⟩ := hP
    refine hN _ ?_
    simp only [↓sRet, ↓sNil, ↓sIf, ↓sSet, ↓sAsg, ↓sPar, ↓sPar3, ↓sSub, ↓sSub2, ↓sExpr, ↓sExprR, ↓sRetV, ↓sRetN, ↓sRaise, ↓sBrk, ↓sCt, ↓fOf, ↓fFz, ↓fName, ↓fFrz, ↓fC, ↓fBin, ↓fBinN, ↓fT, ↓fNot, ↓fAnd, ↓fOr, ↓fAndV, ↓fOrV, ↓fNotV, ↓fIf, ↓fIfN, ↓fChain, ↓fNil, ↓fCons, ↓fTup, ↓fLst, ↓fNeg, ↓fCall, ↓fIsI, ↓fJoin, ↓fApp, ↓fExt, ↓fPop, ↓fPopAt, ↓fSl, ↓fPart, ↓fNoPart, ↓fSeq, ↓fRng1, ↓fRng2, ↓fEnum, ↓fZip, ↓fGN, ↓fGT, ↓fGcons, ↓fGnil, ↓fLc, ↓fLl, ↓fYes, ↓fOwn, ↓fAt2, ↓fCount, ↓fIndex, ↓fRev, ↓fMulL, ↓fSel, ↓sTry, ↓fIsP, ↓isLk, ↓L3.gSub, ↓gMulI, ↓gDiv, ↓gMod, ↓gPow, ↓gLt, ↓gLe, ↓gGt, ↓gGe, ↓gI, ↓gIC, ↓gAdd, ↓gIx, ↓gSl, ↓gLen, ↓gAll, ↓gAny, ↓gSum, ↓gMin2, ↓gMax2, ↓gList, ↓gTuple, ↓gNe, ↓gNotIn, ↓gIs, ↓gIsNot, ↓isNone, ↓look, ↓withD, ↓isD, ↓isB, ↓areD, ↓withDs, ↓isBor, ↓isLst, ↓isLl, ↓isI, ↓items1, ↓itemsD, ↓argsM, ↓putB, ↓pjs, ↓outsOf, ↓fin, ↓startE, ↓wipeK, ↓wipeE, ↓unw, ↓noOwnB, gEq_ii, gEq_ss, gEq_bb, own_no, own_dat, own_lst, own_ll, List.getD_cons_zero, List.getD_cons_succ, List.set_cons_zero, List.set_cons_succ, List.replicate_succ, List.replicate_zero, List.cons_append, List.nil_append, List.length_cons, List.length_nil, List.map_cons, List.map_nil, List.all_cons, List.all_nil, Nat.reduceAdd, Nat.reduceSub, Bool.not_false, Bool.not_true, Bool.and_true, Bool.and_self, if_true, if_false, reduceCtorEq, List.zipIdx_cons, List.zipIdx_nil, List.filterMap_cons, List.filterMap_nil, Option.map_some, Option.map_none, decide_true, Nat.zero_add, reduceIte, Bool.false_eq_true, true_and, and_true]
    rw [enumD_len, List.length_map]
    first
      | (rw [Nat.zero_add]; exact hp)
      | exact hp
end My

namespace My
open PySem PySem.Spec PyProof.Rows L2 L3
/-! ### columns -/
structure Rect (h w : Nat) (p : List (List Bool)) : Prop where
  h1 : 1 ≤ h
  h8 : h ≤ 1000
  w8 : w ≤ 1000
  len : p.length = h
  row : ∀ r ∈ p, r.length = w
theorem Wf.rect {h w : Nat} {p : List (List Bool)} (W : Wf h w p) : Rect h w p := ⟨W.h1, by have := W.h8; omega, by have := W.w8; omega, W.len, W.row⟩
theorem Rect.head {h w : Nat} {p : List (List Bool)} (W : Rect h w p) : ∃ l, atI (p.map encL) 0 = some (encL l) ∧ l.length = w := by
  have h0 : 0 < p.length := by rw [W.len]; exact W.h1
  exact ⟨p[0], atI_nat (j := 0) (by rw [List.getElem?_map, List.getElem?_eq_getElem h0]; rfl), W.row _ (List.getElem_mem h0)⟩
def colOf (p : List (List Bool)) (c : Nat) : List Bool := p.map fun l => l.getD c false
def turnP (p : List (List Bool)) (w : Nat) : List (List Bool) := (List.range w).map (colOf p)
def T_turned : TXS :=
  (sRet (fLc (fRng1 (fCons (fFz (fCall gLen (fCons (fBin gIx (fName 0) (fC (.int 0))) fNil))) fNil)) (fGN 1) fYes (fJoin (fC (.str "")) (fFz (fLc (fSeq (fName 0)) (fGN 2) fYes (fBin gIx (fName 2) (fName 1)) [2]))) [1]))

def dsp_turned : DSp := fun es post _ => ∃ (p : List (List Bool)) (h w : Nat), es = [.dat (encP p)] ∧ Rect h w p ∧ post (.lst ((turnP p w).map encL)) []
/-- one column's text -/
theorem col_text {p : List (List Bool)} {h w c : Nat} (W : Rect h w p) (hc : c < w) {ρ : List E} {i j : Nat} {Q : List PyData → List E → Prop}
    (hs : ∀ l ∈ p, ∀ k : Option PyData → List E → Prop, k (some (chD (l.getD c false))) ρ → lcStep (fGN j) fYes (fBin gIx (fName j) (fName i)) [j] (encL l) ρ k) (hQ : Q ((colOf p c).map chD) ρ) : lcR (fGN j) fYes (fBin gIx (fName j) (fName i)) [j] (p.map encL) [] ρ Q := by
  refine lcR_enc1 encL (fun l => chD (l.getD c false)) hs ?_
  unfold colOf at hQ
  rw [List.map_map] at hQ
  exact hQ
theorem good_turned : Good [] 3 1 T_turned dsp_turned := by
  rintro es post xp ⟨p, h, w, rfl, W, hp⟩ _
  obtain ⟨lp, a1, a2⟩ := W.head
  have h8 := W.h8
  have w8 := W.w8
  have pl := W.len
  simp only [T_turned, ↓sRet, ↓sNil, ↓sIf, ↓sSet, ↓sAsg, ↓sPar, ↓sPar3, ↓sSub, ↓sSub2, ↓sExpr, ↓sExprR, ↓sRetV, ↓sRetN, ↓sRaise, ↓sBrk, ↓sCt, ↓fOf, ↓fFz, ↓fName, ↓fFrz, ↓fC, ↓fBin, ↓fBinN, ↓fT, ↓fNot, ↓fAnd, ↓fOr, ↓fAndV, ↓fOrV, ↓fNotV, ↓fIf, ↓fIfN, ↓fChain, ↓fNil, ↓fCons, ↓fTup, ↓fLst, ↓fNeg, ↓fCall, ↓fIsI, ↓fJoin, ↓fApp, ↓fExt, ↓fPop, ↓fPopAt, ↓fSl, ↓fPart, ↓fNoPart, ↓fSeq, ↓fRng1, ↓fRng2, ↓fEnum, ↓fZip, ↓fGN, ↓fGT, ↓fGcons, ↓fGnil, ↓fLc, ↓fLl, ↓fYes, ↓fOwn, ↓fAt2, ↓fCount, ↓fIndex, ↓fRev, ↓fMulL, ↓fSel, ↓sTry, ↓fIsP, ↓isLk, ↓L3.gSub, ↓gMulI, ↓gDiv, ↓gMod, ↓gPow, ↓gLt, ↓gLe, ↓gGt, ↓gGe, ↓gI, ↓gIC, ↓gAdd, ↓gIx, ↓gSl, ↓gLen, ↓gAll, ↓gAny, ↓gSum, ↓gMin2, ↓gMax2, ↓gList, ↓gTuple, ↓gNe, ↓gNotIn, ↓gIs, ↓gIsNot, ↓isNone, ↓look, ↓withD, ↓isD, ↓isB, ↓areD, ↓withDs, ↓isBor, ↓isLst, ↓isLl, ↓isI, ↓items1, ↓itemsD, ↓argsM, ↓putB, ↓pjs, ↓outsOf, ↓fin, ↓startE, ↓wipeK, ↓wipeE, ↓unw, ↓noOwnB, gEq_ii, gEq_ss, gEq_bb, own_no, own_dat, own_lst, own_ll, List.getD_cons_zero, List.getD_cons_succ, List.set_cons_zero, List.set_cons_succ, List.replicate_succ, List.replicate_zero, List.cons_append, List.nil_append, List.length_cons, List.length_nil, List.map_cons, List.map_nil, List.all_cons, List.all_nil, Nat.reduceAdd, Nat.reduceSub, Bool.not_false, Bool.not_true, Bool.and_true, Bool.and_self, if_true, if_false, reduceCtorEq, List.zipIdx_cons, List.zipIdx_nil, List.filterMap_cons, List.filterMap_nil, Option.map_some, Option.map_none, decide_true, Nat.zero_add, reduceIte, Bool.false_eq_true, true_and, and_true, encP]
  refine ⟨_, a1, ?_⟩
  simp only [encL, lineS_len, a2]
  refine ⟨Nat.le_of_lt (small (by omega)), b62 (by omega) (by omega), by rw [rangeD_len]; exact small (by omega), ?_⟩
  rw [rangeD_map]
  have ew : (w : Int).toNat = w := by omega
  rw [ew]
  refine lcR_enc1 (fun c : Nat => PyData.int (c : Nat)) (fun c => encL (colOf p c)) (fun c hc k hk => ?_) ?_
  · have hc' := List.mem_range.mp hc
    simp only [lcStep, ↓sRet, ↓sNil, ↓sIf, ↓sSet, ↓sAsg, ↓sPar, ↓sPar3, ↓sSub, ↓sSub2, ↓sExpr, ↓sExprR, ↓sRetV, ↓sRetN, ↓sRaise, ↓sBrk, ↓sCt, ↓fOf, ↓fFz, ↓fName, ↓fFrz, ↓fC, ↓fBin, ↓fBinN, ↓fT, ↓fNot, ↓fAnd, ↓fOr, ↓fAndV, ↓fOrV, ↓fNotV, ↓fIf, ↓fIfN, ↓fChain, ↓fNil, ↓fCons, ↓fTup, ↓fLst, ↓fNeg, ↓fCall, ↓fIsI, ↓fJoin, ↓fApp, ↓fExt, ↓fPop, ↓fPopAt, ↓fSl, ↓fPart, ↓fNoPart, ↓fSeq, ↓fRng1, ↓fRng2, ↓fEnum, ↓fZip, ↓fGN, ↓fGT, ↓fGcons, ↓fGnil, ↓fLc, ↓fLl, ↓fYes, ↓fOwn, ↓fAt2, ↓fCount, ↓fIndex, ↓fRev, ↓fMulL, ↓fSel, ↓sTry, ↓fIsP, ↓isLk, ↓L3.gSub, ↓gMulI, ↓gDiv, ↓gMod, ↓gPow, ↓gLt, ↓gLe, ↓gGt, ↓gGe, ↓gI, ↓gIC, ↓gAdd, ↓gIx, ↓gSl, ↓gLen, ↓gAll, ↓gAny, ↓gSum, ↓gMin2, ↓gMax2, ↓gList, ↓gTuple, ↓gNe, ↓gNotIn, ↓gIs, ↓gIsNot, ↓isNone, ↓look, ↓withD, ↓isD, ↓isB, ↓areD, ↓withDs, ↓isBor, ↓isLst, ↓isLl, ↓isI, ↓items1, ↓itemsD, ↓argsM, ↓putB, ↓pjs, ↓outsOf, ↓fin, ↓startE, ↓wipeK, ↓wipeE, ↓unw, ↓noOwnB, gEq_ii, gEq_ss, gEq_bb, own_no, own_dat, own_lst, own_ll, List.getD_cons_zero, List.getD_cons_succ, List.set_cons_zero, List.set_cons_succ, List.replicate_succ, List.replicate_zero, List.cons_append, List.nil_append, List.length_cons, List.length_nil, List.map_cons, List.map_nil, List.all_cons, List.all_nil, Nat.reduceAdd, Nat.reduceSub, Bool.not_false, Bool.not_true, Bool.and_true, Bool.and_self, if_true, if_false, reduceCtorEq, List.zipIdx_cons, List.zipIdx_nil, List.filterMap_cons, List.filterMap_nil, Option.map_some, Option.map_none, decide_true, Nat.zero_add, reduceIte, Bool.false_eq_true, true_and, and_true, List.length_map]
    refine ⟨small (by omega), ?_⟩
    refine col_text (c := c) W hc' (fun l hl k2 hk2 => ?_) ?_
    · have wl := W.row l hl
      simp only [lcStep, ↓sRet, ↓sNil, ↓sIf, ↓sSet, ↓sAsg, ↓sPar, ↓sPar3, ↓sSub, ↓sSub2, ↓sExpr, ↓sExprR, ↓sRetV, ↓sRetN, ↓sRaise, ↓sBrk, ↓sCt, ↓fOf, ↓fFz, ↓fName, ↓fFrz, ↓fC, ↓fBin, ↓fBinN, ↓fT, ↓fNot, ↓fAnd, ↓fOr, ↓fAndV, ↓fOrV, ↓fNotV, ↓fIf, ↓fIfN, ↓fChain, ↓fNil, ↓fCons, ↓fTup, ↓fLst, ↓fNeg, ↓fCall, ↓fIsI, ↓fJoin, ↓fApp, ↓fExt, ↓fPop, ↓fPopAt, ↓fSl, ↓fPart, ↓fNoPart, ↓fSeq, ↓fRng1, ↓fRng2, ↓fEnum, ↓fZip, ↓fGN, ↓fGT, ↓fGcons, ↓fGnil, ↓fLc, ↓fLl, ↓fYes, ↓fOwn, ↓fAt2, ↓fCount, ↓fIndex, ↓fRev, ↓fMulL, ↓fSel, ↓sTry, ↓fIsP, ↓isLk, ↓L3.gSub, ↓gMulI, ↓gDiv, ↓gMod, ↓gPow, ↓gLt, ↓gLe, ↓gGt, ↓gGe, ↓gI, ↓gIC, ↓gAdd, ↓gIx, ↓gSl, ↓gLen, ↓gAll, ↓gAny, ↓gSum, ↓gMin2, ↓gMax2, ↓gList, ↓gTuple, ↓gNe, ↓gNotIn, ↓gIs, ↓gIsNot, ↓isNone, ↓look, ↓withD, ↓isD, ↓isB, ↓areD, ↓withDs, ↓isBor, ↓isLst, ↓isLl, ↓isI, ↓items1, ↓itemsD, ↓argsM, ↓putB, ↓pjs, ↓outsOf, ↓fin, ↓startE, ↓wipeK, ↓wipeE, ↓unw, ↓noOwnB, gEq_ii, gEq_ss, gEq_bb, own_no, own_dat, own_lst, own_ll, List.getD_cons_zero, List.getD_cons_succ, List.set_cons_zero, List.set_cons_succ, List.replicate_succ, List.replicate_zero, List.cons_append, List.nil_append, List.length_cons, List.length_nil, List.map_cons, List.map_nil, List.all_cons, List.all_nil, Nat.reduceAdd, Nat.reduceSub, Bool.not_false, Bool.not_true, Bool.and_true, Bool.and_self, if_true, if_false, reduceCtorEq, List.zipIdx_cons, List.zipIdx_nil, List.filterMap_cons, List.filterMap_nil, Option.map_some, Option.map_none, decide_true, Nat.zero_add, reduceIte, Bool.false_eq_true, true_and, and_true, encL]
      exact ⟨by rw [lineS_len]; exact Nat.le_of_lt (small (by omega)), _, line_at (by omega), hk2⟩
    · simp only [↓sRet, ↓sNil, ↓sIf, ↓sSet, ↓sAsg, ↓sPar, ↓sPar3, ↓sSub, ↓sSub2, ↓sExpr, ↓sExprR, ↓sRetV, ↓sRetN, ↓sRaise, ↓sBrk, ↓sCt, ↓fOf, ↓fFz, ↓fName, ↓fFrz, ↓fC, ↓fBin, ↓fBinN, ↓fT, ↓fNot, ↓fAnd, ↓fOr, ↓fAndV, ↓fOrV, ↓fNotV, ↓fIf, ↓fIfN, ↓fChain, ↓fNil, ↓fCons, ↓fTup, ↓fLst, ↓fNeg, ↓fCall, ↓fIsI, ↓fJoin, ↓fApp, ↓fExt, ↓fPop, ↓fPopAt, ↓fSl, ↓fPart, ↓fNoPart, ↓fSeq, ↓fRng1, ↓fRng2, ↓fEnum, ↓fZip, ↓fGN, ↓fGT, ↓fGcons, ↓fGnil, ↓fLc, ↓fLl, ↓fYes, ↓fOwn, ↓fAt2, ↓fCount, ↓fIndex, ↓fRev, ↓fMulL, ↓fSel, ↓sTry, ↓fIsP, ↓isLk, ↓L3.gSub, ↓gMulI, ↓gDiv, ↓gMod, ↓gPow, ↓gLt, ↓gLe, ↓gGt, ↓gGe, ↓gI, ↓gIC, ↓gAdd, ↓gIx, ↓gSl, ↓gLen, ↓gAll, ↓gAny, ↓gSum, ↓gMin2, ↓gMax2, ↓gList, ↓gTuple, ↓gNe, ↓gNotIn, ↓gIs, ↓gIsNot, ↓isNone, ↓look, ↓withD, ↓isD, ↓isB, ↓areD, ↓withDs, ↓isBor, ↓isLst, ↓isLl, ↓isI, ↓items1, ↓itemsD, ↓argsM, ↓putB, ↓pjs, ↓outsOf, ↓fin, ↓startE, ↓wipeK, ↓wipeE, ↓unw, ↓noOwnB, gEq_ii, gEq_ss, gEq_bb, own_no, own_dat, own_lst, own_ll, List.getD_cons_zero, List.getD_cons_succ, List.set_cons_zero, List.set_cons_succ, List.replicate_succ, List.replicate_zero, List.cons_append, List.nil_append, List.length_cons, List.length_nil, List.map_cons, List.map_nil, List.all_cons, List.all_nil, Nat.reduceAdd, Nat.reduceSub, Bool.not_false, Bool.not_true, Bool.and_true, Bool.and_self, if_true, if_false, reduceCtorEq, List.zipIdx_cons, List.zipIdx_nil, List.filterMap_cons, List.filterMap_nil, Option.map_some, Option.map_none, decide_true, Nat.zero_add, reduceIte, Bool.false_eq_true, true_and, and_true]
      obtain ⟨ys, j1, j2, j3⟩ := join_chs (colOf p c)
      refine ⟨ys, j1, by rw [j2]; unfold colOf; rw [List.length_map]; omega, ?_⟩
      rw [j3]
      exact hk
  · simp only [List.nil_append]
    have e : (List.range w).map (fun c => encL (colOf p c)) = (turnP p w).map encL := by unfold turnP; rw [List.map_map]; rfl
    rw [e]
    exact hp
theorem turn_row {p : List (List Bool)} {w : Nat} : ∀ r ∈ turnP p w, r.length = p.length := fun r hr => by
  unfold turnP at hr
  obtain ⟨c, _, rfl⟩ := List.mem_map.mp hr
  unfold colOf
  rw [List.length_map]
def T_line_clue : TXS :=
  (sRet (fCall gTuple (fCons (fFz (fLc (fSeq (fFz (fOwn [none] (dsp_stretches) (fCons (fName 0) fNil)))) (fGT 2 (fGcons (fGN 1) (fGcons (fGN 2) fGnil))) fYes (fFz (fBinN gAdd (fBin gSub (fName 2) (fName 1)) (fC (.int 1)))) [1, 2])) fNil)))

def dsp_line_clue : DSp := fun es post _ => ∃ r : List Bool, es = [.dat (encL r)] ∧ r.length ≤ 1000 ∧ post (.dat (encClue (clueOf r))) []
theorem good_line_clue : Good [] 3 1 T_line_clue dsp_line_clue := by
  rintro es post xp ⟨r, rfl, hr, hp⟩ _
  simp only [T_line_clue, ↓sRet, ↓sNil, ↓sIf, ↓sSet, ↓sAsg, ↓sPar, ↓sPar3, ↓sSub, ↓sSub2, ↓sExpr, ↓sExprR, ↓sRetV, ↓sRetN, ↓sRaise, ↓sBrk, ↓sCt, ↓fOf, ↓fFz, ↓fName, ↓fFrz, ↓fC, ↓fBin, ↓fBinN, ↓fT, ↓fNot, ↓fAnd, ↓fOr, ↓fAndV, ↓fOrV, ↓fNotV, ↓fIf, ↓fIfN, ↓fChain, ↓fNil, ↓fCons, ↓fTup, ↓fLst, ↓fNeg, ↓fCall, ↓fIsI, ↓fJoin, ↓fApp, ↓fExt, ↓fPop, ↓fPopAt, ↓fSl, ↓fPart, ↓fNoPart, ↓fSeq, ↓fRng1, ↓fRng2, ↓fEnum, ↓fZip, ↓fGN, ↓fGT, ↓fGcons, ↓fGnil, ↓fLc, ↓fLl, ↓fYes, ↓fOwn, ↓fAt2, ↓fCount, ↓fIndex, ↓fRev, ↓fMulL, ↓fSel, ↓sTry, ↓fIsP, ↓isLk, ↓L3.gSub, ↓gMulI, ↓gDiv, ↓gMod, ↓gPow, ↓gLt, ↓gLe, ↓gGt, ↓gGe, ↓gI, ↓gIC, ↓gAdd, ↓gIx, ↓gSl, ↓gLen, ↓gAll, ↓gAny, ↓gSum, ↓gMin2, ↓gMax2, ↓gList, ↓gTuple, ↓gNe, ↓gNotIn, ↓gIs, ↓gIsNot, ↓isNone, ↓look, ↓withD, ↓isD, ↓isB, ↓areD, ↓withDs, ↓isBor, ↓isLst, ↓isLl, ↓isI, ↓items1, ↓itemsD, ↓argsM, ↓putB, ↓pjs, ↓outsOf, ↓fin, ↓startE, ↓wipeK, ↓wipeE, ↓unw, ↓noOwnB, gEq_ii, gEq_ss, gEq_bb, own_no, own_dat, own_lst, own_ll, List.getD_cons_zero, List.getD_cons_succ, List.set_cons_zero, List.set_cons_succ, List.replicate_succ, List.replicate_zero, List.cons_append, List.nil_append, List.length_cons, List.length_nil, List.map_cons, List.map_nil, List.all_cons, List.all_nil, Nat.reduceAdd, Nat.reduceSub, Bool.not_false, Bool.not_true, Bool.and_true, Bool.and_self, if_true, if_false, reduceCtorEq, List.zipIdx_cons, List.zipIdx_nil, List.filterMap_cons, List.filterMap_nil, Option.map_some, Option.map_none, decide_true, Nat.zero_add, reduceIte, Bool.false_eq_true, true_and, and_true, dsp_stretches]
  have hl := st_len r r.length
  refine ⟨r, rfl, hr, by rw [List.length_map]; exact small (by unfold stOf; omega), ?_⟩
  refine lcR_enc1 encC (fun x => PyData.int (lenOf x : Nat)) (fun x hx k hk => ?_) ?_
  · have := st_ok hx
    simp only [lcStep, ↓sRet, ↓sNil, ↓sIf, ↓sSet, ↓sAsg, ↓sPar, ↓sPar3, ↓sSub, ↓sSub2, ↓sExpr, ↓sExprR, ↓sRetV, ↓sRetN, ↓sRaise, ↓sBrk, ↓sCt, ↓fOf, ↓fFz, ↓fName, ↓fFrz, ↓fC, ↓fBin, ↓fBinN, ↓fT, ↓fNot, ↓fAnd, ↓fOr, ↓fAndV, ↓fOrV, ↓fNotV, ↓fIf, ↓fIfN, ↓fChain, ↓fNil, ↓fCons, ↓fTup, ↓fLst, ↓fNeg, ↓fCall, ↓fIsI, ↓fJoin, ↓fApp, ↓fExt, ↓fPop, ↓fPopAt, ↓fSl, ↓fPart, ↓fNoPart, ↓fSeq, ↓fRng1, ↓fRng2, ↓fEnum, ↓fZip, ↓fGN, ↓fGT, ↓fGcons, ↓fGnil, ↓fLc, ↓fLl, ↓fYes, ↓fOwn, ↓fAt2, ↓fCount, ↓fIndex, ↓fRev, ↓fMulL, ↓fSel, ↓sTry, ↓fIsP, ↓isLk, ↓L3.gSub, ↓gMulI, ↓gDiv, ↓gMod, ↓gPow, ↓gLt, ↓gLe, ↓gGt, ↓gGe, ↓gI, ↓gIC, ↓gAdd, ↓gIx, ↓gSl, ↓gLen, ↓gAll, ↓gAny, ↓gSum, ↓gMin2, ↓gMax2, ↓gList, ↓gTuple, ↓gNe, ↓gNotIn, ↓gIs, ↓gIsNot, ↓isNone, ↓look, ↓withD, ↓isD, ↓isB, ↓areD, ↓withDs, ↓isBor, ↓isLst, ↓isLl, ↓isI, ↓items1, ↓itemsD, ↓argsM, ↓putB, ↓pjs, ↓outsOf, ↓fin, ↓startE, ↓wipeK, ↓wipeE, ↓unw, ↓noOwnB, gEq_ii, gEq_ss, gEq_bb, own_no, own_dat, own_lst, own_ll, List.getD_cons_zero, List.getD_cons_succ, List.set_cons_zero, List.set_cons_succ, List.replicate_succ, List.replicate_zero, List.cons_append, List.nil_append, List.length_cons, List.length_nil, List.map_cons, List.map_nil, List.all_cons, List.all_nil, Nat.reduceAdd, Nat.reduceSub, Bool.not_false, Bool.not_true, Bool.and_true, Bool.and_self, if_true, if_false, reduceCtorEq, List.zipIdx_cons, List.zipIdx_nil, List.filterMap_cons, List.filterMap_nil, Option.map_some, Option.map_none, decide_true, Nat.zero_add, reduceIte, Bool.false_eq_true, true_and, and_true, encC]
    rw [show ((x.2 : Int) - x.1 + 1) = (lenOf x : Nat) by unfold lenOf; omega]
    exact hk
  · simp only [List.nil_append]
    have e : (stOf r).map (fun x => PyData.int (lenOf x : Nat)) = ((clueOf r).map fun n => PyData.int (n : Nat)) := by rw [← st_clue, List.map_map]; rfl
    rw [e]
    exact hp
def encClues (a b : List (List Nat)) : PyData := .tuple [.tuple (a.map encClue), .tuple (b.map encClue)]
def T_clues_of : TXS :=
  (sRet (fOf (fTup (fCons (fFz (fCall gTuple (fCons (fFz (fLc (fSeq (fName 0)) (fGN 1) fYes (fFz (fOwn [none] (dsp_line_clue) (fCons (fName 1) fNil))) [1])) fNil))) (fCons (fFz (fCall gTuple (fCons (fFz (fLc (fSeq (fFz (fOwn [none] (dsp_turned) (fCons (fName 0) fNil)))) (fGN 1) fYes (fFz (fOwn [none] (dsp_line_clue) (fCons (fName 1) fNil))) [1])) fNil))) fNil)))))

def dsp_clues_of : DSp := fun es post _ => ∃ (p : List (List Bool)) (h w : Nat), es = [.dat (encP p)] ∧ Rect h w p ∧ post (.dat (encClues (p.map clueOf) ((turnP p w).map clueOf))) []
theorem good_clues_of : Good [] 2 1 T_clues_of dsp_clues_of := by
  rintro es post xp ⟨p, h, w, rfl, W, hp⟩ _
  have h8 := W.h8
  have w8 := W.w8
  have pl := W.len
  simp only [T_clues_of, ↓sRet, ↓sNil, ↓sIf, ↓sSet, ↓sAsg, ↓sPar, ↓sPar3, ↓sSub, ↓sSub2, ↓sExpr, ↓sExprR, ↓sRetV, ↓sRetN, ↓sRaise, ↓sBrk, ↓sCt, ↓fOf, ↓fFz, ↓fName, ↓fFrz, ↓fC, ↓fBin, ↓fBinN, ↓fT, ↓fNot, ↓fAnd, ↓fOr, ↓fAndV, ↓fOrV, ↓fNotV, ↓fIf, ↓fIfN, ↓fChain, ↓fNil, ↓fCons, ↓fTup, ↓fLst, ↓fNeg, ↓fCall, ↓fIsI, ↓fJoin, ↓fApp, ↓fExt, ↓fPop, ↓fPopAt, ↓fSl, ↓fPart, ↓fNoPart, ↓fSeq, ↓fRng1, ↓fRng2, ↓fEnum, ↓fZip, ↓fGN, ↓fGT, ↓fGcons, ↓fGnil, ↓fLc, ↓fLl, ↓fYes, ↓fOwn, ↓fAt2, ↓fCount, ↓fIndex, ↓fRev, ↓fMulL, ↓fSel, ↓sTry, ↓fIsP, ↓isLk, ↓L3.gSub, ↓gMulI, ↓gDiv, ↓gMod, ↓gPow, ↓gLt, ↓gLe, ↓gGt, ↓gGe, ↓gI, ↓gIC, ↓gAdd, ↓gIx, ↓gSl, ↓gLen, ↓gAll, ↓gAny, ↓gSum, ↓gMin2, ↓gMax2, ↓gList, ↓gTuple, ↓gNe, ↓gNotIn, ↓gIs, ↓gIsNot, ↓isNone, ↓look, ↓withD, ↓isD, ↓isB, ↓areD, ↓withDs, ↓isBor, ↓isLst, ↓isLl, ↓isI, ↓items1, ↓itemsD, ↓argsM, ↓putB, ↓pjs, ↓outsOf, ↓fin, ↓startE, ↓wipeK, ↓wipeE, ↓unw, ↓noOwnB, gEq_ii, gEq_ss, gEq_bb, own_no, own_dat, own_lst, own_ll, List.getD_cons_zero, List.getD_cons_succ, List.set_cons_zero, List.set_cons_succ, List.replicate_succ, List.replicate_zero, List.cons_append, List.nil_append, List.length_cons, List.length_nil, List.map_cons, List.map_nil, List.all_cons, List.all_nil, Nat.reduceAdd, Nat.reduceSub, Bool.not_false, Bool.not_true, Bool.and_true, Bool.and_self, if_true, if_false, reduceCtorEq, List.zipIdx_cons, List.zipIdx_nil, List.filterMap_cons, List.filterMap_nil, Option.map_some, Option.map_none, decide_true, Nat.zero_add, reduceIte, Bool.false_eq_true, true_and, and_true, encP, List.length_map]
  refine ⟨small (by omega), ?_⟩
  refine lcR_enc1 encL (fun l => encClue (clueOf l)) (fun l hl k hk => ?_) ?_
  · simp only [lcStep, ↓sRet, ↓sNil, ↓sIf, ↓sSet, ↓sAsg, ↓sPar, ↓sPar3, ↓sSub, ↓sSub2, ↓sExpr, ↓sExprR, ↓sRetV, ↓sRetN, ↓sRaise, ↓sBrk, ↓sCt, ↓fOf, ↓fFz, ↓fName, ↓fFrz, ↓fC, ↓fBin, ↓fBinN, ↓fT, ↓fNot, ↓fAnd, ↓fOr, ↓fAndV, ↓fOrV, ↓fNotV, ↓fIf, ↓fIfN, ↓fChain, ↓fNil, ↓fCons, ↓fTup, ↓fLst, ↓fNeg, ↓fCall, ↓fIsI, ↓fJoin, ↓fApp, ↓fExt, ↓fPop, ↓fPopAt, ↓fSl, ↓fPart, ↓fNoPart, ↓fSeq, ↓fRng1, ↓fRng2, ↓fEnum, ↓fZip, ↓fGN, ↓fGT, ↓fGcons, ↓fGnil, ↓fLc, ↓fLl, ↓fYes, ↓fOwn, ↓fAt2, ↓fCount, ↓fIndex, ↓fRev, ↓fMulL, ↓fSel, ↓sTry, ↓fIsP, ↓isLk, ↓L3.gSub, ↓gMulI, ↓gDiv, ↓gMod, ↓gPow, ↓gLt, ↓gLe, ↓gGt, ↓gGe, ↓gI, ↓gIC, ↓gAdd, ↓gIx, ↓gSl, ↓gLen, ↓gAll, ↓gAny, ↓gSum, ↓gMin2, ↓gMax2, ↓gList, ↓gTuple, ↓gNe, ↓gNotIn, ↓gIs, ↓gIsNot, ↓isNone, ↓look, ↓withD, ↓isD, ↓isB, ↓areD, ↓withDs, ↓isBor, ↓isLst, ↓isLl, ↓isI, ↓items1, ↓itemsD, ↓argsM, ↓putB, ↓pjs, ↓outsOf, ↓fin, ↓startE, ↓wipeK, ↓wipeE, ↓unw, ↓noOwnB, gEq_ii, gEq_ss, gEq_bb, own_no, own_dat, own_lst, own_ll, List.getD_cons_zero, List.getD_cons_succ, List.set_cons_zero, List.set_cons_succ, List.replicate_succ, List.replicate_zero, List.cons_append, List.nil_append, List.length_cons, List.length_nil, List.map_cons, List.map_nil, List.all_cons, List.all_nil, Nat.reduceAdd, Nat.reduceSub, Bool.not_false, Bool.not_true, Bool.and_true, Bool.and_self, if_true, if_false, reduceCtorEq, List.zipIdx_cons, List.zipIdx_nil, List.filterMap_cons, List.filterMap_nil, Option.map_some, Option.map_none, decide_true, Nat.zero_add, reduceIte, Bool.false_eq_true, true_and, and_true, dsp_line_clue]
    exact ⟨l, rfl, by rw [W.row l hl]; exact w8, hk⟩
  simp only [↓sRet, ↓sNil, ↓sIf, ↓sSet, ↓sAsg, ↓sPar, ↓sPar3, ↓sSub, ↓sSub2, ↓sExpr, ↓sExprR, ↓sRetV, ↓sRetN, ↓sRaise, ↓sBrk, ↓sCt, ↓fOf, ↓fFz, ↓fName, ↓fFrz, ↓fC, ↓fBin, ↓fBinN, ↓fT, ↓fNot, ↓fAnd, ↓fOr, ↓fAndV, ↓fOrV, ↓fNotV, ↓fIf, ↓fIfN, ↓fChain, ↓fNil, ↓fCons, ↓fTup, ↓fLst, ↓fNeg, ↓fCall, ↓fIsI, ↓fJoin, ↓fApp, ↓fExt, ↓fPop, ↓fPopAt, ↓fSl, ↓fPart, ↓fNoPart, ↓fSeq, ↓fRng1, ↓fRng2, ↓fEnum, ↓fZip, ↓fGN, ↓fGT, ↓fGcons, ↓fGnil, ↓fLc, ↓fLl, ↓fYes, ↓fOwn, ↓fAt2, ↓fCount, ↓fIndex, ↓fRev, ↓fMulL, ↓fSel, ↓sTry, ↓fIsP, ↓isLk, ↓L3.gSub, ↓gMulI, ↓gDiv, ↓gMod, ↓gPow, ↓gLt, ↓gLe, ↓gGt, ↓gGe, ↓gI, ↓gIC, ↓gAdd, ↓gIx, ↓gSl, ↓gLen, ↓gAll, ↓gAny, ↓gSum, ↓gMin2, ↓gMax2, ↓gList, ↓gTuple, ↓gNe, ↓gNotIn, ↓gIs, ↓gIsNot, ↓isNone, ↓look, ↓withD, ↓isD, ↓isB, ↓areD, ↓withDs, ↓isBor, ↓isLst, ↓isLl, ↓isI, ↓items1, ↓itemsD, ↓argsM, ↓putB, ↓pjs, ↓outsOf, ↓fin, ↓startE, ↓wipeK, ↓wipeE, ↓unw, ↓noOwnB, gEq_ii, gEq_ss, gEq_bb, own_no, own_dat, own_lst, own_ll, List.getD_cons_zero, List.getD_cons_succ, List.set_cons_zero, List.set_cons_succ, List.replicate_succ, List.replicate_zero, List.cons_append, List.nil_append, List.length_cons, List.length_nil, List.map_cons, List.map_nil, List.all_cons, List.all_nil, Nat.reduceAdd, Nat.reduceSub, Bool.not_false, Bool.not_true, Bool.and_true, Bool.and_self, if_true, if_false, reduceCtorEq, List.zipIdx_cons, List.zipIdx_nil, List.filterMap_cons, List.filterMap_nil, Option.map_some, Option.map_none, decide_true, Nat.zero_add, reduceIte, Bool.false_eq_true, true_and, and_true, dsp_turned]
  refine ⟨p, h, w, rfl, W, by unfold turnP; rw [List.length_map, List.length_map, List.length_range]; exact small (by omega), ?_⟩
  refine lcR_enc1 encL (fun l => encClue (clueOf l)) (fun l hl k hk => ?_) ?_
  · simp only [lcStep, ↓sRet, ↓sNil, ↓sIf, ↓sSet, ↓sAsg, ↓sPar, ↓sPar3, ↓sSub, ↓sSub2, ↓sExpr, ↓sExprR, ↓sRetV, ↓sRetN, ↓sRaise, ↓sBrk, ↓sCt, ↓fOf, ↓fFz, ↓fName, ↓fFrz, ↓fC, ↓fBin, ↓fBinN, ↓fT, ↓fNot, ↓fAnd, ↓fOr, ↓fAndV, ↓fOrV, ↓fNotV, ↓fIf, ↓fIfN, ↓fChain, ↓fNil, ↓fCons, ↓fTup, ↓fLst, ↓fNeg, ↓fCall, ↓fIsI, ↓fJoin, ↓fApp, ↓fExt, ↓fPop, ↓fPopAt, ↓fSl, ↓fPart, ↓fNoPart, ↓fSeq, ↓fRng1, ↓fRng2, ↓fEnum, ↓fZip, ↓fGN, ↓fGT, ↓fGcons, ↓fGnil, ↓fLc, ↓fLl, ↓fYes, ↓fOwn, ↓fAt2, ↓fCount, ↓fIndex, ↓fRev, ↓fMulL, ↓fSel, ↓sTry, ↓fIsP, ↓isLk, ↓L3.gSub, ↓gMulI, ↓gDiv, ↓gMod, ↓gPow, ↓gLt, ↓gLe, ↓gGt, ↓gGe, ↓gI, ↓gIC, ↓gAdd, ↓gIx, ↓gSl, ↓gLen, ↓gAll, ↓gAny, ↓gSum, ↓gMin2, ↓gMax2, ↓gList, ↓gTuple, ↓gNe, ↓gNotIn, ↓gIs, ↓gIsNot, ↓isNone, ↓look, ↓withD, ↓isD, ↓isB, ↓areD, ↓withDs, ↓isBor, ↓isLst, ↓isLl, ↓isI, ↓items1, ↓itemsD, ↓argsM, ↓putB, ↓pjs, ↓outsOf, ↓fin, ↓startE, ↓wipeK, ↓wipeE, ↓unw, ↓noOwnB, gEq_ii, gEq_ss, gEq_bb, own_no, own_dat, own_lst, own_ll, List.getD_cons_zero, List.getD_cons_succ, List.set_cons_zero, List.set_cons_succ, List.replicate_succ, List.replicate_zero, List.cons_append, List.nil_append, List.length_cons, List.length_nil, List.map_cons, List.map_nil, List.all_cons, List.all_nil, Nat.reduceAdd, Nat.reduceSub, Bool.not_false, Bool.not_true, Bool.and_true, Bool.and_self, if_true, if_false, reduceCtorEq, List.zipIdx_cons, List.zipIdx_nil, List.filterMap_cons, List.filterMap_nil, Option.map_some, Option.map_none, decide_true, Nat.zero_add, reduceIte, Bool.false_eq_true, true_and, and_true, dsp_line_clue]
    exact ⟨l, rfl, by rw [turn_row l hl]; omega, hk⟩
  simp only [↓sRet, ↓sNil, ↓sIf, ↓sSet, ↓sAsg, ↓sPar, ↓sPar3, ↓sSub, ↓sSub2, ↓sExpr, ↓sExprR, ↓sRetV, ↓sRetN, ↓sRaise, ↓sBrk, ↓sCt, ↓fOf, ↓fFz, ↓fName, ↓fFrz, ↓fC, ↓fBin, ↓fBinN, ↓fT, ↓fNot, ↓fAnd, ↓fOr, ↓fAndV, ↓fOrV, ↓fNotV, ↓fIf, ↓fIfN, ↓fChain, ↓fNil, ↓fCons, ↓fTup, ↓fLst, ↓fNeg, ↓fCall, ↓fIsI, ↓fJoin, ↓fApp, ↓fExt, ↓fPop, ↓fPopAt, ↓fSl, ↓fPart, ↓fNoPart, ↓fSeq, ↓fRng1, ↓fRng2, ↓fEnum, ↓fZip, ↓fGN, ↓fGT, ↓fGcons, ↓fGnil, ↓fLc, ↓fLl, ↓fYes, ↓fOwn, ↓fAt2, ↓fCount, ↓fIndex, ↓fRev, ↓fMulL, ↓fSel, ↓sTry, ↓fIsP, ↓isLk, ↓L3.gSub, ↓gMulI, ↓gDiv, ↓gMod, ↓gPow, ↓gLt, ↓gLe, ↓gGt, ↓gGe, ↓gI, ↓gIC, ↓gAdd, ↓gIx, ↓gSl, ↓gLen, ↓gAll, ↓gAny, ↓gSum, ↓gMin2, ↓gMax2, ↓gList, ↓gTuple, ↓gNe, ↓gNotIn, ↓gIs, ↓gIsNot, ↓isNone, ↓look, ↓withD, ↓isD, ↓isB, ↓areD, ↓withDs, ↓isBor, ↓isLst, ↓isLl, ↓isI, ↓items1, ↓itemsD, ↓argsM, ↓putB, ↓pjs, ↓outsOf, ↓fin, ↓startE, ↓wipeK, ↓wipeE, ↓unw, ↓noOwnB, gEq_ii, gEq_ss, gEq_bb, own_no, own_dat, own_lst, own_ll, List.getD_cons_zero, List.getD_cons_succ, List.set_cons_zero, List.set_cons_succ, List.replicate_succ, List.replicate_zero, List.cons_append, List.nil_append, List.length_cons, List.length_nil, List.map_cons, List.map_nil, List.all_cons, List.all_nil, Nat.reduceAdd, Nat.reduceSub, Bool.not_false, Bool.not_true, Bool.and_true, Bool.and_self, if_true, if_false, reduceCtorEq, List.zipIdx_cons, List.zipIdx_nil, List.filterMap_cons, List.filterMap_nil, Option.map_some, Option.map_none, decide_true, Nat.zero_add, reduceIte, Bool.false_eq_true, true_and, and_true]
  have e : ∀ q : List (List Bool), q.map (fun l => encClue (clueOf l)) = (q.map clueOf).map encClue := fun q => by rw [List.map_map]; rfl
  rw [e, e]
  exact hp
/-- need_picture, asked of a picture -/
theorem need_ok {cs : Cs} {p : List (List Bool)} {h w : Nat} (P : Wf h w p) {post : E → List E → Prop} {xp : Value → List E → Prop} (hp : post (.dat .none) []) : dsp_need_picture cs [.dat (encP p)] post xp :=
  ⟨_, rfl, P.smallP, fun _ => hp, fun z => (by rw [P.isPic] at z; cases z)⟩
theorem encP_inj {p p' : List (List Bool)} (e : encP p = encP p') : p = p' := by
  unfold encP at e
  injection e with e
  exact map_inj (fun x y z => lineS_inj (by unfold encL at z; injection z)) e
/-- a def that asks for a picture and then goes on -/
def dspPic (cs : Cs) (f : List (List Bool) → Nat → Nat → E) : DSp := fun es post xp => ∃ d, es = [.dat d] ∧ smallP d ∧ (isPicD d = false → xp (.ref cs.NoPicture) []) ∧ ∀ (p : List (List Bool)) (h w : Nat), d = encP p → Wf h w p → post (f p h w) []
theorem pic_ok {cs : Cs} {f : List (List Bool) → Nat → Nat → E} {p : List (List Bool)} {h w : Nat} (P : Wf h w p) (hf : ∀ h' w', Wf h' w' p → f p h' w' = f p h w) {post : E → List E → Prop} {xp : Value → List E → Prop} (hp : post (f p h w) []) : dspPic cs f [.dat (encP p)] post xp :=
  ⟨_, rfl, P.smallP, fun z => (by rw [P.isPic] at z; cases z), fun p' h' w' e P' => by
    have := encP_inj e
    subst this
    rw [hf h' w' P']; exact hp⟩
theorem Wf.uniq {h w h' w' : Nat} {p : List (List Bool)} (P : Wf h w p) (P' : Wf h' w' p) : h' = h ∧ w' = w := by
  have h0 : 0 < p.length := by rw [P.len]; exact P.h1
  exact ⟨by rw [← P.len, P'.len], by rw [← P.row _ (List.getElem_mem h0), P'.row _ (List.getElem_mem h0)]⟩
def T_clues (cs : Cs) : TXS :=
  (sSeq (sExpr (fOwn [none] (dsp_need_picture cs) (fCons (fName 0) fNil)))
  (sRet (fOwn [none] (dsp_clues_of) (fCons (fName 0) fNil))))

def dsp_clues (cs : Cs) : DSp := dspPic cs fun p _ w => .dat (encClues (p.map clueOf) ((turnP p w).map clueOf))
theorem good_clues (cs : Cs) : Good [] 1 1 (T_clues cs) (dsp_clues cs) := by
  rintro es post xp ⟨d, rfl, hs, hx, hp⟩ _
  unfold T_clues
  refine sSeq_g fun N hN => ?_
  simp only [↓sRet, ↓sNil, ↓sIf, ↓sSet, ↓sAsg, ↓sPar, ↓sPar3, ↓sSub, ↓sSub2, ↓sExpr, ↓sExprR, ↓sRetV, ↓sRetN, ↓sRaise, ↓sBrk, ↓sCt, ↓fOf, ↓fFz, ↓fName, ↓fFrz, ↓fC, ↓fBin, ↓fBinN, ↓fT, ↓fNot, ↓fAnd, ↓fOr, ↓fAndV, ↓fOrV, ↓fNotV, ↓fIf, ↓fIfN, ↓fChain, ↓fNil, ↓fCons, ↓fTup, ↓fLst, ↓fNeg, ↓fCall, ↓fIsI, ↓fJoin, ↓fApp, ↓fExt, ↓fPop, ↓fPopAt, ↓fSl, ↓fPart, ↓fNoPart, ↓fSeq, ↓fRng1, ↓fRng2, ↓fEnum, ↓fZip, ↓fGN, ↓fGT, ↓fGcons, ↓fGnil, ↓fLc, ↓fLl, ↓fYes, ↓fOwn, ↓fAt2, ↓fCount, ↓fIndex, ↓fRev, ↓fMulL, ↓fSel, ↓sTry, ↓fIsP, ↓isLk, ↓L3.gSub, ↓gMulI, ↓gDiv, ↓gMod, ↓gPow, ↓gLt, ↓gLe, ↓gGt, ↓gGe, ↓gI, ↓gIC, ↓gAdd, ↓gIx, ↓gSl, ↓gLen, ↓gAll, ↓gAny, ↓gSum, ↓gMin2, ↓gMax2, ↓gList, ↓gTuple, ↓gNe, ↓gNotIn, ↓gIs, ↓gIsNot, ↓isNone, ↓look, ↓withD, ↓isD, ↓isB, ↓areD, ↓withDs, ↓isBor, ↓isLst, ↓isLl, ↓isI, ↓items1, ↓itemsD, ↓argsM, ↓putB, ↓pjs, ↓outsOf, ↓fin, ↓startE, ↓wipeK, ↓wipeE, ↓unw, ↓noOwnB, gEq_ii, gEq_ss, gEq_bb, own_no, own_dat, own_lst, own_ll, List.getD_cons_zero, List.getD_cons_succ, List.set_cons_zero, List.set_cons_succ, List.replicate_succ, List.replicate_zero, List.cons_append, List.nil_append, List.length_cons, List.length_nil, List.map_cons, List.map_nil, List.all_cons, List.all_nil, Nat.reduceAdd, Nat.reduceSub, Bool.not_false, Bool.not_true, Bool.and_true, Bool.and_self, if_true, if_false, reduceCtorEq, List.zipIdx_cons, List.zipIdx_nil, List.filterMap_cons, List.filterMap_nil, Option.map_some, Option.map_none, decide_true, Nat.zero_add, reduceIte, Bool.false_eq_true, true_and, and_true, dsp_need_picture]
  refine ⟨d, rfl, hs, fun pd => hN _ ?_, fun z => hx z⟩
  clear hN N
  obtain ⟨p, h, w, rfl, P⟩ := isPic_enc pd
  simp only [↓sRet, ↓sNil, ↓sIf, ↓sSet, ↓sAsg, ↓sPar, ↓sPar3, ↓sSub, ↓sSub2, ↓sExpr, ↓sExprR, ↓sRetV, ↓sRetN, ↓sRaise, ↓sBrk, ↓sCt, ↓fOf, ↓fFz, ↓fName, ↓fFrz, ↓fC, ↓fBin, ↓fBinN, ↓fT, ↓fNot, ↓fAnd, ↓fOr, ↓fAndV, ↓fOrV, ↓fNotV, ↓fIf, ↓fIfN, ↓fChain, ↓fNil, ↓fCons, ↓fTup, ↓fLst, ↓fNeg, ↓fCall, ↓fIsI, ↓fJoin, ↓fApp, ↓fExt, ↓fPop, ↓fPopAt, ↓fSl, ↓fPart, ↓fNoPart, ↓fSeq, ↓fRng1, ↓fRng2, ↓fEnum, ↓fZip, ↓fGN, ↓fGT, ↓fGcons, ↓fGnil, ↓fLc, ↓fLl, ↓fYes, ↓fOwn, ↓fAt2, ↓fCount, ↓fIndex, ↓fRev, ↓fMulL, ↓fSel, ↓sTry, ↓fIsP, ↓isLk, ↓L3.gSub, ↓gMulI, ↓gDiv, ↓gMod, ↓gPow, ↓gLt, ↓gLe, ↓gGt, ↓gGe, ↓gI, ↓gIC, ↓gAdd, ↓gIx, ↓gSl, ↓gLen, ↓gAll, ↓gAny, ↓gSum, ↓gMin2, ↓gMax2, ↓gList, ↓gTuple, ↓gNe, ↓gNotIn, ↓gIs, ↓gIsNot, ↓isNone, ↓look, ↓withD, ↓isD, ↓isB, ↓areD, ↓withDs, ↓isBor, ↓isLst, ↓isLl, ↓isI, ↓items1, ↓itemsD, ↓argsM, ↓putB, ↓pjs, ↓outsOf, ↓fin, ↓startE, ↓wipeK, ↓wipeE, ↓unw, ↓noOwnB, gEq_ii, gEq_ss, gEq_bb, own_no, own_dat, own_lst, own_ll, List.getD_cons_zero, List.getD_cons_succ, List.set_cons_zero, List.set_cons_succ, List.replicate_succ, List.replicate_zero, List.cons_append, List.nil_append, List.length_cons, List.length_nil, List.map_cons, List.map_nil, List.all_cons, List.all_nil, Nat.reduceAdd, Nat.reduceSub, Bool.not_false, Bool.not_true, Bool.and_true, Bool.and_self, if_true, if_false, reduceCtorEq, List.zipIdx_cons, List.zipIdx_nil, List.filterMap_cons, List.filterMap_nil, Option.map_some, Option.map_none, decide_true, Nat.zero_add, reduceIte, Bool.false_eq_true, true_and, and_true, dsp_clues_of]
  exact ⟨p, h, w, rfl, P.rect, hp p h w rfl P⟩
theorem clues_ok {cs : Cs} {p : List (List Bool)} {h w : Nat} (P : Wf h w p) {post : E → List E → Prop} {xp : Value → List E → Prop} (hp : post (.dat (encClues (p.map clueOf) ((turnP p w).map clueOf))) []) : dsp_clues cs [.dat (encP p)] post xp :=
  pic_ok (f := fun p _ w => .dat (encClues (p.map clueOf) ((turnP p w).map clueOf))) P (fun h' w' P' => by obtain ⟨rfl, rfl⟩ := P.uniq P'; rfl) hp
/-! ### the quarter -/
def quartP (p : List (List Bool)) (w : Nat) : List (List Bool) := (List.range w).map fun c => (colOf p c).reverse
def T_quarter_of : TXS :=
  (sSeq (sSet 1 (fLst fNil))
  (sSeq (sFor (fRng1 (fCons (fFz (fCall gLen (fCons (fBin gIx (fName 0) (fC (.int 0))) fNil))) fNil)) (fGN 2) (sExprR (fApp (fName 1) (fJoin (fC (.str "")) (fFz (fLc (fSeq (fFz (fRev (fName 0)))) (fGN 3) fYes (fBin gIx (fName 3) (fName 2)) [3]))))))
  (sRet (fCall gTuple (fCons (fName 1) fNil)))))

def dsp_quarter_of : DSp := fun es post _ => ∃ (p : List (List Bool)) (h w : Nat), es = [.dat (encP p)] ∧ Rect h w p ∧ post (.dat (encP (quartP p w))) []
theorem good_quarter_of : Good [] 4 1 T_quarter_of dsp_quarter_of := by
  rintro es post xp ⟨p, h, w, rfl, W, hp⟩ _
  obtain ⟨lp, a1, a2⟩ := W.head
  have h8 := W.h8
  have w8 := W.w8
  have pl := W.len
  unfold T_quarter_of
  refine sSeq_g fun N hN => ?_
  simp only [↓sRet, ↓sNil, ↓sIf, ↓sSet, ↓sAsg, ↓sPar, ↓sPar3, ↓sSub, ↓sSub2, ↓sExpr, ↓sExprR, ↓sRetV, ↓sRetN, ↓sRaise, ↓sBrk, ↓sCt, ↓fOf, ↓fFz, ↓fName, ↓fFrz, ↓fC, ↓fBin, ↓fBinN, ↓fT, ↓fNot, ↓fAnd, ↓fOr, ↓fAndV, ↓fOrV, ↓fNotV, ↓fIf, ↓fIfN, ↓fChain, ↓fNil, ↓fCons, ↓fTup, ↓fLst, ↓fNeg, ↓fCall, ↓fIsI, ↓fJoin, ↓fApp, ↓fExt, ↓fPop, ↓fPopAt, ↓fSl, ↓fPart, ↓fNoPart, ↓fSeq, ↓fRng1, ↓fRng2, ↓fEnum, ↓fZip, ↓fGN, ↓fGT, ↓fGcons, ↓fGnil, ↓fLc, ↓fLl, ↓fYes, ↓fOwn, ↓fAt2, ↓fCount, ↓fIndex, ↓fRev, ↓fMulL, ↓fSel, ↓sTry, ↓fIsP, ↓isLk, ↓L3.gSub, ↓gMulI, ↓gDiv, ↓gMod, ↓gPow, ↓gLt, ↓gLe, ↓gGt, ↓gGe, ↓gI, ↓gIC, ↓gAdd, ↓gIx, ↓gSl, ↓gLen, ↓gAll, ↓gAny, ↓gSum, ↓gMin2, ↓gMax2, ↓gList, ↓gTuple, ↓gNe, ↓gNotIn, ↓gIs, ↓gIsNot, ↓isNone, ↓look, ↓withD, ↓isD, ↓isB, ↓areD, ↓withDs, ↓isBor, ↓isLst, ↓isLl, ↓isI, ↓items1, ↓itemsD, ↓argsM, ↓putB, ↓pjs, ↓outsOf, ↓fin, ↓startE, ↓wipeK, ↓wipeE, ↓unw, ↓noOwnB, gEq_ii, gEq_ss, gEq_bb, own_no, own_dat, own_lst, own_ll, List.getD_cons_zero, List.getD_cons_succ, List.set_cons_zero, List.set_cons_succ, List.replicate_succ, List.replicate_zero, List.cons_append, List.nil_append, List.length_cons, List.length_nil, List.map_cons, List.map_nil, List.all_cons, List.all_nil, Nat.reduceAdd, Nat.reduceSub, Bool.not_false, Bool.not_true, Bool.and_true, Bool.and_self, if_true, if_false, reduceCtorEq, List.zipIdx_cons, List.zipIdx_nil, List.filterMap_cons, List.filterMap_nil, Option.map_some, Option.map_none, decide_true, Nat.zero_add, reduceIte, Bool.false_eq_true, true_and, and_true]
  refine hN _ ?_
  clear hN N
  refine sSeq_g fun N hN => sFor_g fun F hF => ?_
  simp only [↓sRet, ↓sNil, ↓sIf, ↓sSet, ↓sAsg, ↓sPar, ↓sPar3, ↓sSub, ↓sSub2, ↓sExpr, ↓sExprR, ↓sRetV, ↓sRetN, ↓sRaise, ↓sBrk, ↓sCt, ↓fOf, ↓fFz, ↓fName, ↓fFrz, ↓fC, ↓fBin, ↓fBinN, ↓fT, ↓fNot, ↓fAnd, ↓fOr, ↓fAndV, ↓fOrV, ↓fNotV, ↓fIf, ↓fIfN, ↓fChain, ↓fNil, ↓fCons, ↓fTup, ↓fLst, ↓fNeg, ↓fCall, ↓fIsI, ↓fJoin, ↓fApp, ↓fExt, ↓fPop, ↓fPopAt, ↓fSl, ↓fPart, ↓fNoPart, ↓fSeq, ↓fRng1, ↓fRng2, ↓fEnum, ↓fZip, ↓fGN, ↓fGT, ↓fGcons, ↓fGnil, ↓fLc, ↓fLl, ↓fYes, ↓fOwn, ↓fAt2, ↓fCount, ↓fIndex, ↓fRev, ↓fMulL, ↓fSel, ↓sTry, ↓fIsP, ↓isLk, ↓L3.gSub, ↓gMulI, ↓gDiv, ↓gMod, ↓gPow, ↓gLt, ↓gLe, ↓gGt, ↓gGe, ↓gI, ↓gIC, ↓gAdd, ↓gIx, ↓gSl, ↓gLen, ↓gAll, ↓gAny, ↓gSum, ↓gMin2, ↓gMax2, ↓gList, ↓gTuple, ↓gNe, ↓gNotIn, ↓gIs, ↓gIsNot, ↓isNone, ↓look, ↓withD, ↓isD, ↓isB, ↓areD, ↓withDs, ↓isBor, ↓isLst, ↓isLl, ↓isI, ↓items1, ↓itemsD, ↓argsM, ↓putB, ↓pjs, ↓outsOf, ↓fin, ↓startE, ↓wipeK, ↓wipeE, ↓unw, ↓noOwnB, gEq_ii, gEq_ss, gEq_bb, own_no, own_dat, own_lst, own_ll, List.getD_cons_zero, List.getD_cons_succ, List.set_cons_zero, List.set_cons_succ, List.replicate_succ, List.replicate_zero, List.cons_append, List.nil_append, List.length_cons, List.length_nil, List.map_cons, List.map_nil, List.all_cons, List.all_nil, Nat.reduceAdd, Nat.reduceSub, Bool.not_false, Bool.not_true, Bool.and_true, Bool.and_self, if_true, if_false, reduceCtorEq, List.zipIdx_cons, List.zipIdx_nil, List.filterMap_cons, List.filterMap_nil, Option.map_some, Option.map_none, decide_true, Nat.zero_add, reduceIte, Bool.false_eq_true, true_and, and_true, encP]
  refine ⟨_, a1, ?_⟩
  simp only [encL, lineS_len, a2]
  refine ⟨Nat.le_of_lt (small (by omega)), b62 (by omega) (by omega), hF _ _ ?_⟩
  clear hF F
  refine forR_inv (fun i ρ => ∃ x2 x3, ρ = [.dat (encP p), .lst (((quartP p w).take i).map encL), x2, x3] ∧ x3.own = false) 0 (fun i d ρ M hd hP hM => ?_) ⟨_, _, rfl, rfl⟩ (fun ρ hP => ?_)
  · obtain ⟨x2, x3, rfl, o3⟩ := hP
    obtain ⟨hi, rfl⟩ := rangeD_get hd
    rw [Nat.zero_add] at *
    rw [Int.zero_add] at *
    have hiw : i < w := by omega
    simp only [↓sRet, ↓sNil, ↓sIf, ↓sSet, ↓sAsg, ↓sPar, ↓sPar3, ↓sSub, ↓sSub2, ↓sExpr, ↓sExprR, ↓sRetV, ↓sRetN, ↓sRaise, ↓sBrk, ↓sCt, ↓fOf, ↓fFz, ↓fName, ↓fFrz, ↓fC, ↓fBin, ↓fBinN, ↓fT, ↓fNot, ↓fAnd, ↓fOr, ↓fAndV, ↓fOrV, ↓fNotV, ↓fIf, ↓fIfN, ↓fChain, ↓fNil, ↓fCons, ↓fTup, ↓fLst, ↓fNeg, ↓fCall, ↓fIsI, ↓fJoin, ↓fApp, ↓fExt, ↓fPop, ↓fPopAt, ↓fSl, ↓fPart, ↓fNoPart, ↓fSeq, ↓fRng1, ↓fRng2, ↓fEnum, ↓fZip, ↓fGN, ↓fGT, ↓fGcons, ↓fGnil, ↓fLc, ↓fLl, ↓fYes, ↓fOwn, ↓fAt2, ↓fCount, ↓fIndex, ↓fRev, ↓fMulL, ↓fSel, ↓sTry, ↓fIsP, ↓isLk, ↓L3.gSub, ↓gMulI, ↓gDiv, ↓gMod, ↓gPow, ↓gLt, ↓gLe, ↓gGt, ↓gGe, ↓gI, ↓gIC, ↓gAdd, ↓gIx, ↓gSl, ↓gLen, ↓gAll, ↓gAny, ↓gSum, ↓gMin2, ↓gMax2, ↓gList, ↓gTuple, ↓gNe, ↓gNotIn, ↓gIs, ↓gIsNot, ↓isNone, ↓look, ↓withD, ↓isD, ↓isB, ↓areD, ↓withDs, ↓isBor, ↓isLst, ↓isLl, ↓isI, ↓items1, ↓itemsD, ↓argsM, ↓putB, ↓pjs, ↓outsOf, ↓fin, ↓startE, ↓wipeK, ↓wipeE, ↓unw, ↓noOwnB, gEq_ii, gEq_ss, gEq_bb, own_no, own_dat, own_lst, own_ll, List.getD_cons_zero, List.getD_cons_succ, List.set_cons_zero, List.set_cons_succ, List.replicate_succ, List.replicate_zero, List.cons_append, List.nil_append, List.length_cons, List.length_nil, List.map_cons, List.map_nil, List.all_cons, List.all_nil, Nat.reduceAdd, Nat.reduceSub, Bool.not_false, Bool.not_true, Bool.and_true, Bool.and_self, if_true, if_false, reduceCtorEq, List.zipIdx_cons, List.zipIdx_nil, List.filterMap_cons, List.filterMap_nil, Option.map_some, Option.map_none, decide_true, Nat.zero_add, reduceIte, Bool.false_eq_true, true_and, and_true, encP, fRev, o3]
    rw [← List.map_reverse]
    refine ⟨by rw [List.length_map, List.length_reverse]; exact small (by omega), ?_⟩
    have RW : Rect h w p.reverse := ⟨W.h1, W.h8, W.w8, by rw [List.length_reverse]; exact pl, fun r hr => W.row r (List.mem_reverse.mp hr)⟩
    refine col_text (c := i) RW hiw (fun l hl k2 hk2 => ?_) ?_
    · have wl := RW.row l hl
      simp only [lcStep, ↓sRet, ↓sNil, ↓sIf, ↓sSet, ↓sAsg, ↓sPar, ↓sPar3, ↓sSub, ↓sSub2, ↓sExpr, ↓sExprR, ↓sRetV, ↓sRetN, ↓sRaise, ↓sBrk, ↓sCt, ↓fOf, ↓fFz, ↓fName, ↓fFrz, ↓fC, ↓fBin, ↓fBinN, ↓fT, ↓fNot, ↓fAnd, ↓fOr, ↓fAndV, ↓fOrV, ↓fNotV, ↓fIf, ↓fIfN, ↓fChain, ↓fNil, ↓fCons, ↓fTup, ↓fLst, ↓fNeg, ↓fCall, ↓fIsI, ↓fJoin, ↓fApp, ↓fExt, ↓fPop, ↓fPopAt, ↓fSl, ↓fPart, ↓fNoPart, ↓fSeq, ↓fRng1, ↓fRng2, ↓fEnum, ↓fZip, ↓fGN, ↓fGT, ↓fGcons, ↓fGnil, ↓fLc, ↓fLl, ↓fYes, ↓fOwn, ↓fAt2, ↓fCount, ↓fIndex, ↓fRev, ↓fMulL, ↓fSel, ↓sTry, ↓fIsP, ↓isLk, ↓L3.gSub, ↓gMulI, ↓gDiv, ↓gMod, ↓gPow, ↓gLt, ↓gLe, ↓gGt, ↓gGe, ↓gI, ↓gIC, ↓gAdd, ↓gIx, ↓gSl, ↓gLen, ↓gAll, ↓gAny, ↓gSum, ↓gMin2, ↓gMax2, ↓gList, ↓gTuple, ↓gNe, ↓gNotIn, ↓gIs, ↓gIsNot, ↓isNone, ↓look, ↓withD, ↓isD, ↓isB, ↓areD, ↓withDs, ↓isBor, ↓isLst, ↓isLl, ↓isI, ↓items1, ↓itemsD, ↓argsM, ↓putB, ↓pjs, ↓outsOf, ↓fin, ↓startE, ↓wipeK, ↓wipeE, ↓unw, ↓noOwnB, gEq_ii, gEq_ss, gEq_bb, own_no, own_dat, own_lst, own_ll, List.getD_cons_zero, List.getD_cons_succ, List.set_cons_zero, List.set_cons_succ, List.replicate_succ, List.replicate_zero, List.cons_append, List.nil_append, List.length_cons, List.length_nil, List.map_cons, List.map_nil, List.all_cons, List.all_nil, Nat.reduceAdd, Nat.reduceSub, Bool.not_false, Bool.not_true, Bool.and_true, Bool.and_self, if_true, if_false, reduceCtorEq, List.zipIdx_cons, List.zipIdx_nil, List.filterMap_cons, List.filterMap_nil, Option.map_some, Option.map_none, decide_true, Nat.zero_add, reduceIte, Bool.false_eq_true, true_and, and_true, encL]
      exact ⟨by rw [lineS_len]; exact Nat.le_of_lt (small (by omega)), _, line_at (by omega), hk2⟩
    · simp only [↓sRet, ↓sNil, ↓sIf, ↓sSet, ↓sAsg, ↓sPar, ↓sPar3, ↓sSub, ↓sSub2, ↓sExpr, ↓sExprR, ↓sRetV, ↓sRetN, ↓sRaise, ↓sBrk, ↓sCt, ↓fOf, ↓fFz, ↓fName, ↓fFrz, ↓fC, ↓fBin, ↓fBinN, ↓fT, ↓fNot, ↓fAnd, ↓fOr, ↓fAndV, ↓fOrV, ↓fNotV, ↓fIf, ↓fIfN, ↓fChain, ↓fNil, ↓fCons, ↓fTup, ↓fLst, ↓fNeg, ↓fCall, ↓fIsI, ↓fJoin, ↓fApp, ↓fExt, ↓fPop, ↓fPopAt, ↓fSl, ↓fPart, ↓fNoPart, ↓fSeq, ↓fRng1, ↓fRng2, ↓fEnum, ↓fZip, ↓fGN, ↓fGT, ↓fGcons, ↓fGnil, ↓fLc, ↓fLl, ↓fYes, ↓fOwn, ↓fAt2, ↓fCount, ↓fIndex, ↓fRev, ↓fMulL, ↓fSel, ↓sTry, ↓fIsP, ↓isLk, ↓L3.gSub, ↓gMulI, ↓gDiv, ↓gMod, ↓gPow, ↓gLt, ↓gLe, ↓gGt, ↓gGe, ↓gI, ↓gIC, ↓gAdd, ↓gIx, ↓gSl, ↓gLen, ↓gAll, ↓gAny, ↓gSum, ↓gMin2, ↓gMax2, ↓gList, ↓gTuple, ↓gNe, ↓gNotIn, ↓gIs, ↓gIsNot, ↓isNone, ↓look, ↓withD, ↓isD, ↓isB, ↓areD, ↓withDs, ↓isBor, ↓isLst, ↓isLl, ↓isI, ↓items1, ↓itemsD, ↓argsM, ↓putB, ↓pjs, ↓outsOf, ↓fin, ↓startE, ↓wipeK, ↓wipeE, ↓unw, ↓noOwnB, gEq_ii, gEq_ss, gEq_bb, own_no, own_dat, own_lst, own_ll, List.getD_cons_zero, List.getD_cons_succ, List.set_cons_zero, List.set_cons_succ, List.replicate_succ, List.replicate_zero, List.cons_append, List.nil_append, List.length_cons, List.length_nil, List.map_cons, List.map_nil, List.all_cons, List.all_nil, Nat.reduceAdd, Nat.reduceSub, Bool.not_false, Bool.not_true, Bool.and_true, Bool.and_self, if_true, if_false, reduceCtorEq, List.zipIdx_cons, List.zipIdx_nil, List.filterMap_cons, List.filterMap_nil, Option.map_some, Option.map_none, decide_true, Nat.zero_add, reduceIte, Bool.false_eq_true, true_and, and_true, o3]
      have ec : colOf p.reverse i = (colOf p i).reverse := by unfold colOf; rw [List.map_reverse]
      obtain ⟨ys, j1, j2, j3⟩ := join_chs (colOf p.reverse i)
      refine ⟨ys, j1, by rw [j2]; unfold colOf; rw [List.length_map, List.length_reverse]; omega, ?_, ?_⟩
      · rw [List.length_map, List.length_take]; exact small (by omega)
      · rw [j3, ec]
        refine hM _ ⟨.dat (.int (i : Nat)), x3, ?_, o3⟩
        have et : (quartP p w).take (i + 1) = (quartP p w).take i ++ [(colOf p i).reverse] := by
          have z : (quartP p w)[i]? = some ((colOf p i).reverse) := by
            unfold quartP
            rw [List.getElem?_map, List.getElem?_range hiw]
            rfl
          rw [List.take_add_one, z]
          rfl
        rw [et, List.map_append]
        rfl
  · obtain ⟨x2, x3, rfl, o3⟩ := hP
    refine hN _ ?_
    simp only [↓sRet, ↓sNil, ↓sIf, ↓sSet, ↓sAsg, ↓sPar, ↓sPar3, ↓sSub, ↓sSub2, ↓sExpr, ↓sExprR, ↓sRetV, ↓sRetN, ↓sRaise, ↓sBrk, ↓sCt, ↓fOf, ↓fFz, ↓fName, ↓fFrz, ↓fC, ↓fBin, ↓fBinN, ↓fT, ↓fNot, ↓fAnd, ↓fOr, ↓fAndV, ↓fOrV, ↓fNotV, ↓fIf, ↓fIfN, ↓fChain, ↓fNil, ↓fCons, ↓fTup, ↓fLst, ↓fNeg, ↓fCall, ↓fIsI, ↓fJoin, ↓fApp, ↓fExt, ↓fPop, ↓fPopAt, ↓fSl, ↓fPart, ↓fNoPart, ↓fSeq, ↓fRng1, ↓fRng2, ↓fEnum, ↓fZip, ↓fGN, ↓fGT, ↓fGcons, ↓fGnil, ↓fLc, ↓fLl, ↓fYes, ↓fOwn, ↓fAt2, ↓fCount, ↓fIndex, ↓fRev, ↓fMulL, ↓fSel, ↓sTry, ↓fIsP, ↓isLk, ↓L3.gSub, ↓gMulI, ↓gDiv, ↓gMod, ↓gPow, ↓gLt, ↓gLe, ↓gGt, ↓gGe, ↓gI, ↓gIC, ↓gAdd, ↓gIx, ↓gSl, ↓gLen, ↓gAll, ↓gAny, ↓gSum, ↓gMin2, ↓gMax2, ↓gList, ↓gTuple, ↓gNe, ↓gNotIn, ↓gIs, ↓gIsNot, ↓isNone, ↓look, ↓withD, ↓isD, ↓isB, ↓areD, ↓withDs, ↓isBor, ↓isLst, ↓isLl, ↓isI, ↓items1, ↓itemsD, ↓argsM, ↓putB, ↓pjs, ↓outsOf, ↓fin, ↓startE, ↓wipeK, ↓wipeE, ↓unw, ↓noOwnB, gEq_ii, gEq_ss, gEq_bb, own_no, own_dat, own_lst, own_ll, List.getD_cons_zero, List.getD_cons_succ, List.set_cons_zero, List.set_cons_succ, List.replicate_succ, List.replicate_zero, List.cons_append, List.nil_append, List.length_cons, List.length_nil, List.map_cons, List.map_nil, List.all_cons, List.all_nil, Nat.reduceAdd, Nat.reduceSub, Bool.not_false, Bool.not_true, Bool.and_true, Bool.and_self, if_true, if_false, reduceCtorEq, List.zipIdx_cons, List.zipIdx_nil, List.filterMap_cons, List.filterMap_nil, Option.map_some, Option.map_none, decide_true, Nat.zero_add, reduceIte, Bool.false_eq_true, true_and, and_true]
    rw [rangeD_len]
    have e : (quartP p w).take w = quartP p w := List.take_of_length_le (by unfold quartP; rw [List.length_map, List.length_range]; exact Nat.le_refl _)
    first
      | (rw [show 0 + (w : Int).toNat = w by omega, e]; exact hp)
      | (rw [show (w : Int).toNat = w by omega, e]; exact hp)
theorem quart_wf {p : List (List Bool)} {h w : Nat} (P : Wf h w p) : Wf w h (quartP p w) := ⟨P.w1, P.w8, P.h1, P.h8, by unfold quartP; rw [List.length_map, List.length_range], fun r hr => by
  unfold quartP at hr
  obtain ⟨c, _, rfl⟩ := List.mem_map.mp hr
  unfold colOf
  rw [List.length_reverse, List.length_map, P.len]⟩
def T_quarter (cs : Cs) : TXS :=
  (sSeq (sExpr (fOwn [none] (dsp_need_picture cs) (fCons (fName 0) fNil)))
  (sRet (fOwn [none] (dsp_quarter_of) (fCons (fName 0) fNil))))

def dsp_quarter (cs : Cs) : DSp := dspPic cs fun p _ w => .dat (encP (quartP p w))
theorem good_quarter (cs : Cs) : Good [] 1 1 (T_quarter cs) (dsp_quarter cs) := by
  rintro es post xp ⟨d, rfl, hs, hx, hp⟩ _
  unfold T_quarter
  refine sSeq_g fun N hN => ?_
  simp only [↓sRet, ↓sNil, ↓sIf, ↓sSet, ↓sAsg, ↓sPar, ↓sPar3, ↓sSub, ↓sSub2, ↓sExpr, ↓sExprR, ↓sRetV, ↓sRetN, ↓sRaise, ↓sBrk, ↓sCt, ↓fOf, ↓fFz, ↓fName, ↓fFrz, ↓fC, ↓fBin, ↓fBinN, ↓fT, ↓fNot, ↓fAnd, ↓fOr, ↓fAndV, ↓fOrV, ↓fNotV, ↓fIf, ↓fIfN, ↓fChain, ↓fNil, ↓fCons, ↓fTup, ↓fLst, ↓fNeg, ↓fCall, ↓fIsI, ↓fJoin, ↓fApp, ↓fExt, ↓fPop, ↓fPopAt, ↓fSl, ↓fPart, ↓fNoPart, ↓fSeq, ↓fRng1, ↓fRng2, ↓fEnum, ↓fZip, ↓fGN, ↓fGT, ↓fGcons, ↓fGnil, ↓fLc, ↓fLl, ↓fYes, ↓fOwn, ↓fAt2, ↓fCount, ↓fIndex, ↓fRev, ↓fMulL, ↓fSel, ↓sTry, ↓fIsP, ↓isLk, ↓L3.gSub, ↓gMulI, ↓gDiv, ↓gMod, ↓gPow, ↓gLt, ↓gLe, ↓gGt, ↓gGe, ↓gI, ↓gIC, ↓gAdd, ↓gIx, ↓gSl, ↓gLen, ↓gAll, ↓gAny, ↓gSum, ↓gMin2, ↓gMax2, ↓gList, ↓gTuple, ↓gNe, ↓gNotIn, ↓gIs, ↓gIsNot, ↓isNone, ↓look, ↓withD, ↓isD, ↓isB, ↓areD, ↓withDs, ↓isBor, ↓isLst, ↓isLl, ↓isI, ↓items1, ↓itemsD, ↓argsM, ↓putB, ↓pjs, ↓outsOf, ↓fin, ↓startE, ↓wipeK, ↓wipeE, ↓unw, ↓noOwnB, gEq_ii, gEq_ss, gEq_bb, own_no, own_dat, own_lst, own_ll, List.getD_cons_zero, List.getD_cons_succ, List.set_cons_zero, List.set_cons_succ, List.replicate_succ, List.replicate_zero, List.cons_append, List.nil_append, List.length_cons, List.length_nil, List.map_cons, List.map_nil, List.all_cons, List.all_nil, Nat.reduceAdd, Nat.reduceSub, Bool.not_false, Bool.not_true, Bool.and_true, Bool.and_self, if_true, if_false, reduceCtorEq, List.zipIdx_cons, List.zipIdx_nil, List.filterMap_cons, List.filterMap_nil, Option.map_some, Option.map_none, decide_true, Nat.zero_add, reduceIte, Bool.false_eq_true, true_and, and_true, dsp_need_picture]
  refine ⟨d, rfl, hs, fun pd => hN _ ?_, fun z => hx z⟩
  clear hN N
  obtain ⟨p, h, w, rfl, P⟩ := isPic_enc pd
  simp only [↓sRet, ↓sNil, ↓sIf, ↓sSet, ↓sAsg, ↓sPar, ↓sPar3, ↓sSub, ↓sSub2, ↓sExpr, ↓sExprR, ↓sRetV, ↓sRetN, ↓sRaise, ↓sBrk, ↓sCt, ↓fOf, ↓fFz, ↓fName, ↓fFrz, ↓fC, ↓fBin, ↓fBinN, ↓fT, ↓fNot, ↓fAnd, ↓fOr, ↓fAndV, ↓fOrV, ↓fNotV, ↓fIf, ↓fIfN, ↓fChain, ↓fNil, ↓fCons, ↓fTup, ↓fLst, ↓fNeg, ↓fCall, ↓fIsI, ↓fJoin, ↓fApp, ↓fExt, ↓fPop, ↓fPopAt, ↓fSl, ↓fPart, ↓fNoPart, ↓fSeq, ↓fRng1, ↓fRng2, ↓fEnum, ↓fZip, ↓fGN, ↓fGT, ↓fGcons, ↓fGnil, ↓fLc, ↓fLl, ↓fYes, ↓fOwn, ↓fAt2, ↓fCount, ↓fIndex, ↓fRev, ↓fMulL, ↓fSel, ↓sTry, ↓fIsP, ↓isLk, ↓L3.gSub, ↓gMulI, ↓gDiv, ↓gMod, ↓gPow, ↓gLt, ↓gLe, ↓gGt, ↓gGe, ↓gI, ↓gIC, ↓gAdd, ↓gIx, ↓gSl, ↓gLen, ↓gAll, ↓gAny, ↓gSum, ↓gMin2, ↓gMax2, ↓gList, ↓gTuple, ↓gNe, ↓gNotIn, ↓gIs, ↓gIsNot, ↓isNone, ↓look, ↓withD, ↓isD, ↓isB, ↓areD, ↓withDs, ↓isBor, ↓isLst, ↓isLl, ↓isI, ↓items1, ↓itemsD, ↓argsM, ↓putB, ↓pjs, ↓outsOf, ↓fin, ↓startE, ↓wipeK, ↓wipeE, ↓unw, ↓noOwnB, gEq_ii, gEq_ss, gEq_bb, own_no, own_dat, own_lst, own_ll, List.getD_cons_zero, List.getD_cons_succ, List.set_cons_zero, List.set_cons_succ, List.replicate_succ, List.replicate_zero, List.cons_append, List.nil_append, List.length_cons, List.length_nil, List.map_cons, List.map_nil, List.all_cons, List.all_nil, Nat.reduceAdd, Nat.reduceSub, Bool.not_false, Bool.not_true, Bool.and_true, Bool.and_self, if_true, if_false, reduceCtorEq, List.zipIdx_cons, List.zipIdx_nil, List.filterMap_cons, List.filterMap_nil, Option.map_some, Option.map_none, decide_true, Nat.zero_add, reduceIte, Bool.false_eq_true, true_and, and_true, dsp_quarter_of]
  exact ⟨p, h, w, rfl, P.rect, hp p h w rfl P⟩
theorem quarter_ok {cs : Cs} {p : List (List Bool)} {h w : Nat} (P : Wf h w p) {post : E → List E → Prop} {xp : Value → List E → Prop} (hp : post (.dat (encP (quartP p w))) []) : dsp_quarter cs [.dat (encP p)] post xp :=
  pic_ok (f := fun p _ w => .dat (encP (quartP p w))) P (fun h' w' P' => by obtain ⟨rfl, rfl⟩ := P.uniq P'; rfl) hp
end My

namespace My
open PySem PySem.Spec PyProof.Rows L2 L3
/-! ### shrunk -/
def T_is_whole : TXS :=
  (sRet (fOf (fAndV (fIsI "int" (fName 0)) (fAndV (fNotV (fIsI "bool" (fName 0))) (fChain gLe gLe (fName 1) (fName 0) (fName 2))))))

def isWhole (d : PyData) (lo hi : Int) : Bool := match d with
  | .int i => decide (lo ≤ i) && decide (i ≤ hi)
  | _ => false
def dsp_is_whole : DSp := fun es post _ => ∃ d lo hi, es = [.dat d, .dat (.int lo), .dat (.int hi)] ∧ post (.dat (.bool (isWhole d lo hi))) []
theorem good_is_whole : Good [] 3 3 T_is_whole dsp_is_whole := by
  rintro es post xp ⟨d, lo, hi, rfl, hp⟩ _
  cases d with
  | int i =>
    simp only [T_is_whole, sSeq, sFor, ↓sRet, ↓sNil, ↓sIf, ↓sSet, ↓sAsg, ↓sPar, ↓sPar3, ↓sSub, ↓sSub2, ↓sExpr, ↓sExprR, ↓sRetV, ↓sRetN, ↓sRaise, ↓sBrk, ↓sCt, ↓fOf, ↓fFz, ↓fName, ↓fFrz, ↓fC, ↓fBin, ↓fBinN, ↓fT, ↓fNot, ↓fAnd, ↓fOr, ↓fAndV, ↓fOrV, ↓fNotV, ↓fIf, ↓fIfN, ↓fChain, ↓fNil, ↓fCons, ↓fTup, ↓fLst, ↓fNeg, ↓fCall, ↓fIsI, ↓fJoin, ↓fApp, ↓fExt, ↓fPop, ↓fPopAt, ↓fSl, ↓fPart, ↓fNoPart, ↓fSeq, ↓fRng1, ↓fRng2, ↓fEnum, ↓fZip, ↓fGN, ↓fGT, ↓fGcons, ↓fGnil, ↓fLc, ↓fLl, ↓fYes, ↓fOwn, ↓fAt2, ↓fCount, ↓fIndex, ↓fRev, ↓fMulL, ↓fSel, ↓sTry, ↓fIsP, ↓isLk, ↓L3.gSub, ↓gMulI, ↓gDiv, ↓gMod, ↓gPow, ↓gLt, ↓gLe, ↓gGt, ↓gGe, ↓gI, ↓gIC, ↓gAdd, ↓gIx, ↓gSl, ↓gLen, ↓gAll, ↓gAny, ↓gSum, ↓gMin2, ↓gMax2, ↓gList, ↓gTuple, ↓gNe, ↓gNotIn, ↓gIs, ↓gIsNot, ↓isNone, ↓look, ↓withD, ↓isD, ↓isB, ↓areD, ↓withDs, ↓isBor, ↓isLst, ↓isLl, ↓isI, ↓items1, ↓itemsD, ↓argsM, ↓putB, ↓pjs, ↓outsOf, ↓fin, ↓startE, ↓wipeK, ↓wipeE, ↓unw, ↓noOwnB, gEq_ii, gEq_ss, gEq_bb, own_no, own_dat, own_lst, own_ll, List.getD_cons_zero, List.getD_cons_succ, List.set_cons_zero, List.set_cons_succ, List.replicate_succ, List.replicate_zero, List.cons_append, List.nil_append, List.length_cons, List.length_nil, List.map_cons, List.map_nil, List.all_cons, List.all_nil, Nat.reduceAdd, Nat.reduceSub, Bool.not_false, Bool.not_true, Bool.and_true, Bool.and_self, if_true, if_false, reduceCtorEq, List.zipIdx_cons, List.zipIdx_nil, List.filterMap_cons, List.filterMap_nil, Option.map_some, Option.map_none, decide_true, Nat.zero_add, reduceIte, Bool.false_eq_true, true_and, and_true, ins_int_int, ins_bool_int]
    by_cases h1 : lo ≤ i
    · rw [decide_eq_true h1, if_pos rfl]
      simpa [isWhole, h1] using hp
    · rw [decide_eq_false h1, if_neg Bool.false_ne_true]
      simpa [isWhole, h1] using hp
  | bool b => simp only [T_is_whole, sSeq, sFor, ↓sRet, ↓sNil, ↓sIf, ↓sSet, ↓sAsg, ↓sPar, ↓sPar3, ↓sSub, ↓sSub2, ↓sExpr, ↓sExprR, ↓sRetV, ↓sRetN, ↓sRaise, ↓sBrk, ↓sCt, ↓fOf, ↓fFz, ↓fName, ↓fFrz, ↓fC, ↓fBin, ↓fBinN, ↓fT, ↓fNot, ↓fAnd, ↓fOr, ↓fAndV, ↓fOrV, ↓fNotV, ↓fIf, ↓fIfN, ↓fChain, ↓fNil, ↓fCons, ↓fTup, ↓fLst, ↓fNeg, ↓fCall, ↓fIsI, ↓fJoin, ↓fApp, ↓fExt, ↓fPop, ↓fPopAt, ↓fSl, ↓fPart, ↓fNoPart, ↓fSeq, ↓fRng1, ↓fRng2, ↓fEnum, ↓fZip, ↓fGN, ↓fGT, ↓fGcons, ↓fGnil, ↓fLc, ↓fLl, ↓fYes, ↓fOwn, ↓fAt2, ↓fCount, ↓fIndex, ↓fRev, ↓fMulL, ↓fSel, ↓sTry, ↓fIsP, ↓isLk, ↓L3.gSub, ↓gMulI, ↓gDiv, ↓gMod, ↓gPow, ↓gLt, ↓gLe, ↓gGt, ↓gGe, ↓gI, ↓gIC, ↓gAdd, ↓gIx, ↓gSl, ↓gLen, ↓gAll, ↓gAny, ↓gSum, ↓gMin2, ↓gMax2, ↓gList, ↓gTuple, ↓gNe, ↓gNotIn, ↓gIs, ↓gIsNot, ↓isNone, ↓look, ↓withD, ↓isD, ↓isB, ↓areD, ↓withDs, ↓isBor, ↓isLst, ↓isLl, ↓isI, ↓items1, ↓itemsD, ↓argsM, ↓putB, ↓pjs, ↓outsOf, ↓fin, ↓startE, ↓wipeK, ↓wipeE, ↓unw, ↓noOwnB, gEq_ii, gEq_ss, gEq_bb, own_no, own_dat, own_lst, own_ll, List.getD_cons_zero, List.getD_cons_succ, List.set_cons_zero, List.set_cons_succ, List.replicate_succ, List.replicate_zero, List.cons_append, List.nil_append, List.length_cons, List.length_nil, List.map_cons, List.map_nil, List.all_cons, List.all_nil, Nat.reduceAdd, Nat.reduceSub, Bool.not_false, Bool.not_true, Bool.and_true, Bool.and_self, if_true, if_false, reduceCtorEq, List.zipIdx_cons, List.zipIdx_nil, List.filterMap_cons, List.filterMap_nil, Option.map_some, Option.map_none, decide_true, Nat.zero_add, reduceIte, Bool.false_eq_true, true_and, and_true, ins_int_bool, ins_bool_bool]; exact hp
  | _ => simp only [T_is_whole, sSeq, sFor, ↓sRet, ↓sNil, ↓sIf, ↓sSet, ↓sAsg, ↓sPar, ↓sPar3, ↓sSub, ↓sSub2, ↓sExpr, ↓sExprR, ↓sRetV, ↓sRetN, ↓sRaise, ↓sBrk, ↓sCt, ↓fOf, ↓fFz, ↓fName, ↓fFrz, ↓fC, ↓fBin, ↓fBinN, ↓fT, ↓fNot, ↓fAnd, ↓fOr, ↓fAndV, ↓fOrV, ↓fNotV, ↓fIf, ↓fIfN, ↓fChain, ↓fNil, ↓fCons, ↓fTup, ↓fLst, ↓fNeg, ↓fCall, ↓fIsI, ↓fJoin, ↓fApp, ↓fExt, ↓fPop, ↓fPopAt, ↓fSl, ↓fPart, ↓fNoPart, ↓fSeq, ↓fRng1, ↓fRng2, ↓fEnum, ↓fZip, ↓fGN, ↓fGT, ↓fGcons, ↓fGnil, ↓fLc, ↓fLl, ↓fYes, ↓fOwn, ↓fAt2, ↓fCount, ↓fIndex, ↓fRev, ↓fMulL, ↓fSel, ↓sTry, ↓fIsP, ↓isLk, ↓L3.gSub, ↓gMulI, ↓gDiv, ↓gMod, ↓gPow, ↓gLt, ↓gLe, ↓gGt, ↓gGe, ↓gI, ↓gIC, ↓gAdd, ↓gIx, ↓gSl, ↓gLen, ↓gAll, ↓gAny, ↓gSum, ↓gMin2, ↓gMax2, ↓gList, ↓gTuple, ↓gNe, ↓gNotIn, ↓gIs, ↓gIsNot, ↓isNone, ↓look, ↓withD, ↓isD, ↓isB, ↓areD, ↓withDs, ↓isBor, ↓isLst, ↓isLl, ↓isI, ↓items1, ↓itemsD, ↓argsM, ↓putB, ↓pjs, ↓outsOf, ↓fin, ↓startE, ↓wipeK, ↓wipeE, ↓unw, ↓noOwnB, gEq_ii, gEq_ss, gEq_bb, own_no, own_dat, own_lst, own_ll, List.getD_cons_zero, List.getD_cons_succ, List.set_cons_zero, List.set_cons_succ, List.replicate_succ, List.replicate_zero, List.cons_append, List.nil_append, List.length_cons, List.length_nil, List.map_cons, List.map_nil, List.all_cons, List.all_nil, Nat.reduceAdd, Nat.reduceSub, Bool.not_false, Bool.not_true, Bool.and_true, Bool.and_self, if_true, if_false, reduceCtorEq, List.zipIdx_cons, List.zipIdx_nil, List.filterMap_cons, List.filterMap_nil, Option.map_some, Option.map_none, decide_true, Nat.zero_add, reduceIte, Bool.false_eq_true, true_and, and_true, ins_int_none, ins_int_str, ins_int_list, ins_int_tuple, ins_int_dict]; exact hp
def T_cells_in : TXS :=
  (sSeq (sSet 1 (fLst fNil))
  (sSeq (sFor (fEnum (fCons (fName 0) fNil)) (fGT 2 (fGcons (fGN 2) (fGcons (fGN 3) fGnil))) (sExprR (fExt (fName 1) (fLc (fEnum (fCons (fName 3) fNil)) (fGT 2 (fGcons (fGN 4) (fGcons (fGN 5) fGnil))) (fT (fBin gEq (fName 5) (fC (.str "#")))) (fTup (fCons (fName 2) (fCons (fName 4) fNil))) [4, 5]))))
  (sRetV 1)))

def dsp_cells_in : DSp := dsp__law_cells
theorem good_cells_in : Good [] 6 1 T_cells_in dsp_cells_in := by
  rintro es post xp ⟨p, h, w, rfl, W, hp⟩ _
  unfold T_cells_in
  refine sSeq_g fun N hN => ?_
  simp only [↓sRet, ↓sNil, ↓sIf, ↓sSet, ↓sAsg, ↓sPar, ↓sPar3, ↓sSub, ↓sSub2, ↓sExpr, ↓sExprR, ↓sRetV, ↓sRetN, ↓sRaise, ↓sBrk, ↓sCt, ↓fOf, ↓fFz, ↓fName, ↓fFrz, ↓fC, ↓fBin, ↓fBinN, ↓fT, ↓fNot, ↓fAnd, ↓fOr, ↓fAndV, ↓fOrV, ↓fNotV, ↓fIf, ↓fIfN, ↓fChain, ↓fNil, ↓fCons, ↓fTup, ↓fLst, ↓fNeg, ↓fCall, ↓fIsI, ↓fJoin, ↓fApp, ↓fExt, ↓fPop, ↓fPopAt, ↓fSl, ↓fPart, ↓fNoPart, ↓fSeq, ↓fRng1, ↓fRng2, ↓fEnum, ↓fZip, ↓fGN, ↓fGT, ↓fGcons, ↓fGnil, ↓fLc, ↓fLl, ↓fYes, ↓fOwn, ↓fAt2, ↓fCount, ↓fIndex, ↓fRev, ↓fMulL, ↓fSel, ↓sTry, ↓fIsP, ↓isLk, ↓L3.gSub, ↓gMulI, ↓gDiv, ↓gMod, ↓gPow, ↓gLt, ↓gLe, ↓gGt, ↓gGe, ↓gI, ↓gIC, ↓gAdd, ↓gIx, ↓gSl, ↓gLen, ↓gAll, ↓gAny, ↓gSum, ↓gMin2, ↓gMax2, ↓gList, ↓gTuple, ↓gNe, ↓gNotIn, ↓gIs, ↓gIsNot, ↓isNone, ↓look, ↓withD, ↓isD, ↓isB, ↓areD, ↓withDs, ↓isBor, ↓isLst, ↓isLl, ↓isI, ↓items1, ↓itemsD, ↓argsM, ↓putB, ↓pjs, ↓outsOf, ↓fin, ↓startE, ↓wipeK, ↓wipeE, ↓unw, ↓noOwnB, gEq_ii, gEq_ss, gEq_bb, own_no, own_dat, own_lst, own_ll, List.getD_cons_zero, List.getD_cons_succ, List.set_cons_zero, List.set_cons_succ, List.replicate_succ, List.replicate_zero, List.cons_append, List.nil_append, List.length_cons, List.length_nil, List.map_cons, List.map_nil, List.all_cons, List.all_nil, Nat.reduceAdd, Nat.reduceSub, Bool.not_false, Bool.not_true, Bool.and_true, Bool.and_self, if_true, if_false, reduceCtorEq, List.zipIdx_cons, List.zipIdx_nil, List.filterMap_cons, List.filterMap_nil, Option.map_some, Option.map_none, decide_true, Nat.zero_add, reduceIte, Bool.false_eq_true, true_and, and_true]
  refine hN _ ?_
  clear hN N
  refine sSeq_g fun N hN => sFor_g fun F hF => ?_
  simp only [↓sRet, ↓sNil, ↓sIf, ↓sSet, ↓sAsg, ↓sPar, ↓sPar3, ↓sSub, ↓sSub2, ↓sExpr, ↓sExprR, ↓sRetV, ↓sRetN, ↓sRaise, ↓sBrk, ↓sCt, ↓fOf, ↓fFz, ↓fName, ↓fFrz, ↓fC, ↓fBin, ↓fBinN, ↓fT, ↓fNot, ↓fAnd, ↓fOr, ↓fAndV, ↓fOrV, ↓fNotV, ↓fIf, ↓fIfN, ↓fChain, ↓fNil, ↓fCons, ↓fTup, ↓fLst, ↓fNeg, ↓fCall, ↓fIsI, ↓fJoin, ↓fApp, ↓fExt, ↓fPop, ↓fPopAt, ↓fSl, ↓fPart, ↓fNoPart, ↓fSeq, ↓fRng1, ↓fRng2, ↓fEnum, ↓fZip, ↓fGN, ↓fGT, ↓fGcons, ↓fGnil, ↓fLc, ↓fLl, ↓fYes, ↓fOwn, ↓fAt2, ↓fCount, ↓fIndex, ↓fRev, ↓fMulL, ↓fSel, ↓sTry, ↓fIsP, ↓isLk, ↓L3.gSub, ↓gMulI, ↓gDiv, ↓gMod, ↓gPow, ↓gLt, ↓gLe, ↓gGt, ↓gGe, ↓gI, ↓gIC, ↓gAdd, ↓gIx, ↓gSl, ↓gLen, ↓gAll, ↓gAny, ↓gSum, ↓gMin2, ↓gMax2, ↓gList, ↓gTuple, ↓gNe, ↓gNotIn, ↓gIs, ↓gIsNot, ↓isNone, ↓look, ↓withD, ↓isD, ↓isB, ↓areD, ↓withDs, ↓isBor, ↓isLst, ↓isLl, ↓isI, ↓items1, ↓itemsD, ↓argsM, ↓putB, ↓pjs, ↓outsOf, ↓fin, ↓startE, ↓wipeK, ↓wipeE, ↓unw, ↓noOwnB, gEq_ii, gEq_ss, gEq_bb, own_no, own_dat, own_lst, own_ll, List.getD_cons_zero, List.getD_cons_succ, List.set_cons_zero, List.set_cons_succ, List.replicate_succ, List.replicate_zero, List.cons_append, List.nil_append, List.length_cons, List.length_nil, List.map_cons, List.map_nil, List.all_cons, List.all_nil, Nat.reduceAdd, Nat.reduceSub, Bool.not_false, Bool.not_true, Bool.and_true, Bool.and_self, if_true, if_false, reduceCtorEq, List.zipIdx_cons, List.zipIdx_nil, List.filterMap_cons, List.filterMap_nil, Option.map_some, Option.map_none, decide_true, Nat.zero_add, reduceIte, Bool.false_eq_true, true_and, and_true, encP]
  refine hF _ _ ?_
  clear hF F
  refine forR_inv (fun i ρ => ∃ x2 x3 x4 x5, ρ = [.dat (encP p), .lst ((cellsTo p i).map encC), x2, x3, x4, x5] ∧ x4.own = false ∧ x5.own = false) 0 (fun i d ρ M hd hP hM => ?_) ⟨_, _, _, _, rfl, rfl, rfl⟩ (fun ρ hP => ?_)
  · obtain ⟨x2, x3, x4, x5, rfl, o4, o5⟩ := hP
    rw [Nat.zero_add] at *
    have hi : i < p.length := by
      have z := (List.getElem?_eq_some_iff.mp hd).1
      rw [enumD_len, List.length_map] at z
      exact z
    have e : (p.map encL)[i]? = some (encL p[i]) := by rw [List.getElem?_map, List.getElem?_eq_getElem hi]; rfl
    rw [enumD_get e] at hd
    cases hd
    have hl := W.row _ (List.getElem_mem hi)
    have w8 := W.w8
    have h8 := W.h8
    have pl := W.len
    simp only [↓sRet, ↓sNil, ↓sIf, ↓sSet, ↓sAsg, ↓sPar, ↓sPar3, ↓sSub, ↓sSub2, ↓sExpr, ↓sExprR, ↓sRetV, ↓sRetN, ↓sRaise, ↓sBrk, ↓sCt, ↓fOf, ↓fFz, ↓fName, ↓fFrz, ↓fC, ↓fBin, ↓fBinN, ↓fT, ↓fNot, ↓fAnd, ↓fOr, ↓fAndV, ↓fOrV, ↓fNotV, ↓fIf, ↓fIfN, ↓fChain, ↓fNil, ↓fCons, ↓fTup, ↓fLst, ↓fNeg, ↓fCall, ↓fIsI, ↓fJoin, ↓fApp, ↓fExt, ↓fPop, ↓fPopAt, ↓fSl, ↓fPart, ↓fNoPart, ↓fSeq, ↓fRng1, ↓fRng2, ↓fEnum, ↓fZip, ↓fGN, ↓fGT, ↓fGcons, ↓fGnil, ↓fLc, ↓fLl, ↓fYes, ↓fOwn, ↓fAt2, ↓fCount, ↓fIndex, ↓fRev, ↓fMulL, ↓fSel, ↓sTry, ↓fIsP, ↓isLk, ↓L3.gSub, ↓gMulI, ↓gDiv, ↓gMod, ↓gPow, ↓gLt, ↓gLe, ↓gGt, ↓gGe, ↓gI, ↓gIC, ↓gAdd, ↓gIx, ↓gSl, ↓gLen, ↓gAll, ↓gAny, ↓gSum, ↓gMin2, ↓gMax2, ↓gList, ↓gTuple, ↓gNe, ↓gNotIn, ↓gIs, ↓gIsNot, ↓isNone, ↓look, ↓withD, ↓isD, ↓isB, ↓areD, ↓withDs, ↓isBor, ↓isLst, ↓isLl, ↓isI, ↓items1, ↓itemsD, ↓argsM, ↓putB, ↓pjs, ↓outsOf, ↓fin, ↓startE, ↓wipeK, ↓wipeE, ↓unw, ↓noOwnB, gEq_ii, gEq_ss, gEq_bb, own_no, own_dat, own_lst, own_ll, List.getD_cons_zero, List.getD_cons_succ, List.set_cons_zero, List.set_cons_succ, List.replicate_succ, List.replicate_zero, List.cons_append, List.nil_append, List.length_cons, List.length_nil, List.map_cons, List.map_nil, List.all_cons, List.all_nil, Nat.reduceAdd, Nat.reduceSub, Bool.not_false, Bool.not_true, Bool.and_true, Bool.and_self, if_true, if_false, reduceCtorEq, List.zipIdx_cons, List.zipIdx_nil, List.filterMap_cons, List.filterMap_nil, Option.map_some, Option.map_none, decide_true, Nat.zero_add, reduceIte, Bool.false_eq_true, true_and, and_true, encL, o4, o5]
    rw [signs_map, enumD_map]
    refine ⟨by rw [List.length_map, List.length_zipIdx]; exact small (by omega), ?_⟩
    refine lcR_encF (fun q : Bool × Nat => PyData.tuple [.int (q.2 : Nat), chD q.1]) (fun q => q.1) (fun q => encC (i, q.2)) (fun q _ k ht hf => ?_) ?_
    · simp only [lcStep, ↓sRet, ↓sNil, ↓sIf, ↓sSet, ↓sAsg, ↓sPar, ↓sPar3, ↓sSub, ↓sSub2, ↓sExpr, ↓sExprR, ↓sRetV, ↓sRetN, ↓sRaise, ↓sBrk, ↓sCt, ↓fOf, ↓fFz, ↓fName, ↓fFrz, ↓fC, ↓fBin, ↓fBinN, ↓fT, ↓fNot, ↓fAnd, ↓fOr, ↓fAndV, ↓fOrV, ↓fNotV, ↓fIf, ↓fIfN, ↓fChain, ↓fNil, ↓fCons, ↓fTup, ↓fLst, ↓fNeg, ↓fCall, ↓fIsI, ↓fJoin, ↓fApp, ↓fExt, ↓fPop, ↓fPopAt, ↓fSl, ↓fPart, ↓fNoPart, ↓fSeq, ↓fRng1, ↓fRng2, ↓fEnum, ↓fZip, ↓fGN, ↓fGT, ↓fGcons, ↓fGnil, ↓fLc, ↓fLl, ↓fYes, ↓fOwn, ↓fAt2, ↓fCount, ↓fIndex, ↓fRev, ↓fMulL, ↓fSel, ↓sTry, ↓fIsP, ↓isLk, ↓L3.gSub, ↓gMulI, ↓gDiv, ↓gMod, ↓gPow, ↓gLt, ↓gLe, ↓gGt, ↓gGe, ↓gI, ↓gIC, ↓gAdd, ↓gIx, ↓gSl, ↓gLen, ↓gAll, ↓gAny, ↓gSum, ↓gMin2, ↓gMax2, ↓gList, ↓gTuple, ↓gNe, ↓gNotIn, ↓gIs, ↓gIsNot, ↓isNone, ↓look, ↓withD, ↓isD, ↓isB, ↓areD, ↓withDs, ↓isBor, ↓isLst, ↓isLl, ↓isI, ↓items1, ↓itemsD, ↓argsM, ↓putB, ↓pjs, ↓outsOf, ↓fin, ↓startE, ↓wipeK, ↓wipeE, ↓unw, ↓noOwnB, gEq_ii, gEq_ss, gEq_bb, own_no, own_dat, own_lst, own_ll, List.getD_cons_zero, List.getD_cons_succ, List.set_cons_zero, List.set_cons_succ, List.replicate_succ, List.replicate_zero, List.cons_append, List.nil_append, List.length_cons, List.length_nil, List.map_cons, List.map_nil, List.all_cons, List.all_nil, Nat.reduceAdd, Nat.reduceSub, Bool.not_false, Bool.not_true, Bool.and_true, Bool.and_self, if_true, if_false, reduceCtorEq, List.zipIdx_cons, List.zipIdx_nil, List.filterMap_cons, List.filterMap_nil, Option.map_some, Option.map_none, decide_true, Nat.zero_add, reduceIte, Bool.false_eq_true, true_and, and_true, chD]
      rw [hash_chS]
      cases e : q.1 with
      | true =>
        rw [show decide (chS true = chS true) = true by decide]
        exact ht e
      | false =>
        rw [show decide (chS false = chS true) = false by decide]
        exact hf e
    · simp only [↓sRet, ↓sNil, ↓sIf, ↓sSet, ↓sAsg, ↓sPar, ↓sPar3, ↓sSub, ↓sSub2, ↓sExpr, ↓sExprR, ↓sRetV, ↓sRetN, ↓sRaise, ↓sBrk, ↓sCt, ↓fOf, ↓fFz, ↓fName, ↓fFrz, ↓fC, ↓fBin, ↓fBinN, ↓fT, ↓fNot, ↓fAnd, ↓fOr, ↓fAndV, ↓fOrV, ↓fNotV, ↓fIf, ↓fIfN, ↓fChain, ↓fNil, ↓fCons, ↓fTup, ↓fLst, ↓fNeg, ↓fCall, ↓fIsI, ↓fJoin, ↓fApp, ↓fExt, ↓fPop, ↓fPopAt, ↓fSl, ↓fPart, ↓fNoPart, ↓fSeq, ↓fRng1, ↓fRng2, ↓fEnum, ↓fZip, ↓fGN, ↓fGT, ↓fGcons, ↓fGnil, ↓fLc, ↓fLl, ↓fYes, ↓fOwn, ↓fAt2, ↓fCount, ↓fIndex, ↓fRev, ↓fMulL, ↓fSel, ↓sTry, ↓fIsP, ↓isLk, ↓L3.gSub, ↓gMulI, ↓gDiv, ↓gMod, ↓gPow, ↓gLt, ↓gLe, ↓gGt, ↓gGe, ↓gI, ↓gIC, ↓gAdd, ↓gIx, ↓gSl, ↓gLen, ↓gAll, ↓gAny, ↓gSum, ↓gMin2, ↓gMax2, ↓gList, ↓gTuple, ↓gNe, ↓gNotIn, ↓gIs, ↓gIsNot, ↓isNone, ↓look, ↓withD, ↓isD, ↓isB, ↓areD, ↓withDs, ↓isBor, ↓isLst, ↓isLl, ↓isI, ↓items1, ↓itemsD, ↓argsM, ↓putB, ↓pjs, ↓outsOf, ↓fin, ↓startE, ↓wipeK, ↓wipeE, ↓unw, ↓noOwnB, gEq_ii, gEq_ss, gEq_bb, own_no, own_dat, own_lst, own_ll, List.getD_cons_zero, List.getD_cons_succ, List.set_cons_zero, List.set_cons_succ, List.replicate_succ, List.replicate_zero, List.cons_append, List.nil_append, List.length_cons, List.length_nil, List.map_cons, List.map_nil, List.all_cons, List.all_nil, Nat.reduceAdd, Nat.reduceSub, Bool.not_false, Bool.not_true, Bool.and_true, Bool.and_self, if_true, if_false, reduceCtorEq, List.zipIdx_cons, List.zipIdx_nil, List.filterMap_cons, List.filterMap_nil, Option.map_some, Option.map_none, decide_true, Nat.zero_add, reduceIte, Bool.false_eq_true, true_and, and_true, o4, o5]
      have z := zip_filter (fun b : Bool => b) false p[i] 0
      have e1 : ((p[i].zipIdx).filter fun q => q.1).map (fun q => encC (i, q.2)) = (rowCells i (p.getD i [])).map encC := by
        have z2 := congrArg (List.map fun c : Nat => encC (i, c)) z
        rw [List.map_map, List.map_map] at z2
        unfold rowCells
        rw [List.getD_eq_getElem?_getD (l := p), List.getElem?_eq_getElem hi, List.map_map]
        refine Eq.trans z2 (List.map_congr_left fun c _ => ?_)
        show encC (i, 0 + c) = encC (i, c)
        rw [Nat.zero_add]
      rw [e1]
      have l1 := cellsTo_len (p := p) (w := w) (fun r hr => Nat.le_of_eq (W.row r hr)) i
      have l2 : (rowCells i (p.getD i [])).length ≤ w := by
        rw [List.getD_eq_getElem?_getD, List.getElem?_eq_getElem hi]
        exact Nat.le_trans (rowCells_len _ _) (Nat.le_of_eq hl)
      have l3 : i * w ≤ 8 * 8 := Nat.mul_le_mul (by omega) w8
      refine ⟨by rw [List.length_map, List.length_map]; exact Nat.le_of_lt (small (by omega)), ?_⟩
      refine hM _ ⟨.dat (.int (i : Nat)), .dat (encL p[i]), x4, x5, ?_, o4, o5⟩
      rw [cellsTo_succ, List.map_append]
      rfl
  · obtain ⟨x2, x3, x4, x5, rfl, o4, o5⟩ := hP
    refine hN _ ?_
    simp only [↓sRet, ↓sNil, ↓sIf, ↓sSet, ↓sAsg, ↓sPar, ↓sPar3, ↓sSub, ↓sSub2, ↓sExpr, ↓sExprR, ↓sRetV, ↓sRetN, ↓sRaise, ↓sBrk, ↓sCt, ↓fOf, ↓fFz, ↓fName, ↓fFrz, ↓fC, ↓fBin, ↓fBinN, ↓fT, ↓fNot, ↓fAnd, ↓fOr, ↓fAndV, ↓fOrV, ↓fNotV, ↓fIf, ↓fIfN, ↓fChain, ↓fNil, ↓fCons, ↓fTup, ↓fLst, ↓fNeg, ↓fCall, ↓fIsI, ↓fJoin, ↓fApp, ↓fExt, ↓fPop, ↓fPopAt, ↓fSl, ↓fPart, ↓fNoPart, ↓fSeq, ↓fRng1, ↓fRng2, ↓fEnum, ↓fZip, ↓fGN, ↓fGT, ↓fGcons, ↓fGnil, ↓fLc, ↓fLl, ↓fYes, ↓fOwn, ↓fAt2, ↓fCount, ↓fIndex, ↓fRev, ↓fMulL, ↓fSel, ↓sTry, ↓fIsP, ↓isLk, ↓L3.gSub, ↓gMulI, ↓gDiv, ↓gMod, ↓gPow, ↓gLt, ↓gLe, ↓gGt, ↓gGe, ↓gI, ↓gIC, ↓gAdd, ↓gIx, ↓gSl, ↓gLen, ↓gAll, ↓gAny, ↓gSum, ↓gMin2, ↓gMax2, ↓gList, ↓gTuple, ↓gNe, ↓gNotIn, ↓gIs, ↓gIsNot, ↓isNone, ↓look, ↓withD, ↓isD, ↓isB, ↓areD, ↓withDs, ↓isBor, ↓isLst, ↓isLl, ↓isI, ↓items1, ↓itemsD, ↓argsM, ↓putB, ↓pjs, ↓outsOf, ↓fin, ↓startE, ↓wipeK, ↓wipeE, ↓unw, ↓noOwnB, gEq_ii, gEq_ss, gEq_bb, own_no, own_dat, own_lst, own_ll, List.getD_cons_zero, List.getD_cons_succ, List.set_cons_zero, List.set_cons_succ, List.replicate_succ, List.replicate_zero, List.cons_append, List.nil_append, List.length_cons, List.length_nil, List.map_cons, List.map_nil, List.all_cons, List.all_nil, Nat.reduceAdd, Nat.reduceSub, Bool.not_false, Bool.not_true, Bool.and_true, Bool.and_self, if_true, if_false, reduceCtorEq, List.zipIdx_cons, List.zipIdx_nil, List.filterMap_cons, List.filterMap_nil, Option.map_some, Option.map_none, decide_true, Nat.zero_add, reduceIte, Bool.false_eq_true, true_and, and_true]
    have e : (enumD (p.map encL)).length = p.length := by rw [enumD_len, List.length_map]
    first
      | (rw [e]; exact hp)
      | (rw [Nat.zero_add, e]; exact hp)
def T_picture_of : TXS :=
  (sSeq (sSet 3 (fLst fNil))
  (sSeq (sFor (fRng1 (fCons (fName 0) fNil)) (fGN 4) (sExprR (fApp (fName 3) (fJoin (fC (.str "")) (fFz (fLc (fRng1 (fCons (fName 1) fNil)) (fGN 5) fYes (fIf (fT (fBin gIn (fTup (fCons (fName 4) (fCons (fName 5) fNil))) (fName 2))) (fC (.str "#")) (fC (.str "."))) [5]))))))
  (sRet (fCall gTuple (fCons (fName 3) fNil)))))

def dsp_picture_of : DSp := dsp__law_of
theorem good_picture_of : Good [] 6 3 T_picture_of dsp_picture_of := good__law_of
abbrev ICell := Int × Int
def encI (x : ICell) : PyData := .tuple [.int x.1, .int x.2]
theorem gIn_I {x : ICell} {cs : List Cell} {Q : PyData → Prop} (h : Q (.bool (decide (x ∈ cs.map cI)))) : gIn (encI x) (.list (cs.map encC)) Q := by
  rw [encCs_toD]
  exact gIn_dat (α := Int × Int) (Eq.mp (congrArg (fun b => Q (PyData.bool b)) (decide_eq_decide.mpr Iff.rfl)) h)
/-- filled, at any whole numbers -/
def atZ (p : List (List Bool)) (x : ICell) : Bool := decide (0 ≤ x.1) && decide (0 ≤ x.2) && atP p x.1.toNat x.2.toNat
theorem atZ_mem (p : List (List Bool)) (x : ICell) : decide (x ∈ (cellsOf p).map cI) = atZ p x := by
  rw [Bool.eq_iff_iff, decide_eq_true_eq, List.mem_map]
  unfold atZ
  rw [Bool.and_eq_true, Bool.and_eq_true, decide_eq_true_eq, decide_eq_true_eq]
  constructor
  · rintro ⟨⟨r, c⟩, hm, rfl⟩
    refine ⟨⟨Int.natCast_nonneg _, Int.natCast_nonneg _⟩, ?_⟩
    have := mem_cellsOf.mp hm
    simpa [cI] using this
  · rintro ⟨⟨h1, h2⟩, e⟩
    refine ⟨(x.1.toNat, x.2.toNat), mem_cellsOf.mpr e, ?_⟩
    exact Prod.ext (Int.toNat_of_nonneg h1) (Int.toNat_of_nonneg h2)
theorem atZ_nat (p : List (List Bool)) (r c : Nat) : atZ p ((r : Int), (c : Int)) = atP p r c := by simp [atZ]
def nbs (x : ICell) : List ICell := [(x.1 + 0, x.2 + 1), (x.1 + 1, x.2 + 0), (x.1 + 0, x.2 + -1), (x.1 + -1, x.2 + 0)]
def T_beside : TXS :=
  (sRet (fLc (fSeq (fC d_AROUND)) (fGT 2 (fGcons (fGN 1) (fGcons (fGN 2) fGnil))) fYes (fTup (fCons (fFz (fBinN gAdd (fBin gIx (fName 0) (fC (.int 0))) (fName 1))) (fCons (fFz (fBinN gAdd (fBin gIx (fName 0) (fC (.int 1))) (fName 2))) fNil))) [1, 2]))

def dsp_beside : DSp := fun es post _ => ∃ x : ICell, es = [.dat (encI x)] ∧ post (.lst ((nbs x).map encI)) []
theorem good_beside : Good [] 3 1 T_beside dsp_beside := by
  rintro es post xp ⟨x, rfl, hp⟩ _
  simp only [T_beside, sSeq, sFor, ↓sRet, ↓sNil, ↓sIf, ↓sSet, ↓sAsg, ↓sPar, ↓sPar3, ↓sSub, ↓sSub2, ↓sExpr, ↓sExprR, ↓sRetV, ↓sRetN, ↓sRaise, ↓sBrk, ↓sCt, ↓fOf, ↓fFz, ↓fName, ↓fFrz, ↓fC, ↓fBin, ↓fBinN, ↓fT, ↓fNot, ↓fAnd, ↓fOr, ↓fAndV, ↓fOrV, ↓fNotV, ↓fIf, ↓fIfN, ↓fChain, ↓fNil, ↓fCons, ↓fTup, ↓fLst, ↓fNeg, ↓fCall, ↓fIsI, ↓fJoin, ↓fApp, ↓fExt, ↓fPop, ↓fPopAt, ↓fSl, ↓fPart, ↓fNoPart, ↓fSeq, ↓fRng1, ↓fRng2, ↓fEnum, ↓fZip, ↓fGN, ↓fGT, ↓fGcons, ↓fGnil, ↓fLc, ↓fLl, ↓fYes, ↓fOwn, ↓fAt2, ↓fCount, ↓fIndex, ↓fRev, ↓fMulL, ↓fSel, ↓sTry, ↓fIsP, ↓isLk, ↓L3.gSub, ↓gMulI, ↓gDiv, ↓gMod, ↓gPow, ↓gLt, ↓gLe, ↓gGt, ↓gGe, ↓gI, ↓gIC, ↓gAdd, ↓gIx, ↓gSl, ↓gLen, ↓gAll, ↓gAny, ↓gSum, ↓gMin2, ↓gMax2, ↓gList, ↓gTuple, ↓gNe, ↓gNotIn, ↓gIs, ↓gIsNot, ↓isNone, ↓look, ↓withD, ↓isD, ↓isB, ↓areD, ↓withDs, ↓isBor, ↓isLst, ↓isLl, ↓isI, ↓items1, ↓itemsD, ↓argsM, ↓putB, ↓pjs, ↓outsOf, ↓fin, ↓startE, ↓wipeK, ↓wipeE, ↓unw, ↓noOwnB, gEq_ii, gEq_ss, gEq_bb, own_no, own_dat, own_lst, own_ll, List.getD_cons_zero, List.getD_cons_succ, List.set_cons_zero, List.set_cons_succ, List.replicate_succ, List.replicate_zero, List.cons_append, List.nil_append, List.length_cons, List.length_nil, List.map_cons, List.map_nil, List.all_cons, List.all_nil, Nat.reduceAdd, Nat.reduceSub, Bool.not_false, Bool.not_true, Bool.and_true, Bool.and_self, if_true, if_false, reduceCtorEq, List.zipIdx_cons, List.zipIdx_nil, List.filterMap_cons, List.filterMap_nil, Option.map_some, Option.map_none, decide_true, Nat.zero_add, reduceIte, Bool.false_eq_true, true_and, and_true, d_AROUND]
  refine ⟨small (by simp), ?_⟩
  have e : ([.tuple [.int 0, .int 1], .tuple [.int 1, .int 0], .tuple [.int 0, .int (-1)], .tuple [.int (-1), .int 0]] : List PyData) = ([(0, 1), (1, 0), (0, -1), (-1, 0)] : List ICell).map encI := rfl
  rw [e]
  refine lcR_enc1 (xs := [(0, 1), (1, 0), (0, -1), (-1, 0)]) (fun y => tagW (encI y)) (fun y => encI (x.1 + y.1, x.2 + y.2)) (fun y _ k hk => ?_) ?_
  · simp only [lcStep, ↓sRet, ↓sNil, ↓sIf, ↓sSet, ↓sAsg, ↓sPar, ↓sPar3, ↓sSub, ↓sSub2, ↓sExpr, ↓sExprR, ↓sRetV, ↓sRetN, ↓sRaise, ↓sBrk, ↓sCt, ↓fOf, ↓fFz, ↓fName, ↓fFrz, ↓fC, ↓fBin, ↓fBinN, ↓fT, ↓fNot, ↓fAnd, ↓fOr, ↓fAndV, ↓fOrV, ↓fNotV, ↓fIf, ↓fIfN, ↓fChain, ↓fNil, ↓fCons, ↓fTup, ↓fLst, ↓fNeg, ↓fCall, ↓fIsI, ↓fJoin, ↓fApp, ↓fExt, ↓fPop, ↓fPopAt, ↓fSl, ↓fPart, ↓fNoPart, ↓fSeq, ↓fRng1, ↓fRng2, ↓fEnum, ↓fZip, ↓fGN, ↓fGT, ↓fGcons, ↓fGnil, ↓fLc, ↓fLl, ↓fYes, ↓fOwn, ↓fAt2, ↓fCount, ↓fIndex, ↓fRev, ↓fMulL, ↓fSel, ↓sTry, ↓fIsP, ↓isLk, ↓L3.gSub, ↓gMulI, ↓gDiv, ↓gMod, ↓gPow, ↓gLt, ↓gLe, ↓gGt, ↓gGe, ↓gI, ↓gIC, ↓gAdd, ↓gIx, ↓gSl, ↓gLen, ↓gAll, ↓gAny, ↓gSum, ↓gMin2, ↓gMax2, ↓gList, ↓gTuple, ↓gNe, ↓gNotIn, ↓gIs, ↓gIsNot, ↓isNone, ↓look, ↓withD, ↓isD, ↓isB, ↓areD, ↓withDs, ↓isBor, ↓isLst, ↓isLl, ↓isI, ↓items1, ↓itemsD, ↓argsM, ↓putB, ↓pjs, ↓outsOf, ↓fin, ↓startE, ↓wipeK, ↓wipeE, ↓unw, ↓noOwnB, gEq_ii, gEq_ss, gEq_bb, own_no, own_dat, own_lst, own_ll, List.getD_cons_zero, List.getD_cons_succ, List.set_cons_zero, List.set_cons_succ, List.replicate_succ, List.replicate_zero, List.cons_append, List.nil_append, List.length_cons, List.length_nil, List.map_cons, List.map_nil, List.all_cons, List.all_nil, Nat.reduceAdd, Nat.reduceSub, Bool.not_false, Bool.not_true, Bool.and_true, Bool.and_self, if_true, if_false, reduceCtorEq, List.zipIdx_cons, List.zipIdx_nil, List.filterMap_cons, List.filterMap_nil, Option.map_some, Option.map_none, decide_true, Nat.zero_add, reduceIte, Bool.false_eq_true, true_and, and_true, encI, tagW, wkT]
    exact ⟨_, atI0, _, atI_nat (j := 1) rfl, hk⟩
  · exact hp
def inner (p : List (List Bool)) (x : ICell) : Bool := (nbs x).all (atZ p)
def er (h w : Nat) (p : List (List Bool)) : List (List Bool) := mkP h w fun r c => atP p r c && inner p ((r : Int), (c : Int))
def T_shrunk_once : TXS :=
  (sSeq (sSet 1 (fOf (fFz (fOwn [none] (dsp_cells_in) (fCons (fName 0) fNil)))))
  (sSeq (sSet 2 (fLc (fSeq (fName 1)) (fGN 3) (fT (fFz (fCall gAll (fCons (fFz (fLc (fSeq (fFz (fOwn [none] (dsp_beside) (fCons (fName 3) fNil)))) (fGN 4) fYes (fBin gIn (fName 4) (fName 1)) [4])) fNil)))) (fName 3) [3]))
  (sRet (fOwn [none, none, none] (dsp_picture_of) (fCons (fFz (fCall gLen (fCons (fName 0) fNil))) (fCons (fFz (fCall gLen (fCons (fBin gIx (fName 0) (fC (.int 0))) fNil))) (fCons (fFrz 2) fNil)))))))

def dsp_shrunk_once : DSp := fun es post _ => ∃ (p : List (List Bool)) (h w : Nat), es = [.dat (encP p)] ∧ Wf h w p ∧ post (.dat (encP (er h w p))) []
theorem encC_I (c : Cell) : encC c = encI (cI c) := rfl
theorem good_shrunk_once : Good [] 5 1 T_shrunk_once dsp_shrunk_once := by
  rintro es post xp ⟨p, h, w, rfl, P, hp⟩ _
  have h8 := P.h8
  have w8 := P.w8
  have pl := P.len
  obtain ⟨lp, a1, a2, _⟩ := P.head
  have lcp : (cellsOf p).length ≤ 64 := by
    rw [P.cells]
    have z := rowL_len h w (atP p)
    have z2 : h * w ≤ 8 * 8 := Nat.mul_le_mul h8 w8
    omega
  unfold T_shrunk_once
  refine sSeq_g fun N hN => ?_
  simp only [↓sRet, ↓sNil, ↓sIf, ↓sSet, ↓sAsg, ↓sPar, ↓sPar3, ↓sSub, ↓sSub2, ↓sExpr, ↓sExprR, ↓sRetV, ↓sRetN, ↓sRaise, ↓sBrk, ↓sCt, ↓fOf, ↓fFz, ↓fName, ↓fFrz, ↓fC, ↓fBin, ↓fBinN, ↓fT, ↓fNot, ↓fAnd, ↓fOr, ↓fAndV, ↓fOrV, ↓fNotV, ↓fIf, ↓fIfN, ↓fChain, ↓fNil, ↓fCons, ↓fTup, ↓fLst, ↓fNeg, ↓fCall, ↓fIsI, ↓fJoin, ↓fApp, ↓fExt, ↓fPop, ↓fPopAt, ↓fSl, ↓fPart, ↓fNoPart, ↓fSeq, ↓fRng1, ↓fRng2, ↓fEnum, ↓fZip, ↓fGN, ↓fGT, ↓fGcons, ↓fGnil, ↓fLc, ↓fLl, ↓fYes, ↓fOwn, ↓fAt2, ↓fCount, ↓fIndex, ↓fRev, ↓fMulL, ↓fSel, ↓sTry, ↓fIsP, ↓isLk, ↓L3.gSub, ↓gMulI, ↓gDiv, ↓gMod, ↓gPow, ↓gLt, ↓gLe, ↓gGt, ↓gGe, ↓gI, ↓gIC, ↓gAdd, ↓gIx, ↓gSl, ↓gLen, ↓gAll, ↓gAny, ↓gSum, ↓gMin2, ↓gMax2, ↓gList, ↓gTuple, ↓gNe, ↓gNotIn, ↓gIs, ↓gIsNot, ↓isNone, ↓look, ↓withD, ↓isD, ↓isB, ↓areD, ↓withDs, ↓isBor, ↓isLst, ↓isLl, ↓isI, ↓items1, ↓itemsD, ↓argsM, ↓putB, ↓pjs, ↓outsOf, ↓fin, ↓startE, ↓wipeK, ↓wipeE, ↓unw, ↓noOwnB, gEq_ii, gEq_ss, gEq_bb, own_no, own_dat, own_lst, own_ll, List.getD_cons_zero, List.getD_cons_succ, List.set_cons_zero, List.set_cons_succ, List.replicate_succ, List.replicate_zero, List.cons_append, List.nil_append, List.length_cons, List.length_nil, List.map_cons, List.map_nil, List.all_cons, List.all_nil, Nat.reduceAdd, Nat.reduceSub, Bool.not_false, Bool.not_true, Bool.and_true, Bool.and_self, if_true, if_false, reduceCtorEq, List.zipIdx_cons, List.zipIdx_nil, List.filterMap_cons, List.filterMap_nil, Option.map_some, Option.map_none, decide_true, Nat.zero_add, reduceIte, Bool.false_eq_true, true_and, and_true, dsp_cells_in, dsp__law_cells]
  refine ⟨p, h, w, rfl, P, hN _ ?_⟩
  clear hN N
  refine sSeq_g fun N hN => ?_
  simp only [↓sRet, ↓sNil, ↓sIf, ↓sSet, ↓sAsg, ↓sPar, ↓sPar3, ↓sSub, ↓sSub2, ↓sExpr, ↓sExprR, ↓sRetV, ↓sRetN, ↓sRaise, ↓sBrk, ↓sCt, ↓fOf, ↓fFz, ↓fName, ↓fFrz, ↓fC, ↓fBin, ↓fBinN, ↓fT, ↓fNot, ↓fAnd, ↓fOr, ↓fAndV, ↓fOrV, ↓fNotV, ↓fIf, ↓fIfN, ↓fChain, ↓fNil, ↓fCons, ↓fTup, ↓fLst, ↓fNeg, ↓fCall, ↓fIsI, ↓fJoin, ↓fApp, ↓fExt, ↓fPop, ↓fPopAt, ↓fSl, ↓fPart, ↓fNoPart, ↓fSeq, ↓fRng1, ↓fRng2, ↓fEnum, ↓fZip, ↓fGN, ↓fGT, ↓fGcons, ↓fGnil, ↓fLc, ↓fLl, ↓fYes, ↓fOwn, ↓fAt2, ↓fCount, ↓fIndex, ↓fRev, ↓fMulL, ↓fSel, ↓sTry, ↓fIsP, ↓isLk, ↓L3.gSub, ↓gMulI, ↓gDiv, ↓gMod, ↓gPow, ↓gLt, ↓gLe, ↓gGt, ↓gGe, ↓gI, ↓gIC, ↓gAdd, ↓gIx, ↓gSl, ↓gLen, ↓gAll, ↓gAny, ↓gSum, ↓gMin2, ↓gMax2, ↓gList, ↓gTuple, ↓gNe, ↓gNotIn, ↓gIs, ↓gIsNot, ↓isNone, ↓look, ↓withD, ↓isD, ↓isB, ↓areD, ↓withDs, ↓isBor, ↓isLst, ↓isLl, ↓isI, ↓items1, ↓itemsD, ↓argsM, ↓putB, ↓pjs, ↓outsOf, ↓fin, ↓startE, ↓wipeK, ↓wipeE, ↓unw, ↓noOwnB, gEq_ii, gEq_ss, gEq_bb, own_no, own_dat, own_lst, own_ll, List.getD_cons_zero, List.getD_cons_succ, List.set_cons_zero, List.set_cons_succ, List.replicate_succ, List.replicate_zero, List.cons_append, List.nil_append, List.length_cons, List.length_nil, List.map_cons, List.map_nil, List.all_cons, List.all_nil, Nat.reduceAdd, Nat.reduceSub, Bool.not_false, Bool.not_true, Bool.and_true, Bool.and_self, if_true, if_false, reduceCtorEq, List.zipIdx_cons, List.zipIdx_nil, List.filterMap_cons, List.filterMap_nil, Option.map_some, Option.map_none, decide_true, Nat.zero_add, reduceIte, Bool.false_eq_true, true_and, and_true]
  refine ⟨by rw [List.length_map]; exact small (by omega), ?_⟩
  refine lcR_encF encC (fun c => inner p (cI c)) encC (fun c _ k ht hf => ?_) ?_
  · simp only [lcStep, ↓sRet, ↓sNil, ↓sIf, ↓sSet, ↓sAsg, ↓sPar, ↓sPar3, ↓sSub, ↓sSub2, ↓sExpr, ↓sExprR, ↓sRetV, ↓sRetN, ↓sRaise, ↓sBrk, ↓sCt, ↓fOf, ↓fFz, ↓fName, ↓fFrz, ↓fC, ↓fBin, ↓fBinN, ↓fT, ↓fNot, ↓fAnd, ↓fOr, ↓fAndV, ↓fOrV, ↓fNotV, ↓fIf, ↓fIfN, ↓fChain, ↓fNil, ↓fCons, ↓fTup, ↓fLst, ↓fNeg, ↓fCall, ↓fIsI, ↓fJoin, ↓fApp, ↓fExt, ↓fPop, ↓fPopAt, ↓fSl, ↓fPart, ↓fNoPart, ↓fSeq, ↓fRng1, ↓fRng2, ↓fEnum, ↓fZip, ↓fGN, ↓fGT, ↓fGcons, ↓fGnil, ↓fLc, ↓fLl, ↓fYes, ↓fOwn, ↓fAt2, ↓fCount, ↓fIndex, ↓fRev, ↓fMulL, ↓fSel, ↓sTry, ↓fIsP, ↓isLk, ↓L3.gSub, ↓gMulI, ↓gDiv, ↓gMod, ↓gPow, ↓gLt, ↓gLe, ↓gGt, ↓gGe, ↓gI, ↓gIC, ↓gAdd, ↓gIx, ↓gSl, ↓gLen, ↓gAll, ↓gAny, ↓gSum, ↓gMin2, ↓gMax2, ↓gList, ↓gTuple, ↓gNe, ↓gNotIn, ↓gIs, ↓gIsNot, ↓isNone, ↓look, ↓withD, ↓isD, ↓isB, ↓areD, ↓withDs, ↓isBor, ↓isLst, ↓isLl, ↓isI, ↓items1, ↓itemsD, ↓argsM, ↓putB, ↓pjs, ↓outsOf, ↓fin, ↓startE, ↓wipeK, ↓wipeE, ↓unw, ↓noOwnB, gEq_ii, gEq_ss, gEq_bb, own_no, own_dat, own_lst, own_ll, List.getD_cons_zero, List.getD_cons_succ, List.set_cons_zero, List.set_cons_succ, List.replicate_succ, List.replicate_zero, List.cons_append, List.nil_append, List.length_cons, List.length_nil, List.map_cons, List.map_nil, List.all_cons, List.all_nil, Nat.reduceAdd, Nat.reduceSub, Bool.not_false, Bool.not_true, Bool.and_true, Bool.and_self, if_true, if_false, reduceCtorEq, List.zipIdx_cons, List.zipIdx_nil, List.filterMap_cons, List.filterMap_nil, Option.map_some, Option.map_none, decide_true, Nat.zero_add, reduceIte, Bool.false_eq_true, true_and, and_true, dsp_beside]
    refine ⟨cI c, rfl, small (by simp [nbs]), ?_⟩
    refine lcR_enc1 encI (fun x => PyData.bool (atZ p x)) (fun x _ k2 hk2 => ?_) ?_
    · simp only [lcStep, ↓sRet, ↓sNil, ↓sIf, ↓sSet, ↓sAsg, ↓sPar, ↓sPar3, ↓sSub, ↓sSub2, ↓sExpr, ↓sExprR, ↓sRetV, ↓sRetN, ↓sRaise, ↓sBrk, ↓sCt, ↓fOf, ↓fFz, ↓fName, ↓fFrz, ↓fC, ↓fBin, ↓fBinN, ↓fT, ↓fNot, ↓fAnd, ↓fOr, ↓fAndV, ↓fOrV, ↓fNotV, ↓fIf, ↓fIfN, ↓fChain, ↓fNil, ↓fCons, ↓fTup, ↓fLst, ↓fNeg, ↓fCall, ↓fIsI, ↓fJoin, ↓fApp, ↓fExt, ↓fPop, ↓fPopAt, ↓fSl, ↓fPart, ↓fNoPart, ↓fSeq, ↓fRng1, ↓fRng2, ↓fEnum, ↓fZip, ↓fGN, ↓fGT, ↓fGcons, ↓fGnil, ↓fLc, ↓fLl, ↓fYes, ↓fOwn, ↓fAt2, ↓fCount, ↓fIndex, ↓fRev, ↓fMulL, ↓fSel, ↓sTry, ↓fIsP, ↓isLk, ↓L3.gSub, ↓gMulI, ↓gDiv, ↓gMod, ↓gPow, ↓gLt, ↓gLe, ↓gGt, ↓gGe, ↓gI, ↓gIC, ↓gAdd, ↓gIx, ↓gSl, ↓gLen, ↓gAll, ↓gAny, ↓gSum, ↓gMin2, ↓gMax2, ↓gList, ↓gTuple, ↓gNe, ↓gNotIn, ↓gIs, ↓gIsNot, ↓isNone, ↓look, ↓withD, ↓isD, ↓isB, ↓areD, ↓withDs, ↓isBor, ↓isLst, ↓isLl, ↓isI, ↓items1, ↓itemsD, ↓argsM, ↓putB, ↓pjs, ↓outsOf, ↓fin, ↓startE, ↓wipeK, ↓wipeE, ↓unw, ↓noOwnB, gEq_ii, gEq_ss, gEq_bb, own_no, own_dat, own_lst, own_ll, List.getD_cons_zero, List.getD_cons_succ, List.set_cons_zero, List.set_cons_succ, List.replicate_succ, List.replicate_zero, List.cons_append, List.nil_append, List.length_cons, List.length_nil, List.map_cons, List.map_nil, List.all_cons, List.all_nil, Nat.reduceAdd, Nat.reduceSub, Bool.not_false, Bool.not_true, Bool.and_true, Bool.and_self, if_true, if_false, reduceCtorEq, List.zipIdx_cons, List.zipIdx_nil, List.filterMap_cons, List.filterMap_nil, Option.map_some, Option.map_none, decide_true, Nat.zero_add, reduceIte, Bool.false_eq_true, true_and, and_true]
      refine gIn_I ?_
      rw [atZ_mem]
      exact hk2
    · simp only [↓sRet, ↓sNil, ↓sIf, ↓sSet, ↓sAsg, ↓sPar, ↓sPar3, ↓sSub, ↓sSub2, ↓sExpr, ↓sExprR, ↓sRetV, ↓sRetN, ↓sRaise, ↓sBrk, ↓sCt, ↓fOf, ↓fFz, ↓fName, ↓fFrz, ↓fC, ↓fBin, ↓fBinN, ↓fT, ↓fNot, ↓fAnd, ↓fOr, ↓fAndV, ↓fOrV, ↓fNotV, ↓fIf, ↓fIfN, ↓fChain, ↓fNil, ↓fCons, ↓fTup, ↓fLst, ↓fNeg, ↓fCall, ↓fIsI, ↓fJoin, ↓fApp, ↓fExt, ↓fPop, ↓fPopAt, ↓fSl, ↓fPart, ↓fNoPart, ↓fSeq, ↓fRng1, ↓fRng2, ↓fEnum, ↓fZip, ↓fGN, ↓fGT, ↓fGcons, ↓fGnil, ↓fLc, ↓fLl, ↓fYes, ↓fOwn, ↓fAt2, ↓fCount, ↓fIndex, ↓fRev, ↓fMulL, ↓fSel, ↓sTry, ↓fIsP, ↓isLk, ↓L3.gSub, ↓gMulI, ↓gDiv, ↓gMod, ↓gPow, ↓gLt, ↓gLe, ↓gGt, ↓gGe, ↓gI, ↓gIC, ↓gAdd, ↓gIx, ↓gSl, ↓gLen, ↓gAll, ↓gAny, ↓gSum, ↓gMin2, ↓gMax2, ↓gList, ↓gTuple, ↓gNe, ↓gNotIn, ↓gIs, ↓gIsNot, ↓isNone, ↓look, ↓withD, ↓isD, ↓isB, ↓areD, ↓withDs, ↓isBor, ↓isLst, ↓isLl, ↓isI, ↓items1, ↓itemsD, ↓argsM, ↓putB, ↓pjs, ↓outsOf, ↓fin, ↓startE, ↓wipeK, ↓wipeE, ↓unw, ↓noOwnB, gEq_ii, gEq_ss, gEq_bb, own_no, own_dat, own_lst, own_ll, List.getD_cons_zero, List.getD_cons_succ, List.set_cons_zero, List.set_cons_succ, List.replicate_succ, List.replicate_zero, List.cons_append, List.nil_append, List.length_cons, List.length_nil, List.map_cons, List.map_nil, List.all_cons, List.all_nil, Nat.reduceAdd, Nat.reduceSub, Bool.not_false, Bool.not_true, Bool.and_true, Bool.and_self, if_true, if_false, reduceCtorEq, List.zipIdx_cons, List.zipIdx_nil, List.filterMap_cons, List.filterMap_nil, Option.map_some, Option.map_none, decide_true, Nat.zero_add, reduceIte, Bool.false_eq_true, true_and, and_true]
      refine ⟨(nbs (cI c)).map (atZ p), by rw [List.map_map]; rfl, ?_⟩
      rw [all_id_map]
      cases e : (nbs (cI c)).all (atZ p) with
      | true => exact ht e
      | false => exact hf e
  simp only [↓sRet, ↓sNil, ↓sIf, ↓sSet, ↓sAsg, ↓sPar, ↓sPar3, ↓sSub, ↓sSub2, ↓sExpr, ↓sExprR, ↓sRetV, ↓sRetN, ↓sRaise, ↓sBrk, ↓sCt, ↓fOf, ↓fFz, ↓fName, ↓fFrz, ↓fC, ↓fBin, ↓fBinN, ↓fT, ↓fNot, ↓fAnd, ↓fOr, ↓fAndV, ↓fOrV, ↓fNotV, ↓fIf, ↓fIfN, ↓fChain, ↓fNil, ↓fCons, ↓fTup, ↓fLst, ↓fNeg, ↓fCall, ↓fIsI, ↓fJoin, ↓fApp, ↓fExt, ↓fPop, ↓fPopAt, ↓fSl, ↓fPart, ↓fNoPart, ↓fSeq, ↓fRng1, ↓fRng2, ↓fEnum, ↓fZip, ↓fGN, ↓fGT, ↓fGcons, ↓fGnil, ↓fLc, ↓fLl, ↓fYes, ↓fOwn, ↓fAt2, ↓fCount, ↓fIndex, ↓fRev, ↓fMulL, ↓fSel, ↓sTry, ↓fIsP, ↓isLk, ↓L3.gSub, ↓gMulI, ↓gDiv, ↓gMod, ↓gPow, ↓gLt, ↓gLe, ↓gGt, ↓gGe, ↓gI, ↓gIC, ↓gAdd, ↓gIx, ↓gSl, ↓gLen, ↓gAll, ↓gAny, ↓gSum, ↓gMin2, ↓gMax2, ↓gList, ↓gTuple, ↓gNe, ↓gNotIn, ↓gIs, ↓gIsNot, ↓isNone, ↓look, ↓withD, ↓isD, ↓isB, ↓areD, ↓withDs, ↓isBor, ↓isLst, ↓isLl, ↓isI, ↓items1, ↓itemsD, ↓argsM, ↓putB, ↓pjs, ↓outsOf, ↓fin, ↓startE, ↓wipeK, ↓wipeE, ↓unw, ↓noOwnB, gEq_ii, gEq_ss, gEq_bb, own_no, own_dat, own_lst, own_ll, List.getD_cons_zero, List.getD_cons_succ, List.set_cons_zero, List.set_cons_succ, List.replicate_succ, List.replicate_zero, List.cons_append, List.nil_append, List.length_cons, List.length_nil, List.map_cons, List.map_nil, List.all_cons, List.all_nil, Nat.reduceAdd, Nat.reduceSub, Bool.not_false, Bool.not_true, Bool.and_true, Bool.and_self, if_true, if_false, reduceCtorEq, List.zipIdx_cons, List.zipIdx_nil, List.filterMap_cons, List.filterMap_nil, Option.map_some, Option.map_none, decide_true, Nat.zero_add, reduceIte, Bool.false_eq_true, true_and, and_true]
  refine hN _ ?_
  clear hN N
  simp only [↓sRet, ↓sNil, ↓sIf, ↓sSet, ↓sAsg, ↓sPar, ↓sPar3, ↓sSub, ↓sSub2, ↓sExpr, ↓sExprR, ↓sRetV, ↓sRetN, ↓sRaise, ↓sBrk, ↓sCt, ↓fOf, ↓fFz, ↓fName, ↓fFrz, ↓fC, ↓fBin, ↓fBinN, ↓fT, ↓fNot, ↓fAnd, ↓fOr, ↓fAndV, ↓fOrV, ↓fNotV, ↓fIf, ↓fIfN, ↓fChain, ↓fNil, ↓fCons, ↓fTup, ↓fLst, ↓fNeg, ↓fCall, ↓fIsI, ↓fJoin, ↓fApp, ↓fExt, ↓fPop, ↓fPopAt, ↓fSl, ↓fPart, ↓fNoPart, ↓fSeq, ↓fRng1, ↓fRng2, ↓fEnum, ↓fZip, ↓fGN, ↓fGT, ↓fGcons, ↓fGnil, ↓fLc, ↓fLl, ↓fYes, ↓fOwn, ↓fAt2, ↓fCount, ↓fIndex, ↓fRev, ↓fMulL, ↓fSel, ↓sTry, ↓fIsP, ↓isLk, ↓L3.gSub, ↓gMulI, ↓gDiv, ↓gMod, ↓gPow, ↓gLt, ↓gLe, ↓gGt, ↓gGe, ↓gI, ↓gIC, ↓gAdd, ↓gIx, ↓gSl, ↓gLen, ↓gAll, ↓gAny, ↓gSum, ↓gMin2, ↓gMax2, ↓gList, ↓gTuple, ↓gNe, ↓gNotIn, ↓gIs, ↓gIsNot, ↓isNone, ↓look, ↓withD, ↓isD, ↓isB, ↓areD, ↓withDs, ↓isBor, ↓isLst, ↓isLl, ↓isI, ↓items1, ↓itemsD, ↓argsM, ↓putB, ↓pjs, ↓outsOf, ↓fin, ↓startE, ↓wipeK, ↓wipeE, ↓unw, ↓noOwnB, gEq_ii, gEq_ss, gEq_bb, own_no, own_dat, own_lst, own_ll, List.getD_cons_zero, List.getD_cons_succ, List.set_cons_zero, List.set_cons_succ, List.replicate_succ, List.replicate_zero, List.cons_append, List.nil_append, List.length_cons, List.length_nil, List.map_cons, List.map_nil, List.all_cons, List.all_nil, Nat.reduceAdd, Nat.reduceSub, Bool.not_false, Bool.not_true, Bool.and_true, Bool.and_self, if_true, if_false, reduceCtorEq, List.zipIdx_cons, List.zipIdx_nil, List.filterMap_cons, List.filterMap_nil, Option.map_some, Option.map_none, decide_true, Nat.zero_add, reduceIte, Bool.false_eq_true, true_and, and_true, encP, List.length_map, dsp_picture_of, dsp__law_of]
  refine ⟨_, a1, ?_⟩
  simp only [encL, lineS_len, a2, pl]
  refine ⟨Nat.le_of_lt (small (by omega)), h, w, (cellsOf p).filter fun c => inner p (cI c), rfl, h8, w8, ?_⟩
  have e : (mkP h w fun r c => decide ((r, c) ∈ (cellsOf p).filter fun c => inner p (cI c))) = er h w p := by
    unfold er mkP
    refine List.map_congr_left fun r _ => List.map_congr_left fun c _ => ?_
    rw [Bool.eq_iff_iff, decide_eq_true_eq, List.mem_filter, mem_cellsOf, Bool.and_eq_true]
    rfl
  rw [e]
  exact hp
theorem er_wf {h w : Nat} {p : List (List Bool)} (P : Wf h w p) : Wf h w (er h w p) := wf_mk P.h1 P.h8 P.w1 P.w8
def erN (h w : Nat) (p : List (List Bool)) : Nat → List (List Bool)
  | 0 => p
  | n + 1 => er h w (erN h w p n)
theorem erN_wf {h w : Nat} {p : List (List Bool)} (P : Wf h w p) : ∀ n, Wf h w (erN h w p n)
  | 0 => P
  | n + 1 => er_wf (erN_wf P n)
def T_need_often (cs : Cs) : TXS :=
  (sIf (fNot (fT (fFz (fOwn [none, none, none] (dsp_is_whole) (fCons (fName 0) (fCons (fC (.int 0)) (fCons (fBin gMulI (fC (.int 2)) (fC (.int 8))) fNil))))))) (sRaise (.ref cs.NoNumber)) sNil)

def dsp_need_often (cs : Cs) : DSp := fun es post xp => ∃ d, es = [.dat d] ∧ (isWhole d 0 16 = true → post (.dat .none) []) ∧ (isWhole d 0 16 = false → xp (.ref cs.NoNumber) [])
theorem good_need_often (cs : Cs) : Good [] 1 1 (T_need_often cs) (dsp_need_often cs) := by
  rintro es post xp ⟨d, rfl, hp, hx⟩ _
  simp only [T_need_often, sSeq, sFor, ↓sRet, ↓sNil, ↓sIf, ↓sSet, ↓sAsg, ↓sPar, ↓sPar3, ↓sSub, ↓sSub2, ↓sExpr, ↓sExprR, ↓sRetV, ↓sRetN, ↓sRaise, ↓sBrk, ↓sCt, ↓fOf, ↓fFz, ↓fName, ↓fFrz, ↓fC, ↓fBin, ↓fBinN, ↓fT, ↓fNot, ↓fAnd, ↓fOr, ↓fAndV, ↓fOrV, ↓fNotV, ↓fIf, ↓fIfN, ↓fChain, ↓fNil, ↓fCons, ↓fTup, ↓fLst, ↓fNeg, ↓fCall, ↓fIsI, ↓fJoin, ↓fApp, ↓fExt, ↓fPop, ↓fPopAt, ↓fSl, ↓fPart, ↓fNoPart, ↓fSeq, ↓fRng1, ↓fRng2, ↓fEnum, ↓fZip, ↓fGN, ↓fGT, ↓fGcons, ↓fGnil, ↓fLc, ↓fLl, ↓fYes, ↓fOwn, ↓fAt2, ↓fCount, ↓fIndex, ↓fRev, ↓fMulL, ↓fSel, ↓sTry, ↓fIsP, ↓isLk, ↓L3.gSub, ↓gMulI, ↓gDiv, ↓gMod, ↓gPow, ↓gLt, ↓gLe, ↓gGt, ↓gGe, ↓gI, ↓gIC, ↓gAdd, ↓gIx, ↓gSl, ↓gLen, ↓gAll, ↓gAny, ↓gSum, ↓gMin2, ↓gMax2, ↓gList, ↓gTuple, ↓gNe, ↓gNotIn, ↓gIs, ↓gIsNot, ↓isNone, ↓look, ↓withD, ↓isD, ↓isB, ↓areD, ↓withDs, ↓isBor, ↓isLst, ↓isLl, ↓isI, ↓items1, ↓itemsD, ↓argsM, ↓putB, ↓pjs, ↓outsOf, ↓fin, ↓startE, ↓wipeK, ↓wipeE, ↓unw, ↓noOwnB, gEq_ii, gEq_ss, gEq_bb, own_no, own_dat, own_lst, own_ll, List.getD_cons_zero, List.getD_cons_succ, List.set_cons_zero, List.set_cons_succ, List.replicate_succ, List.replicate_zero, List.cons_append, List.nil_append, List.length_cons, List.length_nil, List.map_cons, List.map_nil, List.all_cons, List.all_nil, Nat.reduceAdd, Nat.reduceSub, Bool.not_false, Bool.not_true, Bool.and_true, Bool.and_self, if_true, if_false, reduceCtorEq, List.zipIdx_cons, List.zipIdx_nil, List.filterMap_cons, List.filterMap_nil, Option.map_some, Option.map_none, decide_true, Nat.zero_add, reduceIte, Bool.false_eq_true, true_and, and_true, dsp_is_whole]
  refine ⟨.inr ⟨by decide, by decide⟩, d, 0, 2 * 8, rfl, ?_⟩
  rw [show (2 * 8 : Int) = 16 by decide]
  cases q : isWhole d 0 16 with
  | true => simpa using hp q
  | false => simpa using hx q
def T_shrunk (cs : Cs) : TXS :=
  (sSeq (sExpr (fOwn [none] (dsp_need_picture cs) (fCons (fName 0) fNil)))
  (sSeq (sExpr (fOwn [none] (dsp_need_often cs) (fCons (fName 1) fNil)))
  (sSeq (sFor (fRng1 (fCons (fName 1) fNil)) (fGN 2) (sSet 0 (fOf (fFz (fOwn [none] (dsp_shrunk_once) (fCons (fName 0) fNil))))))
  (sRetV 0))))

def dsp_shrunk (cs : Cs) : DSp := fun es post xp => ∃ d e, es = [.dat d, .dat e] ∧ smallP d ∧ (isPicD d = false → xp (.ref cs.NoPicture) []) ∧ (isPicD d = true → isWhole e 0 16 = false → xp (.ref cs.NoNumber) []) ∧
  ∀ (p : List (List Bool)) (h w n : Nat), d = encP p → e = .int n → Wf h w p → n ≤ 16 → post (.dat (encP (erN h w p n))) []
theorem whole_nat {e : PyData} (h : isWhole e 0 16 = true) : ∃ n : Nat, e = .int n ∧ n ≤ 16 := by
  cases e with
  | int i =>
    have h' : (decide (0 ≤ i) && decide (i ≤ 16)) = true := h
    rw [Bool.and_eq_true, decide_eq_true_eq, decide_eq_true_eq] at h'
    exact ⟨i.toNat, by rw [Int.toNat_of_nonneg h'.1], by omega⟩
  | _ => cases h
theorem good_shrunk (cs : Cs) : Good [] 3 2 (T_shrunk cs) (dsp_shrunk cs) := by
  rintro es post xp ⟨d, e, rfl, hs, x1, x2, hp⟩ _
  unfold T_shrunk
  refine sSeq_g fun N hN => ?_
  simp only [↓sRet, ↓sNil, ↓sIf, ↓sSet, ↓sAsg, ↓sPar, ↓sPar3, ↓sSub, ↓sSub2, ↓sExpr, ↓sExprR, ↓sRetV, ↓sRetN, ↓sRaise, ↓sBrk, ↓sCt, ↓fOf, ↓fFz, ↓fName, ↓fFrz, ↓fC, ↓fBin, ↓fBinN, ↓fT, ↓fNot, ↓fAnd, ↓fOr, ↓fAndV, ↓fOrV, ↓fNotV, ↓fIf, ↓fIfN, ↓fChain, ↓fNil, ↓fCons, ↓fTup, ↓fLst, ↓fNeg, ↓fCall, ↓fIsI, ↓fJoin, ↓fApp, ↓fExt, ↓fPop, ↓fPopAt, ↓fSl, ↓fPart, ↓fNoPart, ↓fSeq, ↓fRng1, ↓fRng2, ↓fEnum, ↓fZip, ↓fGN, ↓fGT, ↓fGcons, ↓fGnil, ↓fLc, ↓fLl, ↓fYes, ↓fOwn, ↓fAt2, ↓fCount, ↓fIndex, ↓fRev, ↓fMulL, ↓fSel, ↓sTry, ↓fIsP, ↓isLk, ↓L3.gSub, ↓gMulI, ↓gDiv, ↓gMod, ↓gPow, ↓gLt, ↓gLe, ↓gGt, ↓gGe, ↓gI, ↓gIC, ↓gAdd, ↓gIx, ↓gSl, ↓gLen, ↓gAll, ↓gAny, ↓gSum, ↓gMin2, ↓gMax2, ↓gList, ↓gTuple, ↓gNe, ↓gNotIn, ↓gIs, ↓gIsNot, ↓isNone, ↓look, ↓withD, ↓isD, ↓isB, ↓areD, ↓withDs, ↓isBor, ↓isLst, ↓isLl, ↓isI, ↓items1, ↓itemsD, ↓argsM, ↓putB, ↓pjs, ↓outsOf, ↓fin, ↓startE, ↓wipeK, ↓wipeE, ↓unw, ↓noOwnB, gEq_ii, gEq_ss, gEq_bb, own_no, own_dat, own_lst, own_ll, List.getD_cons_zero, List.getD_cons_succ, List.set_cons_zero, List.set_cons_succ, List.replicate_succ, List.replicate_zero, List.cons_append, List.nil_append, List.length_cons, List.length_nil, List.map_cons, List.map_nil, List.all_cons, List.all_nil, Nat.reduceAdd, Nat.reduceSub, Bool.not_false, Bool.not_true, Bool.and_true, Bool.and_self, if_true, if_false, reduceCtorEq, List.zipIdx_cons, List.zipIdx_nil, List.filterMap_cons, List.filterMap_nil, Option.map_some, Option.map_none, decide_true, Nat.zero_add, reduceIte, Bool.false_eq_true, true_and, and_true, dsp_need_picture]
  refine ⟨d, rfl, hs, fun pd => hN _ ?_, fun z => x1 z⟩
  clear hN N
  obtain ⟨p, h, w, rfl, P⟩ := isPic_enc pd
  refine sSeq_g fun N hN => ?_
  simp only [↓sRet, ↓sNil, ↓sIf, ↓sSet, ↓sAsg, ↓sPar, ↓sPar3, ↓sSub, ↓sSub2, ↓sExpr, ↓sExprR, ↓sRetV, ↓sRetN, ↓sRaise, ↓sBrk, ↓sCt, ↓fOf, ↓fFz, ↓fName, ↓fFrz, ↓fC, ↓fBin, ↓fBinN, ↓fT, ↓fNot, ↓fAnd, ↓fOr, ↓fAndV, ↓fOrV, ↓fNotV, ↓fIf, ↓fIfN, ↓fChain, ↓fNil, ↓fCons, ↓fTup, ↓fLst, ↓fNeg, ↓fCall, ↓fIsI, ↓fJoin, ↓fApp, ↓fExt, ↓fPop, ↓fPopAt, ↓fSl, ↓fPart, ↓fNoPart, ↓fSeq, ↓fRng1, ↓fRng2, ↓fEnum, ↓fZip, ↓fGN, ↓fGT, ↓fGcons, ↓fGnil, ↓fLc, ↓fLl, ↓fYes, ↓fOwn, ↓fAt2, ↓fCount, ↓fIndex, ↓fRev, ↓fMulL, ↓fSel, ↓sTry, ↓fIsP, ↓isLk, ↓L3.gSub, ↓gMulI, ↓gDiv, ↓gMod, ↓gPow, ↓gLt, ↓gLe, ↓gGt, ↓gGe, ↓gI, ↓gIC, ↓gAdd, ↓gIx, ↓gSl, ↓gLen, ↓gAll, ↓gAny, ↓gSum, ↓gMin2, ↓gMax2, ↓gList, ↓gTuple, ↓gNe, ↓gNotIn, ↓gIs, ↓gIsNot, ↓isNone, ↓look, ↓withD, ↓isD, ↓isB, ↓areD, ↓withDs, ↓isBor, ↓isLst, ↓isLl, ↓isI, ↓items1, ↓itemsD, ↓argsM, ↓putB, ↓pjs, ↓outsOf, ↓fin, ↓startE, ↓wipeK, ↓wipeE, ↓unw, ↓noOwnB, gEq_ii, gEq_ss, gEq_bb, own_no, own_dat, own_lst, own_ll, List.getD_cons_zero, List.getD_cons_succ, List.set_cons_zero, List.set_cons_succ, List.replicate_succ, List.replicate_zero, List.cons_append, List.nil_append, List.length_cons, List.length_nil, List.map_cons, List.map_nil, List.all_cons, List.all_nil, Nat.reduceAdd, Nat.reduceSub, Bool.not_false, Bool.not_true, Bool.and_true, Bool.and_self, if_true, if_false, reduceCtorEq, List.zipIdx_cons, List.zipIdx_nil, List.filterMap_cons, List.filterMap_nil, Option.map_some, Option.map_none, decide_true, Nat.zero_add, reduceIte, Bool.false_eq_true, true_and, and_true, dsp_need_often]
  refine ⟨e, rfl, fun we => hN _ ?_, fun z => x2 pd z⟩
  clear hN N
  obtain ⟨n, rfl, hn⟩ := whole_nat we
  have hp := hp p h w n rfl rfl P hn
  refine sSeq_g fun N hN => sFor_g fun F hF => ?_
  simp only [↓sRet, ↓sNil, ↓sIf, ↓sSet, ↓sAsg, ↓sPar, ↓sPar3, ↓sSub, ↓sSub2, ↓sExpr, ↓sExprR, ↓sRetV, ↓sRetN, ↓sRaise, ↓sBrk, ↓sCt, ↓fOf, ↓fFz, ↓fName, ↓fFrz, ↓fC, ↓fBin, ↓fBinN, ↓fT, ↓fNot, ↓fAnd, ↓fOr, ↓fAndV, ↓fOrV, ↓fNotV, ↓fIf, ↓fIfN, ↓fChain, ↓fNil, ↓fCons, ↓fTup, ↓fLst, ↓fNeg, ↓fCall, ↓fIsI, ↓fJoin, ↓fApp, ↓fExt, ↓fPop, ↓fPopAt, ↓fSl, ↓fPart, ↓fNoPart, ↓fSeq, ↓fRng1, ↓fRng2, ↓fEnum, ↓fZip, ↓fGN, ↓fGT, ↓fGcons, ↓fGnil, ↓fLc, ↓fLl, ↓fYes, ↓fOwn, ↓fAt2, ↓fCount, ↓fIndex, ↓fRev, ↓fMulL, ↓fSel, ↓sTry, ↓fIsP, ↓isLk, ↓L3.gSub, ↓gMulI, ↓gDiv, ↓gMod, ↓gPow, ↓gLt, ↓gLe, ↓gGt, ↓gGe, ↓gI, ↓gIC, ↓gAdd, ↓gIx, ↓gSl, ↓gLen, ↓gAll, ↓gAny, ↓gSum, ↓gMin2, ↓gMax2, ↓gList, ↓gTuple, ↓gNe, ↓gNotIn, ↓gIs, ↓gIsNot, ↓isNone, ↓look, ↓withD, ↓isD, ↓isB, ↓areD, ↓withDs, ↓isBor, ↓isLst, ↓isLl, ↓isI, ↓items1, ↓itemsD, ↓argsM, ↓putB, ↓pjs, ↓outsOf, ↓fin, ↓startE, ↓wipeK, ↓wipeE, ↓unw, ↓noOwnB, gEq_ii, gEq_ss, gEq_bb, own_no, own_dat, own_lst, own_ll, List.getD_cons_zero, List.getD_cons_succ, List.set_cons_zero, List.set_cons_succ, List.replicate_succ, List.replicate_zero, List.cons_append, List.nil_append, List.length_cons, List.length_nil, List.map_cons, List.map_nil, List.all_cons, List.all_nil, Nat.reduceAdd, Nat.reduceSub, Bool.not_false, Bool.not_true, Bool.and_true, Bool.and_self, if_true, if_false, reduceCtorEq, List.zipIdx_cons, List.zipIdx_nil, List.filterMap_cons, List.filterMap_nil, Option.map_some, Option.map_none, decide_true, Nat.zero_add, reduceIte, Bool.false_eq_true, true_and, and_true]
  refine ⟨b62 (by omega) (by omega), hF _ _ ?_⟩
  clear hF F
  refine forR_inv (fun i ρ => ∃ x2, ρ = [.dat (encP (erN h w p i)), .dat (.int n), x2]) 0 (fun i d ρ M hd hP hM => ?_) ⟨_, rfl⟩ (fun ρ hP => ?_)
  · obtain ⟨x2, rfl⟩ := hP
    rw [Nat.zero_add] at *
    simp only [↓sRet, ↓sNil, ↓sIf, ↓sSet, ↓sAsg, ↓sPar, ↓sPar3, ↓sSub, ↓sSub2, ↓sExpr, ↓sExprR, ↓sRetV, ↓sRetN, ↓sRaise, ↓sBrk, ↓sCt, ↓fOf, ↓fFz, ↓fName, ↓fFrz, ↓fC, ↓fBin, ↓fBinN, ↓fT, ↓fNot, ↓fAnd, ↓fOr, ↓fAndV, ↓fOrV, ↓fNotV, ↓fIf, ↓fIfN, ↓fChain, ↓fNil, ↓fCons, ↓fTup, ↓fLst, ↓fNeg, ↓fCall, ↓fIsI, ↓fJoin, ↓fApp, ↓fExt, ↓fPop, ↓fPopAt, ↓fSl, ↓fPart, ↓fNoPart, ↓fSeq, ↓fRng1, ↓fRng2, ↓fEnum, ↓fZip, ↓fGN, ↓fGT, ↓fGcons, ↓fGnil, ↓fLc, ↓fLl, ↓fYes, ↓fOwn, ↓fAt2, ↓fCount, ↓fIndex, ↓fRev, ↓fMulL, ↓fSel, ↓sTry, ↓fIsP, ↓isLk, ↓L3.gSub, ↓gMulI, ↓gDiv, ↓gMod, ↓gPow, ↓gLt, ↓gLe, ↓gGt, ↓gGe, ↓gI, ↓gIC, ↓gAdd, ↓gIx, ↓gSl, ↓gLen, ↓gAll, ↓gAny, ↓gSum, ↓gMin2, ↓gMax2, ↓gList, ↓gTuple, ↓gNe, ↓gNotIn, ↓gIs, ↓gIsNot, ↓isNone, ↓look, ↓withD, ↓isD, ↓isB, ↓areD, ↓withDs, ↓isBor, ↓isLst, ↓isLl, ↓isI, ↓items1, ↓itemsD, ↓argsM, ↓putB, ↓pjs, ↓outsOf, ↓fin, ↓startE, ↓wipeK, ↓wipeE, ↓unw, ↓noOwnB, gEq_ii, gEq_ss, gEq_bb, own_no, own_dat, own_lst, own_ll, List.getD_cons_zero, List.getD_cons_succ, List.set_cons_zero, List.set_cons_succ, List.replicate_succ, List.replicate_zero, List.cons_append, List.nil_append, List.length_cons, List.length_nil, List.map_cons, List.map_nil, List.all_cons, List.all_nil, Nat.reduceAdd, Nat.reduceSub, Bool.not_false, Bool.not_true, Bool.and_true, Bool.and_self, if_true, if_false, reduceCtorEq, List.zipIdx_cons, List.zipIdx_nil, List.filterMap_cons, List.filterMap_nil, Option.map_some, Option.map_none, decide_true, Nat.zero_add, reduceIte, Bool.false_eq_true, true_and, and_true, dsp_shrunk_once]
    exact ⟨_, h, w, rfl, erN_wf P i, hM _ ⟨_, rfl⟩⟩
  · obtain ⟨x2, rfl⟩ := hP
    refine hN _ ?_
    simp only [↓sRet, ↓sNil, ↓sIf, ↓sSet, ↓sAsg, ↓sPar, ↓sPar3, ↓sSub, ↓sSub2, ↓sExpr, ↓sExprR, ↓sRetV, ↓sRetN, ↓sRaise, ↓sBrk, ↓sCt, ↓fOf, ↓fFz, ↓fName, ↓fFrz, ↓fC, ↓fBin, ↓fBinN, ↓fT, ↓fNot, ↓fAnd, ↓fOr, ↓fAndV, ↓fOrV, ↓fNotV, ↓fIf, ↓fIfN, ↓fChain, ↓fNil, ↓fCons, ↓fTup, ↓fLst, ↓fNeg, ↓fCall, ↓fIsI, ↓fJoin, ↓fApp, ↓fExt, ↓fPop, ↓fPopAt, ↓fSl, ↓fPart, ↓fNoPart, ↓fSeq, ↓fRng1, ↓fRng2, ↓fEnum, ↓fZip, ↓fGN, ↓fGT, ↓fGcons, ↓fGnil, ↓fLc, ↓fLl, ↓fYes, ↓fOwn, ↓fAt2, ↓fCount, ↓fIndex, ↓fRev, ↓fMulL, ↓fSel, ↓sTry, ↓fIsP, ↓isLk, ↓L3.gSub, ↓gMulI, ↓gDiv, ↓gMod, ↓gPow, ↓gLt, ↓gLe, ↓gGt, ↓gGe, ↓gI, ↓gIC, ↓gAdd, ↓gIx, ↓gSl, ↓gLen, ↓gAll, ↓gAny, ↓gSum, ↓gMin2, ↓gMax2, ↓gList, ↓gTuple, ↓gNe, ↓gNotIn, ↓gIs, ↓gIsNot, ↓isNone, ↓look, ↓withD, ↓isD, ↓isB, ↓areD, ↓withDs, ↓isBor, ↓isLst, ↓isLl, ↓isI, ↓items1, ↓itemsD, ↓argsM, ↓putB, ↓pjs, ↓outsOf, ↓fin, ↓startE, ↓wipeK, ↓wipeE, ↓unw, ↓noOwnB, gEq_ii, gEq_ss, gEq_bb, own_no, own_dat, own_lst, own_ll, List.getD_cons_zero, List.getD_cons_succ, List.set_cons_zero, List.set_cons_succ, List.replicate_succ, List.replicate_zero, List.cons_append, List.nil_append, List.length_cons, List.length_nil, List.map_cons, List.map_nil, List.all_cons, List.all_nil, Nat.reduceAdd, Nat.reduceSub, Bool.not_false, Bool.not_true, Bool.and_true, Bool.and_self, if_true, if_false, reduceCtorEq, List.zipIdx_cons, List.zipIdx_nil, List.filterMap_cons, List.filterMap_nil, Option.map_some, Option.map_none, decide_true, Nat.zero_add, reduceIte, Bool.false_eq_true, true_and, and_true]
    rw [rangeD_len]
    first
      | (rw [show 0 + (n : Int).toNat = n by omega]; exact hp)
      | (rw [show (n : Int).toNat = n by omega]; exact hp)
def T_rim (cs : Cs) : TXS :=
  (sSeq (sExpr (fOwn [none] (dsp_need_picture cs) (fCons (fName 0) fNil)))
  (sSeq (sSet 1 (fOf (fFz (fOwn [none] (dsp_cells_in) (fCons (fFz (fOwn [none] (dsp_shrunk_once) (fCons (fName 0) fNil))) fNil)))))
  (sRet (fLc (fSeq (fFz (fOwn [none] (dsp_cells_in) (fCons (fName 0) fNil)))) (fGN 2) (fT (fBin gNotIn (fName 2) (fName 1))) (fName 2) [2]))))

def dsp_rim (cs : Cs) : DSp := dspPic cs fun p h w => .lst (((cellsOf p).filter fun c => !decide (c ∈ cellsOf (er h w p))).map encC)
theorem good_rim (cs : Cs) : Good [] 3 1 (T_rim cs) (dsp_rim cs) := by
  rintro es post xp ⟨d, rfl, hs, hx, hp⟩ _
  unfold T_rim
  refine sSeq_g fun N hN => ?_
  simp only [↓sRet, ↓sNil, ↓sIf, ↓sSet, ↓sAsg, ↓sPar, ↓sPar3, ↓sSub, ↓sSub2, ↓sExpr, ↓sExprR, ↓sRetV, ↓sRetN, ↓sRaise, ↓sBrk, ↓sCt, ↓fOf, ↓fFz, ↓fName, ↓fFrz, ↓fC, ↓fBin, ↓fBinN, ↓fT, ↓fNot, ↓fAnd, ↓fOr, ↓fAndV, ↓fOrV, ↓fNotV, ↓fIf, ↓fIfN, ↓fChain, ↓fNil, ↓fCons, ↓fTup, ↓fLst, ↓fNeg, ↓fCall, ↓fIsI, ↓fJoin, ↓fApp, ↓fExt, ↓fPop, ↓fPopAt, ↓fSl, ↓fPart, ↓fNoPart, ↓fSeq, ↓fRng1, ↓fRng2, ↓fEnum, ↓fZip, ↓fGN, ↓fGT, ↓fGcons, ↓fGnil, ↓fLc, ↓fLl, ↓fYes, ↓fOwn, ↓fAt2, ↓fCount, ↓fIndex, ↓fRev, ↓fMulL, ↓fSel, ↓sTry, ↓fIsP, ↓isLk, ↓L3.gSub, ↓gMulI, ↓gDiv, ↓gMod, ↓gPow, ↓gLt, ↓gLe, ↓gGt, ↓gGe, ↓gI, ↓gIC, ↓gAdd, ↓gIx, ↓gSl, ↓gLen, ↓gAll, ↓gAny, ↓gSum, ↓gMin2, ↓gMax2, ↓gList, ↓gTuple, ↓gNe, ↓gNotIn, ↓gIs, ↓gIsNot, ↓isNone, ↓look, ↓withD, ↓isD, ↓isB, ↓areD, ↓withDs, ↓isBor, ↓isLst, ↓isLl, ↓isI, ↓items1, ↓itemsD, ↓argsM, ↓putB, ↓pjs, ↓outsOf, ↓fin, ↓startE, ↓wipeK, ↓wipeE, ↓unw, ↓noOwnB, gEq_ii, gEq_ss, gEq_bb, own_no, own_dat, own_lst, own_ll, List.getD_cons_zero, List.getD_cons_succ, List.set_cons_zero, List.set_cons_succ, List.replicate_succ, List.replicate_zero, List.cons_append, List.nil_append, List.length_cons, List.length_nil, List.map_cons, List.map_nil, List.all_cons, List.all_nil, Nat.reduceAdd, Nat.reduceSub, Bool.not_false, Bool.not_true, Bool.and_true, Bool.and_self, if_true, if_false, reduceCtorEq, List.zipIdx_cons, List.zipIdx_nil, List.filterMap_cons, List.filterMap_nil, Option.map_some, Option.map_none, decide_true, Nat.zero_add, reduceIte, Bool.false_eq_true, true_and, and_true, dsp_need_picture]
  refine ⟨d, rfl, hs, fun pd => hN _ ?_, fun z => hx z⟩
  clear hN N
  obtain ⟨p, h, w, rfl, P⟩ := isPic_enc pd
  have hp := hp p h w rfl P
  refine sSeq_g fun N hN => ?_
  simp only [↓sRet, ↓sNil, ↓sIf, ↓sSet, ↓sAsg, ↓sPar, ↓sPar3, ↓sSub, ↓sSub2, ↓sExpr, ↓sExprR, ↓sRetV, ↓sRetN, ↓sRaise, ↓sBrk, ↓sCt, ↓fOf, ↓fFz, ↓fName, ↓fFrz, ↓fC, ↓fBin, ↓fBinN, ↓fT, ↓fNot, ↓fAnd, ↓fOr, ↓fAndV, ↓fOrV, ↓fNotV, ↓fIf, ↓fIfN, ↓fChain, ↓fNil, ↓fCons, ↓fTup, ↓fLst, ↓fNeg, ↓fCall, ↓fIsI, ↓fJoin, ↓fApp, ↓fExt, ↓fPop, ↓fPopAt, ↓fSl, ↓fPart, ↓fNoPart, ↓fSeq, ↓fRng1, ↓fRng2, ↓fEnum, ↓fZip, ↓fGN, ↓fGT, ↓fGcons, ↓fGnil, ↓fLc, ↓fLl, ↓fYes, ↓fOwn, ↓fAt2, ↓fCount, ↓fIndex, ↓fRev, ↓fMulL, ↓fSel, ↓sTry, ↓fIsP, ↓isLk, ↓L3.gSub, ↓gMulI, ↓gDiv, ↓gMod, ↓gPow, ↓gLt, ↓gLe, ↓gGt, ↓gGe, ↓gI, ↓gIC, ↓gAdd, ↓gIx, ↓gSl, ↓gLen, ↓gAll, ↓gAny, ↓gSum, ↓gMin2, ↓gMax2, ↓gList, ↓gTuple, ↓gNe, ↓gNotIn, ↓gIs, ↓gIsNot, ↓isNone, ↓look, ↓withD, ↓isD, ↓isB, ↓areD, ↓withDs, ↓isBor, ↓isLst, ↓isLl, ↓isI, ↓items1, ↓itemsD, ↓argsM, ↓putB, ↓pjs, ↓outsOf, ↓fin, ↓startE, ↓wipeK, ↓wipeE, ↓unw, ↓noOwnB, gEq_ii, gEq_ss, gEq_bb, own_no, own_dat, own_lst, own_ll, List.getD_cons_zero, List.getD_cons_succ, List.set_cons_zero, List.set_cons_succ, List.replicate_succ, List.replicate_zero, List.cons_append, List.nil_append, List.length_cons, List.length_nil, List.map_cons, List.map_nil, List.all_cons, List.all_nil, Nat.reduceAdd, Nat.reduceSub, Bool.not_false, Bool.not_true, Bool.and_true, Bool.and_self, if_true, if_false, reduceCtorEq, List.zipIdx_cons, List.zipIdx_nil, List.filterMap_cons, List.filterMap_nil, Option.map_some, Option.map_none, decide_true, Nat.zero_add, reduceIte, Bool.false_eq_true, true_and, and_true, dsp_shrunk_once, dsp_cells_in, dsp__law_cells]
  refine ⟨p, h, w, rfl, P, _, h, w, rfl, er_wf P, hN _ ?_⟩
  clear hN N
  have lcp : (cellsOf p).length ≤ 64 := by
    rw [P.cells]
    have z := rowL_len h w (atP p)
    have z2 : h * w ≤ 8 * 8 := Nat.mul_le_mul P.h8 P.w8
    omega
  simp only [↓sRet, ↓sNil, ↓sIf, ↓sSet, ↓sAsg, ↓sPar, ↓sPar3, ↓sSub, ↓sSub2, ↓sExpr, ↓sExprR, ↓sRetV, ↓sRetN, ↓sRaise, ↓sBrk, ↓sCt, ↓fOf, ↓fFz, ↓fName, ↓fFrz, ↓fC, ↓fBin, ↓fBinN, ↓fT, ↓fNot, ↓fAnd, ↓fOr, ↓fAndV, ↓fOrV, ↓fNotV, ↓fIf, ↓fIfN, ↓fChain, ↓fNil, ↓fCons, ↓fTup, ↓fLst, ↓fNeg, ↓fCall, ↓fIsI, ↓fJoin, ↓fApp, ↓fExt, ↓fPop, ↓fPopAt, ↓fSl, ↓fPart, ↓fNoPart, ↓fSeq, ↓fRng1, ↓fRng2, ↓fEnum, ↓fZip, ↓fGN, ↓fGT, ↓fGcons, ↓fGnil, ↓fLc, ↓fLl, ↓fYes, ↓fOwn, ↓fAt2, ↓fCount, ↓fIndex, ↓fRev, ↓fMulL, ↓fSel, ↓sTry, ↓fIsP, ↓isLk, ↓L3.gSub, ↓gMulI, ↓gDiv, ↓gMod, ↓gPow, ↓gLt, ↓gLe, ↓gGt, ↓gGe, ↓gI, ↓gIC, ↓gAdd, ↓gIx, ↓gSl, ↓gLen, ↓gAll, ↓gAny, ↓gSum, ↓gMin2, ↓gMax2, ↓gList, ↓gTuple, ↓gNe, ↓gNotIn, ↓gIs, ↓gIsNot, ↓isNone, ↓look, ↓withD, ↓isD, ↓isB, ↓areD, ↓withDs, ↓isBor, ↓isLst, ↓isLl, ↓isI, ↓items1, ↓itemsD, ↓argsM, ↓putB, ↓pjs, ↓outsOf, ↓fin, ↓startE, ↓wipeK, ↓wipeE, ↓unw, ↓noOwnB, gEq_ii, gEq_ss, gEq_bb, own_no, own_dat, own_lst, own_ll, List.getD_cons_zero, List.getD_cons_succ, List.set_cons_zero, List.set_cons_succ, List.replicate_succ, List.replicate_zero, List.cons_append, List.nil_append, List.length_cons, List.length_nil, List.map_cons, List.map_nil, List.all_cons, List.all_nil, Nat.reduceAdd, Nat.reduceSub, Bool.not_false, Bool.not_true, Bool.and_true, Bool.and_self, if_true, if_false, reduceCtorEq, List.zipIdx_cons, List.zipIdx_nil, List.filterMap_cons, List.filterMap_nil, Option.map_some, Option.map_none, decide_true, Nat.zero_add, reduceIte, Bool.false_eq_true, true_and, and_true, dsp_cells_in, dsp__law_cells]
  refine ⟨p, h, w, rfl, P, by rw [List.length_map]; exact small (by omega), ?_⟩
  refine lcR_encF encC (fun c => !decide (c ∈ cellsOf (er h w p))) encC (fun c _ k ht hf => ?_) ?_
  · simp only [lcStep, ↓sRet, ↓sNil, ↓sIf, ↓sSet, ↓sAsg, ↓sPar, ↓sPar3, ↓sSub, ↓sSub2, ↓sExpr, ↓sExprR, ↓sRetV, ↓sRetN, ↓sRaise, ↓sBrk, ↓sCt, ↓fOf, ↓fFz, ↓fName, ↓fFrz, ↓fC, ↓fBin, ↓fBinN, ↓fT, ↓fNot, ↓fAnd, ↓fOr, ↓fAndV, ↓fOrV, ↓fNotV, ↓fIf, ↓fIfN, ↓fChain, ↓fNil, ↓fCons, ↓fTup, ↓fLst, ↓fNeg, ↓fCall, ↓fIsI, ↓fJoin, ↓fApp, ↓fExt, ↓fPop, ↓fPopAt, ↓fSl, ↓fPart, ↓fNoPart, ↓fSeq, ↓fRng1, ↓fRng2, ↓fEnum, ↓fZip, ↓fGN, ↓fGT, ↓fGcons, ↓fGnil, ↓fLc, ↓fLl, ↓fYes, ↓fOwn, ↓fAt2, ↓fCount, ↓fIndex, ↓fRev, ↓fMulL, ↓fSel, ↓sTry, ↓fIsP, ↓isLk, ↓L3.gSub, ↓gMulI, ↓gDiv, ↓gMod, ↓gPow, ↓gLt, ↓gLe, ↓gGt, ↓gGe, ↓gI, ↓gIC, ↓gAdd, ↓gIx, ↓gSl, ↓gLen, ↓gAll, ↓gAny, ↓gSum, ↓gMin2, ↓gMax2, ↓gList, ↓gTuple, ↓gNe, ↓gNotIn, ↓gIs, ↓gIsNot, ↓isNone, ↓look, ↓withD, ↓isD, ↓isB, ↓areD, ↓withDs, ↓isBor, ↓isLst, ↓isLl, ↓isI, ↓items1, ↓itemsD, ↓argsM, ↓putB, ↓pjs, ↓outsOf, ↓fin, ↓startE, ↓wipeK, ↓wipeE, ↓unw, ↓noOwnB, gEq_ii, gEq_ss, gEq_bb, own_no, own_dat, own_lst, own_ll, List.getD_cons_zero, List.getD_cons_succ, List.set_cons_zero, List.set_cons_succ, List.replicate_succ, List.replicate_zero, List.cons_append, List.nil_append, List.length_cons, List.length_nil, List.map_cons, List.map_nil, List.all_cons, List.all_nil, Nat.reduceAdd, Nat.reduceSub, Bool.not_false, Bool.not_true, Bool.and_true, Bool.and_self, if_true, if_false, reduceCtorEq, List.zipIdx_cons, List.zipIdx_nil, List.filterMap_cons, List.filterMap_nil, Option.map_some, Option.map_none, decide_true, Nat.zero_add, reduceIte, Bool.false_eq_true, true_and, and_true]
    refine gIn_cell ?_
    simp only [↓sRet, ↓sNil, ↓sIf, ↓sSet, ↓sAsg, ↓sPar, ↓sPar3, ↓sSub, ↓sSub2, ↓sExpr, ↓sExprR, ↓sRetV, ↓sRetN, ↓sRaise, ↓sBrk, ↓sCt, ↓fOf, ↓fFz, ↓fName, ↓fFrz, ↓fC, ↓fBin, ↓fBinN, ↓fT, ↓fNot, ↓fAnd, ↓fOr, ↓fAndV, ↓fOrV, ↓fNotV, ↓fIf, ↓fIfN, ↓fChain, ↓fNil, ↓fCons, ↓fTup, ↓fLst, ↓fNeg, ↓fCall, ↓fIsI, ↓fJoin, ↓fApp, ↓fExt, ↓fPop, ↓fPopAt, ↓fSl, ↓fPart, ↓fNoPart, ↓fSeq, ↓fRng1, ↓fRng2, ↓fEnum, ↓fZip, ↓fGN, ↓fGT, ↓fGcons, ↓fGnil, ↓fLc, ↓fLl, ↓fYes, ↓fOwn, ↓fAt2, ↓fCount, ↓fIndex, ↓fRev, ↓fMulL, ↓fSel, ↓sTry, ↓fIsP, ↓isLk, ↓L3.gSub, ↓gMulI, ↓gDiv, ↓gMod, ↓gPow, ↓gLt, ↓gLe, ↓gGt, ↓gGe, ↓gI, ↓gIC, ↓gAdd, ↓gIx, ↓gSl, ↓gLen, ↓gAll, ↓gAny, ↓gSum, ↓gMin2, ↓gMax2, ↓gList, ↓gTuple, ↓gNe, ↓gNotIn, ↓gIs, ↓gIsNot, ↓isNone, ↓look, ↓withD, ↓isD, ↓isB, ↓areD, ↓withDs, ↓isBor, ↓isLst, ↓isLl, ↓isI, ↓items1, ↓itemsD, ↓argsM, ↓putB, ↓pjs, ↓outsOf, ↓fin, ↓startE, ↓wipeK, ↓wipeE, ↓unw, ↓noOwnB, gEq_ii, gEq_ss, gEq_bb, own_no, own_dat, own_lst, own_ll, List.getD_cons_zero, List.getD_cons_succ, List.set_cons_zero, List.set_cons_succ, List.replicate_succ, List.replicate_zero, List.cons_append, List.nil_append, List.length_cons, List.length_nil, List.map_cons, List.map_nil, List.all_cons, List.all_nil, Nat.reduceAdd, Nat.reduceSub, Bool.not_false, Bool.not_true, Bool.and_true, Bool.and_self, if_true, if_false, reduceCtorEq, List.zipIdx_cons, List.zipIdx_nil, List.filterMap_cons, List.filterMap_nil, Option.map_some, Option.map_none, decide_true, Nat.zero_add, reduceIte, Bool.false_eq_true, true_and, and_true]
    cases z : decide (c ∈ cellsOf (er h w p)) with
    | true => exact hf (by rw [z]; rfl)
    | false => exact ht (by rw [z]; rfl)
  · simp only [↓sRet, ↓sNil, ↓sIf, ↓sSet, ↓sAsg, ↓sPar, ↓sPar3, ↓sSub, ↓sSub2, ↓sExpr, ↓sExprR, ↓sRetV, ↓sRetN, ↓sRaise, ↓sBrk, ↓sCt, ↓fOf, ↓fFz, ↓fName, ↓fFrz, ↓fC, ↓fBin, ↓fBinN, ↓fT, ↓fNot, ↓fAnd, ↓fOr, ↓fAndV, ↓fOrV, ↓fNotV, ↓fIf, ↓fIfN, ↓fChain, ↓fNil, ↓fCons, ↓fTup, ↓fLst, ↓fNeg, ↓fCall, ↓fIsI, ↓fJoin, ↓fApp, ↓fExt, ↓fPop, ↓fPopAt, ↓fSl, ↓fPart, ↓fNoPart, ↓fSeq, ↓fRng1, ↓fRng2, ↓fEnum, ↓fZip, ↓fGN, ↓fGT, ↓fGcons, ↓fGnil, ↓fLc, ↓fLl, ↓fYes, ↓fOwn, ↓fAt2, ↓fCount, ↓fIndex, ↓fRev, ↓fMulL, ↓fSel, ↓sTry, ↓fIsP, ↓isLk, ↓L3.gSub, ↓gMulI, ↓gDiv, ↓gMod, ↓gPow, ↓gLt, ↓gLe, ↓gGt, ↓gGe, ↓gI, ↓gIC, ↓gAdd, ↓gIx, ↓gSl, ↓gLen, ↓gAll, ↓gAny, ↓gSum, ↓gMin2, ↓gMax2, ↓gList, ↓gTuple, ↓gNe, ↓gNotIn, ↓gIs, ↓gIsNot, ↓isNone, ↓look, ↓withD, ↓isD, ↓isB, ↓areD, ↓withDs, ↓isBor, ↓isLst, ↓isLl, ↓isI, ↓items1, ↓itemsD, ↓argsM, ↓putB, ↓pjs, ↓outsOf, ↓fin, ↓startE, ↓wipeK, ↓wipeE, ↓unw, ↓noOwnB, gEq_ii, gEq_ss, gEq_bb, own_no, own_dat, own_lst, own_ll, List.getD_cons_zero, List.getD_cons_succ, List.set_cons_zero, List.set_cons_succ, List.replicate_succ, List.replicate_zero, List.cons_append, List.nil_append, List.length_cons, List.length_nil, List.map_cons, List.map_nil, List.all_cons, List.all_nil, Nat.reduceAdd, Nat.reduceSub, Bool.not_false, Bool.not_true, Bool.and_true, Bool.and_self, if_true, if_false, reduceCtorEq, List.zipIdx_cons, List.zipIdx_nil, List.filterMap_cons, List.filterMap_nil, Option.map_some, Option.map_none, decide_true, Nat.zero_add, reduceIte, Bool.false_eq_true, true_and, and_true]
    exact hp
end My

namespace My
open PySem PySem.Spec PyProof.Rows L2 L3
/-- a short text a few times -/
theorem mulS_ok {x : Str} {n : Int} (hl : x.length ≤ 1000) (h0 : 0 ≤ n) (h1 : n ≤ 1000) : MulOk x n := by
  have e63 : (2 : Int) ^ 63 = 9223372036854775808 := by decide
  have hx : x.length * n.toNat ≤ 1000 * 1000 := Nat.mul_le_mul hl (by omega)
  refine ⟨?_, fun h _ => ?_, fun _ _ => ?_⟩
  · rw [e63, decide_eq_false (by omega), decide_eq_false (by omega)]; rfl
  · rw [e63]
    have hn : 0 < n := by omega
    have h3 : (1000000 : Int) ≤ (9223372036854775808 - 1) / n := by
      rw [Int.le_ediv_iff_mul_le hn]
      have : (1000000 : Int) * n ≤ 1000000 * 1000 := Int.mul_le_mul_of_nonneg_left h1 (by decide)
      omega
    omega
  · have : (1000000 : Nat) ≤ sizeLine := by decide
    show decide (x.length * n.toNat > sizeLine) = false
    exact decide_eq_false (by omega)
/-! ### refusals -/
def orD (a b : DSp) : DSp := fun es post xp => a es post xp ∨ b es post xp
theorem good_or {io : List Nat} {N n : Nat} {T : TXS} {a b : DSp} (h1 : Good io N n T a) (h2 : Good io N n T b) : Good io N n T (orD a b) := fun es post xp h hl => h.elim (fun h => h1 es post xp h hl) (fun h => h2 es post xp h hl)
/-- the first argument is no picture -/
def noPic (cs : Cs) : DSp := fun es post xp => ∃ d rest, es = .dat d :: rest ∧ smallP d ∧ isPicD d = false ∧ xp (.ref cs.NoPicture) []
theorem good_noPic {cs : Cs} {N n : Nat} {U : TXS} : Good [] N n (sSeq (sExpr (fOwn [none] (dsp_need_picture cs) (fCons (fName 0) fNil))) U) (noPic cs) := by
  rintro es post xp ⟨d, rest, rfl, hs, hd, hx⟩ _
  refine sSeq_g fun N hN => ?_
  simp only [↓sRet, ↓sNil, ↓sIf, ↓sSet, ↓sAsg, ↓sPar, ↓sPar3, ↓sSub, ↓sSub2, ↓sExpr, ↓sExprR, ↓sRetV, ↓sRetN, ↓sRaise, ↓sBrk, ↓sCt, ↓fOf, ↓fFz, ↓fName, ↓fFrz, ↓fC, ↓fBin, ↓fBinN, ↓fT, ↓fNot, ↓fAnd, ↓fOr, ↓fAndV, ↓fOrV, ↓fNotV, ↓fIf, ↓fIfN, ↓fChain, ↓fNil, ↓fCons, ↓fTup, ↓fLst, ↓fNeg, ↓fCall, ↓fIsI, ↓fJoin, ↓fApp, ↓fExt, ↓fPop, ↓fPopAt, ↓fSl, ↓fPart, ↓fNoPart, ↓fSeq, ↓fRng1, ↓fRng2, ↓fEnum, ↓fZip, ↓fGN, ↓fGT, ↓fGcons, ↓fGnil, ↓fLc, ↓fLl, ↓fYes, ↓fOwn, ↓fAt2, ↓fCount, ↓fIndex, ↓fRev, ↓fMulL, ↓fSel, ↓sTry, ↓fIsP, ↓isLk, ↓L3.gSub, ↓gMulI, ↓gDiv, ↓gMod, ↓gPow, ↓gLt, ↓gLe, ↓gGt, ↓gGe, ↓gI, ↓gIC, ↓gAdd, ↓gIx, ↓gSl, ↓gLen, ↓gAll, ↓gAny, ↓gSum, ↓gMin2, ↓gMax2, ↓gList, ↓gTuple, ↓gNe, ↓gNotIn, ↓gIs, ↓gIsNot, ↓isNone, ↓look, ↓withD, ↓isD, ↓isB, ↓areD, ↓withDs, ↓isBor, ↓isLst, ↓isLl, ↓isI, ↓items1, ↓itemsD, ↓argsM, ↓putB, ↓pjs, ↓outsOf, ↓fin, ↓startE, ↓wipeK, ↓wipeE, ↓unw, ↓noOwnB, gEq_ii, gEq_ss, gEq_bb, own_no, own_dat, own_lst, own_ll, List.getD_cons_zero, List.getD_cons_succ, List.set_cons_zero, List.set_cons_succ, List.replicate_succ, List.replicate_zero, List.cons_append, List.nil_append, List.length_cons, List.length_nil, List.map_cons, List.map_nil, List.all_cons, List.all_nil, Nat.reduceAdd, Nat.reduceSub, Bool.not_false, Bool.not_true, Bool.and_true, Bool.and_self, if_true, if_false, reduceCtorEq, List.zipIdx_cons, List.zipIdx_nil, List.filterMap_cons, List.filterMap_nil, Option.map_some, Option.map_none, decide_true, Nat.zero_add, reduceIte, Bool.false_eq_true, true_and, and_true, startE, dsp_need_picture]
  exact ⟨d, rfl, hs, fun z => (by rw [hd] at z; cases z), fun _ => hx⟩
/-- the second is none -/
def noPic2 (cs : Cs) : DSp := fun es post xp => ∃ d e, es = [.dat d, .dat e] ∧ smallP d ∧ smallP e ∧ (isPicD d = false ∨ isPicD e = false) ∧ xp (.ref cs.NoPicture) []
theorem good_noPic2 {cs : Cs} {N : Nat} {U : TXS} : Good [] N 2 (sSeq (sExpr (fOwn [none] (dsp_need_picture cs) (fCons (fName 0) fNil))) (sSeq (sExpr (fOwn [none] (dsp_need_picture cs) (fCons (fName 1) fNil))) U)) (noPic2 cs) := by
  rintro es post xp ⟨d, e, rfl, hs, he, hde, hx⟩ _
  refine sSeq_g fun N hN => ?_
  simp only [↓sRet, ↓sNil, ↓sIf, ↓sSet, ↓sAsg, ↓sPar, ↓sPar3, ↓sSub, ↓sSub2, ↓sExpr, ↓sExprR, ↓sRetV, ↓sRetN, ↓sRaise, ↓sBrk, ↓sCt, ↓fOf, ↓fFz, ↓fName, ↓fFrz, ↓fC, ↓fBin, ↓fBinN, ↓fT, ↓fNot, ↓fAnd, ↓fOr, ↓fAndV, ↓fOrV, ↓fNotV, ↓fIf, ↓fIfN, ↓fChain, ↓fNil, ↓fCons, ↓fTup, ↓fLst, ↓fNeg, ↓fCall, ↓fIsI, ↓fJoin, ↓fApp, ↓fExt, ↓fPop, ↓fPopAt, ↓fSl, ↓fPart, ↓fNoPart, ↓fSeq, ↓fRng1, ↓fRng2, ↓fEnum, ↓fZip, ↓fGN, ↓fGT, ↓fGcons, ↓fGnil, ↓fLc, ↓fLl, ↓fYes, ↓fOwn, ↓fAt2, ↓fCount, ↓fIndex, ↓fRev, ↓fMulL, ↓fSel, ↓sTry, ↓fIsP, ↓isLk, ↓L3.gSub, ↓gMulI, ↓gDiv, ↓gMod, ↓gPow, ↓gLt, ↓gLe, ↓gGt, ↓gGe, ↓gI, ↓gIC, ↓gAdd, ↓gIx, ↓gSl, ↓gLen, ↓gAll, ↓gAny, ↓gSum, ↓gMin2, ↓gMax2, ↓gList, ↓gTuple, ↓gNe, ↓gNotIn, ↓gIs, ↓gIsNot, ↓isNone, ↓look, ↓withD, ↓isD, ↓isB, ↓areD, ↓withDs, ↓isBor, ↓isLst, ↓isLl, ↓isI, ↓items1, ↓itemsD, ↓argsM, ↓putB, ↓pjs, ↓outsOf, ↓fin, ↓startE, ↓wipeK, ↓wipeE, ↓unw, ↓noOwnB, gEq_ii, gEq_ss, gEq_bb, own_no, own_dat, own_lst, own_ll, List.getD_cons_zero, List.getD_cons_succ, List.set_cons_zero, List.set_cons_succ, List.replicate_succ, List.replicate_zero, List.cons_append, List.nil_append, List.length_cons, List.length_nil, List.map_cons, List.map_nil, List.all_cons, List.all_nil, Nat.reduceAdd, Nat.reduceSub, Bool.not_false, Bool.not_true, Bool.and_true, Bool.and_self, if_true, if_false, reduceCtorEq, List.zipIdx_cons, List.zipIdx_nil, List.filterMap_cons, List.filterMap_nil, Option.map_some, Option.map_none, decide_true, Nat.zero_add, reduceIte, Bool.false_eq_true, true_and, and_true, startE, dsp_need_picture]
  refine ⟨d, rfl, hs, fun z => hN _ ?_, fun _ => hx⟩
  clear hN N
  refine sSeq_g fun N hN => ?_
  simp only [↓sRet, ↓sNil, ↓sIf, ↓sSet, ↓sAsg, ↓sPar, ↓sPar3, ↓sSub, ↓sSub2, ↓sExpr, ↓sExprR, ↓sRetV, ↓sRetN, ↓sRaise, ↓sBrk, ↓sCt, ↓fOf, ↓fFz, ↓fName, ↓fFrz, ↓fC, ↓fBin, ↓fBinN, ↓fT, ↓fNot, ↓fAnd, ↓fOr, ↓fAndV, ↓fOrV, ↓fNotV, ↓fIf, ↓fIfN, ↓fChain, ↓fNil, ↓fCons, ↓fTup, ↓fLst, ↓fNeg, ↓fCall, ↓fIsI, ↓fJoin, ↓fApp, ↓fExt, ↓fPop, ↓fPopAt, ↓fSl, ↓fPart, ↓fNoPart, ↓fSeq, ↓fRng1, ↓fRng2, ↓fEnum, ↓fZip, ↓fGN, ↓fGT, ↓fGcons, ↓fGnil, ↓fLc, ↓fLl, ↓fYes, ↓fOwn, ↓fAt2, ↓fCount, ↓fIndex, ↓fRev, ↓fMulL, ↓fSel, ↓sTry, ↓fIsP, ↓isLk, ↓L3.gSub, ↓gMulI, ↓gDiv, ↓gMod, ↓gPow, ↓gLt, ↓gLe, ↓gGt, ↓gGe, ↓gI, ↓gIC, ↓gAdd, ↓gIx, ↓gSl, ↓gLen, ↓gAll, ↓gAny, ↓gSum, ↓gMin2, ↓gMax2, ↓gList, ↓gTuple, ↓gNe, ↓gNotIn, ↓gIs, ↓gIsNot, ↓isNone, ↓look, ↓withD, ↓isD, ↓isB, ↓areD, ↓withDs, ↓isBor, ↓isLst, ↓isLl, ↓isI, ↓items1, ↓itemsD, ↓argsM, ↓putB, ↓pjs, ↓outsOf, ↓fin, ↓startE, ↓wipeK, ↓wipeE, ↓unw, ↓noOwnB, gEq_ii, gEq_ss, gEq_bb, own_no, own_dat, own_lst, own_ll, List.getD_cons_zero, List.getD_cons_succ, List.set_cons_zero, List.set_cons_succ, List.replicate_succ, List.replicate_zero, List.cons_append, List.nil_append, List.length_cons, List.length_nil, List.map_cons, List.map_nil, List.all_cons, List.all_nil, Nat.reduceAdd, Nat.reduceSub, Bool.not_false, Bool.not_true, Bool.and_true, Bool.and_self, if_true, if_false, reduceCtorEq, List.zipIdx_cons, List.zipIdx_nil, List.filterMap_cons, List.filterMap_nil, Option.map_some, Option.map_none, decide_true, Nat.zero_add, reduceIte, Bool.false_eq_true, true_and, and_true, dsp_need_picture]
  exact ⟨e, rfl, he, fun z2 => (by rcases hde with q | q <;> simp_all), fun _ => hx⟩
/-- a pair is refused -/
def noTwo (cs : Cs) : DSp := fun es post xp => noPic2 cs es post xp ∨ ∃ (p q : List (List Bool)) (h w h' w' : Nat), es = [.dat (encP p), .dat (encP q)] ∧ Wf h w p ∧ Wf h' w' q ∧ ¬ (h = h' ∧ w = w') ∧ xp (.ref cs.NoSize) []
theorem good_noTwo {cs : Cs} {N : Nat} {U : TXS} : Good [] N 2 (sSeq (sExpr (fOwn [none, none] (dsp_need_two cs) (fCons (fName 0) (fCons (fName 1) fNil)))) U) (noTwo cs) := by
  rintro es post xp (⟨d, e, rfl, hs, he, hde, hx⟩ | ⟨p, q, h, w, h', w', rfl, P, Q, hne, hx⟩) _
  · refine sSeq_g fun N hN => ?_
    simp only [↓sRet, ↓sNil, ↓sIf, ↓sSet, ↓sAsg, ↓sPar, ↓sPar3, ↓sSub, ↓sSub2, ↓sExpr, ↓sExprR, ↓sRetV, ↓sRetN, ↓sRaise, ↓sBrk, ↓sCt, ↓fOf, ↓fFz, ↓fName, ↓fFrz, ↓fC, ↓fBin, ↓fBinN, ↓fT, ↓fNot, ↓fAnd, ↓fOr, ↓fAndV, ↓fOrV, ↓fNotV, ↓fIf, ↓fIfN, ↓fChain, ↓fNil, ↓fCons, ↓fTup, ↓fLst, ↓fNeg, ↓fCall, ↓fIsI, ↓fJoin, ↓fApp, ↓fExt, ↓fPop, ↓fPopAt, ↓fSl, ↓fPart, ↓fNoPart, ↓fSeq, ↓fRng1, ↓fRng2, ↓fEnum, ↓fZip, ↓fGN, ↓fGT, ↓fGcons, ↓fGnil, ↓fLc, ↓fLl, ↓fYes, ↓fOwn, ↓fAt2, ↓fCount, ↓fIndex, ↓fRev, ↓fMulL, ↓fSel, ↓sTry, ↓fIsP, ↓isLk, ↓L3.gSub, ↓gMulI, ↓gDiv, ↓gMod, ↓gPow, ↓gLt, ↓gLe, ↓gGt, ↓gGe, ↓gI, ↓gIC, ↓gAdd, ↓gIx, ↓gSl, ↓gLen, ↓gAll, ↓gAny, ↓gSum, ↓gMin2, ↓gMax2, ↓gList, ↓gTuple, ↓gNe, ↓gNotIn, ↓gIs, ↓gIsNot, ↓isNone, ↓look, ↓withD, ↓isD, ↓isB, ↓areD, ↓withDs, ↓isBor, ↓isLst, ↓isLl, ↓isI, ↓items1, ↓itemsD, ↓argsM, ↓putB, ↓pjs, ↓outsOf, ↓fin, ↓startE, ↓wipeK, ↓wipeE, ↓unw, ↓noOwnB, gEq_ii, gEq_ss, gEq_bb, own_no, own_dat, own_lst, own_ll, List.getD_cons_zero, List.getD_cons_succ, List.set_cons_zero, List.set_cons_succ, List.replicate_succ, List.replicate_zero, List.cons_append, List.nil_append, List.length_cons, List.length_nil, List.map_cons, List.map_nil, List.all_cons, List.all_nil, Nat.reduceAdd, Nat.reduceSub, Bool.not_false, Bool.not_true, Bool.and_true, Bool.and_self, if_true, if_false, reduceCtorEq, List.zipIdx_cons, List.zipIdx_nil, List.filterMap_cons, List.filterMap_nil, Option.map_some, Option.map_none, decide_true, Nat.zero_add, reduceIte, Bool.false_eq_true, true_and, and_true, startE, dsp_need_two]
    refine ⟨d, e, rfl, hs, he, fun _ => hx, fun _ _ => hx, fun p q h w h' w' e1 e2 P Q => ?_⟩
    subst e1 e2
    rw [P.isPic, Q.isPic] at hde
    rcases hde with z | z <;> cases z
  · refine sSeq_g fun N hN => ?_
    simp only [↓sRet, ↓sNil, ↓sIf, ↓sSet, ↓sAsg, ↓sPar, ↓sPar3, ↓sSub, ↓sSub2, ↓sExpr, ↓sExprR, ↓sRetV, ↓sRetN, ↓sRaise, ↓sBrk, ↓sCt, ↓fOf, ↓fFz, ↓fName, ↓fFrz, ↓fC, ↓fBin, ↓fBinN, ↓fT, ↓fNot, ↓fAnd, ↓fOr, ↓fAndV, ↓fOrV, ↓fNotV, ↓fIf, ↓fIfN, ↓fChain, ↓fNil, ↓fCons, ↓fTup, ↓fLst, ↓fNeg, ↓fCall, ↓fIsI, ↓fJoin, ↓fApp, ↓fExt, ↓fPop, ↓fPopAt, ↓fSl, ↓fPart, ↓fNoPart, ↓fSeq, ↓fRng1, ↓fRng2, ↓fEnum, ↓fZip, ↓fGN, ↓fGT, ↓fGcons, ↓fGnil, ↓fLc, ↓fLl, ↓fYes, ↓fOwn, ↓fAt2, ↓fCount, ↓fIndex, ↓fRev, ↓fMulL, ↓fSel, ↓sTry, ↓fIsP, ↓isLk, ↓L3.gSub, ↓gMulI, ↓gDiv, ↓gMod, ↓gPow, ↓gLt, ↓gLe, ↓gGt, ↓gGe, ↓gI, ↓gIC, ↓gAdd, ↓gIx, ↓gSl, ↓gLen, ↓gAll, ↓gAny, ↓gSum, ↓gMin2, ↓gMax2, ↓gList, ↓gTuple, ↓gNe, ↓gNotIn, ↓gIs, ↓gIsNot, ↓isNone, ↓look, ↓withD, ↓isD, ↓isB, ↓areD, ↓withDs, ↓isBor, ↓isLst, ↓isLl, ↓isI, ↓items1, ↓itemsD, ↓argsM, ↓putB, ↓pjs, ↓outsOf, ↓fin, ↓startE, ↓wipeK, ↓wipeE, ↓unw, ↓noOwnB, gEq_ii, gEq_ss, gEq_bb, own_no, own_dat, own_lst, own_ll, List.getD_cons_zero, List.getD_cons_succ, List.set_cons_zero, List.set_cons_succ, List.replicate_succ, List.replicate_zero, List.cons_append, List.nil_append, List.length_cons, List.length_nil, List.map_cons, List.map_nil, List.all_cons, List.all_nil, Nat.reduceAdd, Nat.reduceSub, Bool.not_false, Bool.not_true, Bool.and_true, Bool.and_self, if_true, if_false, reduceCtorEq, List.zipIdx_cons, List.zipIdx_nil, List.filterMap_cons, List.filterMap_nil, Option.map_some, Option.map_none, decide_true, Nat.zero_add, reduceIte, Bool.false_eq_true, true_and, and_true, startE, dsp_need_two]
    refine ⟨_, _, rfl, P.smallP, Q.smallP, fun z => (by rw [P.isPic] at z; cases z), fun _ z => (by rw [Q.isPic] at z; cases z), fun p' q' a b a' b' e1 e2 P' Q' => ?_⟩
    have z1 := encP_inj e1
    have z2 := encP_inj e2
    subst z1 z2
    obtain ⟨rfl, rfl⟩ := P.uniq P'
    obtain ⟨rfl, rfl⟩ := Q.uniq Q'
    rw [if_neg hne]
    exact hx
/-! ### pairs of pictures -/
def dsp_in_both (cs : Cs) : DSp := orD (dspV_in_both cs) (noTwo cs)
theorem good_in_both (cs : Cs) : Good [] 2 2 (T_in_both cs) (dsp_in_both cs) := good_or (goodV_in_both cs) good_noTwo
def dsp_either (cs : Cs) : DSp := orD (dspV_either cs) (noTwo cs)
theorem good_either (cs : Cs) : Good [] 2 2 (T_either cs) (dsp_either cs) := good_or (goodV_either cs) good_noTwo
def dsp_is_within (cs : Cs) : DSp := orD (dspV_is_within cs) (noTwo cs)
theorem good_is_within (cs : Cs) : Good [] 2 2 (T_is_within cs) (dsp_is_within cs) := good_or (goodV_is_within cs) good_noTwo
def dsp_unlike (cs : Cs) : DSp := orD (dspV_unlike cs) (noTwo cs)
theorem good_unlike (cs : Cs) : Good [] 5 2 (T_unlike cs) (dsp_unlike cs) := good_or (goodV_unlike cs) good_noTwo
def dsp_found_at (cs : Cs) : DSp := orD (dspV_found_at cs) (noPic2 cs)
theorem good_found_at (cs : Cs) : Good [] 7 2 (T_found_at cs) (dsp_found_at cs) := good_or (goodV_found_at cs) good_noPic2
def dsp_cut (cs : Cs) : DSp := orD (dspV_cut cs) (noPic cs)
theorem good_cut (cs : Cs) : Good [] 6 1 (T_cut cs) (dsp_cut cs) := good_or (goodV_cut cs) good_noPic
/-! ### which refusal it is -/
def T__law_which10 (v : V) (b : Nat → Bool) : TXS :=
  (sSeq (sSet 1 (fLst (fCons (fIsP 0 v (b 0)) (fCons (fIsP 0 v (b 1)) (fCons (fIsP 0 v (b 2)) (fCons (fIsP 0 v (b 3)) fNil))))))
  (sSeq (sExprR (fExt (fName 1) (fLst (fCons (fIsP 0 v (b 4)) (fCons (fIsP 0 v (b 5)) (fCons (fIsP 0 v (b 6)) (fCons (fIsP 0 v (b 7)) fNil)))))))
  (sSeq (sExprR (fExt (fName 1) (fLst (fCons (fIsP 0 v (b 8)) (fCons (fIsP 0 v (b 9)) fNil)))))
  (sSeq (sIf (fOr (fT (fBin gNe (fCount (fName 1) (fC (.bool true))) (fC (.int 1)))) (fNot (fT (fIsP 0 v true)))) (sRet (fOf (fTup (fCons (fC (.str "refused")) (fCons (fNeg (fC (.int 1))) fNil))))) sNil)
  (sRet (fOf (fTup (fCons (fC (.str "refused")) (fCons (fIndex (fName 1) (fC (.bool true))) fNil)))))))))

theorem bools_before (bs : List Bool) (k : Nat) (h : ((bs.take k).all fun b => !b) = true) (m : Nat) (z : PyData) (hm : m < k) (hz : (bs.map PyData.bool)[m]? = some z) : z.eqv (.bool true) = false := by
  rw [List.getElem?_map] at hz
  obtain ⟨b, hb, rfl⟩ := Option.map_eq_some_iff.mp hz
  have hmem : b ∈ bs.take k := List.mem_of_getElem? (i := m) (by rw [List.getElem?_take_of_lt hm]; exact hb)
  have hf := List.all_eq_true.mp h b hmem
  cases b with
  | false => rfl
  | true => cases hf
theorem good__law_which10 (a : Addr) (k : Nat) (hk : k < 10) : ∀ es post xp, dspW a (refused k) es post xp → es.length = 1 → T__law_which10 (.ref a) (fun j => decide (j = k)) { nx := fun ρ => post (.dat .none) (outsOf [] ρ), rt := fun e ρ => post e (outsOf [] ρ), ex := fun cls ρ => xp cls (outsOf [] ρ) } (startE 2 1 es) := by
  rintro es post xp ⟨rfl, hp⟩ _
  have hl : (2 : Nat) ≤ sizeLine := by decide
  unfold T__law_which10
  obtain rfl | rfl | rfl | rfl | rfl | rfl | rfl | rfl | rfl | rfl : k = 0 ∨ k = 1 ∨ k = 2 ∨ k = 3 ∨ k = 4 ∨ k = 5 ∨ k = 6 ∨ k = 7 ∨ k = 8 ∨ k = 9 := by omega
  all_goals
    simp only [sSeq, sFor, ↓sRet, ↓sNil, ↓sIf, ↓sSet, ↓sAsg, ↓sPar, ↓sPar3, ↓sSub, ↓sSub2, ↓sExpr, ↓sExprR, ↓sRetV, ↓sRetN, ↓sRaise, ↓sBrk, ↓sCt, ↓fOf, ↓fFz, ↓fName, ↓fFrz, ↓fC, ↓fBin, ↓fBinN, ↓fT, ↓fNot, ↓fAnd, ↓fOr, ↓fAndV, ↓fOrV, ↓fNotV, ↓fIf, ↓fIfN, ↓fChain, ↓fNil, ↓fCons, ↓fTup, ↓fLst, ↓fNeg, ↓fCall, ↓fIsI, ↓fJoin, ↓fApp, ↓fExt, ↓fPop, ↓fPopAt, ↓fSl, ↓fPart, ↓fNoPart, ↓fSeq, ↓fRng1, ↓fRng2, ↓fEnum, ↓fZip, ↓fGN, ↓fGT, ↓fGcons, ↓fGnil, ↓fLc, ↓fLl, ↓fYes, ↓fOwn, ↓fAt2, ↓fCount, ↓fIndex, ↓fRev, ↓fMulL, ↓fSel, ↓sTry, ↓fIsP, ↓isLk, ↓L3.gSub, ↓gMulI, ↓gDiv, ↓gMod, ↓gPow, ↓gLt, ↓gLe, ↓gGt, ↓gGe, ↓gI, ↓gIC, ↓gAdd, ↓gIx, ↓gSl, ↓gLen, ↓gAll, ↓gAny, ↓gSum, ↓gMin2, ↓gMax2, ↓gList, ↓gTuple, ↓gNe, ↓gNotIn, ↓gIs, ↓gIsNot, ↓isNone, ↓look, ↓withD, ↓isD, ↓isB, ↓areD, ↓withDs, ↓isBor, ↓isLst, ↓isLl, ↓isI, ↓items1, ↓itemsD, ↓argsM, ↓putB, ↓pjs, ↓outsOf, ↓fin, ↓startE, ↓wipeK, ↓wipeE, ↓unw, ↓noOwnB, gEq_ii, gEq_ss, gEq_bb, own_no, own_dat, own_lst, own_ll, List.getD_cons_zero, List.getD_cons_succ, List.set_cons_zero, List.set_cons_succ, List.replicate_succ, List.replicate_zero, List.cons_append, List.nil_append, List.length_cons, List.length_nil, List.map_cons, List.map_nil, List.all_cons, List.all_nil, Nat.reduceAdd, Nat.reduceSub, Bool.not_false, Bool.not_true, Bool.and_true, Bool.and_self, if_true, if_false, reduceCtorEq, List.zipIdx_cons, List.zipIdx_nil, List.filterMap_cons, List.filterMap_nil, Option.map_some, Option.map_none, decide_true, Nat.zero_add, reduceIte, Bool.false_eq_true, true_and, and_true, startE]
    refine ⟨by decide, by decide, by decide, by decide, ?_⟩
    rw [if_neg (by decide)]
  · exact ⟨0, _, by decide, by decide, rfl, by decide, bools_before ((List.range 10).map fun j => decide (j = 0)) 0 (by decide), hp⟩
  · exact ⟨1, _, by decide, by decide, rfl, by decide, bools_before ((List.range 10).map fun j => decide (j = 1)) 1 (by decide), hp⟩
  · exact ⟨2, _, by decide, by decide, rfl, by decide, bools_before ((List.range 10).map fun j => decide (j = 2)) 2 (by decide), hp⟩
  · exact ⟨3, _, by decide, by decide, rfl, by decide, bools_before ((List.range 10).map fun j => decide (j = 3)) 3 (by decide), hp⟩
  · exact ⟨4, _, by decide, by decide, rfl, by decide, bools_before ((List.range 10).map fun j => decide (j = 4)) 4 (by decide), hp⟩
  · exact ⟨5, _, by decide, by decide, rfl, by decide, bools_before ((List.range 10).map fun j => decide (j = 5)) 5 (by decide), hp⟩
  · exact ⟨6, _, by decide, by decide, rfl, by decide, bools_before ((List.range 10).map fun j => decide (j = 6)) 6 (by decide), hp⟩
  · exact ⟨7, _, by decide, by decide, rfl, by decide, bools_before ((List.range 10).map fun j => decide (j = 7)) 7 (by decide), hp⟩
  · exact ⟨8, _, by decide, by decide, rfl, by decide, bools_before ((List.range 10).map fun j => decide (j = 8)) 8 (by decide), hp⟩
  · exact ⟨9, _, by decide, by decide, rfl, by decide, bools_before ((List.range 10).map fun j => decide (j = 9)) 9 (by decide), hp⟩
end My

namespace My
open PySem PySem.Spec PyProof.Rows L2 L3
/-! ### odd pictures -/
def T__law_odd_picture : TXS :=
  (sSeq (sSet 2 (fOf (fFz (fLst (fCons (fC .none) (fCons (fC (.int 5)) (fCons (fTup fNil) (fCons (fTup (fCons (fC (.str "")) fNil)) (fCons (fTup (fCons (fC (.str "#")) (fCons (fC (.str "##")) fNil))) (fCons (fTup (fCons (fC (.str "# ")) fNil)) (fCons (fFz (fLst (fCons (fC (.str "#")) fNil))) (fCons (fTup (fCons (fFz (fBinN gMul (fC (.str "#")) (fC (.int 9)))) fNil)) (fCons (fFz (fBinN gMul (fTup (fCons (fC (.str "#")) fNil)) (fC (.int 9)))) (fCons (fC (.str "#")) (fCons (fTup (fCons (fC (.str "#")) (fCons (fC .none) fNil))) (fCons (fTup (fCons (fC (.str "o")) fNil)) (fCons (fTup (fCons (fC (.int 5)) fNil)) fNil)))))))))))))))))
  (sRet (fOwn [none, some 1, none] (dsp__law_pick) (fCons (fName 0) (fCons (fName 1) (fCons (fName 2) fNil))))))

def oddD : List PyData := [.none, .int 5, .tuple [], .tuple [.str ""], .tuple [.str "#", .str "##"], .tuple [.str "# "], .list [.str "#"], .tuple [.str (Txt.mul "#" 9)], .tuple (List.replicate 9 [PyData.str "#"]).flatten, .str "#", .tuple [.str "#", .none], .tuple [.str "o"], .tuple [.int 5]]
def dsp__law_odd_picture : DSp := fun es post _ => ∃ (ns : List Int) (tw : List PyData), es = [scr ns, .lst tw] ∧ tw.length < sizeLine ∧ ∀ d, smallP d → isPicD d = false → okD d = true → post (.dat d) [.lst (tw ++ [.int 0])]
def smallB : PyData → Bool
  | .tuple ds => ds.all fun d => match d with
    | .str s => decide (s.length ≤ sizeLine)
    | _ => true
  | .dict _ => false
  | _ => true
theorem smallB_of {d : PyData} (h : smallB d = true) : smallP d := by
  cases d with
  | tuple ds =>
    intro x hx
    have := List.all_eq_true.mp h x hx
    cases x with
    | str s => exact (of_decide_eq_true (p := s.length ≤ sizeLine) this : s.length ≤ sizeLine)
    | _ => trivial
  | dict _ => cases h
  | _ => trivial
theorem odd_all : ∀ d ∈ oddD, smallP d ∧ isPicD d = false ∧ okD d = true := by
  intro d hd
  have hp : oddD.all (fun d => !isPicD d && okD d && smallB d) = true := by decide
  have := List.all_eq_true.mp hp d hd
  rw [Bool.and_eq_true, Bool.and_eq_true, Bool.not_eq_true'] at this
  exact ⟨smallB_of this.2, this.1.1, this.1.2⟩
theorem good__law_odd_picture : Good [1] 3 2 T__law_odd_picture dsp__law_odd_picture := by
  rintro es post xp ⟨ns, tw, rfl, ht, hp⟩ _
  unfold T__law_odd_picture
  refine sSeq_g fun N hN => ?_
  simp only [↓sRet, ↓sNil, ↓sIf, ↓sSet, ↓sAsg, ↓sPar, ↓sPar3, ↓sSub, ↓sSub2, ↓sExpr, ↓sExprR, ↓sRetV, ↓sRetN, ↓sRaise, ↓sBrk, ↓sCt, ↓fOf, ↓fFz, ↓fName, ↓fFrz, ↓fC, ↓fBin, ↓fBinN, ↓fT, ↓fNot, ↓fAnd, ↓fOr, ↓fAndV, ↓fOrV, ↓fNotV, ↓fIf, ↓fIfN, ↓fChain, ↓fNil, ↓fCons, ↓fTup, ↓fLst, ↓fNeg, ↓fCall, ↓fIsI, ↓fJoin, ↓fApp, ↓fExt, ↓fPop, ↓fPopAt, ↓fSl, ↓fPart, ↓fNoPart, ↓fSeq, ↓fRng1, ↓fRng2, ↓fEnum, ↓fZip, ↓fGN, ↓fGT, ↓fGcons, ↓fGnil, ↓fLc, ↓fLl, ↓fYes, ↓fOwn, ↓fAt2, ↓fCount, ↓fIndex, ↓fRev, ↓fMulL, ↓fSel, ↓sTry, ↓fIsP, ↓isLk, ↓L3.gSub, ↓gMulI, ↓gDiv, ↓gMod, ↓gPow, ↓gLt, ↓gLe, ↓gGt, ↓gGe, ↓gI, ↓gIC, ↓gAdd, ↓gIx, ↓gSl, ↓gLen, ↓gAll, ↓gAny, ↓gSum, ↓gMin2, ↓gMax2, ↓gList, ↓gTuple, ↓gNe, ↓gNotIn, ↓gIs, ↓gIsNot, ↓isNone, ↓look, ↓withD, ↓isD, ↓isB, ↓areD, ↓withDs, ↓isBor, ↓isLst, ↓isLl, ↓isI, ↓items1, ↓itemsD, ↓argsM, ↓putB, ↓pjs, ↓outsOf, ↓fin, ↓startE, ↓wipeK, ↓wipeE, ↓unw, ↓noOwnB, gEq_ii, gEq_ss, gEq_bb, own_no, own_dat, own_lst, own_ll, List.getD_cons_zero, List.getD_cons_succ, List.set_cons_zero, List.set_cons_succ, List.replicate_succ, List.replicate_zero, List.cons_append, List.nil_append, List.length_cons, List.length_nil, List.map_cons, List.map_nil, List.all_cons, List.all_nil, Nat.reduceAdd, Nat.reduceSub, Bool.not_false, Bool.not_true, Bool.and_true, Bool.and_self, if_true, if_false, reduceCtorEq, List.zipIdx_cons, List.zipIdx_nil, List.filterMap_cons, List.filterMap_nil, Option.map_some, Option.map_none, decide_true, Nat.zero_add, reduceIte, Bool.false_eq_true, true_and, and_true, startE, gMul]
  refine ⟨mulS_ok (by decide) (by decide) (by decide), by decide, by decide, by decide, by decide, hN _ ?_⟩
  clear hN N
  simp only [↓sRet, ↓sNil, ↓sIf, ↓sSet, ↓sAsg, ↓sPar, ↓sPar3, ↓sSub, ↓sSub2, ↓sExpr, ↓sExprR, ↓sRetV, ↓sRetN, ↓sRaise, ↓sBrk, ↓sCt, ↓fOf, ↓fFz, ↓fName, ↓fFrz, ↓fC, ↓fBin, ↓fBinN, ↓fT, ↓fNot, ↓fAnd, ↓fOr, ↓fAndV, ↓fOrV, ↓fNotV, ↓fIf, ↓fIfN, ↓fChain, ↓fNil, ↓fCons, ↓fTup, ↓fLst, ↓fNeg, ↓fCall, ↓fIsI, ↓fJoin, ↓fApp, ↓fExt, ↓fPop, ↓fPopAt, ↓fSl, ↓fPart, ↓fNoPart, ↓fSeq, ↓fRng1, ↓fRng2, ↓fEnum, ↓fZip, ↓fGN, ↓fGT, ↓fGcons, ↓fGnil, ↓fLc, ↓fLl, ↓fYes, ↓fOwn, ↓fAt2, ↓fCount, ↓fIndex, ↓fRev, ↓fMulL, ↓fSel, ↓sTry, ↓fIsP, ↓isLk, ↓L3.gSub, ↓gMulI, ↓gDiv, ↓gMod, ↓gPow, ↓gLt, ↓gLe, ↓gGt, ↓gGe, ↓gI, ↓gIC, ↓gAdd, ↓gIx, ↓gSl, ↓gLen, ↓gAll, ↓gAny, ↓gSum, ↓gMin2, ↓gMax2, ↓gList, ↓gTuple, ↓gNe, ↓gNotIn, ↓gIs, ↓gIsNot, ↓isNone, ↓look, ↓withD, ↓isD, ↓isB, ↓areD, ↓withDs, ↓isBor, ↓isLst, ↓isLl, ↓isI, ↓items1, ↓itemsD, ↓argsM, ↓putB, ↓pjs, ↓outsOf, ↓fin, ↓startE, ↓wipeK, ↓wipeE, ↓unw, ↓noOwnB, gEq_ii, gEq_ss, gEq_bb, own_no, own_dat, own_lst, own_ll, List.getD_cons_zero, List.getD_cons_succ, List.set_cons_zero, List.set_cons_succ, List.replicate_succ, List.replicate_zero, List.cons_append, List.nil_append, List.length_cons, List.length_nil, List.map_cons, List.map_nil, List.all_cons, List.all_nil, Nat.reduceAdd, Nat.reduceSub, Bool.not_false, Bool.not_true, Bool.and_true, Bool.and_self, if_true, if_false, reduceCtorEq, List.zipIdx_cons, List.zipIdx_nil, List.filterMap_cons, List.filterMap_nil, Option.map_some, Option.map_none, decide_true, Nat.zero_add, reduceIte, Bool.false_eq_true, true_and, and_true, dsp__law_pick]
  refine ⟨ns, tw, oddD, .inl rfl, ht, by decide, fun z hz => ?_⟩
  obtain ⟨h1, h2, h3⟩ := odd_all z hz
  exact hp z h1 h2 h3
theorem gNe_same {d : PyData} {Q : PyData → Prop} (h : okD d = true) (hQ : Q (.bool false)) : gNe d d Q := gEq_same (Q := fun r => isB r fun b => Q (.bool (!b))) h hQ
theorem mem_rangeD {n : Nat} {d : PyData} (h : d ∈ rangeD 0 n) : ∃ i : Int, 0 ≤ i ∧ i < n ∧ d = .int i := by
  obtain ⟨i, hi⟩ := List.getElem?_of_mem h
  obtain ⟨a, b⟩ := rangeD_get hi
  exact ⟨0 + (i : Nat), by omega, by omega, b⟩
end My

namespace My
open PySem PySem.Spec PyProof.Rows L2 L3
/-! ### pictures turned and mirrored -/
theorem lineS_rev (l : List Bool) : (⟨(lineS l).cps.toList.reverse.toArray⟩ : Str) = lineS l.reverse := by
  unfold lineS
  rw [List.map_reverse]
def mirP (p : List (List Bool)) : List (List Bool) := p.map List.reverse
def T_mirror_of : TXS :=
  (sRet (fCall gTuple (fCons (fFz (fLc (fSeq (fName 0)) (fGN 1) fYes (fFz (fRev (fName 1))) [1])) fNil)))

def dsp_mirror_of : DSp := fun es post _ => ∃ (p : List (List Bool)), es = [.dat (encP p)] ∧ Short p ∧ post (.dat (encP (mirP p))) []
theorem good_mirror_of : Good [] 2 1 T_mirror_of dsp_mirror_of := by
  rintro es post xp ⟨p, rfl, hs, hp⟩ _
  unfold T_mirror_of
  simp only [↓sRet, ↓sNil, ↓sIf, ↓sSet, ↓sAsg, ↓sPar, ↓sPar3, ↓sSub, ↓sSub2, ↓sExpr, ↓sExprR, ↓sRetV, ↓sRetN, ↓sRaise, ↓sBrk, ↓sCt, ↓fOf, ↓fFz, ↓fName, ↓fFrz, ↓fC, ↓fBin, ↓fBinN, ↓fT, ↓fNot, ↓fAnd, ↓fOr, ↓fAndV, ↓fOrV, ↓fNotV, ↓fIf, ↓fIfN, ↓fChain, ↓fNil, ↓fCons, ↓fTup, ↓fLst, ↓fNeg, ↓fCall, ↓fIsI, ↓fJoin, ↓fApp, ↓fExt, ↓fPop, ↓fPopAt, ↓fSl, ↓fPart, ↓fNoPart, ↓fSeq, ↓fRng1, ↓fRng2, ↓fEnum, ↓fZip, ↓fGN, ↓fGT, ↓fGcons, ↓fGnil, ↓fLc, ↓fLl, ↓fYes, ↓fOwn, ↓fAt2, ↓fCount, ↓fIndex, ↓fRev, ↓fMulL, ↓fSel, ↓sTry, ↓fIsP, ↓isLk, ↓L3.gSub, ↓gMulI, ↓gDiv, ↓gMod, ↓gPow, ↓gLt, ↓gLe, ↓gGt, ↓gGe, ↓gI, ↓gIC, ↓gAdd, ↓gIx, ↓gSl, ↓gLen, ↓gAll, ↓gAny, ↓gSum, ↓gMin2, ↓gMax2, ↓gList, ↓gTuple, ↓gNe, ↓gNotIn, ↓gIs, ↓gIsNot, ↓isNone, ↓look, ↓withD, ↓isD, ↓isB, ↓areD, ↓withDs, ↓isBor, ↓isLst, ↓isLl, ↓isI, ↓items1, ↓itemsD, ↓argsM, ↓putB, ↓pjs, ↓outsOf, ↓fin, ↓startE, ↓wipeK, ↓wipeE, ↓unw, ↓noOwnB, gEq_ii, gEq_ss, gEq_bb, own_no, own_dat, own_lst, own_ll, List.getD_cons_zero, List.getD_cons_succ, List.set_cons_zero, List.set_cons_succ, List.replicate_succ, List.replicate_zero, List.cons_append, List.nil_append, List.length_cons, List.length_nil, List.map_cons, List.map_nil, List.all_cons, List.all_nil, Nat.reduceAdd, Nat.reduceSub, Bool.not_false, Bool.not_true, Bool.and_true, Bool.and_self, if_true, if_false, reduceCtorEq, List.zipIdx_cons, List.zipIdx_nil, List.filterMap_cons, List.filterMap_nil, Option.map_some, Option.map_none, decide_true, Nat.zero_add, reduceIte, Bool.false_eq_true, true_and, and_true, startE, encP]
  refine ⟨by rw [List.length_map]; exact small (by have := hs.1; omega), ?_⟩
  refine lcR_enc1 encL (fun l => encL l.reverse) (fun l hl k hk => ?_) ?_
  · simp only [lcStep, ↓sRet, ↓sNil, ↓sIf, ↓sSet, ↓sAsg, ↓sPar, ↓sPar3, ↓sSub, ↓sSub2, ↓sExpr, ↓sExprR, ↓sRetV, ↓sRetN, ↓sRaise, ↓sBrk, ↓sCt, ↓fOf, ↓fFz, ↓fName, ↓fFrz, ↓fC, ↓fBin, ↓fBinN, ↓fT, ↓fNot, ↓fAnd, ↓fOr, ↓fAndV, ↓fOrV, ↓fNotV, ↓fIf, ↓fIfN, ↓fChain, ↓fNil, ↓fCons, ↓fTup, ↓fLst, ↓fNeg, ↓fCall, ↓fIsI, ↓fJoin, ↓fApp, ↓fExt, ↓fPop, ↓fPopAt, ↓fSl, ↓fPart, ↓fNoPart, ↓fSeq, ↓fRng1, ↓fRng2, ↓fEnum, ↓fZip, ↓fGN, ↓fGT, ↓fGcons, ↓fGnil, ↓fLc, ↓fLl, ↓fYes, ↓fOwn, ↓fAt2, ↓fCount, ↓fIndex, ↓fRev, ↓fMulL, ↓fSel, ↓sTry, ↓fIsP, ↓isLk, ↓L3.gSub, ↓gMulI, ↓gDiv, ↓gMod, ↓gPow, ↓gLt, ↓gLe, ↓gGt, ↓gGe, ↓gI, ↓gIC, ↓gAdd, ↓gIx, ↓gSl, ↓gLen, ↓gAll, ↓gAny, ↓gSum, ↓gMin2, ↓gMax2, ↓gList, ↓gTuple, ↓gNe, ↓gNotIn, ↓gIs, ↓gIsNot, ↓isNone, ↓look, ↓withD, ↓isD, ↓isB, ↓areD, ↓withDs, ↓isBor, ↓isLst, ↓isLl, ↓isI, ↓items1, ↓itemsD, ↓argsM, ↓putB, ↓pjs, ↓outsOf, ↓fin, ↓startE, ↓wipeK, ↓wipeE, ↓unw, ↓noOwnB, gEq_ii, gEq_ss, gEq_bb, own_no, own_dat, own_lst, own_ll, List.getD_cons_zero, List.getD_cons_succ, List.set_cons_zero, List.set_cons_succ, List.replicate_succ, List.replicate_zero, List.cons_append, List.nil_append, List.length_cons, List.length_nil, List.map_cons, List.map_nil, List.all_cons, List.all_nil, Nat.reduceAdd, Nat.reduceSub, Bool.not_false, Bool.not_true, Bool.and_true, Bool.and_self, if_true, if_false, reduceCtorEq, List.zipIdx_cons, List.zipIdx_nil, List.filterMap_cons, List.filterMap_nil, Option.map_some, Option.map_none, decide_true, Nat.zero_add, reduceIte, Bool.false_eq_true, true_and, and_true, encL]
    refine ⟨by rw [lineS_len]; exact Nat.le_of_lt (small (by have := hs.2 l hl; omega)), ?_⟩
    rw [lineS_rev]
    exact hk
  simp only [↓sRet, ↓sNil, ↓sIf, ↓sSet, ↓sAsg, ↓sPar, ↓sPar3, ↓sSub, ↓sSub2, ↓sExpr, ↓sExprR, ↓sRetV, ↓sRetN, ↓sRaise, ↓sBrk, ↓sCt, ↓fOf, ↓fFz, ↓fName, ↓fFrz, ↓fC, ↓fBin, ↓fBinN, ↓fT, ↓fNot, ↓fAnd, ↓fOr, ↓fAndV, ↓fOrV, ↓fNotV, ↓fIf, ↓fIfN, ↓fChain, ↓fNil, ↓fCons, ↓fTup, ↓fLst, ↓fNeg, ↓fCall, ↓fIsI, ↓fJoin, ↓fApp, ↓fExt, ↓fPop, ↓fPopAt, ↓fSl, ↓fPart, ↓fNoPart, ↓fSeq, ↓fRng1, ↓fRng2, ↓fEnum, ↓fZip, ↓fGN, ↓fGT, ↓fGcons, ↓fGnil, ↓fLc, ↓fLl, ↓fYes, ↓fOwn, ↓fAt2, ↓fCount, ↓fIndex, ↓fRev, ↓fMulL, ↓fSel, ↓sTry, ↓fIsP, ↓isLk, ↓L3.gSub, ↓gMulI, ↓gDiv, ↓gMod, ↓gPow, ↓gLt, ↓gLe, ↓gGt, ↓gGe, ↓gI, ↓gIC, ↓gAdd, ↓gIx, ↓gSl, ↓gLen, ↓gAll, ↓gAny, ↓gSum, ↓gMin2, ↓gMax2, ↓gList, ↓gTuple, ↓gNe, ↓gNotIn, ↓gIs, ↓gIsNot, ↓isNone, ↓look, ↓withD, ↓isD, ↓isB, ↓areD, ↓withDs, ↓isBor, ↓isLst, ↓isLl, ↓isI, ↓items1, ↓itemsD, ↓argsM, ↓putB, ↓pjs, ↓outsOf, ↓fin, ↓startE, ↓wipeK, ↓wipeE, ↓unw, ↓noOwnB, gEq_ii, gEq_ss, gEq_bb, own_no, own_dat, own_lst, own_ll, List.getD_cons_zero, List.getD_cons_succ, List.set_cons_zero, List.set_cons_succ, List.replicate_succ, List.replicate_zero, List.cons_append, List.nil_append, List.length_cons, List.length_nil, List.map_cons, List.map_nil, List.all_cons, List.all_nil, Nat.reduceAdd, Nat.reduceSub, Bool.not_false, Bool.not_true, Bool.and_true, Bool.and_self, if_true, if_false, reduceCtorEq, List.zipIdx_cons, List.zipIdx_nil, List.filterMap_cons, List.filterMap_nil, Option.map_some, Option.map_none, decide_true, Nat.zero_add, reduceIte, Bool.false_eq_true, true_and, and_true]
  have e : p.map (fun l => encL l.reverse) = (mirP p).map encL := by unfold mirP; rw [List.map_map]; rfl
  rw [e]
  exact hp
theorem mir_wf {p : List (List Bool)} {h w : Nat} (P : Wf h w p) : Wf h w (mirP p) := ⟨P.h1, P.h8, P.w1, P.w8, by unfold mirP; rw [List.length_map, P.len], fun r hr => by
  obtain ⟨l, hl, rfl⟩ := List.mem_map.mp hr
  rw [List.length_reverse, P.row l hl]⟩
def T_flipped (cs : Cs) : TXS :=
  (sSeq (sExpr (fOwn [none] (dsp_need_picture cs) (fCons (fName 0) fNil)))
  (sRet (fOwn [none] (dsp_mirror_of) (fCons (fName 0) fNil))))

def dsp_flipped (cs : Cs) : DSp := dspPic cs fun p _ _ => .dat (encP (mirP p))
theorem good_flipped (cs : Cs) : Good [] 1 1 (T_flipped cs) (dsp_flipped cs) := by
  rintro es post xp ⟨d, rfl, hs, hx, hp⟩ _
  unfold T_flipped
  refine sSeq_g fun N hN => ?_
  simp only [↓sRet, ↓sNil, ↓sIf, ↓sSet, ↓sAsg, ↓sPar, ↓sPar3, ↓sSub, ↓sSub2, ↓sExpr, ↓sExprR, ↓sRetV, ↓sRetN, ↓sRaise, ↓sBrk, ↓sCt, ↓fOf, ↓fFz, ↓fName, ↓fFrz, ↓fC, ↓fBin, ↓fBinN, ↓fT, ↓fNot, ↓fAnd, ↓fOr, ↓fAndV, ↓fOrV, ↓fNotV, ↓fIf, ↓fIfN, ↓fChain, ↓fNil, ↓fCons, ↓fTup, ↓fLst, ↓fNeg, ↓fCall, ↓fIsI, ↓fJoin, ↓fApp, ↓fExt, ↓fPop, ↓fPopAt, ↓fSl, ↓fPart, ↓fNoPart, ↓fSeq, ↓fRng1, ↓fRng2, ↓fEnum, ↓fZip, ↓fGN, ↓fGT, ↓fGcons, ↓fGnil, ↓fLc, ↓fLl, ↓fYes, ↓fOwn, ↓fAt2, ↓fCount, ↓fIndex, ↓fRev, ↓fMulL, ↓fSel, ↓sTry, ↓fIsP, ↓isLk, ↓L3.gSub, ↓gMulI, ↓gDiv, ↓gMod, ↓gPow, ↓gLt, ↓gLe, ↓gGt, ↓gGe, ↓gI, ↓gIC, ↓gAdd, ↓gIx, ↓gSl, ↓gLen, ↓gAll, ↓gAny, ↓gSum, ↓gMin2, ↓gMax2, ↓gList, ↓gTuple, ↓gNe, ↓gNotIn, ↓gIs, ↓gIsNot, ↓isNone, ↓look, ↓withD, ↓isD, ↓isB, ↓areD, ↓withDs, ↓isBor, ↓isLst, ↓isLl, ↓isI, ↓items1, ↓itemsD, ↓argsM, ↓putB, ↓pjs, ↓outsOf, ↓fin, ↓startE, ↓wipeK, ↓wipeE, ↓unw, ↓noOwnB, gEq_ii, gEq_ss, gEq_bb, own_no, own_dat, own_lst, own_ll, List.getD_cons_zero, List.getD_cons_succ, List.set_cons_zero, List.set_cons_succ, List.replicate_succ, List.replicate_zero, List.cons_append, List.nil_append, List.length_cons, List.length_nil, List.map_cons, List.map_nil, List.all_cons, List.all_nil, Nat.reduceAdd, Nat.reduceSub, Bool.not_false, Bool.not_true, Bool.and_true, Bool.and_self, if_true, if_false, reduceCtorEq, List.zipIdx_cons, List.zipIdx_nil, List.filterMap_cons, List.filterMap_nil, Option.map_some, Option.map_none, decide_true, Nat.zero_add, reduceIte, Bool.false_eq_true, true_and, and_true, startE, dsp_need_picture]
  refine ⟨d, rfl, hs, fun pd => hN _ ?_, fun z => hx z⟩
  clear hN N
  obtain ⟨p, h, w, rfl, P⟩ := isPic_enc pd
  simp only [↓sRet, ↓sNil, ↓sIf, ↓sSet, ↓sAsg, ↓sPar, ↓sPar3, ↓sSub, ↓sSub2, ↓sExpr, ↓sExprR, ↓sRetV, ↓sRetN, ↓sRaise, ↓sBrk, ↓sCt, ↓fOf, ↓fFz, ↓fName, ↓fFrz, ↓fC, ↓fBin, ↓fBinN, ↓fT, ↓fNot, ↓fAnd, ↓fOr, ↓fAndV, ↓fOrV, ↓fNotV, ↓fIf, ↓fIfN, ↓fChain, ↓fNil, ↓fCons, ↓fTup, ↓fLst, ↓fNeg, ↓fCall, ↓fIsI, ↓fJoin, ↓fApp, ↓fExt, ↓fPop, ↓fPopAt, ↓fSl, ↓fPart, ↓fNoPart, ↓fSeq, ↓fRng1, ↓fRng2, ↓fEnum, ↓fZip, ↓fGN, ↓fGT, ↓fGcons, ↓fGnil, ↓fLc, ↓fLl, ↓fYes, ↓fOwn, ↓fAt2, ↓fCount, ↓fIndex, ↓fRev, ↓fMulL, ↓fSel, ↓sTry, ↓fIsP, ↓isLk, ↓L3.gSub, ↓gMulI, ↓gDiv, ↓gMod, ↓gPow, ↓gLt, ↓gLe, ↓gGt, ↓gGe, ↓gI, ↓gIC, ↓gAdd, ↓gIx, ↓gSl, ↓gLen, ↓gAll, ↓gAny, ↓gSum, ↓gMin2, ↓gMax2, ↓gList, ↓gTuple, ↓gNe, ↓gNotIn, ↓gIs, ↓gIsNot, ↓isNone, ↓look, ↓withD, ↓isD, ↓isB, ↓areD, ↓withDs, ↓isBor, ↓isLst, ↓isLl, ↓isI, ↓items1, ↓itemsD, ↓argsM, ↓putB, ↓pjs, ↓outsOf, ↓fin, ↓startE, ↓wipeK, ↓wipeE, ↓unw, ↓noOwnB, gEq_ii, gEq_ss, gEq_bb, own_no, own_dat, own_lst, own_ll, List.getD_cons_zero, List.getD_cons_succ, List.set_cons_zero, List.set_cons_succ, List.replicate_succ, List.replicate_zero, List.cons_append, List.nil_append, List.length_cons, List.length_nil, List.map_cons, List.map_nil, List.all_cons, List.all_nil, Nat.reduceAdd, Nat.reduceSub, Bool.not_false, Bool.not_true, Bool.and_true, Bool.and_self, if_true, if_false, reduceCtorEq, List.zipIdx_cons, List.zipIdx_nil, List.filterMap_cons, List.filterMap_nil, Option.map_some, Option.map_none, decide_true, Nat.zero_add, reduceIte, Bool.false_eq_true, true_and, and_true, dsp_mirror_of]
  exact ⟨p, rfl, P.short, hp p h w rfl P⟩
theorem flipped_ok {cs : Cs} {p : List (List Bool)} {h w : Nat} (P : Wf h w p) {post : E → List E → Prop} {xp : Value → List E → Prop} (hp : post (.dat (encP (mirP p))) []) : dsp_flipped cs [.dat (encP p)] post xp :=
  pic_ok (f := fun p _ _ => .dat (encP (mirP p))) P (fun _ _ _ => rfl) hp
/-- how wide -/
def wid (p : List (List Bool)) : Nat := (p.getD 0 []).length
theorem Wf.wid {h w : Nat} {p : List (List Bool)} (P : Wf h w p) : My.wid p = w := by
  have h0 : 0 < p.length := by rw [P.len]; exact P.h1
  unfold My.wid
  rw [getD_at h0]
  exact P.row _ (List.getElem_mem h0)
/-- turned by n quarters -/
def qN (p : List (List Bool)) : Nat → List (List Bool)
  | 0 => p
  | n + 1 => quartP (qN p n) (wid (qN p n))
theorem qN_wf {p : List (List Bool)} {h w : Nat} (P : Wf h w p) : ∀ n, ∃ h' w', Wf h' w' (qN p n) ∧ ((h' = h ∧ w' = w) ∨ (h' = w ∧ w' = h))
  | 0 => ⟨h, w, P, .inl ⟨rfl, rfl⟩⟩
  | n + 1 => by
    obtain ⟨h', w', P', z⟩ := qN_wf P n
    refine ⟨w', h', ?_, ?_⟩
    · have e := quart_wf P'
      show Wf w' h' (quartP (qN p n) (wid (qN p n)))
      rw [P'.wid]
      exact e
    · rcases z with ⟨rfl, rfl⟩ | ⟨rfl, rfl⟩
      · exact .inr ⟨rfl, rfl⟩
      · exact .inl ⟨rfl, rfl⟩
def turnsTo (p : List (List Bool)) (n : Nat) : List (List (List Bool)) := (List.range n).flatMap fun k => [qN p k, mirP (qN p k)]
theorem turnsTo_succ (p : List (List Bool)) (n : Nat) : turnsTo p (n + 1) = turnsTo p n ++ [qN p n, mirP (qN p n)] := by
  unfold turnsTo
  rw [List.range_succ, List.flatMap_append]
  rfl
theorem turnsTo_len (p : List (List Bool)) : ∀ n, (turnsTo p n).length = 2 * n
  | 0 => rfl
  | n + 1 => by rw [turnsTo_succ, List.length_append, turnsTo_len p n]; rfl
def turnsP (p : List (List Bool)) : List (List (List Bool)) := turnsTo p 4
def T_turns_of : TXS :=
  (sSeq (sSet 1 (fLst fNil))
  (sSeq (sSet 2 (fOf (fName 0)))
  (sSeq (sFor (fRng1 (fCons (fC (.int 4)) fNil)) (fGN 3) (sSeq (sExprR (fExt (fName 1) (fLst (fCons (fName 2) (fCons (fFz (fOwn [none] (dsp_mirror_of) (fCons (fName 2) fNil))) fNil)))))
  (sSet 2 (fOf (fFz (fOwn [none] (dsp_quarter_of) (fCons (fName 2) fNil)))))))
  (sRetV 1))))

def dsp_turns_of : DSp := fun es post _ => ∃ (p : List (List Bool)) (h w : Nat), es = [.dat (encP p)] ∧ Wf h w p ∧ post (.lst ((turnsP p).map encP)) []
theorem good_turns_of : Good [] 4 1 T_turns_of dsp_turns_of := by
  rintro es post xp ⟨p, h, w, rfl, P, hp⟩ _
  unfold T_turns_of
  refine sSeq_g fun N hN => ?_
  simp only [↓sRet, ↓sNil, ↓sIf, ↓sSet, ↓sAsg, ↓sPar, ↓sPar3, ↓sSub, ↓sSub2, ↓sExpr, ↓sExprR, ↓sRetV, ↓sRetN, ↓sRaise, ↓sBrk, ↓sCt, ↓fOf, ↓fFz, ↓fName, ↓fFrz, ↓fC, ↓fBin, ↓fBinN, ↓fT, ↓fNot, ↓fAnd, ↓fOr, ↓fAndV, ↓fOrV, ↓fNotV, ↓fIf, ↓fIfN, ↓fChain, ↓fNil, ↓fCons, ↓fTup, ↓fLst, ↓fNeg, ↓fCall, ↓fIsI, ↓fJoin, ↓fApp, ↓fExt, ↓fPop, ↓fPopAt, ↓fSl, ↓fPart, ↓fNoPart, ↓fSeq, ↓fRng1, ↓fRng2, ↓fEnum, ↓fZip, ↓fGN, ↓fGT, ↓fGcons, ↓fGnil, ↓fLc, ↓fLl, ↓fYes, ↓fOwn, ↓fAt2, ↓fCount, ↓fIndex, ↓fRev, ↓fMulL, ↓fSel, ↓sTry, ↓fIsP, ↓isLk, ↓L3.gSub, ↓gMulI, ↓gDiv, ↓gMod, ↓gPow, ↓gLt, ↓gLe, ↓gGt, ↓gGe, ↓gI, ↓gIC, ↓gAdd, ↓gIx, ↓gSl, ↓gLen, ↓gAll, ↓gAny, ↓gSum, ↓gMin2, ↓gMax2, ↓gList, ↓gTuple, ↓gNe, ↓gNotIn, ↓gIs, ↓gIsNot, ↓isNone, ↓look, ↓withD, ↓isD, ↓isB, ↓areD, ↓withDs, ↓isBor, ↓isLst, ↓isLl, ↓isI, ↓items1, ↓itemsD, ↓argsM, ↓putB, ↓pjs, ↓outsOf, ↓fin, ↓startE, ↓wipeK, ↓wipeE, ↓unw, ↓noOwnB, gEq_ii, gEq_ss, gEq_bb, own_no, own_dat, own_lst, own_ll, List.getD_cons_zero, List.getD_cons_succ, List.set_cons_zero, List.set_cons_succ, List.replicate_succ, List.replicate_zero, List.cons_append, List.nil_append, List.length_cons, List.length_nil, List.map_cons, List.map_nil, List.all_cons, List.all_nil, Nat.reduceAdd, Nat.reduceSub, Bool.not_false, Bool.not_true, Bool.and_true, Bool.and_self, if_true, if_false, reduceCtorEq, List.zipIdx_cons, List.zipIdx_nil, List.filterMap_cons, List.filterMap_nil, Option.map_some, Option.map_none, decide_true, Nat.zero_add, reduceIte, Bool.false_eq_true, true_and, and_true, startE]
  refine hN _ ?_
  clear hN N
  refine sSeq_g fun N hN => ?_
  simp only [↓sRet, ↓sNil, ↓sIf, ↓sSet, ↓sAsg, ↓sPar, ↓sPar3, ↓sSub, ↓sSub2, ↓sExpr, ↓sExprR, ↓sRetV, ↓sRetN, ↓sRaise, ↓sBrk, ↓sCt, ↓fOf, ↓fFz, ↓fName, ↓fFrz, ↓fC, ↓fBin, ↓fBinN, ↓fT, ↓fNot, ↓fAnd, ↓fOr, ↓fAndV, ↓fOrV, ↓fNotV, ↓fIf, ↓fIfN, ↓fChain, ↓fNil, ↓fCons, ↓fTup, ↓fLst, ↓fNeg, ↓fCall, ↓fIsI, ↓fJoin, ↓fApp, ↓fExt, ↓fPop, ↓fPopAt, ↓fSl, ↓fPart, ↓fNoPart, ↓fSeq, ↓fRng1, ↓fRng2, ↓fEnum, ↓fZip, ↓fGN, ↓fGT, ↓fGcons, ↓fGnil, ↓fLc, ↓fLl, ↓fYes, ↓fOwn, ↓fAt2, ↓fCount, ↓fIndex, ↓fRev, ↓fMulL, ↓fSel, ↓sTry, ↓fIsP, ↓isLk, ↓L3.gSub, ↓gMulI, ↓gDiv, ↓gMod, ↓gPow, ↓gLt, ↓gLe, ↓gGt, ↓gGe, ↓gI, ↓gIC, ↓gAdd, ↓gIx, ↓gSl, ↓gLen, ↓gAll, ↓gAny, ↓gSum, ↓gMin2, ↓gMax2, ↓gList, ↓gTuple, ↓gNe, ↓gNotIn, ↓gIs, ↓gIsNot, ↓isNone, ↓look, ↓withD, ↓isD, ↓isB, ↓areD, ↓withDs, ↓isBor, ↓isLst, ↓isLl, ↓isI, ↓items1, ↓itemsD, ↓argsM, ↓putB, ↓pjs, ↓outsOf, ↓fin, ↓startE, ↓wipeK, ↓wipeE, ↓unw, ↓noOwnB, gEq_ii, gEq_ss, gEq_bb, own_no, own_dat, own_lst, own_ll, List.getD_cons_zero, List.getD_cons_succ, List.set_cons_zero, List.set_cons_succ, List.replicate_succ, List.replicate_zero, List.cons_append, List.nil_append, List.length_cons, List.length_nil, List.map_cons, List.map_nil, List.all_cons, List.all_nil, Nat.reduceAdd, Nat.reduceSub, Bool.not_false, Bool.not_true, Bool.and_true, Bool.and_self, if_true, if_false, reduceCtorEq, List.zipIdx_cons, List.zipIdx_nil, List.filterMap_cons, List.filterMap_nil, Option.map_some, Option.map_none, decide_true, Nat.zero_add, reduceIte, Bool.false_eq_true, true_and, and_true]
  refine hN _ ?_
  clear hN N
  refine sSeq_g fun N hN => sFor_g fun F hF => ?_
  simp only [↓sRet, ↓sNil, ↓sIf, ↓sSet, ↓sAsg, ↓sPar, ↓sPar3, ↓sSub, ↓sSub2, ↓sExpr, ↓sExprR, ↓sRetV, ↓sRetN, ↓sRaise, ↓sBrk, ↓sCt, ↓fOf, ↓fFz, ↓fName, ↓fFrz, ↓fC, ↓fBin, ↓fBinN, ↓fT, ↓fNot, ↓fAnd, ↓fOr, ↓fAndV, ↓fOrV, ↓fNotV, ↓fIf, ↓fIfN, ↓fChain, ↓fNil, ↓fCons, ↓fTup, ↓fLst, ↓fNeg, ↓fCall, ↓fIsI, ↓fJoin, ↓fApp, ↓fExt, ↓fPop, ↓fPopAt, ↓fSl, ↓fPart, ↓fNoPart, ↓fSeq, ↓fRng1, ↓fRng2, ↓fEnum, ↓fZip, ↓fGN, ↓fGT, ↓fGcons, ↓fGnil, ↓fLc, ↓fLl, ↓fYes, ↓fOwn, ↓fAt2, ↓fCount, ↓fIndex, ↓fRev, ↓fMulL, ↓fSel, ↓sTry, ↓fIsP, ↓isLk, ↓L3.gSub, ↓gMulI, ↓gDiv, ↓gMod, ↓gPow, ↓gLt, ↓gLe, ↓gGt, ↓gGe, ↓gI, ↓gIC, ↓gAdd, ↓gIx, ↓gSl, ↓gLen, ↓gAll, ↓gAny, ↓gSum, ↓gMin2, ↓gMax2, ↓gList, ↓gTuple, ↓gNe, ↓gNotIn, ↓gIs, ↓gIsNot, ↓isNone, ↓look, ↓withD, ↓isD, ↓isB, ↓areD, ↓withDs, ↓isBor, ↓isLst, ↓isLl, ↓isI, ↓items1, ↓itemsD, ↓argsM, ↓putB, ↓pjs, ↓outsOf, ↓fin, ↓startE, ↓wipeK, ↓wipeE, ↓unw, ↓noOwnB, gEq_ii, gEq_ss, gEq_bb, own_no, own_dat, own_lst, own_ll, List.getD_cons_zero, List.getD_cons_succ, List.set_cons_zero, List.set_cons_succ, List.replicate_succ, List.replicate_zero, List.cons_append, List.nil_append, List.length_cons, List.length_nil, List.map_cons, List.map_nil, List.all_cons, List.all_nil, Nat.reduceAdd, Nat.reduceSub, Bool.not_false, Bool.not_true, Bool.and_true, Bool.and_self, if_true, if_false, reduceCtorEq, List.zipIdx_cons, List.zipIdx_nil, List.filterMap_cons, List.filterMap_nil, Option.map_some, Option.map_none, decide_true, Nat.zero_add, reduceIte, Bool.false_eq_true, true_and, and_true]
  refine ⟨b62 (by decide) (by decide), hF _ _ ?_⟩
  clear hF F
  refine forR_inv (fun k ρ => ∃ x3, ρ = [.dat (encP p), .lst ((turnsTo p k).map encP), .dat (encP (qN p k)), x3]) 0 (fun k d ρ M hd hP hM => ?_) ⟨.no, rfl⟩ (fun ρ hP => ?_)
  · obtain ⟨x3, rfl⟩ := hP
    rw [Nat.zero_add] at *
    obtain ⟨hk, rfl⟩ := rangeD_get hd
    obtain ⟨h', w', P', _⟩ := qN_wf P k
    have hk : k < 4 := hk
    show sSeq _ _ _ _
    refine sSeq_g fun M2 hM2 => ?_
    simp only [↓sRet, ↓sNil, ↓sIf, ↓sSet, ↓sAsg, ↓sPar, ↓sPar3, ↓sSub, ↓sSub2, ↓sExpr, ↓sExprR, ↓sRetV, ↓sRetN, ↓sRaise, ↓sBrk, ↓sCt, ↓fOf, ↓fFz, ↓fName, ↓fFrz, ↓fC, ↓fBin, ↓fBinN, ↓fT, ↓fNot, ↓fAnd, ↓fOr, ↓fAndV, ↓fOrV, ↓fNotV, ↓fIf, ↓fIfN, ↓fChain, ↓fNil, ↓fCons, ↓fTup, ↓fLst, ↓fNeg, ↓fCall, ↓fIsI, ↓fJoin, ↓fApp, ↓fExt, ↓fPop, ↓fPopAt, ↓fSl, ↓fPart, ↓fNoPart, ↓fSeq, ↓fRng1, ↓fRng2, ↓fEnum, ↓fZip, ↓fGN, ↓fGT, ↓fGcons, ↓fGnil, ↓fLc, ↓fLl, ↓fYes, ↓fOwn, ↓fAt2, ↓fCount, ↓fIndex, ↓fRev, ↓fMulL, ↓fSel, ↓sTry, ↓fIsP, ↓isLk, ↓L3.gSub, ↓gMulI, ↓gDiv, ↓gMod, ↓gPow, ↓gLt, ↓gLe, ↓gGt, ↓gGe, ↓gI, ↓gIC, ↓gAdd, ↓gIx, ↓gSl, ↓gLen, ↓gAll, ↓gAny, ↓gSum, ↓gMin2, ↓gMax2, ↓gList, ↓gTuple, ↓gNe, ↓gNotIn, ↓gIs, ↓gIsNot, ↓isNone, ↓look, ↓withD, ↓isD, ↓isB, ↓areD, ↓withDs, ↓isBor, ↓isLst, ↓isLl, ↓isI, ↓items1, ↓itemsD, ↓argsM, ↓putB, ↓pjs, ↓outsOf, ↓fin, ↓startE, ↓wipeK, ↓wipeE, ↓unw, ↓noOwnB, gEq_ii, gEq_ss, gEq_bb, own_no, own_dat, own_lst, own_ll, List.getD_cons_zero, List.getD_cons_succ, List.set_cons_zero, List.set_cons_succ, List.replicate_succ, List.replicate_zero, List.cons_append, List.nil_append, List.length_cons, List.length_nil, List.map_cons, List.map_nil, List.all_cons, List.all_nil, Nat.reduceAdd, Nat.reduceSub, Bool.not_false, Bool.not_true, Bool.and_true, Bool.and_self, if_true, if_false, reduceCtorEq, List.zipIdx_cons, List.zipIdx_nil, List.filterMap_cons, List.filterMap_nil, Option.map_some, Option.map_none, decide_true, Nat.zero_add, reduceIte, Bool.false_eq_true, true_and, and_true, dsp_mirror_of]
    have l8 := turnsTo_len p k
    refine ⟨_, rfl, P'.short, ?_, hM2 _ ?_⟩
    · rw [List.length_map, l8]
      have : (20 : Nat) ≤ sizeLine := by decide
      omega
    simp only [↓sRet, ↓sNil, ↓sIf, ↓sSet, ↓sAsg, ↓sPar, ↓sPar3, ↓sSub, ↓sSub2, ↓sExpr, ↓sExprR, ↓sRetV, ↓sRetN, ↓sRaise, ↓sBrk, ↓sCt, ↓fOf, ↓fFz, ↓fName, ↓fFrz, ↓fC, ↓fBin, ↓fBinN, ↓fT, ↓fNot, ↓fAnd, ↓fOr, ↓fAndV, ↓fOrV, ↓fNotV, ↓fIf, ↓fIfN, ↓fChain, ↓fNil, ↓fCons, ↓fTup, ↓fLst, ↓fNeg, ↓fCall, ↓fIsI, ↓fJoin, ↓fApp, ↓fExt, ↓fPop, ↓fPopAt, ↓fSl, ↓fPart, ↓fNoPart, ↓fSeq, ↓fRng1, ↓fRng2, ↓fEnum, ↓fZip, ↓fGN, ↓fGT, ↓fGcons, ↓fGnil, ↓fLc, ↓fLl, ↓fYes, ↓fOwn, ↓fAt2, ↓fCount, ↓fIndex, ↓fRev, ↓fMulL, ↓fSel, ↓sTry, ↓fIsP, ↓isLk, ↓L3.gSub, ↓gMulI, ↓gDiv, ↓gMod, ↓gPow, ↓gLt, ↓gLe, ↓gGt, ↓gGe, ↓gI, ↓gIC, ↓gAdd, ↓gIx, ↓gSl, ↓gLen, ↓gAll, ↓gAny, ↓gSum, ↓gMin2, ↓gMax2, ↓gList, ↓gTuple, ↓gNe, ↓gNotIn, ↓gIs, ↓gIsNot, ↓isNone, ↓look, ↓withD, ↓isD, ↓isB, ↓areD, ↓withDs, ↓isBor, ↓isLst, ↓isLl, ↓isI, ↓items1, ↓itemsD, ↓argsM, ↓putB, ↓pjs, ↓outsOf, ↓fin, ↓startE, ↓wipeK, ↓wipeE, ↓unw, ↓noOwnB, gEq_ii, gEq_ss, gEq_bb, own_no, own_dat, own_lst, own_ll, List.getD_cons_zero, List.getD_cons_succ, List.set_cons_zero, List.set_cons_succ, List.replicate_succ, List.replicate_zero, List.cons_append, List.nil_append, List.length_cons, List.length_nil, List.map_cons, List.map_nil, List.all_cons, List.all_nil, Nat.reduceAdd, Nat.reduceSub, Bool.not_false, Bool.not_true, Bool.and_true, Bool.and_self, if_true, if_false, reduceCtorEq, List.zipIdx_cons, List.zipIdx_nil, List.filterMap_cons, List.filterMap_nil, Option.map_some, Option.map_none, decide_true, Nat.zero_add, reduceIte, Bool.false_eq_true, true_and, and_true, dsp_quarter_of]
    refine ⟨_, h', w', rfl, P'.rect, hM _ ⟨.dat (.int (0 + (k : Nat))), ?_⟩⟩
    rw [turnsTo_succ, List.map_append]
    have e : quartP (qN p k) w' = qN p (k + 1) := by
      show _ = quartP (qN p k) (wid (qN p k))
      rw [P'.wid]
    rw [e]
    rfl
  · obtain ⟨x3, rfl⟩ := hP
    refine hN _ ?_
    simp only [↓sRet, ↓sNil, ↓sIf, ↓sSet, ↓sAsg, ↓sPar, ↓sPar3, ↓sSub, ↓sSub2, ↓sExpr, ↓sExprR, ↓sRetV, ↓sRetN, ↓sRaise, ↓sBrk, ↓sCt, ↓fOf, ↓fFz, ↓fName, ↓fFrz, ↓fC, ↓fBin, ↓fBinN, ↓fT, ↓fNot, ↓fAnd, ↓fOr, ↓fAndV, ↓fOrV, ↓fNotV, ↓fIf, ↓fIfN, ↓fChain, ↓fNil, ↓fCons, ↓fTup, ↓fLst, ↓fNeg, ↓fCall, ↓fIsI, ↓fJoin, ↓fApp, ↓fExt, ↓fPop, ↓fPopAt, ↓fSl, ↓fPart, ↓fNoPart, ↓fSeq, ↓fRng1, ↓fRng2, ↓fEnum, ↓fZip, ↓fGN, ↓fGT, ↓fGcons, ↓fGnil, ↓fLc, ↓fLl, ↓fYes, ↓fOwn, ↓fAt2, ↓fCount, ↓fIndex, ↓fRev, ↓fMulL, ↓fSel, ↓sTry, ↓fIsP, ↓isLk, ↓L3.gSub, ↓gMulI, ↓gDiv, ↓gMod, ↓gPow, ↓gLt, ↓gLe, ↓gGt, ↓gGe, ↓gI, ↓gIC, ↓gAdd, ↓gIx, ↓gSl, ↓gLen, ↓gAll, ↓gAny, ↓gSum, ↓gMin2, ↓gMax2, ↓gList, ↓gTuple, ↓gNe, ↓gNotIn, ↓gIs, ↓gIsNot, ↓isNone, ↓look, ↓withD, ↓isD, ↓isB, ↓areD, ↓withDs, ↓isBor, ↓isLst, ↓isLl, ↓isI, ↓items1, ↓itemsD, ↓argsM, ↓putB, ↓pjs, ↓outsOf, ↓fin, ↓startE, ↓wipeK, ↓wipeE, ↓unw, ↓noOwnB, gEq_ii, gEq_ss, gEq_bb, own_no, own_dat, own_lst, own_ll, List.getD_cons_zero, List.getD_cons_succ, List.set_cons_zero, List.set_cons_succ, List.replicate_succ, List.replicate_zero, List.cons_append, List.nil_append, List.length_cons, List.length_nil, List.map_cons, List.map_nil, List.all_cons, List.all_nil, Nat.reduceAdd, Nat.reduceSub, Bool.not_false, Bool.not_true, Bool.and_true, Bool.and_self, if_true, if_false, reduceCtorEq, List.zipIdx_cons, List.zipIdx_nil, List.filterMap_cons, List.filterMap_nil, Option.map_some, Option.map_none, decide_true, Nat.zero_add, reduceIte, Bool.false_eq_true, true_and, and_true]
    exact hp
theorem okD_pic (p : List (List Bool)) : okD (encP p) = true := by
  rw [encP_toD]
  exact okD_of _
theorem gIn_pic {p : List (List Bool)} {ps : List (List (List Bool))} {Q : PyData → Prop} (h : Q (.bool (decide (p ∈ ps)))) : gIn (encP p) (.list (ps.map encP)) Q := by
  have e : ps.map encP = (ps.map fun q => PySem.W.Tup.mk (q.map lineS)).map PySem.W.Datum.toD := by
    rw [List.map_map]
    exact List.map_congr_left fun q _ => encP_toD q
  rw [e, encP_toD]
  refine gIn_dat ?_
  have e2 : decide (PySem.W.Tup.mk (p.map lineS) ∈ ps.map fun q => PySem.W.Tup.mk (q.map lineS)) = decide (p ∈ ps) := by
    refine decide_eq_decide.mpr ⟨fun z => ?_, fun z => List.mem_map.mpr ⟨p, z, rfl⟩⟩
    obtain ⟨q, hq, e3⟩ := List.mem_map.mp z
    have : q = p := lines_inj (by injection e3)
    rw [← this]; exact hq
  rw [e2]
  exact h
def T_is_same_shape (cs : Cs) : TXS :=
  (sSeq (sExpr (fOwn [none] (dsp_need_picture cs) (fCons (fName 0) fNil)))
  (sSeq (sExpr (fOwn [none] (dsp_need_picture cs) (fCons (fName 1) fNil)))
  (sRet (fOf (fBin gIn (fName 1) (fFz (fOwn [none] (dsp_turns_of) (fCons (fName 0) fNil))))))))

def dspV_is_same_shape (cs : Cs) : DSp := fun es post _ => ∃ (p q : List (List Bool)) (h w h' w' : Nat), es = [.dat (encP p), .dat (encP q)] ∧ Wf h w p ∧ Wf h' w' q ∧ post (.dat (.bool (decide (q ∈ turnsP p)))) []
theorem goodV_is_same_shape (cs : Cs) : Good [] 2 2 (T_is_same_shape cs) (dspV_is_same_shape cs) := by
  rintro es post xp ⟨p, q, h, w, h', w', rfl, P, Q, hp⟩ _
  unfold T_is_same_shape
  refine sSeq_g fun N hN => ?_
  simp only [↓sRet, ↓sNil, ↓sIf, ↓sSet, ↓sAsg, ↓sPar, ↓sPar3, ↓sSub, ↓sSub2, ↓sExpr, ↓sExprR, ↓sRetV, ↓sRetN, ↓sRaise, ↓sBrk, ↓sCt, ↓fOf, ↓fFz, ↓fName, ↓fFrz, ↓fC, ↓fBin, ↓fBinN, ↓fT, ↓fNot, ↓fAnd, ↓fOr, ↓fAndV, ↓fOrV, ↓fNotV, ↓fIf, ↓fIfN, ↓fChain, ↓fNil, ↓fCons, ↓fTup, ↓fLst, ↓fNeg, ↓fCall, ↓fIsI, ↓fJoin, ↓fApp, ↓fExt, ↓fPop, ↓fPopAt, ↓fSl, ↓fPart, ↓fNoPart, ↓fSeq, ↓fRng1, ↓fRng2, ↓fEnum, ↓fZip, ↓fGN, ↓fGT, ↓fGcons, ↓fGnil, ↓fLc, ↓fLl, ↓fYes, ↓fOwn, ↓fAt2, ↓fCount, ↓fIndex, ↓fRev, ↓fMulL, ↓fSel, ↓sTry, ↓fIsP, ↓isLk, ↓L3.gSub, ↓gMulI, ↓gDiv, ↓gMod, ↓gPow, ↓gLt, ↓gLe, ↓gGt, ↓gGe, ↓gI, ↓gIC, ↓gAdd, ↓gIx, ↓gSl, ↓gLen, ↓gAll, ↓gAny, ↓gSum, ↓gMin2, ↓gMax2, ↓gList, ↓gTuple, ↓gNe, ↓gNotIn, ↓gIs, ↓gIsNot, ↓isNone, ↓look, ↓withD, ↓isD, ↓isB, ↓areD, ↓withDs, ↓isBor, ↓isLst, ↓isLl, ↓isI, ↓items1, ↓itemsD, ↓argsM, ↓putB, ↓pjs, ↓outsOf, ↓fin, ↓startE, ↓wipeK, ↓wipeE, ↓unw, ↓noOwnB, gEq_ii, gEq_ss, gEq_bb, own_no, own_dat, own_lst, own_ll, List.getD_cons_zero, List.getD_cons_succ, List.set_cons_zero, List.set_cons_succ, List.replicate_succ, List.replicate_zero, List.cons_append, List.nil_append, List.length_cons, List.length_nil, List.map_cons, List.map_nil, List.all_cons, List.all_nil, Nat.reduceAdd, Nat.reduceSub, Bool.not_false, Bool.not_true, Bool.and_true, Bool.and_self, if_true, if_false, reduceCtorEq, List.zipIdx_cons, List.zipIdx_nil, List.filterMap_cons, List.filterMap_nil, Option.map_some, Option.map_none, decide_true, Nat.zero_add, reduceIte, Bool.false_eq_true, true_and, and_true, startE, dsp_need_picture]
  refine ⟨_, rfl, P.smallP, fun _ => hN _ ?_, fun z => by rw [P.isPic] at z; cases z⟩
  clear hN N
  refine sSeq_g fun N hN => ?_
  simp only [↓sRet, ↓sNil, ↓sIf, ↓sSet, ↓sAsg, ↓sPar, ↓sPar3, ↓sSub, ↓sSub2, ↓sExpr, ↓sExprR, ↓sRetV, ↓sRetN, ↓sRaise, ↓sBrk, ↓sCt, ↓fOf, ↓fFz, ↓fName, ↓fFrz, ↓fC, ↓fBin, ↓fBinN, ↓fT, ↓fNot, ↓fAnd, ↓fOr, ↓fAndV, ↓fOrV, ↓fNotV, ↓fIf, ↓fIfN, ↓fChain, ↓fNil, ↓fCons, ↓fTup, ↓fLst, ↓fNeg, ↓fCall, ↓fIsI, ↓fJoin, ↓fApp, ↓fExt, ↓fPop, ↓fPopAt, ↓fSl, ↓fPart, ↓fNoPart, ↓fSeq, ↓fRng1, ↓fRng2, ↓fEnum, ↓fZip, ↓fGN, ↓fGT, ↓fGcons, ↓fGnil, ↓fLc, ↓fLl, ↓fYes, ↓fOwn, ↓fAt2, ↓fCount, ↓fIndex, ↓fRev, ↓fMulL, ↓fSel, ↓sTry, ↓fIsP, ↓isLk, ↓L3.gSub, ↓gMulI, ↓gDiv, ↓gMod, ↓gPow, ↓gLt, ↓gLe, ↓gGt, ↓gGe, ↓gI, ↓gIC, ↓gAdd, ↓gIx, ↓gSl, ↓gLen, ↓gAll, ↓gAny, ↓gSum, ↓gMin2, ↓gMax2, ↓gList, ↓gTuple, ↓gNe, ↓gNotIn, ↓gIs, ↓gIsNot, ↓isNone, ↓look, ↓withD, ↓isD, ↓isB, ↓areD, ↓withDs, ↓isBor, ↓isLst, ↓isLl, ↓isI, ↓items1, ↓itemsD, ↓argsM, ↓putB, ↓pjs, ↓outsOf, ↓fin, ↓startE, ↓wipeK, ↓wipeE, ↓unw, ↓noOwnB, gEq_ii, gEq_ss, gEq_bb, own_no, own_dat, own_lst, own_ll, List.getD_cons_zero, List.getD_cons_succ, List.set_cons_zero, List.set_cons_succ, List.replicate_succ, List.replicate_zero, List.cons_append, List.nil_append, List.length_cons, List.length_nil, List.map_cons, List.map_nil, List.all_cons, List.all_nil, Nat.reduceAdd, Nat.reduceSub, Bool.not_false, Bool.not_true, Bool.and_true, Bool.and_self, if_true, if_false, reduceCtorEq, List.zipIdx_cons, List.zipIdx_nil, List.filterMap_cons, List.filterMap_nil, Option.map_some, Option.map_none, decide_true, Nat.zero_add, reduceIte, Bool.false_eq_true, true_and, and_true, dsp_need_picture]
  refine ⟨_, rfl, Q.smallP, fun _ => hN _ ?_, fun z => by rw [Q.isPic] at z; cases z⟩
  clear hN N
  simp only [↓sRet, ↓sNil, ↓sIf, ↓sSet, ↓sAsg, ↓sPar, ↓sPar3, ↓sSub, ↓sSub2, ↓sExpr, ↓sExprR, ↓sRetV, ↓sRetN, ↓sRaise, ↓sBrk, ↓sCt, ↓fOf, ↓fFz, ↓fName, ↓fFrz, ↓fC, ↓fBin, ↓fBinN, ↓fT, ↓fNot, ↓fAnd, ↓fOr, ↓fAndV, ↓fOrV, ↓fNotV, ↓fIf, ↓fIfN, ↓fChain, ↓fNil, ↓fCons, ↓fTup, ↓fLst, ↓fNeg, ↓fCall, ↓fIsI, ↓fJoin, ↓fApp, ↓fExt, ↓fPop, ↓fPopAt, ↓fSl, ↓fPart, ↓fNoPart, ↓fSeq, ↓fRng1, ↓fRng2, ↓fEnum, ↓fZip, ↓fGN, ↓fGT, ↓fGcons, ↓fGnil, ↓fLc, ↓fLl, ↓fYes, ↓fOwn, ↓fAt2, ↓fCount, ↓fIndex, ↓fRev, ↓fMulL, ↓fSel, ↓sTry, ↓fIsP, ↓isLk, ↓L3.gSub, ↓gMulI, ↓gDiv, ↓gMod, ↓gPow, ↓gLt, ↓gLe, ↓gGt, ↓gGe, ↓gI, ↓gIC, ↓gAdd, ↓gIx, ↓gSl, ↓gLen, ↓gAll, ↓gAny, ↓gSum, ↓gMin2, ↓gMax2, ↓gList, ↓gTuple, ↓gNe, ↓gNotIn, ↓gIs, ↓gIsNot, ↓isNone, ↓look, ↓withD, ↓isD, ↓isB, ↓areD, ↓withDs, ↓isBor, ↓isLst, ↓isLl, ↓isI, ↓items1, ↓itemsD, ↓argsM, ↓putB, ↓pjs, ↓outsOf, ↓fin, ↓startE, ↓wipeK, ↓wipeE, ↓unw, ↓noOwnB, gEq_ii, gEq_ss, gEq_bb, own_no, own_dat, own_lst, own_ll, List.getD_cons_zero, List.getD_cons_succ, List.set_cons_zero, List.set_cons_succ, List.replicate_succ, List.replicate_zero, List.cons_append, List.nil_append, List.length_cons, List.length_nil, List.map_cons, List.map_nil, List.all_cons, List.all_nil, Nat.reduceAdd, Nat.reduceSub, Bool.not_false, Bool.not_true, Bool.and_true, Bool.and_self, if_true, if_false, reduceCtorEq, List.zipIdx_cons, List.zipIdx_nil, List.filterMap_cons, List.filterMap_nil, Option.map_some, Option.map_none, decide_true, Nat.zero_add, reduceIte, Bool.false_eq_true, true_and, and_true, dsp_turns_of]
  refine ⟨p, h, w, rfl, P, ?_⟩
  refine gIn_pic ?_
  exact hp
def dsp_is_same_shape (cs : Cs) : DSp := orD (dspV_is_same_shape cs) (noPic2 cs)
theorem good_is_same_shape (cs : Cs) : Good [] 2 2 (T_is_same_shape cs) (dsp_is_same_shape cs) := good_or (goodV_is_same_shape cs) good_noPic2
end My

namespace My
open PySem PySem.Spec PyProof.Rows L2 L3
def T_shapes_n (cs : Cs) : TXS :=
  (sSeq (sExpr (fOwn [none] (dsp_need_picture cs) (fCons (fName 0) fNil)))
  sNever)

def dsp_shapes_n (cs : Cs) : DSp := noPic cs
theorem good_shapes_n (cs : Cs) : Good [] 1 1 (T_shapes_n cs) (dsp_shapes_n cs) := good_noPic
def T__law_ask (cs : Cs) : TXS :=
  (sTry (Wh10 cs) 3 (sRet (fIfN (fT (fBin gEq (fName 0) (fC (.int 4)))) (fOwn [none, none] (dsp_is_same_shape cs) (fCons (fName 1) (fCons (fName 2) fNil))) (fSel (fName 0) [none] [dsp_quarter cs, dsp_flipped cs, dsp_inverted cs, dsp_shapes_n cs] (fCons (fName 1) fNil)))))

def dsp__law_ask (cs : Cs) : DSp := fun es post _ => ∃ (n : Int) (d e : PyData), es = [.dat (.int n), .dat d, .dat e] ∧ 0 ≤ n ∧ n < 5 ∧ smallP d ∧ smallP e ∧
  (((isPicD d = false ∨ (isPicD e = false ∧ n = 4)) ∧ post (.dat (refused 0)) []) ∨
  (n = 4 ∧ ∃ (p q : List (List Bool)) (h w h' w' : Nat), d = encP p ∧ e = encP q ∧ Wf h w p ∧ Wf h' w' q ∧ post (.dat (.bool (decide (q ∈ turnsP p)))) []))
theorem good__law_ask (cs : Cs) : Good [] 4 3 (T__law_ask cs) (dsp__law_ask cs) := by
  rintro es post xp ⟨n, d, e, rfl, n0, n6, hd, he, h⟩ _
  unfold T__law_ask
  obtain rfl | rfl | rfl | rfl | rfl : n = 0 ∨ n = 1 ∨ n = 2 ∨ n = 3 ∨ n = 4 := by omega
  all_goals simp only [↓sRet, ↓sNil, ↓sIf, ↓sSet, ↓sAsg, ↓sPar, ↓sPar3, ↓sSub, ↓sSub2, ↓sExpr, ↓sExprR, ↓sRetV, ↓sRetN, ↓sRaise, ↓sBrk, ↓sCt, ↓fOf, ↓fFz, ↓fName, ↓fFrz, ↓fC, ↓fBin, ↓fBinN, ↓fT, ↓fNot, ↓fAnd, ↓fOr, ↓fAndV, ↓fOrV, ↓fNotV, ↓fIf, ↓fIfN, ↓fChain, ↓fNil, ↓fCons, ↓fTup, ↓fLst, ↓fNeg, ↓fCall, ↓fIsI, ↓fJoin, ↓fApp, ↓fExt, ↓fPop, ↓fPopAt, ↓fSl, ↓fPart, ↓fNoPart, ↓fSeq, ↓fRng1, ↓fRng2, ↓fEnum, ↓fZip, ↓fGN, ↓fGT, ↓fGcons, ↓fGnil, ↓fLc, ↓fLl, ↓fYes, ↓fOwn, ↓fAt2, ↓fCount, ↓fIndex, ↓fRev, ↓fMulL, ↓fSel, ↓sTry, ↓fIsP, ↓isLk, ↓L3.gSub, ↓gMulI, ↓gDiv, ↓gMod, ↓gPow, ↓gLt, ↓gLe, ↓gGt, ↓gGe, ↓gI, ↓gIC, ↓gAdd, ↓gIx, ↓gSl, ↓gLen, ↓gAll, ↓gAny, ↓gSum, ↓gMin2, ↓gMax2, ↓gList, ↓gTuple, ↓gNe, ↓gNotIn, ↓gIs, ↓gIsNot, ↓isNone, ↓look, ↓withD, ↓isD, ↓isB, ↓areD, ↓withDs, ↓isBor, ↓isLst, ↓isLl, ↓isI, ↓items1, ↓itemsD, ↓argsM, ↓putB, ↓pjs, ↓outsOf, ↓fin, ↓startE, ↓wipeK, ↓wipeE, ↓unw, ↓noOwnB, gEq_ii, gEq_ss, gEq_bb, own_no, own_dat, own_lst, own_ll, List.getD_cons_zero, List.getD_cons_succ, List.set_cons_zero, List.set_cons_succ, List.replicate_succ, List.replicate_zero, List.cons_append, List.nil_append, List.length_cons, List.length_nil, List.map_cons, List.map_nil, List.all_cons, List.all_nil, Nat.reduceAdd, Nat.reduceSub, Bool.not_false, Bool.not_true, Bool.and_true, Bool.and_self, if_true, if_false, reduceCtorEq, List.zipIdx_cons, List.zipIdx_nil, List.filterMap_cons, List.filterMap_nil, Option.map_some, Option.map_none, decide_true, Nat.zero_add, reduceIte, Bool.false_eq_true, true_and, and_true, startE]
  all_goals try (rw [if_neg (by decide)]; refine ⟨by decide, ?_⟩)
  iterate 2
    · rcases h with ⟨h1, hp⟩ | ⟨h1, _⟩
      · have hd1 : isPicD d = false := h1.elim id fun z => absurd z.2 (by decide)
        exact ⟨d, rfl, hd, fun _ => ⟨_, .NoPicture, by decide, hp⟩, fun p h w e1 P => by rw [e1, P.isPic] at hd1; cases hd1⟩
      · cases h1
  · rcases h with ⟨h1, hp⟩ | ⟨h1, _⟩
    · have hd1 : isPicD d = false := h1.elim id fun z => absurd z.2 (by decide)
      exact ⟨d, rfl, hd, fun _ => ⟨_, .NoPicture, by decide, hp⟩, fun p h w e1 P => by rw [e1, P.isPic] at hd1; cases hd1⟩
    · cases h1
  · rcases h with ⟨h1, hp⟩ | ⟨h1, _⟩
    · have hd1 : isPicD d = false := h1.elim id fun z => absurd z.2 (by decide)
      exact ⟨d, _, rfl, hd, hd1, _, .NoPicture, by decide, hp⟩
    · cases h1
  · rcases h with ⟨h1, hp⟩ | ⟨_, p, q, h, w, h', w', rfl, rfl, P, Q, hp⟩
    · exact .inr ⟨d, e, rfl, hd, he, h1.imp id fun z => z.1, _, .NoPicture, by decide, hp⟩
    · exact .inl ⟨p, q, h, w, h', w', rfl, P, Q, hp⟩
def T_law (cs : Cs) : TXS :=
  (sSeq (sSet 1 (fLst fNil))
  (sSeq (sSet 2 (fOf (fFz (fOwn [none, some 1] (dsp__law_odd_picture) (fCons (fName 0) (fCons (fName 1) fNil))))))
  (sSeq (sSet 3 (fOf (fFz (fOwn [none, some 1, none, none] (dsp__law_picture) (fCons (fName 0) (fCons (fName 1) (fCons (fC (.int 8)) (fCons (fC (.int 8)) fNil))))))))
  (sSeq (sIf (fT (fBin gNe (fFz (fLc (fRng1 (fCons (fC (.int 5)) fNil)) (fGN 4) fYes (fFz (fOwn [none, none, none] (dsp__law_ask cs) (fCons (fName 4) (fCons (fName 2) (fCons (fName 3) fNil))))) [4])) (fFz (fMulL (fLst (fCons (fTup (fCons (fC (.str "refused")) (fCons (fC (.int 0)) fNil))) fNil)) (fC (.int 5)))))) (sRet (fOf (fC (.bool false)))) sNil)
  (sRet (fOf (fAndV (fBin gEq (fFz (fOwn [none, none, none] (dsp__law_ask cs) (fCons (fC (.int 4)) (fCons (fName 3) (fCons (fName 2) fNil))))) (fTup (fCons (fC (.str "refused")) (fCons (fC (.int 0)) fNil)))) (fBin gIs (fFz (fOwn [none, none, none] (dsp__law_ask cs) (fCons (fC (.int 4)) (fCons (fName 3) (fCons (fName 3) fNil))))) (fC (.bool true))))))))))

def dsp_law (cs : Cs) : DSp := fun es post _ => ∃ ns : List Int, es = [scr ns] ∧ ns.length ≤ 63 ∧ post (.dat (.bool true)) []
theorem good_law (cs : Cs) : Good [] 5 1 (T_law cs) (dsp_law cs) := by
  rintro es post xp ⟨ns, rfl, hns, hp⟩ _
  unfold T_law
  refine sSeq_g fun N hN => ?_
  simp only [↓sRet, ↓sNil, ↓sIf, ↓sSet, ↓sAsg, ↓sPar, ↓sPar3, ↓sSub, ↓sSub2, ↓sExpr, ↓sExprR, ↓sRetV, ↓sRetN, ↓sRaise, ↓sBrk, ↓sCt, ↓fOf, ↓fFz, ↓fName, ↓fFrz, ↓fC, ↓fBin, ↓fBinN, ↓fT, ↓fNot, ↓fAnd, ↓fOr, ↓fAndV, ↓fOrV, ↓fNotV, ↓fIf, ↓fIfN, ↓fChain, ↓fNil, ↓fCons, ↓fTup, ↓fLst, ↓fNeg, ↓fCall, ↓fIsI, ↓fJoin, ↓fApp, ↓fExt, ↓fPop, ↓fPopAt, ↓fSl, ↓fPart, ↓fNoPart, ↓fSeq, ↓fRng1, ↓fRng2, ↓fEnum, ↓fZip, ↓fGN, ↓fGT, ↓fGcons, ↓fGnil, ↓fLc, ↓fLl, ↓fYes, ↓fOwn, ↓fAt2, ↓fCount, ↓fIndex, ↓fRev, ↓fMulL, ↓fSel, ↓sTry, ↓fIsP, ↓isLk, ↓L3.gSub, ↓gMulI, ↓gDiv, ↓gMod, ↓gPow, ↓gLt, ↓gLe, ↓gGt, ↓gGe, ↓gI, ↓gIC, ↓gAdd, ↓gIx, ↓gSl, ↓gLen, ↓gAll, ↓gAny, ↓gSum, ↓gMin2, ↓gMax2, ↓gList, ↓gTuple, ↓gNe, ↓gNotIn, ↓gIs, ↓gIsNot, ↓isNone, ↓look, ↓withD, ↓isD, ↓isB, ↓areD, ↓withDs, ↓isBor, ↓isLst, ↓isLl, ↓isI, ↓items1, ↓itemsD, ↓argsM, ↓putB, ↓pjs, ↓outsOf, ↓fin, ↓startE, ↓wipeK, ↓wipeE, ↓unw, ↓noOwnB, gEq_ii, gEq_ss, gEq_bb, own_no, own_dat, own_lst, own_ll, List.getD_cons_zero, List.getD_cons_succ, List.set_cons_zero, List.set_cons_succ, List.replicate_succ, List.replicate_zero, List.cons_append, List.nil_append, List.length_cons, List.length_nil, List.map_cons, List.map_nil, List.all_cons, List.all_nil, Nat.reduceAdd, Nat.reduceSub, Bool.not_false, Bool.not_true, Bool.and_true, Bool.and_self, if_true, if_false, reduceCtorEq, List.zipIdx_cons, List.zipIdx_nil, List.filterMap_cons, List.filterMap_nil, Option.map_some, Option.map_none, decide_true, Nat.zero_add, reduceIte, Bool.false_eq_true, true_and, and_true]
  refine hN _ ?_
  clear hN N
  refine sSeq_g fun N hN => ?_
  simp only [↓sRet, ↓sNil, ↓sIf, ↓sSet, ↓sAsg, ↓sPar, ↓sPar3, ↓sSub, ↓sSub2, ↓sExpr, ↓sExprR, ↓sRetV, ↓sRetN, ↓sRaise, ↓sBrk, ↓sCt, ↓fOf, ↓fFz, ↓fName, ↓fFrz, ↓fC, ↓fBin, ↓fBinN, ↓fT, ↓fNot, ↓fAnd, ↓fOr, ↓fAndV, ↓fOrV, ↓fNotV, ↓fIf, ↓fIfN, ↓fChain, ↓fNil, ↓fCons, ↓fTup, ↓fLst, ↓fNeg, ↓fCall, ↓fIsI, ↓fJoin, ↓fApp, ↓fExt, ↓fPop, ↓fPopAt, ↓fSl, ↓fPart, ↓fNoPart, ↓fSeq, ↓fRng1, ↓fRng2, ↓fEnum, ↓fZip, ↓fGN, ↓fGT, ↓fGcons, ↓fGnil, ↓fLc, ↓fLl, ↓fYes, ↓fOwn, ↓fAt2, ↓fCount, ↓fIndex, ↓fRev, ↓fMulL, ↓fSel, ↓sTry, ↓fIsP, ↓isLk, ↓L3.gSub, ↓gMulI, ↓gDiv, ↓gMod, ↓gPow, ↓gLt, ↓gLe, ↓gGt, ↓gGe, ↓gI, ↓gIC, ↓gAdd, ↓gIx, ↓gSl, ↓gLen, ↓gAll, ↓gAny, ↓gSum, ↓gMin2, ↓gMax2, ↓gList, ↓gTuple, ↓gNe, ↓gNotIn, ↓gIs, ↓gIsNot, ↓isNone, ↓look, ↓withD, ↓isD, ↓isB, ↓areD, ↓withDs, ↓isBor, ↓isLst, ↓isLl, ↓isI, ↓items1, ↓itemsD, ↓argsM, ↓putB, ↓pjs, ↓outsOf, ↓fin, ↓startE, ↓wipeK, ↓wipeE, ↓unw, ↓noOwnB, gEq_ii, gEq_ss, gEq_bb, own_no, own_dat, own_lst, own_ll, List.getD_cons_zero, List.getD_cons_succ, List.set_cons_zero, List.set_cons_succ, List.replicate_succ, List.replicate_zero, List.cons_append, List.nil_append, List.length_cons, List.length_nil, List.map_cons, List.map_nil, List.all_cons, List.all_nil, Nat.reduceAdd, Nat.reduceSub, Bool.not_false, Bool.not_true, Bool.and_true, Bool.and_self, if_true, if_false, reduceCtorEq, List.zipIdx_cons, List.zipIdx_nil, List.filterMap_cons, List.filterMap_nil, Option.map_some, Option.map_none, decide_true, Nat.zero_add, reduceIte, Bool.false_eq_true, true_and, and_true, scr, dsp__law_odd_picture]
  refine ⟨ns, [], rfl, small (by simp), fun bad hb1 hb2 hb3 => hN _ ?_⟩
  clear hN N
  refine sSeq_g fun N hN => ?_
  simp only [↓sRet, ↓sNil, ↓sIf, ↓sSet, ↓sAsg, ↓sPar, ↓sPar3, ↓sSub, ↓sSub2, ↓sExpr, ↓sExprR, ↓sRetV, ↓sRetN, ↓sRaise, ↓sBrk, ↓sCt, ↓fOf, ↓fFz, ↓fName, ↓fFrz, ↓fC, ↓fBin, ↓fBinN, ↓fT, ↓fNot, ↓fAnd, ↓fOr, ↓fAndV, ↓fOrV, ↓fNotV, ↓fIf, ↓fIfN, ↓fChain, ↓fNil, ↓fCons, ↓fTup, ↓fLst, ↓fNeg, ↓fCall, ↓fIsI, ↓fJoin, ↓fApp, ↓fExt, ↓fPop, ↓fPopAt, ↓fSl, ↓fPart, ↓fNoPart, ↓fSeq, ↓fRng1, ↓fRng2, ↓fEnum, ↓fZip, ↓fGN, ↓fGT, ↓fGcons, ↓fGnil, ↓fLc, ↓fLl, ↓fYes, ↓fOwn, ↓fAt2, ↓fCount, ↓fIndex, ↓fRev, ↓fMulL, ↓fSel, ↓sTry, ↓fIsP, ↓isLk, ↓L3.gSub, ↓gMulI, ↓gDiv, ↓gMod, ↓gPow, ↓gLt, ↓gLe, ↓gGt, ↓gGe, ↓gI, ↓gIC, ↓gAdd, ↓gIx, ↓gSl, ↓gLen, ↓gAll, ↓gAny, ↓gSum, ↓gMin2, ↓gMax2, ↓gList, ↓gTuple, ↓gNe, ↓gNotIn, ↓gIs, ↓gIsNot, ↓isNone, ↓look, ↓withD, ↓isD, ↓isB, ↓areD, ↓withDs, ↓isBor, ↓isLst, ↓isLl, ↓isI, ↓items1, ↓itemsD, ↓argsM, ↓putB, ↓pjs, ↓outsOf, ↓fin, ↓startE, ↓wipeK, ↓wipeE, ↓unw, ↓noOwnB, gEq_ii, gEq_ss, gEq_bb, own_no, own_dat, own_lst, own_ll, List.getD_cons_zero, List.getD_cons_succ, List.set_cons_zero, List.set_cons_succ, List.replicate_succ, List.replicate_zero, List.cons_append, List.nil_append, List.length_cons, List.length_nil, List.map_cons, List.map_nil, List.all_cons, List.all_nil, Nat.reduceAdd, Nat.reduceSub, Bool.not_false, Bool.not_true, Bool.and_true, Bool.and_self, if_true, if_false, reduceCtorEq, List.zipIdx_cons, List.zipIdx_nil, List.filterMap_cons, List.filterMap_nil, Option.map_some, Option.map_none, decide_true, Nat.zero_add, reduceIte, Bool.false_eq_true, true_and, and_true, dsp__law_picture]
  refine ⟨ns, _, 8, 8, rfl, small (by simp), by decide, by decide, by decide, by decide, fun p h w tw P hh hw htw => hN _ ?_⟩
  clear hN N
  refine sSeq_g fun N hN => ?_
  simp only [↓sRet, ↓sNil, ↓sIf, ↓sSet, ↓sAsg, ↓sPar, ↓sPar3, ↓sSub, ↓sSub2, ↓sExpr, ↓sExprR, ↓sRetV, ↓sRetN, ↓sRaise, ↓sBrk, ↓sCt, ↓fOf, ↓fFz, ↓fName, ↓fFrz, ↓fC, ↓fBin, ↓fBinN, ↓fT, ↓fNot, ↓fAnd, ↓fOr, ↓fAndV, ↓fOrV, ↓fNotV, ↓fIf, ↓fIfN, ↓fChain, ↓fNil, ↓fCons, ↓fTup, ↓fLst, ↓fNeg, ↓fCall, ↓fIsI, ↓fJoin, ↓fApp, ↓fExt, ↓fPop, ↓fPopAt, ↓fSl, ↓fPart, ↓fNoPart, ↓fSeq, ↓fRng1, ↓fRng2, ↓fEnum, ↓fZip, ↓fGN, ↓fGT, ↓fGcons, ↓fGnil, ↓fLc, ↓fLl, ↓fYes, ↓fOwn, ↓fAt2, ↓fCount, ↓fIndex, ↓fRev, ↓fMulL, ↓fSel, ↓sTry, ↓fIsP, ↓isLk, ↓L3.gSub, ↓gMulI, ↓gDiv, ↓gMod, ↓gPow, ↓gLt, ↓gLe, ↓gGt, ↓gGe, ↓gI, ↓gIC, ↓gAdd, ↓gIx, ↓gSl, ↓gLen, ↓gAll, ↓gAny, ↓gSum, ↓gMin2, ↓gMax2, ↓gList, ↓gTuple, ↓gNe, ↓gNotIn, ↓gIs, ↓gIsNot, ↓isNone, ↓look, ↓withD, ↓isD, ↓isB, ↓areD, ↓withDs, ↓isBor, ↓isLst, ↓isLl, ↓isI, ↓items1, ↓itemsD, ↓argsM, ↓putB, ↓pjs, ↓outsOf, ↓fin, ↓startE, ↓wipeK, ↓wipeE, ↓unw, ↓noOwnB, gEq_ii, gEq_ss, gEq_bb, own_no, own_dat, own_lst, own_ll, List.getD_cons_zero, List.getD_cons_succ, List.set_cons_zero, List.set_cons_succ, List.replicate_succ, List.replicate_zero, List.cons_append, List.nil_append, List.length_cons, List.length_nil, List.map_cons, List.map_nil, List.all_cons, List.all_nil, Nat.reduceAdd, Nat.reduceSub, Bool.not_false, Bool.not_true, Bool.and_true, Bool.and_self, if_true, if_false, reduceCtorEq, List.zipIdx_cons, List.zipIdx_nil, List.filterMap_cons, List.filterMap_nil, Option.map_some, Option.map_none, decide_true, Nat.zero_add, reduceIte, Bool.false_eq_true, true_and, and_true]
  refine ⟨b62 (by decide) (by decide), by rw [rangeD_len]; decide, ?_⟩
  refine lcR_all (fun _ => refused 0) (fun d hd k hk => ?_) ?_
  · obtain ⟨i, i0, i6, rfl⟩ := mem_rangeD hd
    simp only [lcStep, ↓sRet, ↓sNil, ↓sIf, ↓sSet, ↓sAsg, ↓sPar, ↓sPar3, ↓sSub, ↓sSub2, ↓sExpr, ↓sExprR, ↓sRetV, ↓sRetN, ↓sRaise, ↓sBrk, ↓sCt, ↓fOf, ↓fFz, ↓fName, ↓fFrz, ↓fC, ↓fBin, ↓fBinN, ↓fT, ↓fNot, ↓fAnd, ↓fOr, ↓fAndV, ↓fOrV, ↓fNotV, ↓fIf, ↓fIfN, ↓fChain, ↓fNil, ↓fCons, ↓fTup, ↓fLst, ↓fNeg, ↓fCall, ↓fIsI, ↓fJoin, ↓fApp, ↓fExt, ↓fPop, ↓fPopAt, ↓fSl, ↓fPart, ↓fNoPart, ↓fSeq, ↓fRng1, ↓fRng2, ↓fEnum, ↓fZip, ↓fGN, ↓fGT, ↓fGcons, ↓fGnil, ↓fLc, ↓fLl, ↓fYes, ↓fOwn, ↓fAt2, ↓fCount, ↓fIndex, ↓fRev, ↓fMulL, ↓fSel, ↓sTry, ↓fIsP, ↓isLk, ↓L3.gSub, ↓gMulI, ↓gDiv, ↓gMod, ↓gPow, ↓gLt, ↓gLe, ↓gGt, ↓gGe, ↓gI, ↓gIC, ↓gAdd, ↓gIx, ↓gSl, ↓gLen, ↓gAll, ↓gAny, ↓gSum, ↓gMin2, ↓gMax2, ↓gList, ↓gTuple, ↓gNe, ↓gNotIn, ↓gIs, ↓gIsNot, ↓isNone, ↓look, ↓withD, ↓isD, ↓isB, ↓areD, ↓withDs, ↓isBor, ↓isLst, ↓isLl, ↓isI, ↓items1, ↓itemsD, ↓argsM, ↓putB, ↓pjs, ↓outsOf, ↓fin, ↓startE, ↓wipeK, ↓wipeE, ↓unw, ↓noOwnB, gEq_ii, gEq_ss, gEq_bb, own_no, own_dat, own_lst, own_ll, List.getD_cons_zero, List.getD_cons_succ, List.set_cons_zero, List.set_cons_succ, List.replicate_succ, List.replicate_zero, List.cons_append, List.nil_append, List.length_cons, List.length_nil, List.map_cons, List.map_nil, List.all_cons, List.all_nil, Nat.reduceAdd, Nat.reduceSub, Bool.not_false, Bool.not_true, Bool.and_true, Bool.and_self, if_true, if_false, reduceCtorEq, List.zipIdx_cons, List.zipIdx_nil, List.filterMap_cons, List.filterMap_nil, Option.map_some, Option.map_none, decide_true, Nat.zero_add, reduceIte, Bool.false_eq_true, true_and, and_true, dsp__law_ask]
    exact ⟨i, bad, _, rfl, i0, i6, hb1, P.smallP, .inl ⟨.inl hb2, hk⟩⟩
  simp only [↓sRet, ↓sNil, ↓sIf, ↓sSet, ↓sAsg, ↓sPar, ↓sPar3, ↓sSub, ↓sSub2, ↓sExpr, ↓sExprR, ↓sRetV, ↓sRetN, ↓sRaise, ↓sBrk, ↓sCt, ↓fOf, ↓fFz, ↓fName, ↓fFrz, ↓fC, ↓fBin, ↓fBinN, ↓fT, ↓fNot, ↓fAnd, ↓fOr, ↓fAndV, ↓fOrV, ↓fNotV, ↓fIf, ↓fIfN, ↓fChain, ↓fNil, ↓fCons, ↓fTup, ↓fLst, ↓fNeg, ↓fCall, ↓fIsI, ↓fJoin, ↓fApp, ↓fExt, ↓fPop, ↓fPopAt, ↓fSl, ↓fPart, ↓fNoPart, ↓fSeq, ↓fRng1, ↓fRng2, ↓fEnum, ↓fZip, ↓fGN, ↓fGT, ↓fGcons, ↓fGnil, ↓fLc, ↓fLl, ↓fYes, ↓fOwn, ↓fAt2, ↓fCount, ↓fIndex, ↓fRev, ↓fMulL, ↓fSel, ↓sTry, ↓fIsP, ↓isLk, ↓L3.gSub, ↓gMulI, ↓gDiv, ↓gMod, ↓gPow, ↓gLt, ↓gLe, ↓gGt, ↓gGe, ↓gI, ↓gIC, ↓gAdd, ↓gIx, ↓gSl, ↓gLen, ↓gAll, ↓gAny, ↓gSum, ↓gMin2, ↓gMax2, ↓gList, ↓gTuple, ↓gNe, ↓gNotIn, ↓gIs, ↓gIsNot, ↓isNone, ↓look, ↓withD, ↓isD, ↓isB, ↓areD, ↓withDs, ↓isBor, ↓isLst, ↓isLl, ↓isI, ↓items1, ↓itemsD, ↓argsM, ↓putB, ↓pjs, ↓outsOf, ↓fin, ↓startE, ↓wipeK, ↓wipeE, ↓unw, ↓noOwnB, gEq_ii, gEq_ss, gEq_bb, own_no, own_dat, own_lst, own_ll, List.getD_cons_zero, List.getD_cons_succ, List.set_cons_zero, List.set_cons_succ, List.replicate_succ, List.replicate_zero, List.cons_append, List.nil_append, List.length_cons, List.length_nil, List.map_cons, List.map_nil, List.all_cons, List.all_nil, Nat.reduceAdd, Nat.reduceSub, Bool.not_false, Bool.not_true, Bool.and_true, Bool.and_self, if_true, if_false, reduceCtorEq, List.zipIdx_cons, List.zipIdx_nil, List.filterMap_cons, List.filterMap_nil, Option.map_some, Option.map_none, decide_true, Nat.zero_add, reduceIte, Bool.false_eq_true, true_and, and_true]
  refine ⟨by decide, by decide, by decide, ?_⟩
  refine gEq_same (d := .list (List.replicate 5 (refused 0))) (by decide) ?_
  show if (!true) = true then _ else _
  rw [if_neg (by decide)]
  refine hN _ ?_
  clear hN N
  simp only [↓sRet, ↓sNil, ↓sIf, ↓sSet, ↓sAsg, ↓sPar, ↓sPar3, ↓sSub, ↓sSub2, ↓sExpr, ↓sExprR, ↓sRetV, ↓sRetN, ↓sRaise, ↓sBrk, ↓sCt, ↓fOf, ↓fFz, ↓fName, ↓fFrz, ↓fC, ↓fBin, ↓fBinN, ↓fT, ↓fNot, ↓fAnd, ↓fOr, ↓fAndV, ↓fOrV, ↓fNotV, ↓fIf, ↓fIfN, ↓fChain, ↓fNil, ↓fCons, ↓fTup, ↓fLst, ↓fNeg, ↓fCall, ↓fIsI, ↓fJoin, ↓fApp, ↓fExt, ↓fPop, ↓fPopAt, ↓fSl, ↓fPart, ↓fNoPart, ↓fSeq, ↓fRng1, ↓fRng2, ↓fEnum, ↓fZip, ↓fGN, ↓fGT, ↓fGcons, ↓fGnil, ↓fLc, ↓fLl, ↓fYes, ↓fOwn, ↓fAt2, ↓fCount, ↓fIndex, ↓fRev, ↓fMulL, ↓fSel, ↓sTry, ↓fIsP, ↓isLk, ↓L3.gSub, ↓gMulI, ↓gDiv, ↓gMod, ↓gPow, ↓gLt, ↓gLe, ↓gGt, ↓gGe, ↓gI, ↓gIC, ↓gAdd, ↓gIx, ↓gSl, ↓gLen, ↓gAll, ↓gAny, ↓gSum, ↓gMin2, ↓gMax2, ↓gList, ↓gTuple, ↓gNe, ↓gNotIn, ↓gIs, ↓gIsNot, ↓isNone, ↓look, ↓withD, ↓isD, ↓isB, ↓areD, ↓withDs, ↓isBor, ↓isLst, ↓isLl, ↓isI, ↓items1, ↓itemsD, ↓argsM, ↓putB, ↓pjs, ↓outsOf, ↓fin, ↓startE, ↓wipeK, ↓wipeE, ↓unw, ↓noOwnB, gEq_ii, gEq_ss, gEq_bb, own_no, own_dat, own_lst, own_ll, List.getD_cons_zero, List.getD_cons_succ, List.set_cons_zero, List.set_cons_succ, List.replicate_succ, List.replicate_zero, List.cons_append, List.nil_append, List.length_cons, List.length_nil, List.map_cons, List.map_nil, List.all_cons, List.all_nil, Nat.reduceAdd, Nat.reduceSub, Bool.not_false, Bool.not_true, Bool.and_true, Bool.and_self, if_true, if_false, reduceCtorEq, List.zipIdx_cons, List.zipIdx_nil, List.filterMap_cons, List.filterMap_nil, Option.map_some, Option.map_none, decide_true, Nat.zero_add, reduceIte, Bool.false_eq_true, true_and, and_true, dsp__law_ask]
  refine ⟨4, _, bad, rfl, by decide, by decide, P.smallP, hb1, .inl ⟨.inr ⟨hb2, rfl⟩, ?_⟩⟩
  refine gEq_same (d := refused 0) (by decide) ?_
  simp only [↓sRet, ↓sNil, ↓sIf, ↓sSet, ↓sAsg, ↓sPar, ↓sPar3, ↓sSub, ↓sSub2, ↓sExpr, ↓sExprR, ↓sRetV, ↓sRetN, ↓sRaise, ↓sBrk, ↓sCt, ↓fOf, ↓fFz, ↓fName, ↓fFrz, ↓fC, ↓fBin, ↓fBinN, ↓fT, ↓fNot, ↓fAnd, ↓fOr, ↓fAndV, ↓fOrV, ↓fNotV, ↓fIf, ↓fIfN, ↓fChain, ↓fNil, ↓fCons, ↓fTup, ↓fLst, ↓fNeg, ↓fCall, ↓fIsI, ↓fJoin, ↓fApp, ↓fExt, ↓fPop, ↓fPopAt, ↓fSl, ↓fPart, ↓fNoPart, ↓fSeq, ↓fRng1, ↓fRng2, ↓fEnum, ↓fZip, ↓fGN, ↓fGT, ↓fGcons, ↓fGnil, ↓fLc, ↓fLl, ↓fYes, ↓fOwn, ↓fAt2, ↓fCount, ↓fIndex, ↓fRev, ↓fMulL, ↓fSel, ↓sTry, ↓fIsP, ↓isLk, ↓L3.gSub, ↓gMulI, ↓gDiv, ↓gMod, ↓gPow, ↓gLt, ↓gLe, ↓gGt, ↓gGe, ↓gI, ↓gIC, ↓gAdd, ↓gIx, ↓gSl, ↓gLen, ↓gAll, ↓gAny, ↓gSum, ↓gMin2, ↓gMax2, ↓gList, ↓gTuple, ↓gNe, ↓gNotIn, ↓gIs, ↓gIsNot, ↓isNone, ↓look, ↓withD, ↓isD, ↓isB, ↓areD, ↓withDs, ↓isBor, ↓isLst, ↓isLl, ↓isI, ↓items1, ↓itemsD, ↓argsM, ↓putB, ↓pjs, ↓outsOf, ↓fin, ↓startE, ↓wipeK, ↓wipeE, ↓unw, ↓noOwnB, gEq_ii, gEq_ss, gEq_bb, own_no, own_dat, own_lst, own_ll, List.getD_cons_zero, List.getD_cons_succ, List.set_cons_zero, List.set_cons_succ, List.replicate_succ, List.replicate_zero, List.cons_append, List.nil_append, List.length_cons, List.length_nil, List.map_cons, List.map_nil, List.all_cons, List.all_nil, Nat.reduceAdd, Nat.reduceSub, Bool.not_false, Bool.not_true, Bool.and_true, Bool.and_self, if_true, if_false, reduceCtorEq, List.zipIdx_cons, List.zipIdx_nil, List.filterMap_cons, List.filterMap_nil, Option.map_some, Option.map_none, decide_true, Nat.zero_add, reduceIte, Bool.false_eq_true, true_and, and_true]
  refine ⟨4, _, _, rfl, by decide, by decide, P.smallP, P.smallP, .inr ⟨rfl, p, p, h, w, h, w, rfl, rfl, P, P, ?_⟩⟩
  have hm : p ∈ turnsP p := by
    unfold turnsP
    simp [turnsTo]
    exact ⟨0, by decide, .inl rfl⟩
  rw [decide_eq_true hm]
  exact hp
end My

namespace Law
open PySem PySem.Spec PyProof.Rows L2 L3 My
def top (i : Nat) : Stmt := PySem.Challenge.pw_cellstrokes_k18_turning_refused.main.body.getD i (.Pass ⟨0, 0, 0, 0⟩)
abbrev s_is_line : Stmt := top 14
theorem sc_is_line : FnScope ["thing", "sign"] ["thing"] (defScope s_is_line) := ⟨rfl, rfl, rfl, by decide +kernel, rfl, by decide +kernel, by decide +kernel⟩
abbrev s_is_picture : Stmt := top 15
theorem sc_is_picture : FnScope ["thing", "line"] ["thing"] (defScope s_is_picture) := ⟨rfl, rfl, rfl, by decide +kernel, rfl, by decide +kernel, by decide +kernel⟩
abbrev s_need_picture : Stmt := top 16
theorem sc_need_picture : FnScope ["thing"] ["thing"] (defScope s_need_picture) := ⟨rfl, rfl, rfl, by decide +kernel, rfl, by decide +kernel, by decide +kernel⟩
abbrev s_quarter_of : Stmt := top 18
theorem sc_quarter_of : FnScope ["picture", "made", "column", "line"] ["picture"] (defScope s_quarter_of) := ⟨rfl, rfl, rfl, by decide +kernel, rfl, by decide +kernel, by decide +kernel⟩
abbrev s_quarter : Stmt := top 19
theorem sc_quarter : FnScope ["picture"] ["picture"] (defScope s_quarter) := ⟨rfl, rfl, rfl, by decide +kernel, rfl, by decide +kernel, by decide +kernel⟩
abbrev s_mirror_of : Stmt := top 20
theorem sc_mirror_of : FnScope ["picture", "line"] ["picture"] (defScope s_mirror_of) := ⟨rfl, rfl, rfl, by decide +kernel, rfl, by decide +kernel, by decide +kernel⟩
abbrev s_flipped : Stmt := top 21
theorem sc_flipped : FnScope ["picture"] ["picture"] (defScope s_flipped) := ⟨rfl, rfl, rfl, by decide +kernel, rfl, by decide +kernel, by decide +kernel⟩
abbrev s_inverted : Stmt := top 22
theorem sc_inverted : FnScope ["picture", "line", "sign"] ["picture"] (defScope s_inverted) := ⟨rfl, rfl, rfl, by decide +kernel, rfl, by decide +kernel, by decide +kernel⟩
abbrev s_turns_of : Stmt := top 23
theorem sc_turns_of : FnScope ["picture", "made", "here", "turn"] ["picture"] (defScope s_turns_of) := ⟨rfl, rfl, rfl, by decide +kernel, rfl, by decide +kernel, by decide +kernel⟩
abbrev s_shapes : Stmt := top 24
theorem sc_shapes : FnScope ["picture"] ["picture"] (defScope s_shapes) := ⟨rfl, rfl, rfl, by decide +kernel, rfl, by decide +kernel, by decide +kernel⟩
abbrev s_is_same_shape : Stmt := top 25
theorem sc_is_same_shape : FnScope ["one", "other"] ["one", "other"] (defScope s_is_same_shape) := ⟨rfl, rfl, rfl, by decide +kernel, rfl, by decide +kernel, by decide +kernel⟩
abbrev s__law_cell_at : Stmt := top 27
theorem sc__law_cell_at : FnScope ["_law_script", "_law_k"] ["_law_script", "_law_k"] (defScope s__law_cell_at) := ⟨rfl, rfl, rfl, by decide +kernel, rfl, by decide +kernel, by decide +kernel⟩
abbrev s__law_mixed : Stmt := top 28
theorem sc__law_mixed : FnScope ["_law_script", "_law_k", "_law_many", "_law_drawn"] ["_law_script", "_law_k", "_law_many"] (defScope s__law_mixed) := ⟨rfl, rfl, rfl, by decide +kernel, rfl, by decide +kernel, by decide +kernel⟩
abbrev s__law_draw : Stmt := top 29
theorem sc__law_draw : FnScope ["_law_script", "_law_town", "_law_many"] ["_law_script", "_law_town", "_law_many"] (defScope s__law_draw) := ⟨rfl, rfl, rfl, by decide +kernel, rfl, by decide +kernel, by decide +kernel⟩
abbrev s__law_pick : Stmt := top 30
theorem sc__law_pick : FnScope ["_law_script", "_law_town", "_law_some"] ["_law_script", "_law_town", "_law_some"] (defScope s__law_pick) := ⟨rfl, rfl, rfl, by decide +kernel, rfl, by decide +kernel, by decide +kernel⟩
abbrev s__law_picture : Stmt := top 31
theorem sc__law_picture : FnScope ["_law_script", "_law_town", "_law_high", "_law_wide", "_law_height", "_law_width", "_law_share", "_law_rows", "_law_row", "_law_k", "_law_sign", "_law_top", "_law_left", "_law_column"] ["_law_script", "_law_town", "_law_high", "_law_wide"] (defScope s__law_picture) := ⟨rfl, rfl, rfl, by decide +kernel, rfl, by decide +kernel, by decide +kernel⟩
abbrev s__law_odd_picture : Stmt := top 34
theorem sc__law_odd_picture : FnScope ["_law_script", "_law_town", "_law_some"] ["_law_script", "_law_town"] (defScope s__law_odd_picture) := ⟨rfl, rfl, rfl, by decide +kernel, rfl, by decide +kernel, by decide +kernel⟩
abbrev s__law_which : Stmt := top 35
theorem sc__law_which : FnScope ["_law_e", "_law_own"] ["_law_e"] (defScope s__law_which) := ⟨rfl, rfl, rfl, by decide +kernel, rfl, by decide +kernel, by decide +kernel⟩
abbrev s__law_ask : Stmt := top 36
theorem sc__law_ask : FnScope ["_law_what", "_law_one", "_law_other", "_law_e"] ["_law_what", "_law_one", "_law_other"] (defScope s__law_ask) := ⟨rfl, rfl, rfl, by decide +kernel, rfl, by decide +kernel, by decide +kernel⟩
abbrev s_law : Stmt := top 37
theorem sc_law : FnScope ["_law_script", "_law_town", "_law_bad", "_law_picture_here", "_law_what"] ["_law_script"] (defScope s_law) := ⟨rfl, rfl, rfl, by decide +kernel, rfl, by decide +kernel, by decide +kernel⟩
/-- what the program's top has left -/
structure Txt (K : PySem.W.Frag) (mg : Str → Option Value) (cs : Cs) : Prop where
  n_ValueError : mg "ValueError" = none
  n_all : mg "all" = none
  n_isinstance : mg "isinstance" = none
  n_len : mg "len" = none
  n_min : mg "min" = none
  n_range : mg "range" = none
  n_str : mg "str" = none
  n_tuple : mg "tuple" = none
  k_SIZE : ∃ t, mg "SIZE" = some (.int 8 t)
  x_NoPicture : ExcAt K mg "NoPicture" cs.NoPicture
  x_NoWays : ExcAt K mg "NoWays" cs.NoWays
  x_NoPoints : ExcAt K mg "NoPoints" cs.NoPoints
  x_NoError : ExcAt K mg "NoError" cs.NoError
  x_NoSize : ExcAt K mg "NoSize" cs.NoSize
  x_NoCell : ExcAt K mg "NoCell" cs.NoCell
  x_NoText : ExcAt K mg "NoText" cs.NoText
  x_Nothing : ExcAt K mg "Nothing" cs.Nothing
  x_NoClues : ExcAt K mg "NoClues" cs.NoClues
  x_NoNumber : ExcAt K mg "NoNumber" cs.NoNumber
  g_CellError : mg "CellError" = some (.ref cs.CellError)
  e_NoPicture : ExcC K cs.NoPicture
  v_NoPicture : PySem.W.kitOne K (.ref cs.NoPicture) (.type "ValueError") = some true
  m_NoPicture : PySem.W.exmOne K (.ref cs.NoPicture) (.ref cs.CellError) = some true
  i_NoPicture_NoPicture : PySem.W.kitOne K (.ref cs.NoPicture) (.ref cs.NoPicture) = some true
  i_NoPicture_NoWays : PySem.W.kitOne K (.ref cs.NoPicture) (.ref cs.NoWays) = some false
  i_NoPicture_NoPoints : PySem.W.kitOne K (.ref cs.NoPicture) (.ref cs.NoPoints) = some false
  i_NoPicture_NoError : PySem.W.kitOne K (.ref cs.NoPicture) (.ref cs.NoError) = some false
  i_NoPicture_NoSize : PySem.W.kitOne K (.ref cs.NoPicture) (.ref cs.NoSize) = some false
  i_NoPicture_NoCell : PySem.W.kitOne K (.ref cs.NoPicture) (.ref cs.NoCell) = some false
  i_NoPicture_NoText : PySem.W.kitOne K (.ref cs.NoPicture) (.ref cs.NoText) = some false
  i_NoPicture_Nothing : PySem.W.kitOne K (.ref cs.NoPicture) (.ref cs.Nothing) = some false
  i_NoPicture_NoClues : PySem.W.kitOne K (.ref cs.NoPicture) (.ref cs.NoClues) = some false
  i_NoPicture_NoNumber : PySem.W.kitOne K (.ref cs.NoPicture) (.ref cs.NoNumber) = some false
  e_NoWays : ExcC K cs.NoWays
  v_NoWays : PySem.W.kitOne K (.ref cs.NoWays) (.type "ValueError") = some true
  m_NoWays : PySem.W.exmOne K (.ref cs.NoWays) (.ref cs.CellError) = some true
  i_NoWays_NoPicture : PySem.W.kitOne K (.ref cs.NoWays) (.ref cs.NoPicture) = some false
  i_NoWays_NoWays : PySem.W.kitOne K (.ref cs.NoWays) (.ref cs.NoWays) = some true
  i_NoWays_NoPoints : PySem.W.kitOne K (.ref cs.NoWays) (.ref cs.NoPoints) = some false
  i_NoWays_NoError : PySem.W.kitOne K (.ref cs.NoWays) (.ref cs.NoError) = some false
  i_NoWays_NoSize : PySem.W.kitOne K (.ref cs.NoWays) (.ref cs.NoSize) = some false
  i_NoWays_NoCell : PySem.W.kitOne K (.ref cs.NoWays) (.ref cs.NoCell) = some false
  i_NoWays_NoText : PySem.W.kitOne K (.ref cs.NoWays) (.ref cs.NoText) = some false
  i_NoWays_Nothing : PySem.W.kitOne K (.ref cs.NoWays) (.ref cs.Nothing) = some false
  i_NoWays_NoClues : PySem.W.kitOne K (.ref cs.NoWays) (.ref cs.NoClues) = some false
  i_NoWays_NoNumber : PySem.W.kitOne K (.ref cs.NoWays) (.ref cs.NoNumber) = some false
  e_NoPoints : ExcC K cs.NoPoints
  v_NoPoints : PySem.W.kitOne K (.ref cs.NoPoints) (.type "ValueError") = some true
  m_NoPoints : PySem.W.exmOne K (.ref cs.NoPoints) (.ref cs.CellError) = some true
  i_NoPoints_NoPicture : PySem.W.kitOne K (.ref cs.NoPoints) (.ref cs.NoPicture) = some false
  i_NoPoints_NoWays : PySem.W.kitOne K (.ref cs.NoPoints) (.ref cs.NoWays) = some false
  i_NoPoints_NoPoints : PySem.W.kitOne K (.ref cs.NoPoints) (.ref cs.NoPoints) = some true
  i_NoPoints_NoError : PySem.W.kitOne K (.ref cs.NoPoints) (.ref cs.NoError) = some false
  i_NoPoints_NoSize : PySem.W.kitOne K (.ref cs.NoPoints) (.ref cs.NoSize) = some false
  i_NoPoints_NoCell : PySem.W.kitOne K (.ref cs.NoPoints) (.ref cs.NoCell) = some false
  i_NoPoints_NoText : PySem.W.kitOne K (.ref cs.NoPoints) (.ref cs.NoText) = some false
  i_NoPoints_Nothing : PySem.W.kitOne K (.ref cs.NoPoints) (.ref cs.Nothing) = some false
  i_NoPoints_NoClues : PySem.W.kitOne K (.ref cs.NoPoints) (.ref cs.NoClues) = some false
  i_NoPoints_NoNumber : PySem.W.kitOne K (.ref cs.NoPoints) (.ref cs.NoNumber) = some false
  e_NoError : ExcC K cs.NoError
  v_NoError : PySem.W.kitOne K (.ref cs.NoError) (.type "ValueError") = some true
  m_NoError : PySem.W.exmOne K (.ref cs.NoError) (.ref cs.CellError) = some true
  i_NoError_NoPicture : PySem.W.kitOne K (.ref cs.NoError) (.ref cs.NoPicture) = some false
  i_NoError_NoWays : PySem.W.kitOne K (.ref cs.NoError) (.ref cs.NoWays) = some false
  i_NoError_NoPoints : PySem.W.kitOne K (.ref cs.NoError) (.ref cs.NoPoints) = some false
  i_NoError_NoError : PySem.W.kitOne K (.ref cs.NoError) (.ref cs.NoError) = some true
  i_NoError_NoSize : PySem.W.kitOne K (.ref cs.NoError) (.ref cs.NoSize) = some false
  i_NoError_NoCell : PySem.W.kitOne K (.ref cs.NoError) (.ref cs.NoCell) = some false
  i_NoError_NoText : PySem.W.kitOne K (.ref cs.NoError) (.ref cs.NoText) = some false
  i_NoError_Nothing : PySem.W.kitOne K (.ref cs.NoError) (.ref cs.Nothing) = some false
  i_NoError_NoClues : PySem.W.kitOne K (.ref cs.NoError) (.ref cs.NoClues) = some false
  i_NoError_NoNumber : PySem.W.kitOne K (.ref cs.NoError) (.ref cs.NoNumber) = some false
  e_NoSize : ExcC K cs.NoSize
  v_NoSize : PySem.W.kitOne K (.ref cs.NoSize) (.type "ValueError") = some true
  m_NoSize : PySem.W.exmOne K (.ref cs.NoSize) (.ref cs.CellError) = some true
  i_NoSize_NoPicture : PySem.W.kitOne K (.ref cs.NoSize) (.ref cs.NoPicture) = some false
  i_NoSize_NoWays : PySem.W.kitOne K (.ref cs.NoSize) (.ref cs.NoWays) = some false
  i_NoSize_NoPoints : PySem.W.kitOne K (.ref cs.NoSize) (.ref cs.NoPoints) = some false
  i_NoSize_NoError : PySem.W.kitOne K (.ref cs.NoSize) (.ref cs.NoError) = some false
  i_NoSize_NoSize : PySem.W.kitOne K (.ref cs.NoSize) (.ref cs.NoSize) = some true
  i_NoSize_NoCell : PySem.W.kitOne K (.ref cs.NoSize) (.ref cs.NoCell) = some false
  i_NoSize_NoText : PySem.W.kitOne K (.ref cs.NoSize) (.ref cs.NoText) = some false
  i_NoSize_Nothing : PySem.W.kitOne K (.ref cs.NoSize) (.ref cs.Nothing) = some false
  i_NoSize_NoClues : PySem.W.kitOne K (.ref cs.NoSize) (.ref cs.NoClues) = some false
  i_NoSize_NoNumber : PySem.W.kitOne K (.ref cs.NoSize) (.ref cs.NoNumber) = some false
  e_NoCell : ExcC K cs.NoCell
  v_NoCell : PySem.W.kitOne K (.ref cs.NoCell) (.type "ValueError") = some true
  m_NoCell : PySem.W.exmOne K (.ref cs.NoCell) (.ref cs.CellError) = some true
  i_NoCell_NoPicture : PySem.W.kitOne K (.ref cs.NoCell) (.ref cs.NoPicture) = some false
  i_NoCell_NoWays : PySem.W.kitOne K (.ref cs.NoCell) (.ref cs.NoWays) = some false
  i_NoCell_NoPoints : PySem.W.kitOne K (.ref cs.NoCell) (.ref cs.NoPoints) = some false
  i_NoCell_NoError : PySem.W.kitOne K (.ref cs.NoCell) (.ref cs.NoError) = some false
  i_NoCell_NoSize : PySem.W.kitOne K (.ref cs.NoCell) (.ref cs.NoSize) = some false
  i_NoCell_NoCell : PySem.W.kitOne K (.ref cs.NoCell) (.ref cs.NoCell) = some true
  i_NoCell_NoText : PySem.W.kitOne K (.ref cs.NoCell) (.ref cs.NoText) = some false
  i_NoCell_Nothing : PySem.W.kitOne K (.ref cs.NoCell) (.ref cs.Nothing) = some false
  i_NoCell_NoClues : PySem.W.kitOne K (.ref cs.NoCell) (.ref cs.NoClues) = some false
  i_NoCell_NoNumber : PySem.W.kitOne K (.ref cs.NoCell) (.ref cs.NoNumber) = some false
  e_NoText : ExcC K cs.NoText
  v_NoText : PySem.W.kitOne K (.ref cs.NoText) (.type "ValueError") = some true
  m_NoText : PySem.W.exmOne K (.ref cs.NoText) (.ref cs.CellError) = some true
  i_NoText_NoPicture : PySem.W.kitOne K (.ref cs.NoText) (.ref cs.NoPicture) = some false
  i_NoText_NoWays : PySem.W.kitOne K (.ref cs.NoText) (.ref cs.NoWays) = some false
  i_NoText_NoPoints : PySem.W.kitOne K (.ref cs.NoText) (.ref cs.NoPoints) = some false
  i_NoText_NoError : PySem.W.kitOne K (.ref cs.NoText) (.ref cs.NoError) = some false
  i_NoText_NoSize : PySem.W.kitOne K (.ref cs.NoText) (.ref cs.NoSize) = some false
  i_NoText_NoCell : PySem.W.kitOne K (.ref cs.NoText) (.ref cs.NoCell) = some false
  i_NoText_NoText : PySem.W.kitOne K (.ref cs.NoText) (.ref cs.NoText) = some true
  i_NoText_Nothing : PySem.W.kitOne K (.ref cs.NoText) (.ref cs.Nothing) = some false
  i_NoText_NoClues : PySem.W.kitOne K (.ref cs.NoText) (.ref cs.NoClues) = some false
  i_NoText_NoNumber : PySem.W.kitOne K (.ref cs.NoText) (.ref cs.NoNumber) = some false
  e_Nothing : ExcC K cs.Nothing
  v_Nothing : PySem.W.kitOne K (.ref cs.Nothing) (.type "ValueError") = some true
  m_Nothing : PySem.W.exmOne K (.ref cs.Nothing) (.ref cs.CellError) = some true
  i_Nothing_NoPicture : PySem.W.kitOne K (.ref cs.Nothing) (.ref cs.NoPicture) = some false
  i_Nothing_NoWays : PySem.W.kitOne K (.ref cs.Nothing) (.ref cs.NoWays) = some false
  i_Nothing_NoPoints : PySem.W.kitOne K (.ref cs.Nothing) (.ref cs.NoPoints) = some false
  i_Nothing_NoError : PySem.W.kitOne K (.ref cs.Nothing) (.ref cs.NoError) = some false
  i_Nothing_NoSize : PySem.W.kitOne K (.ref cs.Nothing) (.ref cs.NoSize) = some false
  i_Nothing_NoCell : PySem.W.kitOne K (.ref cs.Nothing) (.ref cs.NoCell) = some false
  i_Nothing_NoText : PySem.W.kitOne K (.ref cs.Nothing) (.ref cs.NoText) = some false
  i_Nothing_Nothing : PySem.W.kitOne K (.ref cs.Nothing) (.ref cs.Nothing) = some true
  i_Nothing_NoClues : PySem.W.kitOne K (.ref cs.Nothing) (.ref cs.NoClues) = some false
  i_Nothing_NoNumber : PySem.W.kitOne K (.ref cs.Nothing) (.ref cs.NoNumber) = some false
  e_NoClues : ExcC K cs.NoClues
  v_NoClues : PySem.W.kitOne K (.ref cs.NoClues) (.type "ValueError") = some true
  m_NoClues : PySem.W.exmOne K (.ref cs.NoClues) (.ref cs.CellError) = some true
  i_NoClues_NoPicture : PySem.W.kitOne K (.ref cs.NoClues) (.ref cs.NoPicture) = some false
  i_NoClues_NoWays : PySem.W.kitOne K (.ref cs.NoClues) (.ref cs.NoWays) = some false
  i_NoClues_NoPoints : PySem.W.kitOne K (.ref cs.NoClues) (.ref cs.NoPoints) = some false
  i_NoClues_NoError : PySem.W.kitOne K (.ref cs.NoClues) (.ref cs.NoError) = some false
  i_NoClues_NoSize : PySem.W.kitOne K (.ref cs.NoClues) (.ref cs.NoSize) = some false
  i_NoClues_NoCell : PySem.W.kitOne K (.ref cs.NoClues) (.ref cs.NoCell) = some false
  i_NoClues_NoText : PySem.W.kitOne K (.ref cs.NoClues) (.ref cs.NoText) = some false
  i_NoClues_Nothing : PySem.W.kitOne K (.ref cs.NoClues) (.ref cs.Nothing) = some false
  i_NoClues_NoClues : PySem.W.kitOne K (.ref cs.NoClues) (.ref cs.NoClues) = some true
  i_NoClues_NoNumber : PySem.W.kitOne K (.ref cs.NoClues) (.ref cs.NoNumber) = some false
  e_NoNumber : ExcC K cs.NoNumber
  v_NoNumber : PySem.W.kitOne K (.ref cs.NoNumber) (.type "ValueError") = some true
  m_NoNumber : PySem.W.exmOne K (.ref cs.NoNumber) (.ref cs.CellError) = some true
  i_NoNumber_NoPicture : PySem.W.kitOne K (.ref cs.NoNumber) (.ref cs.NoPicture) = some false
  i_NoNumber_NoWays : PySem.W.kitOne K (.ref cs.NoNumber) (.ref cs.NoWays) = some false
  i_NoNumber_NoPoints : PySem.W.kitOne K (.ref cs.NoNumber) (.ref cs.NoPoints) = some false
  i_NoNumber_NoError : PySem.W.kitOne K (.ref cs.NoNumber) (.ref cs.NoError) = some false
  i_NoNumber_NoSize : PySem.W.kitOne K (.ref cs.NoNumber) (.ref cs.NoSize) = some false
  i_NoNumber_NoCell : PySem.W.kitOne K (.ref cs.NoNumber) (.ref cs.NoCell) = some false
  i_NoNumber_NoText : PySem.W.kitOne K (.ref cs.NoNumber) (.ref cs.NoText) = some false
  i_NoNumber_Nothing : PySem.W.kitOne K (.ref cs.NoNumber) (.ref cs.Nothing) = some false
  i_NoNumber_NoClues : PySem.W.kitOne K (.ref cs.NoNumber) (.ref cs.NoClues) = some false
  i_NoNumber_NoNumber : PySem.W.kitOne K (.ref cs.NoNumber) (.ref cs.NoNumber) = some true
  g_NoPicture : mg "NoPicture" = some (.ref cs.NoPicture)
  g_NoWays : mg "NoWays" = some (.ref cs.NoWays)
  g_NoPoints : mg "NoPoints" = some (.ref cs.NoPoints)
  g_NoError : mg "NoError" = some (.ref cs.NoError)
  g_NoSize : mg "NoSize" = some (.ref cs.NoSize)
  g_NoCell : mg "NoCell" = some (.ref cs.NoCell)
  g_NoText : mg "NoText" = some (.ref cs.NoText)
  g_Nothing : mg "Nothing" = some (.ref cs.Nothing)
  g_NoClues : mg "NoClues" = some (.ref cs.NoClues)
  g_NoNumber : mg "NoNumber" = some (.ref cs.NoNumber)
  f_is_line : ∃ f fd, Fun K "is_line" "is_line" s_is_line f fd ∧ mg "is_line" = some (.ref f) ∧ PySem.W.keepIn K (.ref f) = true ∧ Binds K fd ["thing"] []
  f_is_picture : ∃ f fd, Fun K "is_picture" "is_picture" s_is_picture f fd ∧ mg "is_picture" = some (.ref f) ∧ PySem.W.keepIn K (.ref f) = true ∧ Binds K fd ["thing"] []
  f_need_picture : ∃ f fd, Fun K "need_picture" "need_picture" s_need_picture f fd ∧ mg "need_picture" = some (.ref f) ∧ PySem.W.keepIn K (.ref f) = true ∧ Binds K fd ["thing"] []
  f_quarter_of : ∃ f fd, Fun K "quarter_of" "quarter_of" s_quarter_of f fd ∧ mg "quarter_of" = some (.ref f) ∧ PySem.W.keepIn K (.ref f) = true ∧ Binds K fd ["picture"] []
  f_quarter : ∃ f fd, Fun K "quarter" "quarter" s_quarter f fd ∧ mg "quarter" = some (.ref f) ∧ PySem.W.keepIn K (.ref f) = true ∧ Binds K fd ["picture"] []
  f_mirror_of : ∃ f fd, Fun K "mirror_of" "mirror_of" s_mirror_of f fd ∧ mg "mirror_of" = some (.ref f) ∧ PySem.W.keepIn K (.ref f) = true ∧ Binds K fd ["picture"] []
  f_flipped : ∃ f fd, Fun K "flipped" "flipped" s_flipped f fd ∧ mg "flipped" = some (.ref f) ∧ PySem.W.keepIn K (.ref f) = true ∧ Binds K fd ["picture"] []
  f_inverted : ∃ f fd, Fun K "inverted" "inverted" s_inverted f fd ∧ mg "inverted" = some (.ref f) ∧ PySem.W.keepIn K (.ref f) = true ∧ Binds K fd ["picture"] []
  f_turns_of : ∃ f fd, Fun K "turns_of" "turns_of" s_turns_of f fd ∧ mg "turns_of" = some (.ref f) ∧ PySem.W.keepIn K (.ref f) = true ∧ Binds K fd ["picture"] []
  f_shapes : ∃ f fd, Fun K "shapes" "shapes" s_shapes f fd ∧ mg "shapes" = some (.ref f) ∧ PySem.W.keepIn K (.ref f) = true ∧ Binds K fd ["picture"] []
  f_is_same_shape : ∃ f fd, Fun K "is_same_shape" "is_same_shape" s_is_same_shape f fd ∧ mg "is_same_shape" = some (.ref f) ∧ PySem.W.keepIn K (.ref f) = true ∧ Binds K fd ["one", "other"] []
  f__law_cell_at : ∃ f fd, Fun K "_law_cell_at" "_law_cell_at" s__law_cell_at f fd ∧ mg "_law_cell_at" = some (.ref f) ∧ PySem.W.keepIn K (.ref f) = true ∧ Binds K fd ["_law_script", "_law_k"] []
  f__law_mixed : ∃ f fd, Fun K "_law_mixed" "_law_mixed" s__law_mixed f fd ∧ mg "_law_mixed" = some (.ref f) ∧ PySem.W.keepIn K (.ref f) = true ∧ Binds K fd ["_law_script", "_law_k", "_law_many"] []
  f__law_draw : ∃ f fd, Fun K "_law_draw" "_law_draw" s__law_draw f fd ∧ mg "_law_draw" = some (.ref f) ∧ PySem.W.keepIn K (.ref f) = true ∧ Binds K fd ["_law_script", "_law_town", "_law_many"] []
  f__law_pick : ∃ f fd, Fun K "_law_pick" "_law_pick" s__law_pick f fd ∧ mg "_law_pick" = some (.ref f) ∧ PySem.W.keepIn K (.ref f) = true ∧ Binds K fd ["_law_script", "_law_town", "_law_some"] []
  f__law_picture : ∃ f fd, Fun K "_law_picture" "_law_picture" s__law_picture f fd ∧ mg "_law_picture" = some (.ref f) ∧ PySem.W.keepIn K (.ref f) = true ∧ Binds K fd ["_law_script", "_law_town", "_law_high", "_law_wide"] []
  f__law_odd_picture : ∃ f fd, Fun K "_law_odd_picture" "_law_odd_picture" s__law_odd_picture f fd ∧ mg "_law_odd_picture" = some (.ref f) ∧ PySem.W.keepIn K (.ref f) = true ∧ Binds K fd ["_law_script", "_law_town"] []
  f__law_which : ∃ f fd, Fun K "_law_which" "_law_which" s__law_which f fd ∧ mg "_law_which" = some (.ref f) ∧ PySem.W.keepIn K (.ref f) = true ∧ Binds K fd ["_law_e"] []
  f__law_ask : ∃ f fd, Fun K "_law_ask" "_law_ask" s__law_ask f fd ∧ mg "_law_ask" = some (.ref f) ∧ PySem.W.keepIn K (.ref f) = true ∧ Binds K fd ["_law_what", "_law_one", "_law_other"] []
  f_law : ∃ f fd, Fun K "law" "law" s_law f fd ∧ mg "law" = some (.ref f) ∧ PySem.W.keepIn K (.ref f) = true ∧ Binds K fd ["_law_script"] []
section
variable {P : Program} {w : World} {K : PySem.W.Frag} {mg : Str → Option Value} {base : Heap} {cs : Cs}
theorem has_is_line (T : Txt K mg cs) : Has P w K mg base "is_line" 1 ["thing"] [] (dsp_is_line) := by
  obtain ⟨f, fd, F, hm, hk, hb⟩ := T.f_is_line
  refine ⟨⟨f, fd, hm, hk, hb, Fun.okD F sc_is_line (by decide) (fun cdv A outer s H E hr => ?_) (good_is_line)⟩⟩
  exact (xss_one (xs_ret (xn_of (xr_and (xr_isi (T := "str") rfl (by decide) rfl T.n_isinstance (xr_name (i := 0)) rfl T.n_str (by decide +kernel)) (xr_and (xr_chain op_le (d_I0 fun _ _ _ => .bl _) op_le (d_I0 fun _ _ _ => .bl _) xr_int (xr_fz (xn_len rfl rfl T.n_len (xa_cons (xr_name (i := 0)) xa_nil))) (xr_gint rfl T.k_SIZE)) (xr_one (xr_fz (xn_all rfl rfl rfl T.n_all (xa_cons (xr_fz (xn_lc (own := [("sign", 1)]) (is := [1]) rfl sc_is_line.nd (xi_seq rfl (xr_name (i := 0))) (blkOk_by (N := ["thing", "sign"]) (sc := (defScope s_is_line)) (by decide +kernel)) (fun s H C cl fp => (xg_name (i := 1) sc_is_line.nd rfl (Or.inl rfl))) (fun s H C cl fp => xts_nil) (fun s H C cl fp => (xr_in rfl (u65 hr) (xr_name (i := 1)) xr_str)))) xa_nil)))))))))
theorem has_is_picture (T : Txt K mg cs) : Has P w K mg base "is_picture" 2 ["thing"] [] (dsp_is_picture) := by
  obtain ⟨f, fd, F, hm, hk, hb⟩ := T.f_is_picture
  refine ⟨⟨f, fd, hm, hk, hb, Fun.okD F sc_is_picture (by decide) (fun cdv A outer s H E hr => ?_) (good_is_picture)⟩⟩
  exact (xss_cons (xs_if (xt_w (xw_or (xt_not (xt_val (xr_isi (T := "tuple") rfl (by decide) rfl T.n_isinstance (xr_name (i := 0)) rfl T.n_tuple (by decide +kernel)))) (xw_or (xt_not (xt_chain op_le (d_I0 fun _ _ _ => .bl _) op_le (d_I0 fun _ _ _ => .bl _) xr_int (xr_fz (xn_len rfl rfl T.n_len (xa_cons (xr_name (i := 0)) xa_nil))) (xr_gint rfl T.k_SIZE))) (xw_or1 (xt_not (xt_val (xr_fz (xn_all rfl rfl rfl T.n_all (xa_cons (xr_fz (xn_lc (own := [("line", 1)]) (is := [1]) rfl sc_is_picture.nd (xi_seq rfl (xr_name (i := 0))) (blkOk_by (N := ["thing", "line"]) (sc := (defScope s_is_picture)) (by decide +kernel)) (fun s H C cl fp => (xg_name (i := 1) sc_is_picture.nd rfl (Or.inl rfl))) (fun s H C cl fp => xts_nil) (fun s H C cl fp => (xr_fz (xn_call (ms := [none]) (has_is_line T) rfl (hr.mono (by decide)) takes0N rfl (xa_cons (xr_name (i := 1)) xa_nil)))))) xa_nil))))))))) (xss_one (xs_ret (xn_of xr_bl))) xss_nil)
    (xss_one (xs_ret (xn_all rfl rfl rfl T.n_all (xa_cons (xr_fz (xn_lc (own := [("line", 1)]) (is := [1]) rfl sc_is_picture.nd (xi_seq rfl (xr_name (i := 0))) (blkOk_by (N := ["thing", "line"]) (sc := (defScope s_is_picture)) (by decide +kernel)) (fun s H C cl fp => (xg_name (i := 1) sc_is_picture.nd rfl (Or.inl rfl))) (fun s H C cl fp => xts_nil) (fun s H C cl fp => (xr_eq rfl (u64 hr) (xr_fz (xn_len rfl rfl T.n_len (xa_cons (xr_name (i := 1)) xa_nil))) (xr_fz (xn_len rfl rfl T.n_len (xa_cons (xr_at rfl (xr_name (i := 0)) xr_int) xa_nil))))))) xa_nil)))))
theorem has_need_picture (T : Txt K mg cs) : Has P w K mg base "need_picture" 3 ["thing"] [] (dsp_need_picture cs) := by
  obtain ⟨f, fd, F, hm, hk, hb⟩ := T.f_need_picture
  refine ⟨⟨f, fd, hm, hk, hb, Fun.okD F sc_need_picture (by decide) (fun cdv A outer s H E hr => ?_) (good_need_picture cs)⟩⟩
  exact (xss_one (xs_if (xt_not (xt_val (xr_fz (xn_call (ms := [none]) (has_is_picture T) rfl (hr.mono (by decide)) (L2N.takes_of rfl rfl rfl rfl) rfl (xa_cons (xr_name (i := 0)) xa_nil))))) (xss_one (xs_raise rfl (L2N.takes_of rfl rfl rfl rfl) T.x_NoPicture rfl)) xss_nil))
theorem has_quarter_of (T : Txt K mg cs) : Has P w K mg base "quarter_of" 1 ["picture"] [] (dsp_quarter_of) := by
  obtain ⟨f, fd, F, hm, hk, hb⟩ := T.f_quarter_of
  refine ⟨⟨f, fd, hm, hk, hb, Fun.okD F sc_quarter_of (by decide) (fun cdv A outer s H E hr => ?_) (good_quarter_of)⟩⟩
  exact (xss_cons (xs_set (i := 1) sc_quarter_of.nd rfl (Or.inl rfl) (xn_lst xa_nil))
    (xss_cons (xs_for (passes_of rfl) rfl (xi_rng1 rfl T.n_range (xa_cons (xr_fz (xn_len rfl rfl T.n_len (xa_cons (xr_at rfl (xr_name (i := 0)) xr_int) xa_nil))) xa_nil)) (xg_name (i := 2) sc_quarter_of.nd rfl (Or.inr rfl)) (xss_one (xs_exprR (xr_append rfl (xr_name (i := 1)) (xr_join rfl xr_str (xr_fz (xn_lc (own := [("line", 3)]) (is := [3]) rfl sc_quarter_of.nd (xi_seq rfl (xr_fz (xn_rev rfl (xr_name (i := 0))))) (blkOk_by (N := ["picture", "made", "column", "line"]) (sc := (defScope s_quarter_of)) (by decide +kernel)) (fun s H C cl fp => (xg_name (i := 3) sc_quarter_of.nd rfl (Or.inl rfl))) (fun s H C cl fp => xts_nil) (fun s H C cl fp => (xr_at rfl (xr_name (i := 3)) (xr_name (i := 2)))))))))))
    (xss_one (xs_ret (xn_tuple rfl rfl T.n_tuple (xa_cons (xr_name (i := 1)) xa_nil))))))
theorem has_quarter (T : Txt K mg cs) : Has P w K mg base "quarter" 4 ["picture"] [] (dsp_quarter cs) := by
  obtain ⟨f, fd, F, hm, hk, hb⟩ := T.f_quarter
  refine ⟨⟨f, fd, hm, hk, hb, Fun.okD F sc_quarter (by decide) (fun cdv A outer s H E hr => ?_) (good_quarter cs)⟩⟩
  exact (xss_cons (xs_expr (xn_call (ms := [none]) (has_need_picture T) rfl (hr.mono (by decide)) (L2N.takes_of rfl rfl rfl rfl) rfl (xa_cons (xr_name (i := 0)) xa_nil)))
    (xss_one (xs_ret (xn_call (ms := [none]) (has_quarter_of T) rfl (hr.mono (by decide)) (L2N.takes_of rfl rfl rfl rfl) rfl (xa_cons (xr_name (i := 0)) xa_nil)))))
theorem has_mirror_of (T : Txt K mg cs) : Has P w K mg base "mirror_of" 1 ["picture"] [] (dsp_mirror_of) := by
  obtain ⟨f, fd, F, hm, hk, hb⟩ := T.f_mirror_of
  refine ⟨⟨f, fd, hm, hk, hb, Fun.okD F sc_mirror_of (by decide) (fun cdv A outer s H E hr => ?_) (good_mirror_of)⟩⟩
  exact (xss_one (xs_ret (xn_tuple rfl rfl T.n_tuple (xa_cons (xr_fz (xn_lc (own := [("line", 1)]) (is := [1]) rfl sc_mirror_of.nd (xi_seq rfl (xr_name (i := 0))) (blkOk_by (N := ["picture", "line"]) (sc := (defScope s_mirror_of)) (by decide +kernel)) (fun s H C cl fp => (xg_name (i := 1) sc_mirror_of.nd rfl (Or.inl rfl))) (fun s H C cl fp => xts_nil) (fun s H C cl fp => (xr_fz (xn_rev rfl (xr_name (i := 1))))))) xa_nil))))
theorem has_flipped (T : Txt K mg cs) : Has P w K mg base "flipped" 4 ["picture"] [] (dsp_flipped cs) := by
  obtain ⟨f, fd, F, hm, hk, hb⟩ := T.f_flipped
  refine ⟨⟨f, fd, hm, hk, hb, Fun.okD F sc_flipped (by decide) (fun cdv A outer s H E hr => ?_) (good_flipped cs)⟩⟩
  exact (xss_cons (xs_expr (xn_call (ms := [none]) (has_need_picture T) rfl (hr.mono (by decide)) (L2N.takes_of rfl rfl rfl rfl) rfl (xa_cons (xr_name (i := 0)) xa_nil)))
    (xss_one (xs_ret (xn_call (ms := [none]) (has_mirror_of T) rfl (hr.mono (by decide)) (L2N.takes_of rfl rfl rfl rfl) rfl (xa_cons (xr_name (i := 0)) xa_nil)))))
theorem has_inverted (T : Txt K mg cs) : Has P w K mg base "inverted" 4 ["picture"] [] (dsp_inverted cs) := by
  obtain ⟨f, fd, F, hm, hk, hb⟩ := T.f_inverted
  refine ⟨⟨f, fd, hm, hk, hb, Fun.okD F sc_inverted (by decide) (fun cdv A outer s H E hr => ?_) (good_inverted cs)⟩⟩
  exact (xss_cons (xs_expr (xn_call (ms := [none]) (has_need_picture T) rfl (hr.mono (by decide)) (L2N.takes_of rfl rfl rfl rfl) rfl (xa_cons (xr_name (i := 0)) xa_nil)))
    (xss_one (xs_ret (xn_tuple rfl rfl T.n_tuple (xa_cons (xr_fz (xn_lc (own := [("line", 1)]) (is := [1]) rfl sc_inverted.nd (xi_seq rfl (xr_name (i := 0))) (blkOk_by (N := ["picture", "line", "sign"]) (sc := (defScope s_inverted)) (by decide +kernel)) (fun s H C cl fp => (xg_name (i := 1) sc_inverted.nd rfl (Or.inl rfl))) (fun s H C cl fp => xts_nil) (fun s H C cl fp => (xr_join rfl xr_str (xr_fz (xn_lc (own := [("sign", 2)]) (is := [2]) rfl sc_inverted.nd (xi_seq rfl (xr_name (i := 1))) (blkOk_by (N := ["picture", "line", "sign"]) (sc := (relS _ (defScope s_inverted))) (by decide +kernel)) (fun s H C cl fp => (xg_name (i := 2) sc_inverted.nd rfl (Or.inl rfl))) (fun s H C cl fp => xts_nil) (fun s H C cl fp => (xr_if (xt_eq rfl (u64 hr) (xr_name (i := 2)) xr_str) xr_str xr_str)))))))) xa_nil)))))
theorem has_turns_of (T : Txt K mg cs) : Has P w K mg base "turns_of" 2 ["picture"] [] (dsp_turns_of) := by
  obtain ⟨f, fd, F, hm, hk, hb⟩ := T.f_turns_of
  refine ⟨⟨f, fd, hm, hk, hb, Fun.okD F sc_turns_of (by decide) (fun cdv A outer s H E hr => ?_) (good_turns_of)⟩⟩
  exact (xss_cons (xs_set (i := 1) sc_turns_of.nd rfl (Or.inl rfl) (xn_lst xa_nil))
    (xss_cons (xs_set (i := 2) sc_turns_of.nd rfl (Or.inl rfl) (xn_of (xr_name (i := 0))))
    (xss_cons (xs_for (passes_of rfl) rfl (xi_rng1 rfl T.n_range (xa_cons xr_int xa_nil)) (xg_name (i := 3) sc_turns_of.nd rfl (Or.inl rfl)) (xss_cons (xs_exprR (xr_extend rfl (xr_name (i := 1)) (xn_lst (xa_cons (xr_name (i := 2)) (xa_cons (xr_fz (xn_call (ms := [none]) (has_mirror_of T) rfl (hr.mono (by decide)) (L2N.takes_of rfl rfl rfl rfl) rfl (xa_cons (xr_name (i := 2)) xa_nil))) xa_nil)))))
    (xss_one (xs_set (i := 2) sc_turns_of.nd rfl (Or.inl rfl) (xn_of (xr_fz (xn_call (ms := [none]) (has_quarter_of T) rfl (hr.mono (by decide)) (L2N.takes_of rfl rfl rfl rfl) rfl (xa_cons (xr_name (i := 2)) xa_nil))))))))
    (xss_one (xs_retV (i := 1))))))
theorem has_shapes_n (T : Txt K mg cs) : Has P w K mg base "shapes" 4 ["picture"] [] (dsp_shapes_n cs) := by
  obtain ⟨f, fd, F, hm, hk, hb⟩ := T.f_shapes
  refine ⟨⟨f, fd, hm, hk, hb, Fun.okD F sc_shapes (by decide) (fun cdv A outer s H E hr => ?_) (good_shapes_n cs)⟩⟩
  exact (xss_cons (xs_expr (xn_call (ms := [none]) (has_need_picture T) rfl (hr.mono (by decide)) (L2N.takes_of rfl rfl rfl rfl) rfl (xa_cons (xr_name (i := 0)) xa_nil)))
    (xss_one xs_never))
theorem has_is_same_shape (T : Txt K mg cs) : Has P w K mg base "is_same_shape" 4 ["one", "other"] [] (dsp_is_same_shape cs) := by
  obtain ⟨f, fd, F, hm, hk, hb⟩ := T.f_is_same_shape
  refine ⟨⟨f, fd, hm, hk, hb, Fun.okD F sc_is_same_shape (by decide) (fun cdv A outer s H E hr => ?_) (good_is_same_shape cs)⟩⟩
  exact (xss_cons (xs_expr (xn_call (ms := [none]) (has_need_picture T) rfl (hr.mono (by decide)) (L2N.takes_of rfl rfl rfl rfl) rfl (xa_cons (xr_name (i := 0)) xa_nil)))
    (xss_cons (xs_expr (xn_call (ms := [none]) (has_need_picture T) rfl (hr.mono (by decide)) (L2N.takes_of rfl rfl rfl rfl) rfl (xa_cons (xr_name (i := 1)) xa_nil)))
    (xss_one (xs_ret (xn_of (xr_in rfl (u65 hr) (xr_name (i := 1)) (xr_fz (xn_call (ms := [none]) (has_turns_of T) rfl (hr.mono (by decide)) (L2N.takes_of rfl rfl rfl rfl) rfl (xa_cons (xr_name (i := 0)) xa_nil)))))))))
theorem has__law_cell_at (T : Txt K mg cs) : Has P w K mg base "_law_cell_at" 1 ["_law_script", "_law_k"] [] (dsp__law_cell_at) := by
  obtain ⟨f, fd, F, hm, hk, hb⟩ := T.f__law_cell_at
  refine ⟨⟨f, fd, hm, hk, hb, Fun.okD F sc__law_cell_at (by decide) (fun cdv A outer s H E hr => ?_) (good__law_cell_at)⟩⟩
  exact (xss_cons (xs_if (xt_lt (xr_name (i := 1)) (xr_fz (xn_len rfl rfl T.n_len (xa_cons (xr_name (i := 0)) xa_nil)))) (xss_one (xs_ret (xn_of (xr_at rfl (xr_name (i := 0)) (xr_name (i := 1)))))) xss_nil)
    (xss_cons (xs_if (xt_eq rfl (u64 hr) (xr_name (i := 0)) (xr_fz (xn_lst xa_nil))) (xss_one (xs_ret (xn_of xr_int))) xss_nil)
    (xss_one (xs_ret (xn_add rfl (xr_mulI (xr_at rfl (xr_name (i := 0)) (xr_mod (xr_name (i := 1)) (xr_fz (xn_len rfl rfl T.n_len (xa_cons (xr_name (i := 0)) xa_nil))))) xr_int) (xr_name (i := 1)))))))
theorem has__law_mixed (T : Txt K mg cs) : Has P w K mg base "_law_mixed" 2 ["_law_script", "_law_k", "_law_many"] [] (dsp__law_mixed) := by
  obtain ⟨f, fd, F, hm, hk, hb⟩ := T.f__law_mixed
  refine ⟨⟨f, fd, hm, hk, hb, Fun.okD F sc__law_mixed (by decide) (fun cdv A outer s H E hr => ?_) (good__law_mixed)⟩⟩
  exact (xss_cons (xs_set (i := 3) sc__law_mixed.nd rfl (Or.inl rfl) (xn_of (xr_mod (xr_fz (xn_add rfl (xr_fz (xn_add rfl (xr_mulI (xr_fz (xn_call (ms := [none, none]) (has__law_cell_at T) rfl (hr.mono (by decide)) (L2N.takes_of rfl rfl rfl rfl) rfl (xa_cons (xr_name (i := 0)) (xa_cons (xr_name (i := 1)) xa_nil)))) xr_int) (xr_mulI xr_int (xr_name (i := 1))))) xr_int)) xr_int)))
    (xss_one (xs_ret (xn_of (xr_mod (xr_mod (xr_mod (xr_pow (xr_name (i := 3)) xr_int) xr_int) xr_int) (xr_name (i := 2)))))))
theorem has__law_draw (T : Txt K mg cs) : Has P w K mg base "_law_draw" 3 ["_law_script", "_law_town", "_law_many"] [1] (dsp__law_draw) := by
  obtain ⟨f, fd, F, hm, hk, hb⟩ := T.f__law_draw
  refine ⟨⟨f, fd, hm, hk, hb, Fun.okD F sc__law_draw (by decide) (fun cdv A outer s H E hr => ?_) (good__law_draw)⟩⟩
  exact (xss_cons (xs_exprR (xr_append rfl (xr_name (i := 1)) xr_int))
    (xss_one (xs_ret (xn_call (ms := [none, none, none]) (has__law_mixed T) rfl (hr.mono (by decide)) (L2N.takes_of rfl rfl rfl rfl) rfl (xa_cons (xr_name (i := 0)) (xa_cons (xr_fz (xn_len rfl rfl T.n_len (xa_cons (xr_name (i := 1)) xa_nil))) (xa_cons (xr_name (i := 2)) xa_nil)))))))
theorem has__law_pick (T : Txt K mg cs) : Has P w K mg base "_law_pick" 4 ["_law_script", "_law_town", "_law_some"] [1] (dsp__law_pick) := by
  obtain ⟨f, fd, F, hm, hk, hb⟩ := T.f__law_pick
  refine ⟨⟨f, fd, hm, hk, hb, Fun.okD F sc__law_pick (by decide) (fun cdv A outer s H E hr => ?_) (good__law_pick)⟩⟩
  exact (xss_one (xs_ret (xn_of (xr_at rfl (xr_name (i := 2)) (xr_fz (xn_call (ms := [none, some 1, none]) (has__law_draw T) rfl (hr.mono (by decide)) (L2N.takes_of rfl rfl rfl rfl) rfl (xa_cons (xr_name (i := 0)) (xa_cons (xr_name (i := 1)) (xa_cons (xr_fz (xn_len rfl rfl T.n_len (xa_cons (xr_name (i := 2)) xa_nil))) xa_nil)))))))))
theorem has__law_picture (T : Txt K mg cs) : Has P w K mg base "_law_picture" 5 ["_law_script", "_law_town", "_law_high", "_law_wide"] [1] (dsp__law_picture) := by
  obtain ⟨f, fd, F, hm, hk, hb⟩ := T.f__law_picture
  refine ⟨⟨f, fd, hm, hk, hb, Fun.okD F sc__law_picture (by decide) (fun cdv A outer s H E hr => ?_) (good__law_picture)⟩⟩
  exact (xss_cons (xs_asg (xr_tup (xa_cons (xr_fz (xn_add rfl xr_int (xr_fz (xn_call (ms := [none, some 1, none]) (has__law_draw T) rfl (hr.mono (by decide)) (L2N.takes_of rfl rfl rfl rfl) rfl (xa_cons (xr_name (i := 0)) (xa_cons (xr_name (i := 1)) (xa_cons (xr_name (i := 2)) xa_nil))))))) (xa_cons (xr_fz (xn_add rfl xr_int (xr_fz (xn_call (ms := [none, some 1, none]) (has__law_draw T) rfl (hr.mono (by decide)) (L2N.takes_of rfl rfl rfl rfl) rfl (xa_cons (xr_name (i := 0)) (xa_cons (xr_name (i := 1)) (xa_cons (xr_name (i := 3)) xa_nil))))))) xa_nil))) (xg_tup rfl rfl (xgs_cons (xg_name (i := 4) sc__law_picture.nd rfl (Or.inl rfl)) (xgs_cons (xg_name (i := 5) sc__law_picture.nd rfl (Or.inr rfl)) xgs_nil))))
    (xss_cons (xs_set (i := 6) sc__law_picture.nd rfl (Or.inr rfl) (xn_of (xr_fz (xn_call (ms := [none, some 1, none]) (has__law_pick T) rfl (hr.mono (by decide)) (L2N.takes_of rfl rfl rfl rfl) rfl (xa_cons (xr_name (i := 0)) (xa_cons (xr_name (i := 1)) (xa_cons (xr_fz (xn_lst (xa_cons xr_int (xa_cons xr_int (xa_cons xr_int (xa_cons xr_int (xa_cons xr_int xa_nil))))))) xa_nil)))))))
    (xss_cons (xs_setLl (i := 7) (own := [("_law_row", 8)]) (is := [8]) rfl sc__law_picture.nd rfl rfl (sw_true rfl rfl rfl (by decide +kernel)) (xi_rng1 rfl T.n_range (xa_cons (xr_name (i := 4)) xa_nil)) (blkOk_by (N := ["_law_script", "_law_town", "_law_high", "_law_wide", "_law_height", "_law_width", "_law_share", "_law_rows", "_law_row", "_law_k", "_law_sign", "_law_top", "_law_left", "_law_column"]) (sc := (defScope s__law_picture)) (by decide +kernel)) (fun s H C cl fp => (xg_name (i := 8) sc__law_picture.nd rfl (Or.inl rfl))) (fun s H C cl fp => xts_nil) (fun s H C cl fp => (xn_lc (own := [("_law_k", 9)]) (is := [9]) rfl sc__law_picture.nd (xi_rng1 rfl T.n_range (xa_cons (xr_name (i := 5)) xa_nil)) (blkOk_by (N := ["_law_script", "_law_town", "_law_high", "_law_wide", "_law_height", "_law_width", "_law_share", "_law_rows", "_law_row", "_law_k", "_law_sign", "_law_top", "_law_left", "_law_column"]) (sc := (relS _ (defScope s__law_picture))) (by decide +kernel)) (fun s H C cl fp => (xg_name (i := 9) sc__law_picture.nd rfl (Or.inl rfl))) (fun s H C cl fp => xts_nil) (fun s H C cl fp => (xr_if (xt_lt (xr_fz (xn_call (ms := [none, some 1, none]) (has__law_draw T) rfl (hr.mono (by decide)) takes0N rfl (xa_cons (xr_name (i := 0)) (xa_cons (xr_name (i := 1)) (xa_cons xr_int xa_nil))))) (xr_name (i := 6))) xr_str xr_str)))))
    (xss_cons (xs_if (xt_eq rfl (u64 hr) (xr_fz (xn_call (ms := [none, some 1, none]) (has__law_draw T) rfl (hr.mono (by decide)) (L2N.takes_of rfl rfl rfl rfl) rfl (xa_cons (xr_name (i := 0)) (xa_cons (xr_name (i := 1)) (xa_cons xr_int xa_nil))))) xr_int) (xss_cons (xs_set (i := 10) sc__law_picture.nd rfl (Or.inl rfl) (xn_of (xr_fz (xn_call (ms := [none, some 1, none]) (has__law_pick T) rfl (hr.mono (by decide)) (L2N.takes_of rfl rfl rfl rfl) rfl (xa_cons (xr_name (i := 0)) (xa_cons (xr_name (i := 1)) (xa_cons (xr_fz (xn_lst (xa_cons xr_str (xa_cons xr_str (xa_cons xr_str xa_nil))))) xa_nil)))))))
    (xss_cons (xs_par (i := 11) (j := 12) rfl sc__law_picture.nd rfl rfl (by decide) rfl rfl (xa_cons (xr_fz (xn_call (ms := [none, some 1, none]) (has__law_draw T) rfl (hr.mono (by decide)) (L2N.takes_of rfl rfl rfl rfl) rfl (xa_cons (xr_name (i := 0)) (xa_cons (xr_name (i := 1)) (xa_cons (xr_name (i := 4)) xa_nil))))) (xa_cons (xr_fz (xn_call (ms := [none, some 1, none]) (has__law_draw T) rfl (hr.mono (by decide)) (L2N.takes_of rfl rfl rfl rfl) rfl (xa_cons (xr_name (i := 0)) (xa_cons (xr_name (i := 1)) (xa_cons (xr_name (i := 5)) xa_nil))))) xa_nil)))
    (xss_one (xs_for (passes_of rfl) rfl (xi_rng2 rfl T.n_range (xa_cons (xr_name (i := 11)) (xa_cons (xr_fz (xn_min2 rfl rfl T.n_min (xa_cons (xr_name (i := 4)) (xa_cons (xr_fz (xn_add rfl (xr_fz (xn_add rfl (xr_name (i := 11)) xr_int)) (xr_fz (xn_call (ms := [none, some 1, none]) (has__law_draw T) rfl (hr.mono (by decide)) (L2N.takes_of rfl rfl rfl rfl) rfl (xa_cons (xr_name (i := 0)) (xa_cons (xr_name (i := 1)) (xa_cons xr_int xa_nil))))))) xa_nil)))) xa_nil))) (xg_name (i := 8) sc__law_picture.nd rfl (Or.inl rfl)) (xss_one (xs_for (passes_of rfl) rfl (xi_rng2 rfl T.n_range (xa_cons (xr_name (i := 12)) (xa_cons (xr_fz (xn_min2 rfl rfl T.n_min (xa_cons (xr_name (i := 5)) (xa_cons (xr_fz (xn_add rfl (xr_name (i := 12)) xr_int)) xa_nil)))) xa_nil))) (xg_name (i := 13) sc__law_picture.nd rfl (Or.inl rfl)) (xss_one (xs_sub2 (xr_name (i := 10)) rfl (by first | exact Or.inl rfl | exact Or.inr (Or.inl rfl) | exact Or.inr (Or.inr rfl)) rfl (by first | exact Or.inl rfl | exact Or.inr (Or.inl rfl) | exact Or.inr (Or.inr rfl)) rfl (by first | exact Or.inl rfl | exact Or.inr (Or.inl rfl) | exact Or.inr (Or.inr rfl)) rfl)))))))) xss_nil)
    (xss_one (xs_ret (xn_tuple rfl rfl T.n_tuple (xa_cons (xr_fz (xn_lc (own := [("_law_row", 8)]) (is := [8]) rfl sc__law_picture.nd (xi_seq rfl (xr_frz (i := 7))) (blkOk_by (N := ["_law_script", "_law_town", "_law_high", "_law_wide", "_law_height", "_law_width", "_law_share", "_law_rows", "_law_row", "_law_k", "_law_sign", "_law_top", "_law_left", "_law_column"]) (sc := (defScope s__law_picture)) (by decide +kernel)) (fun s H C cl fp => (xg_name (i := 8) sc__law_picture.nd rfl (Or.inl rfl))) (fun s H C cl fp => xts_nil) (fun s H C cl fp => (xr_join rfl xr_str (xr_name (i := 8)))))) xa_nil))))))))
theorem has__law_odd_picture (T : Txt K mg cs) : Has P w K mg base "_law_odd_picture" 5 ["_law_script", "_law_town"] [1] (dsp__law_odd_picture) := by
  obtain ⟨f, fd, F, hm, hk, hb⟩ := T.f__law_odd_picture
  refine ⟨⟨f, fd, hm, hk, hb, Fun.okD F sc__law_odd_picture (by decide) (fun cdv A outer s H E hr => ?_) (good__law_odd_picture)⟩⟩
  exact (xss_cons (xs_set (i := 2) sc__law_odd_picture.nd rfl (Or.inl rfl) (xn_of (xr_fz (xn_lst (xa_cons xr_non (xa_cons xr_int (xa_cons (xr_tup xa_nil) (xa_cons (xr_tup (xa_cons xr_str xa_nil)) (xa_cons (xr_tup (xa_cons xr_str (xa_cons xr_str xa_nil))) (xa_cons (xr_tup (xa_cons xr_str xa_nil)) (xa_cons (xr_fz (xn_lst (xa_cons xr_str xa_nil))) (xa_cons (xr_tup (xa_cons (xr_fz (xn_mul rfl xr_str xr_int)) xa_nil)) (xa_cons (xr_fz (xn_mul rfl (xr_tup (xa_cons xr_str xa_nil)) xr_int)) (xa_cons xr_str (xa_cons (xr_tup (xa_cons xr_str (xa_cons xr_non xa_nil))) (xa_cons (xr_tup (xa_cons xr_str xa_nil)) (xa_cons (xr_tup (xa_cons xr_int xa_nil)) xa_nil)))))))))))))))))
    (xss_one (xs_ret (xn_call (ms := [none, some 1, none]) (has__law_pick T) rfl (hr.mono (by decide)) (L2N.takes_of rfl rfl rfl rfl) rfl (xa_cons (xr_name (i := 0)) (xa_cons (xr_name (i := 1)) (xa_cons (xr_name (i := 2)) xa_nil)))))))
theorem which_run (T : Txt K mg cs) {D : Addr} {b : Nat → Bool} (hC : ExcC K D) (h0 : PySem.W.kitOne K (.ref D) (.ref cs.NoPicture) = some (b 0)) (h1 : PySem.W.kitOne K (.ref D) (.ref cs.NoWays) = some (b 1)) (h2 : PySem.W.kitOne K (.ref D) (.ref cs.NoPoints) = some (b 2)) (h3 : PySem.W.kitOne K (.ref D) (.ref cs.NoError) = some (b 3)) (h4 : PySem.W.kitOne K (.ref D) (.ref cs.NoSize) = some (b 4)) (h5 : PySem.W.kitOne K (.ref D) (.ref cs.NoCell) = some (b 5)) (h6 : PySem.W.kitOne K (.ref D) (.ref cs.NoText) = some (b 6)) (h7 : PySem.W.kitOne K (.ref D) (.ref cs.Nothing) = some (b 7)) (h8 : PySem.W.kitOne K (.ref D) (.ref cs.NoClues) = some (b 8)) (h9 : PySem.W.kitOne K (.ref D) (.ref cs.NoNumber) = some (b 9)) (hV : PySem.W.kitOne K (.ref D) (.type "ValueError") = some true) {f : Addr} {cdv : Value} {A : Around} {outer : List Env} {s : Shared} {H : Hp} {E : XK} {p : Addr × Obj} (hr : L2H.RoomH 0 (A.deeper (envOfC "_law_which" (defScope s__law_which) s.heap.objs.size f cdv))) (hz : Zc (.ref D) none p.2) (hf : ∃ vs, p.2.data = .fields vs) :
    XSs K (fun cls d _ H => E cls d H) [] (L2H.cxH (L2N.CX P w) P w K mg base ["_law_e", "_law_own"] "_law_which" (defScope s__law_which) f cdv A outer s H E p) (defBody s__law_which) (T__law_which10 (.ref p.1) b) := by
  have hp : p ∈ (L2H.cxH (L2N.CX P w) P w K mg base ["_law_e", "_law_own"] "_law_which" (defScope s__law_which) f cdv A outer s H E p).pn := List.mem_singleton.mpr rfl
  exact (xss_cons (xs_set (i := 1) sc__law_which.nd rfl (Or.inl rfl) (xn_lst (xa_cons (xr_isP (i := 0) rfl hC hz hf hp rfl T.n_isinstance rfl (.inl rfl) rfl rfl (pe_own rfl T.g_NoPicture) rel_own h0) (xa_cons (xr_isP (i := 0) rfl hC hz hf hp rfl T.n_isinstance rfl (.inl rfl) rfl rfl (pe_own rfl T.g_NoWays) rel_own h1) (xa_cons (xr_isP (i := 0) rfl hC hz hf hp rfl T.n_isinstance rfl (.inl rfl) rfl rfl (pe_own rfl T.g_NoPoints) rel_own h2) (xa_cons (xr_isP (i := 0) rfl hC hz hf hp rfl T.n_isinstance rfl (.inl rfl) rfl rfl (pe_own rfl T.g_NoError) rel_own h3) xa_nil))))))
    (xss_cons (xs_exprR (xr_extend rfl (xr_name (i := 1)) (xn_lst (xa_cons (xr_isP (i := 0) rfl hC hz hf hp rfl T.n_isinstance rfl (.inl rfl) rfl rfl (pe_own rfl T.g_NoSize) rel_own h4) (xa_cons (xr_isP (i := 0) rfl hC hz hf hp rfl T.n_isinstance rfl (.inl rfl) rfl rfl (pe_own rfl T.g_NoCell) rel_own h5) (xa_cons (xr_isP (i := 0) rfl hC hz hf hp rfl T.n_isinstance rfl (.inl rfl) rfl rfl (pe_own rfl T.g_NoText) rel_own h6) (xa_cons (xr_isP (i := 0) rfl hC hz hf hp rfl T.n_isinstance rfl (.inl rfl) rfl rfl (pe_own rfl T.g_Nothing) rel_own h7) xa_nil)))))))
    (xss_cons (xs_exprR (xr_extend rfl (xr_name (i := 1)) (xn_lst (xa_cons (xr_isP (i := 0) rfl hC hz hf hp rfl T.n_isinstance rfl (.inl rfl) rfl rfl (pe_own rfl T.g_NoClues) rel_own h8) (xa_cons (xr_isP (i := 0) rfl hC hz hf hp rfl T.n_isinstance rfl (.inl rfl) rfl rfl (pe_own rfl T.g_NoNumber) rel_own h9) xa_nil)))))
    (xss_cons (xs_if (xt_w (xw_or (xt_ne rfl (uH64 hr) (xr_count rfl (uH65 hr) (xr_name (i := 1)) xr_bl) xr_int) (xw_or1 (xt_not (xt_val (xr_isP (i := 0) rfl hC hz hf hp rfl T.n_isinstance rfl (.inl rfl) rfl rfl (pe_bty rfl T.n_ValueError rfl) rel_ty hV)))))) (xss_one (xs_ret (xn_of (xr_tup (xa_cons xr_str (xa_cons (xr_neg xr_int) xa_nil)))))) xss_nil)
    (xss_one (xs_ret (xn_of (xr_tup (xa_cons xr_str (xa_cons (xr_index rfl (uH65 hr) (xr_name (i := 1)) xr_bl) xa_nil))))))))))
theorem has__law_which (T : Txt K mg cs) : HasW P w K mg base "_law_which" 1 "_law_e" "CellError" (Wh10 cs) := by
  obtain ⟨f, fd, F, hm, hk, hb⟩ := T.f__law_which
  refine ⟨⟨f, fd, hm, hk, hb, Fun.okW F sc__law_which fun cdv A outer s H E p D dd hr hz hf hR => ?_⟩, ⟨cs.CellError, T.g_CellError, fun c e q => ?_⟩⟩
  · cases hR with
    | NoPicture => exact ⟨_, which_run T (b := fun j => decide (j = 0)) T.e_NoPicture T.i_NoPicture_NoPicture T.i_NoPicture_NoWays T.i_NoPicture_NoPoints T.i_NoPicture_NoError T.i_NoPicture_NoSize T.i_NoPicture_NoCell T.i_NoPicture_NoText T.i_NoPicture_Nothing T.i_NoPicture_NoClues T.i_NoPicture_NoNumber T.v_NoPicture hr hz hf, good__law_which10 _ 0 (by decide)⟩
    | NoWays => exact ⟨_, which_run T (b := fun j => decide (j = 1)) T.e_NoWays T.i_NoWays_NoPicture T.i_NoWays_NoWays T.i_NoWays_NoPoints T.i_NoWays_NoError T.i_NoWays_NoSize T.i_NoWays_NoCell T.i_NoWays_NoText T.i_NoWays_Nothing T.i_NoWays_NoClues T.i_NoWays_NoNumber T.v_NoWays hr hz hf, good__law_which10 _ 1 (by decide)⟩
    | NoPoints => exact ⟨_, which_run T (b := fun j => decide (j = 2)) T.e_NoPoints T.i_NoPoints_NoPicture T.i_NoPoints_NoWays T.i_NoPoints_NoPoints T.i_NoPoints_NoError T.i_NoPoints_NoSize T.i_NoPoints_NoCell T.i_NoPoints_NoText T.i_NoPoints_Nothing T.i_NoPoints_NoClues T.i_NoPoints_NoNumber T.v_NoPoints hr hz hf, good__law_which10 _ 2 (by decide)⟩
    | NoError => exact ⟨_, which_run T (b := fun j => decide (j = 3)) T.e_NoError T.i_NoError_NoPicture T.i_NoError_NoWays T.i_NoError_NoPoints T.i_NoError_NoError T.i_NoError_NoSize T.i_NoError_NoCell T.i_NoError_NoText T.i_NoError_Nothing T.i_NoError_NoClues T.i_NoError_NoNumber T.v_NoError hr hz hf, good__law_which10 _ 3 (by decide)⟩
    | NoSize => exact ⟨_, which_run T (b := fun j => decide (j = 4)) T.e_NoSize T.i_NoSize_NoPicture T.i_NoSize_NoWays T.i_NoSize_NoPoints T.i_NoSize_NoError T.i_NoSize_NoSize T.i_NoSize_NoCell T.i_NoSize_NoText T.i_NoSize_Nothing T.i_NoSize_NoClues T.i_NoSize_NoNumber T.v_NoSize hr hz hf, good__law_which10 _ 4 (by decide)⟩
    | NoCell => exact ⟨_, which_run T (b := fun j => decide (j = 5)) T.e_NoCell T.i_NoCell_NoPicture T.i_NoCell_NoWays T.i_NoCell_NoPoints T.i_NoCell_NoError T.i_NoCell_NoSize T.i_NoCell_NoCell T.i_NoCell_NoText T.i_NoCell_Nothing T.i_NoCell_NoClues T.i_NoCell_NoNumber T.v_NoCell hr hz hf, good__law_which10 _ 5 (by decide)⟩
    | NoText => exact ⟨_, which_run T (b := fun j => decide (j = 6)) T.e_NoText T.i_NoText_NoPicture T.i_NoText_NoWays T.i_NoText_NoPoints T.i_NoText_NoError T.i_NoText_NoSize T.i_NoText_NoCell T.i_NoText_NoText T.i_NoText_Nothing T.i_NoText_NoClues T.i_NoText_NoNumber T.v_NoText hr hz hf, good__law_which10 _ 6 (by decide)⟩
    | Nothing => exact ⟨_, which_run T (b := fun j => decide (j = 7)) T.e_Nothing T.i_Nothing_NoPicture T.i_Nothing_NoWays T.i_Nothing_NoPoints T.i_Nothing_NoError T.i_Nothing_NoSize T.i_Nothing_NoCell T.i_Nothing_NoText T.i_Nothing_Nothing T.i_Nothing_NoClues T.i_Nothing_NoNumber T.v_Nothing hr hz hf, good__law_which10 _ 7 (by decide)⟩
    | NoClues => exact ⟨_, which_run T (b := fun j => decide (j = 8)) T.e_NoClues T.i_NoClues_NoPicture T.i_NoClues_NoWays T.i_NoClues_NoPoints T.i_NoClues_NoError T.i_NoClues_NoSize T.i_NoClues_NoCell T.i_NoClues_NoText T.i_NoClues_Nothing T.i_NoClues_NoClues T.i_NoClues_NoNumber T.v_NoClues hr hz hf, good__law_which10 _ 8 (by decide)⟩
    | NoNumber => exact ⟨_, which_run T (b := fun j => decide (j = 9)) T.e_NoNumber T.i_NoNumber_NoPicture T.i_NoNumber_NoWays T.i_NoNumber_NoPoints T.i_NoNumber_NoError T.i_NoNumber_NoSize T.i_NoNumber_NoCell T.i_NoNumber_NoText T.i_NoNumber_Nothing T.i_NoNumber_NoClues T.i_NoNumber_NoNumber T.v_NoNumber hr hz hf, good__law_which10 _ 9 (by decide)⟩
  · cases q with
    | NoPicture => exact ⟨⟨_, rfl⟩, T.m_NoPicture⟩
    | NoWays => exact ⟨⟨_, rfl⟩, T.m_NoWays⟩
    | NoPoints => exact ⟨⟨_, rfl⟩, T.m_NoPoints⟩
    | NoError => exact ⟨⟨_, rfl⟩, T.m_NoError⟩
    | NoSize => exact ⟨⟨_, rfl⟩, T.m_NoSize⟩
    | NoCell => exact ⟨⟨_, rfl⟩, T.m_NoCell⟩
    | NoText => exact ⟨⟨_, rfl⟩, T.m_NoText⟩
    | Nothing => exact ⟨⟨_, rfl⟩, T.m_Nothing⟩
    | NoClues => exact ⟨⟨_, rfl⟩, T.m_NoClues⟩
    | NoNumber => exact ⟨⟨_, rfl⟩, T.m_NoNumber⟩
theorem has__law_ask (T : Txt K mg cs) : Has P w K mg base "_law_ask" 5 ["_law_what", "_law_one", "_law_other"] [] (dsp__law_ask cs) := by
  obtain ⟨f, fd, F, hm, hk, hb⟩ := T.f__law_ask
  refine ⟨⟨f, fd, hm, hk, hb, Fun.okD F sc__law_ask (by decide) (fun cdv A outer s H E hr => ?_) (good__law_ask cs)⟩⟩
  exact (xss_one (xs_try (i := 3) (has__law_which T) rfl (hr.mono (by decide)) (L2N.takes_of rfl rfl rfl rfl) rfl rfl sc__law_ask.nd rfl rfl rfl rfl (hb := fun W pn xe tkI => (xss_one (xs_ret (xn_if (xt_eq rfl (u64 hr) (xr_name (i := 0)) xr_int) (xn_call (ms := [none, none]) (has_is_same_shape T) rfl (hr.mono (by decide)) tkI rfl (xa_cons (xr_name (i := 1)) (xa_cons (xr_name (i := 2)) xa_nil))) (xn_sel (k := 4) (ms := [none]) (Sel.cons ((has_quarter T).mono (by decide)) rfl rfl (by decide) (Sel.cons ((has_flipped T).mono (by decide)) rfl rfl (by decide) (Sel.cons ((has_inverted T).mono (by decide)) rfl rfl (by decide) (Sel.cons ((has_shapes_n T).mono (by decide)) rfl rfl (by decide) Sel.nil)))) rfl (hr.mono (by decide)) tkI (xr_name (i := 0)) (xa_cons (xr_name (i := 1)) xa_nil) (by decide))))))))
theorem has_law (T : Txt K mg cs) : Has P w K mg base "law" 6 ["_law_script"] [] (dsp_law cs) := by
  obtain ⟨f, fd, F, hm, hk, hb⟩ := T.f_law
  refine ⟨⟨f, fd, hm, hk, hb, Fun.okD F sc_law (by decide) (fun cdv A outer s H E hr => ?_) (good_law cs)⟩⟩
  exact (xss_cons (xs_set (i := 1) sc_law.nd rfl (Or.inl rfl) (xn_lst xa_nil))
    (xss_cons (xs_set (i := 2) sc_law.nd rfl (Or.inr rfl) (xn_of (xr_fz (xn_call (ms := [none, some 1]) (has__law_odd_picture T) rfl (hr.mono (by decide)) (L2N.takes_of rfl rfl rfl rfl) rfl (xa_cons (xr_name (i := 0)) (xa_cons (xr_name (i := 1)) xa_nil))))))
    (xss_cons (xs_set (i := 3) sc_law.nd rfl (Or.inr rfl) (xn_of (xr_fz (xn_call (ms := [none, some 1, none, none]) (has__law_picture T) rfl (hr.mono (by decide)) (L2N.takes_of rfl rfl rfl rfl) rfl (xa_cons (xr_name (i := 0)) (xa_cons (xr_name (i := 1)) (xa_cons xr_int (xa_cons xr_int xa_nil))))))))
    (xss_cons (xs_if (xt_ne rfl (u64 hr) (xr_fz (xn_lc (own := [("_law_what", 4)]) (is := [4]) rfl sc_law.nd (xi_rng1 rfl T.n_range (xa_cons xr_int xa_nil)) (blkOk_by (N := ["_law_script", "_law_town", "_law_bad", "_law_picture_here", "_law_what"]) (sc := (defScope s_law)) (by decide +kernel)) (fun s H C cl fp => (xg_name (i := 4) sc_law.nd rfl (Or.inl rfl))) (fun s H C cl fp => xts_nil) (fun s H C cl fp => (xr_fz (xn_call (ms := [none, none, none]) (has__law_ask T) rfl (hr.mono (by decide)) takes0N rfl (xa_cons (xr_name (i := 4)) (xa_cons (xr_name (i := 2)) (xa_cons (xr_name (i := 3)) xa_nil)))))))) (xr_fz (xn_mulL (xn_lst (xa_cons (xr_tup (xa_cons xr_str (xa_cons xr_int xa_nil))) xa_nil)) xr_int))) (xss_one (xs_ret (xn_of xr_bl))) xss_nil)
    (xss_one (xs_ret (xn_of (xr_and (xr_eq rfl (u64 hr) (xr_fz (xn_call (ms := [none, none, none]) (has__law_ask T) rfl (hr.mono (by decide)) (L2N.takes_of rfl rfl rfl rfl) rfl (xa_cons xr_int (xa_cons (xr_name (i := 3)) (xa_cons (xr_name (i := 2)) xa_nil))))) (xr_tup (xa_cons xr_str (xa_cons xr_int xa_nil)))) (xr_one (xr_is (xr_fz (xn_call (ms := [none, none, none]) (has__law_ask T) rfl (hr.mono (by decide)) (L2N.takes_of rfl rfl rfl rfl) rfl (xa_cons xr_int (xa_cons (xr_name (i := 3)) (xa_cons (xr_name (i := 3)) xa_nil))))) xr_bl))))))))))
end
/-- the law: it says True -/
def dsp_end : DSp := fun es post _ => ∃ ns : List Int, es = [.dat (.list (ns.map PyData.int))] ∧ ns.length ≤ 63 ∧ post (.dat (.bool true)) []
theorem ok_law {P : Program} {w : World} {K : PySem.W.Frag} {mg : Str → Option Value} {base : Heap} {cs : Cs} {f : Addr} {fd : FuncData} (F : Fun K "law" "law" s_law f fd) (T : Txt K mg cs) : FnOk P w K mg base (L2N.CX P w) 6 f fd ["_law_script"] (toSp K [] 1 dsp_end) := by
  refine Fun.okD F sc_law (by decide) (fun cdv A outer s H E hr => ?_) (T := T_law cs) (fun es post xp ⟨ns, he, hn, hp⟩ hl => good_law cs es post xp ⟨ns, he, hn, hp⟩ hl)
  exact (xss_cons (xs_set (i := 1) sc_law.nd rfl (Or.inl rfl) (xn_lst xa_nil))
    (xss_cons (xs_set (i := 2) sc_law.nd rfl (Or.inr rfl) (xn_of (xr_fz (xn_call (ms := [none, some 1]) (has__law_odd_picture T) rfl (hr.mono (by decide)) (L2N.takes_of rfl rfl rfl rfl) rfl (xa_cons (xr_name (i := 0)) (xa_cons (xr_name (i := 1)) xa_nil))))))
    (xss_cons (xs_set (i := 3) sc_law.nd rfl (Or.inr rfl) (xn_of (xr_fz (xn_call (ms := [none, some 1, none, none]) (has__law_picture T) rfl (hr.mono (by decide)) (L2N.takes_of rfl rfl rfl rfl) rfl (xa_cons (xr_name (i := 0)) (xa_cons (xr_name (i := 1)) (xa_cons xr_int (xa_cons xr_int xa_nil))))))))
    (xss_cons (xs_if (xt_ne rfl (u64 hr) (xr_fz (xn_lc (own := [("_law_what", 4)]) (is := [4]) rfl sc_law.nd (xi_rng1 rfl T.n_range (xa_cons xr_int xa_nil)) (blkOk_by (N := ["_law_script", "_law_town", "_law_bad", "_law_picture_here", "_law_what"]) (sc := (defScope s_law)) (by decide +kernel)) (fun s H C cl fp => (xg_name (i := 4) sc_law.nd rfl (Or.inl rfl))) (fun s H C cl fp => xts_nil) (fun s H C cl fp => (xr_fz (xn_call (ms := [none, none, none]) (has__law_ask T) rfl (hr.mono (by decide)) takes0N rfl (xa_cons (xr_name (i := 4)) (xa_cons (xr_name (i := 2)) (xa_cons (xr_name (i := 3)) xa_nil)))))))) (xr_fz (xn_mulL (xn_lst (xa_cons (xr_tup (xa_cons xr_str (xa_cons xr_int xa_nil))) xa_nil)) xr_int))) (xss_one (xs_ret (xn_of xr_bl))) xss_nil)
    (xss_one (xs_ret (xn_of (xr_and (xr_eq rfl (u64 hr) (xr_fz (xn_call (ms := [none, none, none]) (has__law_ask T) rfl (hr.mono (by decide)) (L2N.takes_of rfl rfl rfl rfl) rfl (xa_cons xr_int (xa_cons (xr_name (i := 3)) (xa_cons (xr_name (i := 2)) xa_nil))))) (xr_tup (xa_cons xr_str (xa_cons xr_int xa_nil)))) (xr_one (xr_is (xr_fz (xn_call (ms := [none, none, none]) (has__law_ask T) rfl (hr.mono (by decide)) (L2N.takes_of rfl rfl rfl rfl) rfl (xa_cons xr_int (xa_cons (xr_name (i := 3)) (xa_cons (xr_name (i := 3)) xa_nil))))) xr_bl))))))))))
theorem all_mk {P : Program} {w : World} {K : PySem.W.Frag} {h : Heap} {mg : Str → Option Value} {fa : Addr} (X : K.In h) (G : h.Ns mainGlobals mg) (hfa : mg "law" = some (.ref fa))
    {f0 : Addr} {od0 an0 : Option Addr} {sl0 : Array (Option Value)} {oc0 kV0 dc0 pm0 cd0 ct0 : Value}
    {f1 : Addr} {od1 an1 : Option Addr} {sl1 : Array (Option Value)} {oc1 kV1 dc1 pm1 cd1 ct1 : Value}
    {f2 : Addr} {od2 an2 : Option Addr} {sl2 : Array (Option Value)} {oc2 kV2 dc2 pm2 cd2 ct2 : Value}
    {f3 : Addr} {od3 an3 : Option Addr} {sl3 : Array (Option Value)} {oc3 kV3 dc3 pm3 cd3 ct3 : Value}
    {f4 : Addr} {od4 an4 : Option Addr} {sl4 : Array (Option Value)} {oc4 kV4 dc4 pm4 cd4 ct4 : Value}
    {f5 : Addr} {od5 an5 : Option Addr} {sl5 : Array (Option Value)} {oc5 kV5 dc5 pm5 cd5 ct5 : Value}
    {f6 : Addr} {od6 an6 : Option Addr} {sl6 : Array (Option Value)} {oc6 kV6 dc6 pm6 cd6 ct6 : Value}
    {f7 : Addr} {od7 an7 : Option Addr} {sl7 : Array (Option Value)} {oc7 kV7 dc7 pm7 cd7 ct7 : Value}
    {f8 : Addr} {od8 an8 : Option Addr} {sl8 : Array (Option Value)} {oc8 kV8 dc8 pm8 cd8 ct8 : Value}
    {f9 : Addr} {od9 an9 : Option Addr} {sl9 : Array (Option Value)} {oc9 kV9 dc9 pm9 cd9 ct9 : Value}
    {f10 : Addr} {od10 an10 : Option Addr} {sl10 : Array (Option Value)} {oc10 kV10 dc10 pm10 cd10 ct10 : Value}
    {f11 : Addr} {od11 an11 : Option Addr} {sl11 : Array (Option Value)} {oc11 kV11 dc11 pm11 cd11 ct11 : Value}
    {f12 : Addr} {od12 an12 : Option Addr} {sl12 : Array (Option Value)} {oc12 kV12 dc12 pm12 cd12 ct12 : Value}
    {f13 : Addr} {od13 an13 : Option Addr} {sl13 : Array (Option Value)} {oc13 kV13 dc13 pm13 cd13 ct13 : Value}
    {f14 : Addr} {od14 an14 : Option Addr} {sl14 : Array (Option Value)} {oc14 kV14 dc14 pm14 cd14 ct14 : Value}
    {f15 : Addr} {od15 an15 : Option Addr} {sl15 : Array (Option Value)} {oc15 kV15 dc15 pm15 cd15 ct15 : Value}
    {f16 : Addr} {od16 an16 : Option Addr} {sl16 : Array (Option Value)} {oc16 kV16 dc16 pm16 cd16 ct16 : Value}
    {f17 : Addr} {od17 an17 : Option Addr} {sl17 : Array (Option Value)} {oc17 kV17 dc17 pm17 cd17 ct17 : Value}
    {f18 : Addr} {od18 an18 : Option Addr} {sl18 : Array (Option Value)} {oc18 kV18 dc18 pm18 cd18 ct18 : Value}
    {f19 : Addr} {od19 an19 : Option Addr} {sl19 : Array (Option Value)} {oc19 kV19 dc19 pm19 cd19 ct19 : Value}
    (a0 : PySem.W.nsIn K mainGlobals "is_line" = some (some (.ref f0))) (l0 : K.lookup f0 = some ⟨oc0, od0, .func (PySem.W.fnOf "is_line" "is_line" (defArgs s_is_line) (defBody s_is_line) (defScope s_is_line) .none kV0 dc0 pm0 an0 cd0 ct0), sl0⟩) (c0 : PySem.W.codeIn K cd0 "is_line" = true) (k0 : PySem.W.keepIn K (.ref f0) = true)
    (a1 : PySem.W.nsIn K mainGlobals "is_picture" = some (some (.ref f1))) (l1 : K.lookup f1 = some ⟨oc1, od1, .func (PySem.W.fnOf "is_picture" "is_picture" (defArgs s_is_picture) (defBody s_is_picture) (defScope s_is_picture) .none kV1 dc1 pm1 an1 cd1 ct1), sl1⟩) (c1 : PySem.W.codeIn K cd1 "is_picture" = true) (k1 : PySem.W.keepIn K (.ref f1) = true)
    (a2 : PySem.W.nsIn K mainGlobals "need_picture" = some (some (.ref f2))) (l2 : K.lookup f2 = some ⟨oc2, od2, .func (PySem.W.fnOf "need_picture" "need_picture" (defArgs s_need_picture) (defBody s_need_picture) (defScope s_need_picture) .none kV2 dc2 pm2 an2 cd2 ct2), sl2⟩) (c2 : PySem.W.codeIn K cd2 "need_picture" = true) (k2 : PySem.W.keepIn K (.ref f2) = true)
    (a3 : PySem.W.nsIn K mainGlobals "quarter_of" = some (some (.ref f3))) (l3 : K.lookup f3 = some ⟨oc3, od3, .func (PySem.W.fnOf "quarter_of" "quarter_of" (defArgs s_quarter_of) (defBody s_quarter_of) (defScope s_quarter_of) .none kV3 dc3 pm3 an3 cd3 ct3), sl3⟩) (c3 : PySem.W.codeIn K cd3 "quarter_of" = true) (k3 : PySem.W.keepIn K (.ref f3) = true)
    (a4 : PySem.W.nsIn K mainGlobals "quarter" = some (some (.ref f4))) (l4 : K.lookup f4 = some ⟨oc4, od4, .func (PySem.W.fnOf "quarter" "quarter" (defArgs s_quarter) (defBody s_quarter) (defScope s_quarter) .none kV4 dc4 pm4 an4 cd4 ct4), sl4⟩) (c4 : PySem.W.codeIn K cd4 "quarter" = true) (k4 : PySem.W.keepIn K (.ref f4) = true)
    (a5 : PySem.W.nsIn K mainGlobals "mirror_of" = some (some (.ref f5))) (l5 : K.lookup f5 = some ⟨oc5, od5, .func (PySem.W.fnOf "mirror_of" "mirror_of" (defArgs s_mirror_of) (defBody s_mirror_of) (defScope s_mirror_of) .none kV5 dc5 pm5 an5 cd5 ct5), sl5⟩) (c5 : PySem.W.codeIn K cd5 "mirror_of" = true) (k5 : PySem.W.keepIn K (.ref f5) = true)
    (a6 : PySem.W.nsIn K mainGlobals "flipped" = some (some (.ref f6))) (l6 : K.lookup f6 = some ⟨oc6, od6, .func (PySem.W.fnOf "flipped" "flipped" (defArgs s_flipped) (defBody s_flipped) (defScope s_flipped) .none kV6 dc6 pm6 an6 cd6 ct6), sl6⟩) (c6 : PySem.W.codeIn K cd6 "flipped" = true) (k6 : PySem.W.keepIn K (.ref f6) = true)
    (a7 : PySem.W.nsIn K mainGlobals "inverted" = some (some (.ref f7))) (l7 : K.lookup f7 = some ⟨oc7, od7, .func (PySem.W.fnOf "inverted" "inverted" (defArgs s_inverted) (defBody s_inverted) (defScope s_inverted) .none kV7 dc7 pm7 an7 cd7 ct7), sl7⟩) (c7 : PySem.W.codeIn K cd7 "inverted" = true) (k7 : PySem.W.keepIn K (.ref f7) = true)
    (a8 : PySem.W.nsIn K mainGlobals "turns_of" = some (some (.ref f8))) (l8 : K.lookup f8 = some ⟨oc8, od8, .func (PySem.W.fnOf "turns_of" "turns_of" (defArgs s_turns_of) (defBody s_turns_of) (defScope s_turns_of) .none kV8 dc8 pm8 an8 cd8 ct8), sl8⟩) (c8 : PySem.W.codeIn K cd8 "turns_of" = true) (k8 : PySem.W.keepIn K (.ref f8) = true)
    (a9 : PySem.W.nsIn K mainGlobals "shapes" = some (some (.ref f9))) (l9 : K.lookup f9 = some ⟨oc9, od9, .func (PySem.W.fnOf "shapes" "shapes" (defArgs s_shapes) (defBody s_shapes) (defScope s_shapes) .none kV9 dc9 pm9 an9 cd9 ct9), sl9⟩) (c9 : PySem.W.codeIn K cd9 "shapes" = true) (k9 : PySem.W.keepIn K (.ref f9) = true)
    (a10 : PySem.W.nsIn K mainGlobals "is_same_shape" = some (some (.ref f10))) (l10 : K.lookup f10 = some ⟨oc10, od10, .func (PySem.W.fnOf "is_same_shape" "is_same_shape" (defArgs s_is_same_shape) (defBody s_is_same_shape) (defScope s_is_same_shape) .none kV10 dc10 pm10 an10 cd10 ct10), sl10⟩) (c10 : PySem.W.codeIn K cd10 "is_same_shape" = true) (k10 : PySem.W.keepIn K (.ref f10) = true)
    (a11 : PySem.W.nsIn K mainGlobals "_law_cell_at" = some (some (.ref f11))) (l11 : K.lookup f11 = some ⟨oc11, od11, .func (PySem.W.fnOf "_law_cell_at" "_law_cell_at" (defArgs s__law_cell_at) (defBody s__law_cell_at) (defScope s__law_cell_at) .none kV11 dc11 pm11 an11 cd11 ct11), sl11⟩) (c11 : PySem.W.codeIn K cd11 "_law_cell_at" = true) (k11 : PySem.W.keepIn K (.ref f11) = true)
    (a12 : PySem.W.nsIn K mainGlobals "_law_mixed" = some (some (.ref f12))) (l12 : K.lookup f12 = some ⟨oc12, od12, .func (PySem.W.fnOf "_law_mixed" "_law_mixed" (defArgs s__law_mixed) (defBody s__law_mixed) (defScope s__law_mixed) .none kV12 dc12 pm12 an12 cd12 ct12), sl12⟩) (c12 : PySem.W.codeIn K cd12 "_law_mixed" = true) (k12 : PySem.W.keepIn K (.ref f12) = true)
    (a13 : PySem.W.nsIn K mainGlobals "_law_draw" = some (some (.ref f13))) (l13 : K.lookup f13 = some ⟨oc13, od13, .func (PySem.W.fnOf "_law_draw" "_law_draw" (defArgs s__law_draw) (defBody s__law_draw) (defScope s__law_draw) .none kV13 dc13 pm13 an13 cd13 ct13), sl13⟩) (c13 : PySem.W.codeIn K cd13 "_law_draw" = true) (k13 : PySem.W.keepIn K (.ref f13) = true)
    (a14 : PySem.W.nsIn K mainGlobals "_law_pick" = some (some (.ref f14))) (l14 : K.lookup f14 = some ⟨oc14, od14, .func (PySem.W.fnOf "_law_pick" "_law_pick" (defArgs s__law_pick) (defBody s__law_pick) (defScope s__law_pick) .none kV14 dc14 pm14 an14 cd14 ct14), sl14⟩) (c14 : PySem.W.codeIn K cd14 "_law_pick" = true) (k14 : PySem.W.keepIn K (.ref f14) = true)
    (a15 : PySem.W.nsIn K mainGlobals "_law_picture" = some (some (.ref f15))) (l15 : K.lookup f15 = some ⟨oc15, od15, .func (PySem.W.fnOf "_law_picture" "_law_picture" (defArgs s__law_picture) (defBody s__law_picture) (defScope s__law_picture) .none kV15 dc15 pm15 an15 cd15 ct15), sl15⟩) (c15 : PySem.W.codeIn K cd15 "_law_picture" = true) (k15 : PySem.W.keepIn K (.ref f15) = true)
    (a16 : PySem.W.nsIn K mainGlobals "_law_odd_picture" = some (some (.ref f16))) (l16 : K.lookup f16 = some ⟨oc16, od16, .func (PySem.W.fnOf "_law_odd_picture" "_law_odd_picture" (defArgs s__law_odd_picture) (defBody s__law_odd_picture) (defScope s__law_odd_picture) .none kV16 dc16 pm16 an16 cd16 ct16), sl16⟩) (c16 : PySem.W.codeIn K cd16 "_law_odd_picture" = true) (k16 : PySem.W.keepIn K (.ref f16) = true)
    (a17 : PySem.W.nsIn K mainGlobals "_law_which" = some (some (.ref f17))) (l17 : K.lookup f17 = some ⟨oc17, od17, .func (PySem.W.fnOf "_law_which" "_law_which" (defArgs s__law_which) (defBody s__law_which) (defScope s__law_which) .none kV17 dc17 pm17 an17 cd17 ct17), sl17⟩) (c17 : PySem.W.codeIn K cd17 "_law_which" = true) (k17 : PySem.W.keepIn K (.ref f17) = true)
    (a18 : PySem.W.nsIn K mainGlobals "_law_ask" = some (some (.ref f18))) (l18 : K.lookup f18 = some ⟨oc18, od18, .func (PySem.W.fnOf "_law_ask" "_law_ask" (defArgs s__law_ask) (defBody s__law_ask) (defScope s__law_ask) .none kV18 dc18 pm18 an18 cd18 ct18), sl18⟩) (c18 : PySem.W.codeIn K cd18 "_law_ask" = true) (k18 : PySem.W.keepIn K (.ref f18) = true)
    (a19 : PySem.W.nsIn K mainGlobals "law" = some (some (.ref f19))) (l19 : K.lookup f19 = some ⟨oc19, od19, .func (PySem.W.fnOf "law" "law" (defArgs s_law) (defBody s_law) (defScope s_law) .none kV19 dc19 pm19 an19 cd19 ct19), sl19⟩) (c19 : PySem.W.codeIn K cd19 "law" = true) (k19 : PySem.W.keepIn K (.ref f19) = true)
    (z_ValueError : PySem.W.nsIn K mainGlobals "ValueError" = some none)
    (z_all : PySem.W.nsIn K mainGlobals "all" = some none)
    (z_isinstance : PySem.W.nsIn K mainGlobals "isinstance" = some none)
    (z_len : PySem.W.nsIn K mainGlobals "len" = some none)
    (z_min : PySem.W.nsIn K mainGlobals "min" = some none)
    (z_range : PySem.W.nsIn K mainGlobals "range" = some none)
    (z_str : PySem.W.nsIn K mainGlobals "str" = some none)
    (z_tuple : PySem.W.nsIn K mainGlobals "tuple" = some none)
    {t_SIZE : Tok} (q_SIZE : PySem.W.nsIn K mainGlobals "SIZE" = some (some (.int 8 t_SIZE)))
    {C_NoPicture : Addr} (xa_NoPicture : PySem.W.nsIn K mainGlobals "NoPicture" = some (some (.ref C_NoPicture))) (xe_NoPicture : PySem.W.excIn K C_NoPicture [.type "ValueError", .type "Exception", .type "BaseException", .type "object"] "ValueError.__new__" = true) (xk_NoPicture : PySem.W.keepIn K (.ref C_NoPicture) = true) (xb_NoPicture : PySem.W.subIn K (.ref C_NoPicture) (.type "BaseException") = some true) (xt_NoPicture : PySem.W.typeIn K (.ref C_NoPicture) = some (.type "type"))
    {C_NoWays : Addr} (xa_NoWays : PySem.W.nsIn K mainGlobals "NoWays" = some (some (.ref C_NoWays))) (xe_NoWays : PySem.W.excIn K C_NoWays [.type "ValueError", .type "Exception", .type "BaseException", .type "object"] "ValueError.__new__" = true) (xk_NoWays : PySem.W.keepIn K (.ref C_NoWays) = true) (xb_NoWays : PySem.W.subIn K (.ref C_NoWays) (.type "BaseException") = some true) (xt_NoWays : PySem.W.typeIn K (.ref C_NoWays) = some (.type "type"))
    {C_NoPoints : Addr} (xa_NoPoints : PySem.W.nsIn K mainGlobals "NoPoints" = some (some (.ref C_NoPoints))) (xe_NoPoints : PySem.W.excIn K C_NoPoints [.type "ValueError", .type "Exception", .type "BaseException", .type "object"] "ValueError.__new__" = true) (xk_NoPoints : PySem.W.keepIn K (.ref C_NoPoints) = true) (xb_NoPoints : PySem.W.subIn K (.ref C_NoPoints) (.type "BaseException") = some true) (xt_NoPoints : PySem.W.typeIn K (.ref C_NoPoints) = some (.type "type"))
    {C_NoError : Addr} (xa_NoError : PySem.W.nsIn K mainGlobals "NoError" = some (some (.ref C_NoError))) (xe_NoError : PySem.W.excIn K C_NoError [.type "ValueError", .type "Exception", .type "BaseException", .type "object"] "ValueError.__new__" = true) (xk_NoError : PySem.W.keepIn K (.ref C_NoError) = true) (xb_NoError : PySem.W.subIn K (.ref C_NoError) (.type "BaseException") = some true) (xt_NoError : PySem.W.typeIn K (.ref C_NoError) = some (.type "type"))
    {C_NoSize : Addr} (xa_NoSize : PySem.W.nsIn K mainGlobals "NoSize" = some (some (.ref C_NoSize))) (xe_NoSize : PySem.W.excIn K C_NoSize [.type "ValueError", .type "Exception", .type "BaseException", .type "object"] "ValueError.__new__" = true) (xk_NoSize : PySem.W.keepIn K (.ref C_NoSize) = true) (xb_NoSize : PySem.W.subIn K (.ref C_NoSize) (.type "BaseException") = some true) (xt_NoSize : PySem.W.typeIn K (.ref C_NoSize) = some (.type "type"))
    {C_NoCell : Addr} (xa_NoCell : PySem.W.nsIn K mainGlobals "NoCell" = some (some (.ref C_NoCell))) (xe_NoCell : PySem.W.excIn K C_NoCell [.type "ValueError", .type "Exception", .type "BaseException", .type "object"] "ValueError.__new__" = true) (xk_NoCell : PySem.W.keepIn K (.ref C_NoCell) = true) (xb_NoCell : PySem.W.subIn K (.ref C_NoCell) (.type "BaseException") = some true) (xt_NoCell : PySem.W.typeIn K (.ref C_NoCell) = some (.type "type"))
    {C_NoText : Addr} (xa_NoText : PySem.W.nsIn K mainGlobals "NoText" = some (some (.ref C_NoText))) (xe_NoText : PySem.W.excIn K C_NoText [.type "ValueError", .type "Exception", .type "BaseException", .type "object"] "ValueError.__new__" = true) (xk_NoText : PySem.W.keepIn K (.ref C_NoText) = true) (xb_NoText : PySem.W.subIn K (.ref C_NoText) (.type "BaseException") = some true) (xt_NoText : PySem.W.typeIn K (.ref C_NoText) = some (.type "type"))
    {C_Nothing : Addr} (xa_Nothing : PySem.W.nsIn K mainGlobals "Nothing" = some (some (.ref C_Nothing))) (xe_Nothing : PySem.W.excIn K C_Nothing [.type "ValueError", .type "Exception", .type "BaseException", .type "object"] "ValueError.__new__" = true) (xk_Nothing : PySem.W.keepIn K (.ref C_Nothing) = true) (xb_Nothing : PySem.W.subIn K (.ref C_Nothing) (.type "BaseException") = some true) (xt_Nothing : PySem.W.typeIn K (.ref C_Nothing) = some (.type "type"))
    {C_NoClues : Addr} (xa_NoClues : PySem.W.nsIn K mainGlobals "NoClues" = some (some (.ref C_NoClues))) (xe_NoClues : PySem.W.excIn K C_NoClues [.type "ValueError", .type "Exception", .type "BaseException", .type "object"] "ValueError.__new__" = true) (xk_NoClues : PySem.W.keepIn K (.ref C_NoClues) = true) (xb_NoClues : PySem.W.subIn K (.ref C_NoClues) (.type "BaseException") = some true) (xt_NoClues : PySem.W.typeIn K (.ref C_NoClues) = some (.type "type"))
    {C_NoNumber : Addr} (xa_NoNumber : PySem.W.nsIn K mainGlobals "NoNumber" = some (some (.ref C_NoNumber))) (xe_NoNumber : PySem.W.excIn K C_NoNumber [.type "ValueError", .type "Exception", .type "BaseException", .type "object"] "ValueError.__new__" = true) (xk_NoNumber : PySem.W.keepIn K (.ref C_NoNumber) = true) (xb_NoNumber : PySem.W.subIn K (.ref C_NoNumber) (.type "BaseException") = some true) (xt_NoNumber : PySem.W.typeIn K (.ref C_NoNumber) = some (.type "type"))
    {C_CellError : Addr} (xc : PySem.W.nsIn K mainGlobals "CellError" = some (some (.ref C_CellError)))
    (xcb : PySem.W.subIn K (.ref C_CellError) (.type "BaseException") = some true) (xcd : PySem.W.hasDictIn K C_CellError = true) (xct : PySem.W.typeIn K (.ref C_CellError) = some (.type "type"))
    (en : PySem.W.specialIn K (.builtin "object.__class__") "__get__" = some (some (.builtin "getset_descriptor.__get__"))) (et : PySem.W.takesIn K (.builtin "object.__class__") = some true)
    (eg_NoPicture : PySem.W.findIn K (.ref C_NoPicture) "__getattribute__" = some (some (.builtin "BaseException.__getattribute__"))) (ek_NoPicture : PySem.W.findIn K (.ref C_NoPicture) "__getattr__" = some none) (ed_NoPicture : PySem.W.hasDictIn K C_NoPicture = true) (ea_NoPicture : PySem.W.findIn K (.ref C_NoPicture) "__class__" = some (some (.builtin "object.__class__"))) (em_NoPicture : PySem.W.mroIn K C_NoPicture (.type "object") = some true)
    (iv_NoPicture : PySem.W.subIn K (.ref C_NoPicture) (.type "ValueError") = some true) (ix_NoPicture : PySem.W.subIn K (.ref C_NoPicture) (.ref C_CellError) = some true)
    (ii_NoPicture_NoPicture : PySem.W.subIn K (.ref C_NoPicture) (.ref C_NoPicture) = some true)
    (ii_NoPicture_NoWays : PySem.W.subIn K (.ref C_NoPicture) (.ref C_NoWays) = some false)
    (ii_NoPicture_NoPoints : PySem.W.subIn K (.ref C_NoPicture) (.ref C_NoPoints) = some false)
    (ii_NoPicture_NoError : PySem.W.subIn K (.ref C_NoPicture) (.ref C_NoError) = some false)
    (ii_NoPicture_NoSize : PySem.W.subIn K (.ref C_NoPicture) (.ref C_NoSize) = some false)
    (ii_NoPicture_NoCell : PySem.W.subIn K (.ref C_NoPicture) (.ref C_NoCell) = some false)
    (ii_NoPicture_NoText : PySem.W.subIn K (.ref C_NoPicture) (.ref C_NoText) = some false)
    (ii_NoPicture_Nothing : PySem.W.subIn K (.ref C_NoPicture) (.ref C_Nothing) = some false)
    (ii_NoPicture_NoClues : PySem.W.subIn K (.ref C_NoPicture) (.ref C_NoClues) = some false)
    (ii_NoPicture_NoNumber : PySem.W.subIn K (.ref C_NoPicture) (.ref C_NoNumber) = some false)
    (eg_NoWays : PySem.W.findIn K (.ref C_NoWays) "__getattribute__" = some (some (.builtin "BaseException.__getattribute__"))) (ek_NoWays : PySem.W.findIn K (.ref C_NoWays) "__getattr__" = some none) (ed_NoWays : PySem.W.hasDictIn K C_NoWays = true) (ea_NoWays : PySem.W.findIn K (.ref C_NoWays) "__class__" = some (some (.builtin "object.__class__"))) (em_NoWays : PySem.W.mroIn K C_NoWays (.type "object") = some true)
    (iv_NoWays : PySem.W.subIn K (.ref C_NoWays) (.type "ValueError") = some true) (ix_NoWays : PySem.W.subIn K (.ref C_NoWays) (.ref C_CellError) = some true)
    (ii_NoWays_NoPicture : PySem.W.subIn K (.ref C_NoWays) (.ref C_NoPicture) = some false)
    (ii_NoWays_NoWays : PySem.W.subIn K (.ref C_NoWays) (.ref C_NoWays) = some true)
    (ii_NoWays_NoPoints : PySem.W.subIn K (.ref C_NoWays) (.ref C_NoPoints) = some false)
    (ii_NoWays_NoError : PySem.W.subIn K (.ref C_NoWays) (.ref C_NoError) = some false)
    (ii_NoWays_NoSize : PySem.W.subIn K (.ref C_NoWays) (.ref C_NoSize) = some false)
    (ii_NoWays_NoCell : PySem.W.subIn K (.ref C_NoWays) (.ref C_NoCell) = some false)
    (ii_NoWays_NoText : PySem.W.subIn K (.ref C_NoWays) (.ref C_NoText) = some false)
    (ii_NoWays_Nothing : PySem.W.subIn K (.ref C_NoWays) (.ref C_Nothing) = some false)
    (ii_NoWays_NoClues : PySem.W.subIn K (.ref C_NoWays) (.ref C_NoClues) = some false)
    (ii_NoWays_NoNumber : PySem.W.subIn K (.ref C_NoWays) (.ref C_NoNumber) = some false)
    (eg_NoPoints : PySem.W.findIn K (.ref C_NoPoints) "__getattribute__" = some (some (.builtin "BaseException.__getattribute__"))) (ek_NoPoints : PySem.W.findIn K (.ref C_NoPoints) "__getattr__" = some none) (ed_NoPoints : PySem.W.hasDictIn K C_NoPoints = true) (ea_NoPoints : PySem.W.findIn K (.ref C_NoPoints) "__class__" = some (some (.builtin "object.__class__"))) (em_NoPoints : PySem.W.mroIn K C_NoPoints (.type "object") = some true)
    (iv_NoPoints : PySem.W.subIn K (.ref C_NoPoints) (.type "ValueError") = some true) (ix_NoPoints : PySem.W.subIn K (.ref C_NoPoints) (.ref C_CellError) = some true)
    (ii_NoPoints_NoPicture : PySem.W.subIn K (.ref C_NoPoints) (.ref C_NoPicture) = some false)
    (ii_NoPoints_NoWays : PySem.W.subIn K (.ref C_NoPoints) (.ref C_NoWays) = some false)
    (ii_NoPoints_NoPoints : PySem.W.subIn K (.ref C_NoPoints) (.ref C_NoPoints) = some true)
    (ii_NoPoints_NoError : PySem.W.subIn K (.ref C_NoPoints) (.ref C_NoError) = some false)
    (ii_NoPoints_NoSize : PySem.W.subIn K (.ref C_NoPoints) (.ref C_NoSize) = some false)
    (ii_NoPoints_NoCell : PySem.W.subIn K (.ref C_NoPoints) (.ref C_NoCell) = some false)
    (ii_NoPoints_NoText : PySem.W.subIn K (.ref C_NoPoints) (.ref C_NoText) = some false)
    (ii_NoPoints_Nothing : PySem.W.subIn K (.ref C_NoPoints) (.ref C_Nothing) = some false)
    (ii_NoPoints_NoClues : PySem.W.subIn K (.ref C_NoPoints) (.ref C_NoClues) = some false)
    (ii_NoPoints_NoNumber : PySem.W.subIn K (.ref C_NoPoints) (.ref C_NoNumber) = some false)
    (eg_NoError : PySem.W.findIn K (.ref C_NoError) "__getattribute__" = some (some (.builtin "BaseException.__getattribute__"))) (ek_NoError : PySem.W.findIn K (.ref C_NoError) "__getattr__" = some none) (ed_NoError : PySem.W.hasDictIn K C_NoError = true) (ea_NoError : PySem.W.findIn K (.ref C_NoError) "__class__" = some (some (.builtin "object.__class__"))) (em_NoError : PySem.W.mroIn K C_NoError (.type "object") = some true)
    (iv_NoError : PySem.W.subIn K (.ref C_NoError) (.type "ValueError") = some true) (ix_NoError : PySem.W.subIn K (.ref C_NoError) (.ref C_CellError) = some true)
    (ii_NoError_NoPicture : PySem.W.subIn K (.ref C_NoError) (.ref C_NoPicture) = some false)
    (ii_NoError_NoWays : PySem.W.subIn K (.ref C_NoError) (.ref C_NoWays) = some false)
    (ii_NoError_NoPoints : PySem.W.subIn K (.ref C_NoError) (.ref C_NoPoints) = some false)
    (ii_NoError_NoError : PySem.W.subIn K (.ref C_NoError) (.ref C_NoError) = some true)
    (ii_NoError_NoSize : PySem.W.subIn K (.ref C_NoError) (.ref C_NoSize) = some false)
    (ii_NoError_NoCell : PySem.W.subIn K (.ref C_NoError) (.ref C_NoCell) = some false)
    (ii_NoError_NoText : PySem.W.subIn K (.ref C_NoError) (.ref C_NoText) = some false)
    (ii_NoError_Nothing : PySem.W.subIn K (.ref C_NoError) (.ref C_Nothing) = some false)
    (ii_NoError_NoClues : PySem.W.subIn K (.ref C_NoError) (.ref C_NoClues) = some false)
    (ii_NoError_NoNumber : PySem.W.subIn K (.ref C_NoError) (.ref C_NoNumber) = some false)
    (eg_NoSize : PySem.W.findIn K (.ref C_NoSize) "__getattribute__" = some (some (.builtin "BaseException.__getattribute__"))) (ek_NoSize : PySem.W.findIn K (.ref C_NoSize) "__getattr__" = some none) (ed_NoSize : PySem.W.hasDictIn K C_NoSize = true) (ea_NoSize : PySem.W.findIn K (.ref C_NoSize) "__class__" = some (some (.builtin "object.__class__"))) (em_NoSize : PySem.W.mroIn K C_NoSize (.type "object") = some true)
    (iv_NoSize : PySem.W.subIn K (.ref C_NoSize) (.type "ValueError") = some true) (ix_NoSize : PySem.W.subIn K (.ref C_NoSize) (.ref C_CellError) = some true)
    (ii_NoSize_NoPicture : PySem.W.subIn K (.ref C_NoSize) (.ref C_NoPicture) = some false)
    (ii_NoSize_NoWays : PySem.W.subIn K (.ref C_NoSize) (.ref C_NoWays) = some false)
    (ii_NoSize_NoPoints : PySem.W.subIn K (.ref C_NoSize) (.ref C_NoPoints) = some false)
    (ii_NoSize_NoError : PySem.W.subIn K (.ref C_NoSize) (.ref C_NoError) = some false)
    (ii_NoSize_NoSize : PySem.W.subIn K (.ref C_NoSize) (.ref C_NoSize) = some true)
    (ii_NoSize_NoCell : PySem.W.subIn K (.ref C_NoSize) (.ref C_NoCell) = some false)
    (ii_NoSize_NoText : PySem.W.subIn K (.ref C_NoSize) (.ref C_NoText) = some false)
    (ii_NoSize_Nothing : PySem.W.subIn K (.ref C_NoSize) (.ref C_Nothing) = some false)
    (ii_NoSize_NoClues : PySem.W.subIn K (.ref C_NoSize) (.ref C_NoClues) = some false)
    (ii_NoSize_NoNumber : PySem.W.subIn K (.ref C_NoSize) (.ref C_NoNumber) = some false)
    (eg_NoCell : PySem.W.findIn K (.ref C_NoCell) "__getattribute__" = some (some (.builtin "BaseException.__getattribute__"))) (ek_NoCell : PySem.W.findIn K (.ref C_NoCell) "__getattr__" = some none) (ed_NoCell : PySem.W.hasDictIn K C_NoCell = true) (ea_NoCell : PySem.W.findIn K (.ref C_NoCell) "__class__" = some (some (.builtin "object.__class__"))) (em_NoCell : PySem.W.mroIn K C_NoCell (.type "object") = some true)
    (iv_NoCell : PySem.W.subIn K (.ref C_NoCell) (.type "ValueError") = some true) (ix_NoCell : PySem.W.subIn K (.ref C_NoCell) (.ref C_CellError) = some true)
    (ii_NoCell_NoPicture : PySem.W.subIn K (.ref C_NoCell) (.ref C_NoPicture) = some false)
    (ii_NoCell_NoWays : PySem.W.subIn K (.ref C_NoCell) (.ref C_NoWays) = some false)
    (ii_NoCell_NoPoints : PySem.W.subIn K (.ref C_NoCell) (.ref C_NoPoints) = some false)
    (ii_NoCell_NoError : PySem.W.subIn K (.ref C_NoCell) (.ref C_NoError) = some false)
    (ii_NoCell_NoSize : PySem.W.subIn K (.ref C_NoCell) (.ref C_NoSize) = some false)
    (ii_NoCell_NoCell : PySem.W.subIn K (.ref C_NoCell) (.ref C_NoCell) = some true)
    (ii_NoCell_NoText : PySem.W.subIn K (.ref C_NoCell) (.ref C_NoText) = some false)
    (ii_NoCell_Nothing : PySem.W.subIn K (.ref C_NoCell) (.ref C_Nothing) = some false)
    (ii_NoCell_NoClues : PySem.W.subIn K (.ref C_NoCell) (.ref C_NoClues) = some false)
    (ii_NoCell_NoNumber : PySem.W.subIn K (.ref C_NoCell) (.ref C_NoNumber) = some false)
    (eg_NoText : PySem.W.findIn K (.ref C_NoText) "__getattribute__" = some (some (.builtin "BaseException.__getattribute__"))) (ek_NoText : PySem.W.findIn K (.ref C_NoText) "__getattr__" = some none) (ed_NoText : PySem.W.hasDictIn K C_NoText = true) (ea_NoText : PySem.W.findIn K (.ref C_NoText) "__class__" = some (some (.builtin "object.__class__"))) (em_NoText : PySem.W.mroIn K C_NoText (.type "object") = some true)
    (iv_NoText : PySem.W.subIn K (.ref C_NoText) (.type "ValueError") = some true) (ix_NoText : PySem.W.subIn K (.ref C_NoText) (.ref C_CellError) = some true)
    (ii_NoText_NoPicture : PySem.W.subIn K (.ref C_NoText) (.ref C_NoPicture) = some false)
    (ii_NoText_NoWays : PySem.W.subIn K (.ref C_NoText) (.ref C_NoWays) = some false)
    (ii_NoText_NoPoints : PySem.W.subIn K (.ref C_NoText) (.ref C_NoPoints) = some false)
    (ii_NoText_NoError : PySem.W.subIn K (.ref C_NoText) (.ref C_NoError) = some false)
    (ii_NoText_NoSize : PySem.W.subIn K (.ref C_NoText) (.ref C_NoSize) = some false)
    (ii_NoText_NoCell : PySem.W.subIn K (.ref C_NoText) (.ref C_NoCell) = some false)
    (ii_NoText_NoText : PySem.W.subIn K (.ref C_NoText) (.ref C_NoText) = some true)
    (ii_NoText_Nothing : PySem.W.subIn K (.ref C_NoText) (.ref C_Nothing) = some false)
    (ii_NoText_NoClues : PySem.W.subIn K (.ref C_NoText) (.ref C_NoClues) = some false)
    (ii_NoText_NoNumber : PySem.W.subIn K (.ref C_NoText) (.ref C_NoNumber) = some false)
    (eg_Nothing : PySem.W.findIn K (.ref C_Nothing) "__getattribute__" = some (some (.builtin "BaseException.__getattribute__"))) (ek_Nothing : PySem.W.findIn K (.ref C_Nothing) "__getattr__" = some none) (ed_Nothing : PySem.W.hasDictIn K C_Nothing = true) (ea_Nothing : PySem.W.findIn K (.ref C_Nothing) "__class__" = some (some (.builtin "object.__class__"))) (em_Nothing : PySem.W.mroIn K C_Nothing (.type "object") = some true)
    (iv_Nothing : PySem.W.subIn K (.ref C_Nothing) (.type "ValueError") = some true) (ix_Nothing : PySem.W.subIn K (.ref C_Nothing) (.ref C_CellError) = some true)
    (ii_Nothing_NoPicture : PySem.W.subIn K (.ref C_Nothing) (.ref C_NoPicture) = some false)
    (ii_Nothing_NoWays : PySem.W.subIn K (.ref C_Nothing) (.ref C_NoWays) = some false)
    (ii_Nothing_NoPoints : PySem.W.subIn K (.ref C_Nothing) (.ref C_NoPoints) = some false)
    (ii_Nothing_NoError : PySem.W.subIn K (.ref C_Nothing) (.ref C_NoError) = some false)
    (ii_Nothing_NoSize : PySem.W.subIn K (.ref C_Nothing) (.ref C_NoSize) = some false)
    (ii_Nothing_NoCell : PySem.W.subIn K (.ref C_Nothing) (.ref C_NoCell) = some false)
    (ii_Nothing_NoText : PySem.W.subIn K (.ref C_Nothing) (.ref C_NoText) = some false)
    (ii_Nothing_Nothing : PySem.W.subIn K (.ref C_Nothing) (.ref C_Nothing) = some true)
    (ii_Nothing_NoClues : PySem.W.subIn K (.ref C_Nothing) (.ref C_NoClues) = some false)
    (ii_Nothing_NoNumber : PySem.W.subIn K (.ref C_Nothing) (.ref C_NoNumber) = some false)
    (eg_NoClues : PySem.W.findIn K (.ref C_NoClues) "__getattribute__" = some (some (.builtin "BaseException.__getattribute__"))) (ek_NoClues : PySem.W.findIn K (.ref C_NoClues) "__getattr__" = some none) (ed_NoClues : PySem.W.hasDictIn K C_NoClues = true) (ea_NoClues : PySem.W.findIn K (.ref C_NoClues) "__class__" = some (some (.builtin "object.__class__"))) (em_NoClues : PySem.W.mroIn K C_NoClues (.type "object") = some true)
    (iv_NoClues : PySem.W.subIn K (.ref C_NoClues) (.type "ValueError") = some true) (ix_NoClues : PySem.W.subIn K (.ref C_NoClues) (.ref C_CellError) = some true)
    (ii_NoClues_NoPicture : PySem.W.subIn K (.ref C_NoClues) (.ref C_NoPicture) = some false)
    (ii_NoClues_NoWays : PySem.W.subIn K (.ref C_NoClues) (.ref C_NoWays) = some false)
    (ii_NoClues_NoPoints : PySem.W.subIn K (.ref C_NoClues) (.ref C_NoPoints) = some false)
    (ii_NoClues_NoError : PySem.W.subIn K (.ref C_NoClues) (.ref C_NoError) = some false)
    (ii_NoClues_NoSize : PySem.W.subIn K (.ref C_NoClues) (.ref C_NoSize) = some false)
    (ii_NoClues_NoCell : PySem.W.subIn K (.ref C_NoClues) (.ref C_NoCell) = some false)
    (ii_NoClues_NoText : PySem.W.subIn K (.ref C_NoClues) (.ref C_NoText) = some false)
    (ii_NoClues_Nothing : PySem.W.subIn K (.ref C_NoClues) (.ref C_Nothing) = some false)
    (ii_NoClues_NoClues : PySem.W.subIn K (.ref C_NoClues) (.ref C_NoClues) = some true)
    (ii_NoClues_NoNumber : PySem.W.subIn K (.ref C_NoClues) (.ref C_NoNumber) = some false)
    (eg_NoNumber : PySem.W.findIn K (.ref C_NoNumber) "__getattribute__" = some (some (.builtin "BaseException.__getattribute__"))) (ek_NoNumber : PySem.W.findIn K (.ref C_NoNumber) "__getattr__" = some none) (ed_NoNumber : PySem.W.hasDictIn K C_NoNumber = true) (ea_NoNumber : PySem.W.findIn K (.ref C_NoNumber) "__class__" = some (some (.builtin "object.__class__"))) (em_NoNumber : PySem.W.mroIn K C_NoNumber (.type "object") = some true)
    (iv_NoNumber : PySem.W.subIn K (.ref C_NoNumber) (.type "ValueError") = some true) (ix_NoNumber : PySem.W.subIn K (.ref C_NoNumber) (.ref C_CellError) = some true)
    (ii_NoNumber_NoPicture : PySem.W.subIn K (.ref C_NoNumber) (.ref C_NoPicture) = some false)
    (ii_NoNumber_NoWays : PySem.W.subIn K (.ref C_NoNumber) (.ref C_NoWays) = some false)
    (ii_NoNumber_NoPoints : PySem.W.subIn K (.ref C_NoNumber) (.ref C_NoPoints) = some false)
    (ii_NoNumber_NoError : PySem.W.subIn K (.ref C_NoNumber) (.ref C_NoError) = some false)
    (ii_NoNumber_NoSize : PySem.W.subIn K (.ref C_NoNumber) (.ref C_NoSize) = some false)
    (ii_NoNumber_NoCell : PySem.W.subIn K (.ref C_NoNumber) (.ref C_NoCell) = some false)
    (ii_NoNumber_NoText : PySem.W.subIn K (.ref C_NoNumber) (.ref C_NoText) = some false)
    (ii_NoNumber_Nothing : PySem.W.subIn K (.ref C_NoNumber) (.ref C_Nothing) = some false)
    (ii_NoNumber_NoClues : PySem.W.subIn K (.ref C_NoNumber) (.ref C_NoClues) = some false)
    (ii_NoNumber_NoNumber : PySem.W.subIn K (.ref C_NoNumber) (.ref C_NoNumber) = some true)
    : ∃ fd : FuncData, (∀ (s : Shared) (u : Value), BindsTo s fd ⟨[u], []⟩ [("_law_script", u)]) ∧ ∀ base : Heap, K.In base → base.Ns mainGlobals mg → FnOk P w K mg base (L2N.CX P w) 6 fa fd ["_law_script"] (toSp K [] 1 dsp_end) := by
  have e := hfa.symm.trans (PySem.W.mg_of X G a19)
  cases e
  have F0 := fun_mk (st := s_is_line) l0 c0 k0
  have b0 := F0.binds (ps := ["thing"]) fun _ _ _ _ _ _ us hl => match us, hl with | [_], _ => rfl
  have F1 := fun_mk (st := s_is_picture) l1 c1 k1
  have b1 := F1.binds (ps := ["thing"]) fun _ _ _ _ _ _ us hl => match us, hl with | [_], _ => rfl
  have F2 := fun_mk (st := s_need_picture) l2 c2 k2
  have b2 := F2.binds (ps := ["thing"]) fun _ _ _ _ _ _ us hl => match us, hl with | [_], _ => rfl
  have F3 := fun_mk (st := s_quarter_of) l3 c3 k3
  have b3 := F3.binds (ps := ["picture"]) fun _ _ _ _ _ _ us hl => match us, hl with | [_], _ => rfl
  have F4 := fun_mk (st := s_quarter) l4 c4 k4
  have b4 := F4.binds (ps := ["picture"]) fun _ _ _ _ _ _ us hl => match us, hl with | [_], _ => rfl
  have F5 := fun_mk (st := s_mirror_of) l5 c5 k5
  have b5 := F5.binds (ps := ["picture"]) fun _ _ _ _ _ _ us hl => match us, hl with | [_], _ => rfl
  have F6 := fun_mk (st := s_flipped) l6 c6 k6
  have b6 := F6.binds (ps := ["picture"]) fun _ _ _ _ _ _ us hl => match us, hl with | [_], _ => rfl
  have F7 := fun_mk (st := s_inverted) l7 c7 k7
  have b7 := F7.binds (ps := ["picture"]) fun _ _ _ _ _ _ us hl => match us, hl with | [_], _ => rfl
  have F8 := fun_mk (st := s_turns_of) l8 c8 k8
  have b8 := F8.binds (ps := ["picture"]) fun _ _ _ _ _ _ us hl => match us, hl with | [_], _ => rfl
  have F9 := fun_mk (st := s_shapes) l9 c9 k9
  have b9 := F9.binds (ps := ["picture"]) fun _ _ _ _ _ _ us hl => match us, hl with | [_], _ => rfl
  have F10 := fun_mk (st := s_is_same_shape) l10 c10 k10
  have b10 := F10.binds (ps := ["one", "other"]) fun _ _ _ _ _ _ us hl => match us, hl with | [_, _], _ => rfl
  have F11 := fun_mk (st := s__law_cell_at) l11 c11 k11
  have b11 := F11.binds (ps := ["_law_script", "_law_k"]) fun _ _ _ _ _ _ us hl => match us, hl with | [_, _], _ => rfl
  have F12 := fun_mk (st := s__law_mixed) l12 c12 k12
  have b12 := F12.binds (ps := ["_law_script", "_law_k", "_law_many"]) fun _ _ _ _ _ _ us hl => match us, hl with | [_, _, _], _ => rfl
  have F13 := fun_mk (st := s__law_draw) l13 c13 k13
  have b13 := F13.binds (ps := ["_law_script", "_law_town", "_law_many"]) fun _ _ _ _ _ _ us hl => match us, hl with | [_, _, _], _ => rfl
  have F14 := fun_mk (st := s__law_pick) l14 c14 k14
  have b14 := F14.binds (ps := ["_law_script", "_law_town", "_law_some"]) fun _ _ _ _ _ _ us hl => match us, hl with | [_, _, _], _ => rfl
  have F15 := fun_mk (st := s__law_picture) l15 c15 k15
  have b15 := F15.binds (ps := ["_law_script", "_law_town", "_law_high", "_law_wide"]) fun _ _ _ _ _ _ us hl => match us, hl with | [_, _, _, _], _ => rfl
  have F16 := fun_mk (st := s__law_odd_picture) l16 c16 k16
  have b16 := F16.binds (ps := ["_law_script", "_law_town"]) fun _ _ _ _ _ _ us hl => match us, hl with | [_, _], _ => rfl
  have F17 := fun_mk (st := s__law_which) l17 c17 k17
  have b17 := F17.binds (ps := ["_law_e"]) fun _ _ _ _ _ _ us hl => match us, hl with | [_], _ => rfl
  have F18 := fun_mk (st := s__law_ask) l18 c18 k18
  have b18 := F18.binds (ps := ["_law_what", "_law_one", "_law_other"]) fun _ _ _ _ _ _ us hl => match us, hl with | [_, _, _], _ => rfl
  have F19 := fun_mk (st := s_law) l19 c19 k19
  have b19 := F19.binds (ps := ["_law_script"]) fun _ _ _ _ _ _ us hl => match us, hl with | [_], _ => rfl
  have T : Txt K mg ⟨C_NoPicture, C_NoWays, C_NoPoints, C_NoError, C_NoSize, C_NoCell, C_NoText, C_Nothing, C_NoClues, C_NoNumber, C_CellError⟩ := { n_ValueError := PySem.W.mg_none_of X G z_ValueError, n_all := PySem.W.mg_none_of X G z_all, n_isinstance := PySem.W.mg_none_of X G z_isinstance, n_len := PySem.W.mg_none_of X G z_len, n_min := PySem.W.mg_none_of X G z_min, n_range := PySem.W.mg_none_of X G z_range, n_str := PySem.W.mg_none_of X G z_str, n_tuple := PySem.W.mg_none_of X G z_tuple, k_SIZE := ⟨_, PySem.W.mg_of X G q_SIZE⟩, x_NoPicture := ⟨PySem.W.mg_of X G xa_NoPicture, xe_NoPicture, xk_NoPicture, xb_NoPicture, xt_NoPicture⟩, x_NoWays := ⟨PySem.W.mg_of X G xa_NoWays, xe_NoWays, xk_NoWays, xb_NoWays, xt_NoWays⟩, x_NoPoints := ⟨PySem.W.mg_of X G xa_NoPoints, xe_NoPoints, xk_NoPoints, xb_NoPoints, xt_NoPoints⟩, x_NoError := ⟨PySem.W.mg_of X G xa_NoError, xe_NoError, xk_NoError, xb_NoError, xt_NoError⟩, x_NoSize := ⟨PySem.W.mg_of X G xa_NoSize, xe_NoSize, xk_NoSize, xb_NoSize, xt_NoSize⟩, x_NoCell := ⟨PySem.W.mg_of X G xa_NoCell, xe_NoCell, xk_NoCell, xb_NoCell, xt_NoCell⟩, x_NoText := ⟨PySem.W.mg_of X G xa_NoText, xe_NoText, xk_NoText, xb_NoText, xt_NoText⟩, x_Nothing := ⟨PySem.W.mg_of X G xa_Nothing, xe_Nothing, xk_Nothing, xb_Nothing, xt_Nothing⟩, x_NoClues := ⟨PySem.W.mg_of X G xa_NoClues, xe_NoClues, xk_NoClues, xb_NoClues, xt_NoClues⟩, x_NoNumber := ⟨PySem.W.mg_of X G xa_NoNumber, xe_NoNumber, xk_NoNumber, xb_NoNumber, xt_NoNumber⟩, g_CellError := PySem.W.mg_of X G xc, e_NoPicture := ⟨eg_NoPicture, ek_NoPicture, xb_NoPicture, ed_NoPicture, ea_NoPicture, en, et, em_NoPicture⟩, v_NoPicture := kit_val iv_NoPicture, m_NoPicture := PySem.W.exm_ref xcb xcd xct ix_NoPicture, i_NoPicture_NoPicture := kit_ref ed_NoPicture xt_NoPicture ii_NoPicture_NoPicture ii_NoPicture_NoPicture, i_NoPicture_NoWays := kit_ref ed_NoWays xt_NoWays ii_NoPicture_NoWays ii_NoWays_NoWays, i_NoPicture_NoPoints := kit_ref ed_NoPoints xt_NoPoints ii_NoPicture_NoPoints ii_NoPoints_NoPoints, i_NoPicture_NoError := kit_ref ed_NoError xt_NoError ii_NoPicture_NoError ii_NoError_NoError, i_NoPicture_NoSize := kit_ref ed_NoSize xt_NoSize ii_NoPicture_NoSize ii_NoSize_NoSize, i_NoPicture_NoCell := kit_ref ed_NoCell xt_NoCell ii_NoPicture_NoCell ii_NoCell_NoCell, i_NoPicture_NoText := kit_ref ed_NoText xt_NoText ii_NoPicture_NoText ii_NoText_NoText, i_NoPicture_Nothing := kit_ref ed_Nothing xt_Nothing ii_NoPicture_Nothing ii_Nothing_Nothing, i_NoPicture_NoClues := kit_ref ed_NoClues xt_NoClues ii_NoPicture_NoClues ii_NoClues_NoClues, i_NoPicture_NoNumber := kit_ref ed_NoNumber xt_NoNumber ii_NoPicture_NoNumber ii_NoNumber_NoNumber, e_NoWays := ⟨eg_NoWays, ek_NoWays, xb_NoWays, ed_NoWays, ea_NoWays, en, et, em_NoWays⟩, v_NoWays := kit_val iv_NoWays, m_NoWays := PySem.W.exm_ref xcb xcd xct ix_NoWays, i_NoWays_NoPicture := kit_ref ed_NoPicture xt_NoPicture ii_NoWays_NoPicture ii_NoPicture_NoPicture, i_NoWays_NoWays := kit_ref ed_NoWays xt_NoWays ii_NoWays_NoWays ii_NoWays_NoWays, i_NoWays_NoPoints := kit_ref ed_NoPoints xt_NoPoints ii_NoWays_NoPoints ii_NoPoints_NoPoints, i_NoWays_NoError := kit_ref ed_NoError xt_NoError ii_NoWays_NoError ii_NoError_NoError, i_NoWays_NoSize := kit_ref ed_NoSize xt_NoSize ii_NoWays_NoSize ii_NoSize_NoSize, i_NoWays_NoCell := kit_ref ed_NoCell xt_NoCell ii_NoWays_NoCell ii_NoCell_NoCell, i_NoWays_NoText := kit_ref ed_NoText xt_NoText ii_NoWays_NoText ii_NoText_NoText, i_NoWays_Nothing := kit_ref ed_Nothing xt_Nothing ii_NoWays_Nothing ii_Nothing_Nothing, i_NoWays_NoClues := kit_ref ed_NoClues xt_NoClues ii_NoWays_NoClues ii_NoClues_NoClues, i_NoWays_NoNumber := kit_ref ed_NoNumber xt_NoNumber ii_NoWays_NoNumber ii_NoNumber_NoNumber, e_NoPoints := ⟨eg_NoPoints, ek_NoPoints, xb_NoPoints, ed_NoPoints, ea_NoPoints, en, et, em_NoPoints⟩, v_NoPoints := kit_val iv_NoPoints, m_NoPoints := PySem.W.exm_ref xcb xcd xct ix_NoPoints, i_NoPoints_NoPicture := kit_ref ed_NoPicture xt_NoPicture ii_NoPoints_NoPicture ii_NoPicture_NoPicture, i_NoPoints_NoWays := kit_ref ed_NoWays xt_NoWays ii_NoPoints_NoWays ii_NoWays_NoWays, i_NoPoints_NoPoints := kit_ref ed_NoPoints xt_NoPoints ii_NoPoints_NoPoints ii_NoPoints_NoPoints, i_NoPoints_NoError := kit_ref ed_NoError xt_NoError ii_NoPoints_NoError ii_NoError_NoError, i_NoPoints_NoSize := kit_ref ed_NoSize xt_NoSize ii_NoPoints_NoSize ii_NoSize_NoSize, i_NoPoints_NoCell := kit_ref ed_NoCell xt_NoCell ii_NoPoints_NoCell ii_NoCell_NoCell, i_NoPoints_NoText := kit_ref ed_NoText xt_NoText ii_NoPoints_NoText ii_NoText_NoText, i_NoPoints_Nothing := kit_ref ed_Nothing xt_Nothing ii_NoPoints_Nothing ii_Nothing_Nothing, i_NoPoints_NoClues := kit_ref ed_NoClues xt_NoClues ii_NoPoints_NoClues ii_NoClues_NoClues, i_NoPoints_NoNumber := kit_ref ed_NoNumber xt_NoNumber ii_NoPoints_NoNumber ii_NoNumber_NoNumber, e_NoError := ⟨eg_NoError, ek_NoError, xb_NoError, ed_NoError, ea_NoError, en, et, em_NoError⟩, v_NoError := kit_val iv_NoError, m_NoError := PySem.W.exm_ref xcb xcd xct ix_NoError, i_NoError_NoPicture := kit_ref ed_NoPicture xt_NoPicture ii_NoError_NoPicture ii_NoPicture_NoPicture, i_NoError_NoWays := kit_ref ed_NoWays xt_NoWays ii_NoError_NoWays ii_NoWays_NoWays, i_NoError_NoPoints := kit_ref ed_NoPoints xt_NoPoints ii_NoError_NoPoints ii_NoPoints_NoPoints, i_NoError_NoError := kit_ref ed_NoError xt_NoError ii_NoError_NoError ii_NoError_NoError, i_NoError_NoSize := kit_ref ed_NoSize xt_NoSize ii_NoError_NoSize ii_NoSize_NoSize, i_NoError_NoCell := kit_ref ed_NoCell xt_NoCell ii_NoError_NoCell ii_NoCell_NoCell, i_NoError_NoText := kit_ref ed_NoText xt_NoText ii_NoError_NoText ii_NoText_NoText, i_NoError_Nothing := kit_ref ed_Nothing xt_Nothing ii_NoError_Nothing ii_Nothing_Nothing, i_NoError_NoClues := kit_ref ed_NoClues xt_NoClues ii_NoError_NoClues ii_NoClues_NoClues, i_NoError_NoNumber := kit_ref ed_NoNumber xt_NoNumber ii_NoError_NoNumber ii_NoNumber_NoNumber, e_NoSize := ⟨eg_NoSize, ek_NoSize, xb_NoSize, ed_NoSize, ea_NoSize, en, et, em_NoSize⟩, v_NoSize := kit_val iv_NoSize, m_NoSize := PySem.W.exm_ref xcb xcd xct ix_NoSize, i_NoSize_NoPicture := kit_ref ed_NoPicture xt_NoPicture ii_NoSize_NoPicture ii_NoPicture_NoPicture, i_NoSize_NoWays := kit_ref ed_NoWays xt_NoWays ii_NoSize_NoWays ii_NoWays_NoWays, i_NoSize_NoPoints := kit_ref ed_NoPoints xt_NoPoints ii_NoSize_NoPoints ii_NoPoints_NoPoints, i_NoSize_NoError := kit_ref ed_NoError xt_NoError ii_NoSize_NoError ii_NoError_NoError, i_NoSize_NoSize := kit_ref ed_NoSize xt_NoSize ii_NoSize_NoSize ii_NoSize_NoSize, i_NoSize_NoCell := kit_ref ed_NoCell xt_NoCell ii_NoSize_NoCell ii_NoCell_NoCell, i_NoSize_NoText := kit_ref ed_NoText xt_NoText ii_NoSize_NoText ii_NoText_NoText, i_NoSize_Nothing := kit_ref ed_Nothing xt_Nothing ii_NoSize_Nothing ii_Nothing_Nothing, i_NoSize_NoClues := kit_ref ed_NoClues xt_NoClues ii_NoSize_NoClues ii_NoClues_NoClues, i_NoSize_NoNumber := kit_ref ed_NoNumber xt_NoNumber ii_NoSize_NoNumber ii_NoNumber_NoNumber, e_NoCell := ⟨eg_NoCell, ek_NoCell, xb_NoCell, ed_NoCell, ea_NoCell, en, et, em_NoCell⟩, v_NoCell := kit_val iv_NoCell, m_NoCell := PySem.W.exm_ref xcb xcd xct ix_NoCell, i_NoCell_NoPicture := kit_ref ed_NoPicture xt_NoPicture ii_NoCell_NoPicture ii_NoPicture_NoPicture, i_NoCell_NoWays := kit_ref ed_NoWays xt_NoWays ii_NoCell_NoWays ii_NoWays_NoWays, i_NoCell_NoPoints := kit_ref ed_NoPoints xt_NoPoints ii_NoCell_NoPoints ii_NoPoints_NoPoints, i_NoCell_NoError := kit_ref ed_NoError xt_NoError ii_NoCell_NoError ii_NoError_NoError, i_NoCell_NoSize := kit_ref ed_NoSize xt_NoSize ii_NoCell_NoSize ii_NoSize_NoSize, i_NoCell_NoCell := kit_ref ed_NoCell xt_NoCell ii_NoCell_NoCell ii_NoCell_NoCell, i_NoCell_NoText := kit_ref ed_NoText xt_NoText ii_NoCell_NoText ii_NoText_NoText, i_NoCell_Nothing := kit_ref ed_Nothing xt_Nothing ii_NoCell_Nothing ii_Nothing_Nothing, i_NoCell_NoClues := kit_ref ed_NoClues xt_NoClues ii_NoCell_NoClues ii_NoClues_NoClues, i_NoCell_NoNumber := kit_ref ed_NoNumber xt_NoNumber ii_NoCell_NoNumber ii_NoNumber_NoNumber, e_NoText := ⟨eg_NoText, ek_NoText, xb_NoText, ed_NoText, ea_NoText, en, et, em_NoText⟩, v_NoText := kit_val iv_NoText, m_NoText := PySem.W.exm_ref xcb xcd xct ix_NoText, i_NoText_NoPicture := kit_ref ed_NoPicture xt_NoPicture ii_NoText_NoPicture ii_NoPicture_NoPicture, i_NoText_NoWays := kit_ref ed_NoWays xt_NoWays ii_NoText_NoWays ii_NoWays_NoWays, i_NoText_NoPoints := kit_ref ed_NoPoints xt_NoPoints ii_NoText_NoPoints ii_NoPoints_NoPoints, i_NoText_NoError := kit_ref ed_NoError xt_NoError ii_NoText_NoError ii_NoError_NoError, i_NoText_NoSize := kit_ref ed_NoSize xt_NoSize ii_NoText_NoSize ii_NoSize_NoSize, i_NoText_NoCell := kit_ref ed_NoCell xt_NoCell ii_NoText_NoCell ii_NoCell_NoCell, i_NoText_NoText := kit_ref ed_NoText xt_NoText ii_NoText_NoText ii_NoText_NoText, i_NoText_Nothing := kit_ref ed_Nothing xt_Nothing ii_NoText_Nothing ii_Nothing_Nothing, i_NoText_NoClues := kit_ref ed_NoClues xt_NoClues ii_NoText_NoClues ii_NoClues_NoClues, i_NoText_NoNumber := kit_ref ed_NoNumber xt_NoNumber ii_NoText_NoNumber ii_NoNumber_NoNumber, e_Nothing := ⟨eg_Nothing, ek_Nothing, xb_Nothing, ed_Nothing, ea_Nothing, en, et, em_Nothing⟩, v_Nothing := kit_val iv_Nothing, m_Nothing := PySem.W.exm_ref xcb xcd xct ix_Nothing, i_Nothing_NoPicture := kit_ref ed_NoPicture xt_NoPicture ii_Nothing_NoPicture ii_NoPicture_NoPicture, i_Nothing_NoWays := kit_ref ed_NoWays xt_NoWays ii_Nothing_NoWays ii_NoWays_NoWays, i_Nothing_NoPoints := kit_ref ed_NoPoints xt_NoPoints ii_Nothing_NoPoints ii_NoPoints_NoPoints, i_Nothing_NoError := kit_ref ed_NoError xt_NoError ii_Nothing_NoError ii_NoError_NoError, i_Nothing_NoSize := kit_ref ed_NoSize xt_NoSize ii_Nothing_NoSize ii_NoSize_NoSize, i_Nothing_NoCell := kit_ref ed_NoCell xt_NoCell ii_Nothing_NoCell ii_NoCell_NoCell, i_Nothing_NoText := kit_ref ed_NoText xt_NoText ii_Nothing_NoText ii_NoText_NoText, i_Nothing_Nothing := kit_ref ed_Nothing xt_Nothing ii_Nothing_Nothing ii_Nothing_Nothing, i_Nothing_NoClues := kit_ref ed_NoClues xt_NoClues ii_Nothing_NoClues ii_NoClues_NoClues, i_Nothing_NoNumber := kit_ref ed_NoNumber xt_NoNumber ii_Nothing_NoNumber ii_NoNumber_NoNumber, e_NoClues := ⟨eg_NoClues, ek_NoClues, xb_NoClues, ed_NoClues, ea_NoClues, en, et, em_NoClues⟩, v_NoClues := kit_val iv_NoClues, m_NoClues := PySem.W.exm_ref xcb xcd xct ix_NoClues, i_NoClues_NoPicture := kit_ref ed_NoPicture xt_NoPicture ii_NoClues_NoPicture ii_NoPicture_NoPicture, i_NoClues_NoWays := kit_ref ed_NoWays xt_NoWays ii_NoClues_NoWays ii_NoWays_NoWays, i_NoClues_NoPoints := kit_ref ed_NoPoints xt_NoPoints ii_NoClues_NoPoints ii_NoPoints_NoPoints, i_NoClues_NoError := kit_ref ed_NoError xt_NoError ii_NoClues_NoError ii_NoError_NoError, i_NoClues_NoSize := kit_ref ed_NoSize xt_NoSize ii_NoClues_NoSize ii_NoSize_NoSize, i_NoClues_NoCell := kit_ref ed_NoCell xt_NoCell ii_NoClues_NoCell ii_NoCell_NoCell, i_NoClues_NoText := kit_ref ed_NoText xt_NoText ii_NoClues_NoText ii_NoText_NoText, i_NoClues_Nothing := kit_ref ed_Nothing xt_Nothing ii_NoClues_Nothing ii_Nothing_Nothing, i_NoClues_NoClues := kit_ref ed_NoClues xt_NoClues ii_NoClues_NoClues ii_NoClues_NoClues, i_NoClues_NoNumber := kit_ref ed_NoNumber xt_NoNumber ii_NoClues_NoNumber ii_NoNumber_NoNumber, e_NoNumber := ⟨eg_NoNumber, ek_NoNumber, xb_NoNumber, ed_NoNumber, ea_NoNumber, en, et, em_NoNumber⟩, v_NoNumber := kit_val iv_NoNumber, m_NoNumber := PySem.W.exm_ref xcb xcd xct ix_NoNumber, i_NoNumber_NoPicture := kit_ref ed_NoPicture xt_NoPicture ii_NoNumber_NoPicture ii_NoPicture_NoPicture, i_NoNumber_NoWays := kit_ref ed_NoWays xt_NoWays ii_NoNumber_NoWays ii_NoWays_NoWays, i_NoNumber_NoPoints := kit_ref ed_NoPoints xt_NoPoints ii_NoNumber_NoPoints ii_NoPoints_NoPoints, i_NoNumber_NoError := kit_ref ed_NoError xt_NoError ii_NoNumber_NoError ii_NoError_NoError, i_NoNumber_NoSize := kit_ref ed_NoSize xt_NoSize ii_NoNumber_NoSize ii_NoSize_NoSize, i_NoNumber_NoCell := kit_ref ed_NoCell xt_NoCell ii_NoNumber_NoCell ii_NoCell_NoCell, i_NoNumber_NoText := kit_ref ed_NoText xt_NoText ii_NoNumber_NoText ii_NoText_NoText, i_NoNumber_Nothing := kit_ref ed_Nothing xt_Nothing ii_NoNumber_Nothing ii_Nothing_Nothing, i_NoNumber_NoClues := kit_ref ed_NoClues xt_NoClues ii_NoNumber_NoClues ii_NoClues_NoClues, i_NoNumber_NoNumber := kit_ref ed_NoNumber xt_NoNumber ii_NoNumber_NoNumber ii_NoNumber_NoNumber, g_NoPicture := PySem.W.mg_of X G xa_NoPicture, g_NoWays := PySem.W.mg_of X G xa_NoWays, g_NoPoints := PySem.W.mg_of X G xa_NoPoints, g_NoError := PySem.W.mg_of X G xa_NoError, g_NoSize := PySem.W.mg_of X G xa_NoSize, g_NoCell := PySem.W.mg_of X G xa_NoCell, g_NoText := PySem.W.mg_of X G xa_NoText, g_Nothing := PySem.W.mg_of X G xa_Nothing, g_NoClues := PySem.W.mg_of X G xa_NoClues, g_NoNumber := PySem.W.mg_of X G xa_NoNumber, f_is_line := ⟨_, _, F0, PySem.W.mg_of X G a0, k0, b0⟩, f_is_picture := ⟨_, _, F1, PySem.W.mg_of X G a1, k1, b1⟩, f_need_picture := ⟨_, _, F2, PySem.W.mg_of X G a2, k2, b2⟩, f_quarter_of := ⟨_, _, F3, PySem.W.mg_of X G a3, k3, b3⟩, f_quarter := ⟨_, _, F4, PySem.W.mg_of X G a4, k4, b4⟩, f_mirror_of := ⟨_, _, F5, PySem.W.mg_of X G a5, k5, b5⟩, f_flipped := ⟨_, _, F6, PySem.W.mg_of X G a6, k6, b6⟩, f_inverted := ⟨_, _, F7, PySem.W.mg_of X G a7, k7, b7⟩, f_turns_of := ⟨_, _, F8, PySem.W.mg_of X G a8, k8, b8⟩, f_shapes := ⟨_, _, F9, PySem.W.mg_of X G a9, k9, b9⟩, f_is_same_shape := ⟨_, _, F10, PySem.W.mg_of X G a10, k10, b10⟩, f__law_cell_at := ⟨_, _, F11, PySem.W.mg_of X G a11, k11, b11⟩, f__law_mixed := ⟨_, _, F12, PySem.W.mg_of X G a12, k12, b12⟩, f__law_draw := ⟨_, _, F13, PySem.W.mg_of X G a13, k13, b13⟩, f__law_pick := ⟨_, _, F14, PySem.W.mg_of X G a14, k14, b14⟩, f__law_picture := ⟨_, _, F15, PySem.W.mg_of X G a15, k15, b15⟩, f__law_odd_picture := ⟨_, _, F16, PySem.W.mg_of X G a16, k16, b16⟩, f__law_which := ⟨_, _, F17, PySem.W.mg_of X G a17, k17, b17⟩, f__law_ask := ⟨_, _, F18, PySem.W.mg_of X G a18, k18, b18⟩, f_law := ⟨_, _, F19, PySem.W.mg_of X G a19, k19, b19⟩ }
  exact ⟨PySem.W.fnOf "law" "law" (defArgs s_law) (defBody s_law) (defScope s_law) .none kV19 dc19 pm19 an19 cd19 ct19, fun s v => .of_eq rfl, fun base _ _ => ok_law F19 T⟩
theorem no_x {P : Program} (w : World) (H : Hp) (s : Shared) (e : Value) (s' : Shared) (h : L2N.CX P w [] H s (fun _ _ _ => False) e s') : False := by
  let ⟨_, _, _, _, _, r⟩ := h
  exact r.2.2.2.2.2.2.2
theorem dp_ints {K : PySem.W.Frag} {H : Hp} {a : Addr} {ns : List Int} (h : SqL K H a (ns.map V.int)) : ∃ S, CallIn K [] [.ref a] S H [.dat (.list (ns.map PyData.int))] fun _ => [] := by
  refine ⟨H, ⟨Same.refl _, rfl, fun i e he => ?_, fun i _ => rfl, fun i a ha => absurd ha (by simp), fun _ => List.nodup_nil, fun i j a ha => absurd ha (by simp), fun i hi => absurd hi (by simp), fun i e he ho => ?_⟩⟩
  · cases i with
    | zero =>
      simp only [List.getElem?_cons_zero, Option.some.injEq] at he ⊢
      subst he
      exact ⟨rfl, _, rfl, .lst h dps_int⟩
    | succ i => simp at he
  · cases i with
    | zero =>
      simp only [List.getElem?_cons_zero, Option.some.injEq] at he
      subst he
      cases ho
    | succ i => simp at he
theorem law_sp {K : PySem.W.Frag} {H : Hp} {a : Addr} {ns : List Int} (hn : ns.length ≤ 63) (h : SqL K H a (ns.map V.int)) : toSp K [] 1 dsp_end [.ref a] H (fun v _ => v = .bl true) fun _ _ _ => False := by
  obtain ⟨S, ci⟩ := dp_ints h
  refine ⟨rfl, S, _, _, fun e outs => e = .dat (.bool true), fun _ _ => False, ci, ⟨ns, rfl, hn, rfl⟩, fun S' H' v e fpn outs fpo _ cr he => ?_, fun _ _ _ _ _ _ h => h⟩
  subst he
  obtain ⟨_, u, h1, h2⟩ := cr.ent
  cases h1
  cases h2
  rfl
end Law
open PySem PySem.W PyProof.Rows
set_option maxHeartbeats 0 in
theorem PySem.Challenge.cw_cellstrokes_k18_turning_refused_holds : PySem.Challenge.rw_cellstrokes_k18_turning_refused.Holds := by
  w_on; o_law; k_head; (case hw => w_witness2)
  k_fill
  refine L2.walk_of (l := PySem.Challenge.rw_cellstrokes_k18_turning_refused) (n := 63) (k := 6) (x := "_law_script") (CX := fun w => L2N.CX PySem.Challenge.rw_cellstrokes_k18_turning_refused.prog w) (sp := fun w => L3.toSp _ [] 1 Law.dsp_end) rfl (by decide) rfl ⟨rfl, by decide, by decide⟩ (fun w h Y => PySem.W.kIn_of Y) ?F (fun _ _ a ns hl _ hS => Law.law_sp hl hS) Law.no_x
  case F =>
    intro w mg fa h KX G hmg
    refine' Law.all_mk KX G hmg ?a0 ?l0 ?c0 ?k0 ?a1 ?l1 ?c1 ?k1 ?a2 ?l2 ?c2 ?k2 ?a3 ?l3 ?c3 ?k3 ?a4 ?l4 ?c4 ?k4 ?a5 ?l5 ?c5 ?k5 ?a6 ?l6 ?c6 ?k6 ?a7 ?l7 ?c7 ?k7 ?a8 ?l8 ?c8 ?k8 ?a9 ?l9 ?c9 ?k9 ?a10 ?l10 ?c10 ?k10 ?a11 ?l11 ?c11 ?k11 ?a12 ?l12 ?c12 ?k12 ?a13 ?l13 ?c13 ?k13 ?a14 ?l14 ?c14 ?k14 ?a15 ?l15 ?c15 ?k15 ?a16 ?l16 ?c16 ?k16 ?a17 ?l17 ?c17 ?k17 ?a18 ?l18 ?c18 ?k18 ?a19 ?l19 ?c19 ?k19 ?z_ValueError ?z_all ?z_isinstance ?z_len ?z_min ?z_range ?z_str ?z_tuple ?q_SIZE ?xa_NoPicture ?xe_NoPicture ?xk_NoPicture ?xb_NoPicture ?xt_NoPicture ?xa_NoWays ?xe_NoWays ?xk_NoWays ?xb_NoWays ?xt_NoWays ?xa_NoPoints ?xe_NoPoints ?xk_NoPoints ?xb_NoPoints ?xt_NoPoints ?xa_NoError ?xe_NoError ?xk_NoError ?xb_NoError ?xt_NoError ?xa_NoSize ?xe_NoSize ?xk_NoSize ?xb_NoSize ?xt_NoSize ?xa_NoCell ?xe_NoCell ?xk_NoCell ?xb_NoCell ?xt_NoCell ?xa_NoText ?xe_NoText ?xk_NoText ?xb_NoText ?xt_NoText ?xa_Nothing ?xe_Nothing ?xk_Nothing ?xb_Nothing ?xt_Nothing ?xa_NoClues ?xe_NoClues ?xk_NoClues ?xb_NoClues ?xt_NoClues ?xa_NoNumber ?xe_NoNumber ?xk_NoNumber ?xb_NoNumber ?xt_NoNumber ?xc ?xcb ?xcd ?xct ?en ?et ?eg_NoPicture ?ek_NoPicture ?ed_NoPicture ?ea_NoPicture ?em_NoPicture ?iv_NoPicture ?ix_NoPicture ?ii_NoPicture_NoPicture ?ii_NoPicture_NoWays ?ii_NoPicture_NoPoints ?ii_NoPicture_NoError ?ii_NoPicture_NoSize ?ii_NoPicture_NoCell ?ii_NoPicture_NoText ?ii_NoPicture_Nothing ?ii_NoPicture_NoClues ?ii_NoPicture_NoNumber ?eg_NoWays ?ek_NoWays ?ed_NoWays ?ea_NoWays ?em_NoWays ?iv_NoWays ?ix_NoWays ?ii_NoWays_NoPicture ?ii_NoWays_NoWays ?ii_NoWays_NoPoints ?ii_NoWays_NoError ?ii_NoWays_NoSize ?ii_NoWays_NoCell ?ii_NoWays_NoText ?ii_NoWays_Nothing ?ii_NoWays_NoClues ?ii_NoWays_NoNumber ?eg_NoPoints ?ek_NoPoints ?ed_NoPoints ?ea_NoPoints ?em_NoPoints ?iv_NoPoints ?ix_NoPoints ?ii_NoPoints_NoPicture ?ii_NoPoints_NoWays ?ii_NoPoints_NoPoints ?ii_NoPoints_NoError ?ii_NoPoints_NoSize ?ii_NoPoints_NoCell ?ii_NoPoints_NoText ?ii_NoPoints_Nothing ?ii_NoPoints_NoClues ?ii_NoPoints_NoNumber ?eg_NoError ?ek_NoError ?ed_NoError ?ea_NoError ?em_NoError ?iv_NoError ?ix_NoError ?ii_NoError_NoPicture ?ii_NoError_NoWays ?ii_NoError_NoPoints ?ii_NoError_NoError ?ii_NoError_NoSize ?ii_NoError_NoCell ?ii_NoError_NoText ?ii_NoError_Nothing ?ii_NoError_NoClues ?ii_NoError_NoNumber ?eg_NoSize ?ek_NoSize ?ed_NoSize ?ea_NoSize ?em_NoSize ?iv_NoSize ?ix_NoSize ?ii_NoSize_NoPicture ?ii_NoSize_NoWays ?ii_NoSize_NoPoints ?ii_NoSize_NoError ?ii_NoSize_NoSize ?ii_NoSize_NoCell ?ii_NoSize_NoText ?ii_NoSize_Nothing ?ii_NoSize_NoClues ?ii_NoSize_NoNumber ?eg_NoCell ?ek_NoCell ?ed_NoCell ?ea_NoCell ?em_NoCell ?iv_NoCell ?ix_NoCell ?ii_NoCell_NoPicture ?ii_NoCell_NoWays ?ii_NoCell_NoPoints ?ii_NoCell_NoError ?ii_NoCell_NoSize ?ii_NoCell_NoCell ?ii_NoCell_NoText ?ii_NoCell_Nothing ?ii_NoCell_NoClues ?ii_NoCell_NoNumber ?eg_NoText ?ek_NoText ?ed_NoText ?ea_NoText ?em_NoText ?iv_NoText ?ix_NoText ?ii_NoText_NoPicture ?ii_NoText_NoWays ?ii_NoText_NoPoints ?ii_NoText_NoError ?ii_NoText_NoSize ?ii_NoText_NoCell ?ii_NoText_NoText ?ii_NoText_Nothing ?ii_NoText_NoClues ?ii_NoText_NoNumber ?eg_Nothing ?ek_Nothing ?ed_Nothing ?ea_Nothing ?em_Nothing ?iv_Nothing ?ix_Nothing ?ii_Nothing_NoPicture ?ii_Nothing_NoWays ?ii_Nothing_NoPoints ?ii_Nothing_NoError ?ii_Nothing_NoSize ?ii_Nothing_NoCell ?ii_Nothing_NoText ?ii_Nothing_Nothing ?ii_Nothing_NoClues ?ii_Nothing_NoNumber ?eg_NoClues ?ek_NoClues ?ed_NoClues ?ea_NoClues ?em_NoClues ?iv_NoClues ?ix_NoClues ?ii_NoClues_NoPicture ?ii_NoClues_NoWays ?ii_NoClues_NoPoints ?ii_NoClues_NoError ?ii_NoClues_NoSize ?ii_NoClues_NoCell ?ii_NoClues_NoText ?ii_NoClues_Nothing ?ii_NoClues_NoClues ?ii_NoClues_NoNumber ?eg_NoNumber ?ek_NoNumber ?ed_NoNumber ?ea_NoNumber ?em_NoNumber ?iv_NoNumber ?ix_NoNumber ?ii_NoNumber_NoPicture ?ii_NoNumber_NoWays ?ii_NoNumber_NoPoints ?ii_NoNumber_NoError ?ii_NoNumber_NoSize ?ii_NoNumber_NoCell ?ii_NoNumber_NoText ?ii_NoNumber_Nothing ?ii_NoNumber_NoClues ?ii_NoNumber_NoNumber
    (case a0 => k_is); (case l0 => k_is); (case c0 => k_is); (case k0 => k_is); (case a1 => k_is); (case l1 => k_is); (case c1 => k_is); (case k1 => k_is)
    (case a2 => k_is); (case l2 => k_is); (case c2 => k_is); (case k2 => k_is); (case a3 => k_is); (case l3 => k_is); (case c3 => k_is); (case k3 => k_is)
    (case a4 => k_is); (case l4 => k_is); (case c4 => k_is); (case k4 => k_is); (case a5 => k_is); (case l5 => k_is); (case c5 => k_is); (case k5 => k_is)
    (case a6 => k_is); (case l6 => k_is); (case c6 => k_is); (case k6 => k_is); (case a7 => k_is); (case l7 => k_is); (case c7 => k_is); (case k7 => k_is)
    (case a8 => k_is); (case l8 => k_is); (case c8 => k_is); (case k8 => k_is); (case a9 => k_is); (case l9 => k_is); (case c9 => k_is); (case k9 => k_is)
    (case a10 => k_is); (case l10 => k_is); (case c10 => k_is); (case k10 => k_is); (case a11 => k_is); (case l11 => k_is); (case c11 => k_is); (case k11 => k_is)
    (case a12 => k_is); (case l12 => k_is); (case c12 => k_is); (case k12 => k_is); (case a13 => k_is); (case l13 => k_is); (case c13 => k_is); (case k13 => k_is)
    (case a14 => k_is); (case l14 => k_is); (case c14 => k_is); (case k14 => k_is); (case a15 => k_is); (case l15 => k_is); (case c15 => k_is); (case k15 => k_is)
    (case a16 => k_is); (case l16 => k_is); (case c16 => k_is); (case k16 => k_is); (case a17 => k_is); (case l17 => k_is); (case c17 => k_is); (case k17 => k_is)
    (case a18 => k_is); (case l18 => k_is); (case c18 => k_is); (case k18 => k_is); (case a19 => k_is); (case l19 => k_is); (case c19 => k_is); (case k19 => k_is)
    (case z_ValueError => k_is); (case z_all => k_is); (case z_isinstance => k_is); (case z_len => k_is); (case z_min => k_is); (case z_range => k_is); (case z_str => k_is); (case z_tuple => k_is)
    (case q_SIZE => k_is); (case xa_NoPicture => k_is); (case xe_NoPicture => k_exc); (case xk_NoPicture => k_is); (case xb_NoPicture => k_is); (case xt_NoPicture => k_is); (case xa_NoWays => k_is); (case xe_NoWays => k_exc)
    (case xk_NoWays => k_is); (case xb_NoWays => k_is); (case xt_NoWays => k_is); (case xa_NoPoints => k_is); (case xe_NoPoints => k_exc); (case xk_NoPoints => k_is); (case xb_NoPoints => k_is); (case xt_NoPoints => k_is)
    (case xa_NoError => k_is); (case xe_NoError => k_exc); (case xk_NoError => k_is); (case xb_NoError => k_is); (case xt_NoError => k_is); (case xa_NoSize => k_is); (case xe_NoSize => k_exc); (case xk_NoSize => k_is)
    (case xb_NoSize => k_is); (case xt_NoSize => k_is); (case xa_NoCell => k_is); (case xe_NoCell => k_exc); (case xk_NoCell => k_is); (case xb_NoCell => k_is); (case xt_NoCell => k_is); (case xa_NoText => k_is)
    (case xe_NoText => k_exc); (case xk_NoText => k_is); (case xb_NoText => k_is); (case xt_NoText => k_is); (case xa_Nothing => k_is); (case xe_Nothing => k_exc); (case xk_Nothing => k_is); (case xb_Nothing => k_is)
    (case xt_Nothing => k_is); (case xa_NoClues => k_is); (case xe_NoClues => k_exc); (case xk_NoClues => k_is); (case xb_NoClues => k_is); (case xt_NoClues => k_is); (case xa_NoNumber => k_is); (case xe_NoNumber => k_exc)
    (case xk_NoNumber => k_is); (case xb_NoNumber => k_is); (case xt_NoNumber => k_is); (case xc => k_is); (case xcb => k_is); (case xcd => k_is); (case xct => k_is); (case en => k_is)
    (case et => k_is); (case eg_NoPicture => k_is); (case ek_NoPicture => k_is); (case ed_NoPicture => k_is); (case ea_NoPicture => k_is); (case em_NoPicture => k_is); (case iv_NoPicture => k_is); (case ix_NoPicture => k_is)
    (case ii_NoPicture_NoPicture => k_is); (case ii_NoPicture_NoWays => k_is); (case ii_NoPicture_NoPoints => k_is); (case ii_NoPicture_NoError => k_is); (case ii_NoPicture_NoSize => k_is); (case ii_NoPicture_NoCell => k_is); (case ii_NoPicture_NoText => k_is); (case ii_NoPicture_Nothing => k_is)
    (case ii_NoPicture_NoClues => k_is); (case ii_NoPicture_NoNumber => k_is); (case eg_NoWays => k_is); (case ek_NoWays => k_is); (case ed_NoWays => k_is); (case ea_NoWays => k_is); (case em_NoWays => k_is); (case iv_NoWays => k_is)
    (case ix_NoWays => k_is); (case ii_NoWays_NoPicture => k_is); (case ii_NoWays_NoWays => k_is); (case ii_NoWays_NoPoints => k_is); (case ii_NoWays_NoError => k_is); (case ii_NoWays_NoSize => k_is); (case ii_NoWays_NoCell => k_is); (case ii_NoWays_NoText => k_is)
    (case ii_NoWays_Nothing => k_is); (case ii_NoWays_NoClues => k_is); (case ii_NoWays_NoNumber => k_is); (case eg_NoPoints => k_is); (case ek_NoPoints => k_is); (case ed_NoPoints => k_is); (case ea_NoPoints => k_is); (case em_NoPoints => k_is)
    (case iv_NoPoints => k_is); (case ix_NoPoints => k_is); (case ii_NoPoints_NoPicture => k_is); (case ii_NoPoints_NoWays => k_is); (case ii_NoPoints_NoPoints => k_is); (case ii_NoPoints_NoError => k_is); (case ii_NoPoints_NoSize => k_is); (case ii_NoPoints_NoCell => k_is)
    (case ii_NoPoints_NoText => k_is); (case ii_NoPoints_Nothing => k_is); (case ii_NoPoints_NoClues => k_is); (case ii_NoPoints_NoNumber => k_is); (case eg_NoError => k_is); (case ek_NoError => k_is); (case ed_NoError => k_is); (case ea_NoError => k_is)
    (case em_NoError => k_is); (case iv_NoError => k_is); (case ix_NoError => k_is); (case ii_NoError_NoPicture => k_is); (case ii_NoError_NoWays => k_is); (case ii_NoError_NoPoints => k_is); (case ii_NoError_NoError => k_is); (case ii_NoError_NoSize => k_is)
    (case ii_NoError_NoCell => k_is); (case ii_NoError_NoText => k_is); (case ii_NoError_Nothing => k_is); (case ii_NoError_NoClues => k_is); (case ii_NoError_NoNumber => k_is); (case eg_NoSize => k_is); (case ek_NoSize => k_is); (case ed_NoSize => k_is)
    (case ea_NoSize => k_is); (case em_NoSize => k_is); (case iv_NoSize => k_is); (case ix_NoSize => k_is); (case ii_NoSize_NoPicture => k_is); (case ii_NoSize_NoWays => k_is); (case ii_NoSize_NoPoints => k_is); (case ii_NoSize_NoError => k_is)
    (case ii_NoSize_NoSize => k_is); (case ii_NoSize_NoCell => k_is); (case ii_NoSize_NoText => k_is); (case ii_NoSize_Nothing => k_is); (case ii_NoSize_NoClues => k_is); (case ii_NoSize_NoNumber => k_is); (case eg_NoCell => k_is); (case ek_NoCell => k_is)
    (case ed_NoCell => k_is); (case ea_NoCell => k_is); (case em_NoCell => k_is); (case iv_NoCell => k_is); (case ix_NoCell => k_is); (case ii_NoCell_NoPicture => k_is); (case ii_NoCell_NoWays => k_is); (case ii_NoCell_NoPoints => k_is)
    (case ii_NoCell_NoError => k_is); (case ii_NoCell_NoSize => k_is); (case ii_NoCell_NoCell => k_is); (case ii_NoCell_NoText => k_is); (case ii_NoCell_Nothing => k_is); (case ii_NoCell_NoClues => k_is); (case ii_NoCell_NoNumber => k_is); (case eg_NoText => k_is)
    (case ek_NoText => k_is); (case ed_NoText => k_is); (case ea_NoText => k_is); (case em_NoText => k_is); (case iv_NoText => k_is); (case ix_NoText => k_is); (case ii_NoText_NoPicture => k_is); (case ii_NoText_NoWays => k_is)
    (case ii_NoText_NoPoints => k_is); (case ii_NoText_NoError => k_is); (case ii_NoText_NoSize => k_is); (case ii_NoText_NoCell => k_is); (case ii_NoText_NoText => k_is); (case ii_NoText_Nothing => k_is); (case ii_NoText_NoClues => k_is); (case ii_NoText_NoNumber => k_is)
    (case eg_Nothing => k_is); (case ek_Nothing => k_is); (case ed_Nothing => k_is); (case ea_Nothing => k_is); (case em_Nothing => k_is); (case iv_Nothing => k_is); (case ix_Nothing => k_is); (case ii_Nothing_NoPicture => k_is)
    (case ii_Nothing_NoWays => k_is); (case ii_Nothing_NoPoints => k_is); (case ii_Nothing_NoError => k_is); (case ii_Nothing_NoSize => k_is); (case ii_Nothing_NoCell => k_is); (case ii_Nothing_NoText => k_is); (case ii_Nothing_Nothing => k_is); (case ii_Nothing_NoClues => k_is)
    (case ii_Nothing_NoNumber => k_is); (case eg_NoClues => k_is); (case ek_NoClues => k_is); (case ed_NoClues => k_is); (case ea_NoClues => k_is); (case em_NoClues => k_is); (case iv_NoClues => k_is); (case ix_NoClues => k_is)
    (case ii_NoClues_NoPicture => k_is); (case ii_NoClues_NoWays => k_is); (case ii_NoClues_NoPoints => k_is); (case ii_NoClues_NoError => k_is); (case ii_NoClues_NoSize => k_is); (case ii_NoClues_NoCell => k_is); (case ii_NoClues_NoText => k_is); (case ii_NoClues_Nothing => k_is)
    (case ii_NoClues_NoClues => k_is); (case ii_NoClues_NoNumber => k_is); (case eg_NoNumber => k_is); (case ek_NoNumber => k_is); (case ed_NoNumber => k_is); (case ea_NoNumber => k_is); (case em_NoNumber => k_is); (case iv_NoNumber => k_is)
    (case ix_NoNumber => k_is); (case ii_NoNumber_NoPicture => k_is); (case ii_NoNumber_NoWays => k_is); (case ii_NoNumber_NoPoints => k_is); (case ii_NoNumber_NoError => k_is); (case ii_NoNumber_NoSize => k_is); (case ii_NoNumber_NoCell => k_is); (case ii_NoNumber_NoText => k_is)
    (case ii_NoNumber_Nothing => k_is); (case ii_NoNumber_NoClues => k_is); (case ii_NoNumber_NoNumber => k_is)
