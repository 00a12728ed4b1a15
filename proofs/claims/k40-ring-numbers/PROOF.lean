import PyProof.Rows.All
import Wide.All
import OpenK.AllK
import Wide.FinOn
import HandS.ForMost
import HandS.ForExc
import HandS.TryMany
import HandS.IsInst
import HandS.Wide
import HandS.Gcd
import HandS.Conv
import HandS.Defaults
import HandS.Style
import HandS.TupAny
import HandS.Flow
import HandS.ExcInit
import HandS.ExcField
import HandS.HeadEnd
import HandS.HeadHook4
import HandS.Head2
import PySem.Challenge.RW_manyfactorings_k40_ring_numbers
set_option Elab.async false
set_option linter.all false
set_option maxRecDepth 100000
set_option maxHeartbeats 4000000
/-! PyD: what a def of the plain subset means, as a Lean function over trees (D) and a store of mutable objects; one soundness rule a construct, over HandS. -/
namespace Z
open PySem PySem.Spec PyProof.Rows L2

/-! ### values, the store -/
inductive D where
  | non | bl (b : Bool) | int (i : Int) | str (x : Str) | tup (xs : List D) | lst (xs : List D) | scr (xs : List D) | dct (ks : List Key) (ds : List D) | loc (k : Nat)
inductive Ob where
  | lst (xs : List D) | dK (ks : List Key) (ds : List D) | lk (ks : List Key) (ds : List D)
abbrev Sto := List Ob
abbrev Env := List (Option D)

mutual
inductive Den (K : PySem.W.Frag) (H : Hp) (ρ : List Addr) : V → D → Prop where
  | non : Den K H ρ .non .non
  | bl (b : Bool) : Den K H ρ (.bl b) (.bl b)
  | int (i : Int) : Den K H ρ (.int i) (.int i)
  | str (x : Str) : Den K H ρ (.str x) (.str x)
  | tup {p : Addr} {vs : List V} {ds : List D} : SqT K H p vs → DenL K H ρ vs ds → Den K H ρ (.ref p) (.tup ds)
  | lst {p : Addr} {vs : List V} {ds : List D} : H p = some (.lst vs) → DenL K H ρ vs ds → Den K H ρ (.ref p) (.lst ds)
  | scr {p : Addr} {vs : List V} {ds : List D} : SqL K H p vs → DenL K H ρ vs ds → Den K H ρ (.ref p) (.scr ds)
  | dct {p : Addr} {kvs : List (Key × V)} {ds : List D} : Rd H p (.dK kvs) → DenL K H ρ (kvs.map (·.2)) ds → Den K H ρ (.ref p) (.dct (kvs.map (·.1)) ds)
  | loc {a : Addr} {k : Nat} : ρ[k]? = some a → Den K H ρ (.ref a) (.loc k)
inductive DenL (K : PySem.W.Frag) (H : Hp) (ρ : List Addr) : List V → List D → Prop where
  | nil : DenL K H ρ [] []
  | cons {v : V} {d : D} {vs : List V} {ds : List D} : Den K H ρ v d → DenL K H ρ vs ds → DenL K H ρ (v :: vs) (d :: ds)
end

def isDictO (_ : HO) : Prop := False
/-- what is frozen stays (a dict may be locked), the store's places stay -/
structure Ex0 (H : Hp) (ρ : List Addr) (H' : Hp) (ρ' : List Addr) : Prop where
  h : ∀ a o, H a = some o → H' a = some o ∨ (isDictO o ∧ ∃ ob, H' a = some (.frz ob o))
  r : ∃ more, ρ' = ρ ++ more
theorem Ex0.refl {H : Hp} {ρ : List Addr} : Ex0 H ρ H ρ := ⟨fun _ _ e => .inl e, [], (List.append_nil _).symm⟩
theorem Ex0.trans {H H1 H2 : Hp} {ρ ρ1 ρ2 : List Addr} (a : Ex0 H ρ H1 ρ1) (b : Ex0 H1 ρ1 H2 ρ2) : Ex0 H ρ H2 ρ2 := by
  refine ⟨fun x o e => ?_, ?_⟩
  · rcases a.h x o e with q | ⟨hd, ob, q⟩
    · exact b.h x o q
    · rcases b.h x _ q with z | ⟨z, _⟩
      · exact .inr ⟨hd, ob, z⟩
      · exact z.elim
  · obtain ⟨m1, e1⟩ := a.r
    obtain ⟨m2, e2⟩ := b.r
    exact ⟨m1 ++ m2, by rw [e2, e1, List.append_assoc]⟩
theorem Ex0.new {H : Hp} {ρ : List Addr} {p : Addr} {o : HO} (h : H p = none) : Ex0 H ρ (upd H p o) ρ :=
  ⟨fun a u e => .inl (by rw [upd_ne (ne_of_none e h)]; exact e), [], (List.append_nil _).symm⟩
theorem Ex0.app {H : Hp} {ρ : List Addr} {p : Addr} : Ex0 H ρ H (ρ ++ [p]) := ⟨fun _ _ e => .inl e, [p], rfl⟩
theorem Ex0.get {H H' : Hp} {ρ ρ' : List Addr} (x : Ex0 H ρ H' ρ') {k : Nat} {a : Addr} (h : ρ[k]? = some a) : ρ'[k]? = some a := by
  obtain ⟨m, e⟩ := x.r
  rw [e, List.getElem?_append_left (List.getElem?_eq_some_iff.mp h).1]
  exact h
theorem Ex0.rd {H H' : Hp} {ρ ρ' : List Addr} (x : Ex0 H ρ H' ρ') {a : Addr} {u : HO} (h : Rd H a u) : Rd H' a u := by
  rcases h with h | ⟨o, h⟩
  · rcases x.h a u h with q | ⟨_, ob, q⟩
    · exact .inl q
    · exact .inr ⟨ob, q⟩
  · rcases x.h a _ h with q | ⟨z, _⟩
    · exact .inr ⟨o, q⟩
    · exact z.elim
theorem Ex0.sqT {K : PySem.W.Frag} {H H' : Hp} {ρ ρ' : List Addr} (x : Ex0 H ρ H' ρ') {a : Addr} {xs : List V} (h : SqT K H a xs) : SqT K H' a xs := by
  rcases h with h | h
  · exact .inl (x.rd h)
  · exact .inr h
theorem Ex0.sqL {K : PySem.W.Frag} {H H' : Hp} {ρ ρ' : List Addr} (x : Ex0 H ρ H' ρ') {a : Addr} {xs : List V} (h : SqL K H a xs) : SqL K H' a xs := by
  rcases h with h | h
  · exact .inl (x.rd h)
  · exact .inr h
theorem Ex0.lst {H H' : Hp} {ρ ρ' : List Addr} (x : Ex0 H ρ H' ρ') {a : Addr} {xs : List V} (h : H a = some (.lst xs)) : H' a = some (.lst xs) := by
  rcases x.h a _ h with q | ⟨z, _⟩
  · exact q
  · exact z.elim
mutual
theorem Den.mono0 {K : PySem.W.Frag} {H H' : Hp} {ρ ρ' : List Addr} (x : Ex0 H ρ H' ρ') : ∀ {v : V} {d : D}, Den K H ρ v d → Den K H' ρ' v d
  | _, _, .non => .non
  | _, _, .bl b => .bl b
  | _, _, .int i => .int i
  | _, _, .str s => .str s
  | _, _, .tup h l => .tup (x.sqT h) (DenL.mono0 x l)
  | _, _, .lst h l => .lst (x.lst h) (DenL.mono0 x l)
  | _, _, .scr h l => .scr (x.sqL h) (DenL.mono0 x l)
  | _, _, .dct h l => .dct (x.rd h) (DenL.mono0 x l)
  | _, _, .loc h => .loc (x.get h)
theorem DenL.mono0 {K : PySem.W.Frag} {H H' : Hp} {ρ ρ' : List Addr} (x : Ex0 H ρ H' ρ') : ∀ {vs : List V} {ds : List D}, DenL K H ρ vs ds → DenL K H' ρ' vs ds
  | _, _, .nil => .nil
  | _, _, .cons h l => .cons (Den.mono0 x h) (DenL.mono0 x l)
end
section
variable {K : PySem.W.Frag} {H : Hp} {ρ : List Addr}
theorem DenL.length : ∀ {vs : List V} {ds : List D}, DenL K H ρ vs ds → vs.length = ds.length
  | _, _, .nil => rfl
  | _, _, .cons _ l => by rw [List.length_cons, List.length_cons, l.length]
theorem DenL.get : ∀ {vs : List V} {ds : List D} {i : Nat} {d : D}, DenL K H ρ vs ds → ds[i]? = some d → ∃ v, vs[i]? = some v ∧ Den K H ρ v d
  | _, _, _, _, .nil, e => by simp at e
  | _, _, 0, _, .cons r _, e => by simp at e; subst e; exact ⟨_, rfl, r⟩
  | _, _, i + 1, _, .cons _ t, e => by
    obtain ⟨u, h1, h2⟩ := DenL.get (i := i) t (by simpa using e)
    exact ⟨u, by simpa using h1, h2⟩
theorem DenL.getV : ∀ {vs : List V} {ds : List D} {i : Nat} {v : V}, DenL K H ρ vs ds → vs[i]? = some v → ∃ d, ds[i]? = some d ∧ Den K H ρ v d
  | _, _, _, _, .nil, e => by simp at e
  | _, _, 0, _, .cons r _, e => by simp at e; subst e; exact ⟨_, rfl, r⟩
  | _, _, i + 1, _, .cons _ t, e => by
    obtain ⟨u, h1, h2⟩ := DenL.getV (i := i) t (by simpa using e)
    exact ⟨u, by simpa using h1, h2⟩
theorem DenL.append : ∀ {vs ws : List V} {ds es : List D}, DenL K H ρ vs ds → DenL K H ρ ws es → DenL K H ρ (vs ++ ws) (ds ++ es)
  | _, _, _, _, .nil, s => s
  | _, _, _, _, .cons r t, s => .cons r (DenL.append t s)
theorem DenL.take : ∀ {vs : List V} {ds : List D} (n : Nat), DenL K H ρ vs ds → DenL K H ρ (vs.take n) (ds.take n)
  | _, _, 0, _ => .nil
  | _, _, _ + 1, .nil => .nil
  | _, _, n + 1, .cons r t => .cons r (DenL.take n t)
theorem DenL.drop : ∀ {vs : List V} {ds : List D} (n : Nat), DenL K H ρ vs ds → DenL K H ρ (vs.drop n) (ds.drop n)
  | _, _, 0, r => r
  | _, _, _ + 1, .nil => .nil
  | _, _, n + 1, .cons _ t => DenL.drop n t
theorem DenL.set {v : V} {d : D} (r : Den K H ρ v d) : ∀ {vs : List V} {ds : List D} (i : Nat), DenL K H ρ vs ds → DenL K H ρ (vs.set i v) (ds.set i d)
  | _, _, _, .nil => .nil
  | _, _, 0, .cons _ t => .cons r t
  | _, _, i + 1, .cons q t => .cons q (DenL.set r i t)
theorem DenL.one {v : V} {d : D} (r : Den K H ρ v d) : DenL K H ρ [v] [d] := .cons r .nil
end

/-! ### the store in the heap -/
def ObD (K : PySem.W.Frag) (H0 : Hp) (ρ : List Addr) (H : Hp) (a : Addr) : Ob → Prop
  | .lst ds => ∃ vs, H a = some (.lst vs) ∧ DenL K H0 ρ vs ds
  | .dK ks ds => ∃ kvs : List (Key × V), H a = some (.dK kvs) ∧ kvs.map (·.1) = ks ∧ DenL K H0 ρ (kvs.map (·.2)) ds
  | .lk ks ds => ∃ (ob : Obj) (kvs : List (Key × V)), H a = some (.frz ob (.dK kvs)) ∧ kvs.map (·.1) = ks ∧ DenL K H0 ρ (kvs.map (·.2)) ds
theorem ObD.mono {K : PySem.W.Frag} {H0 H0' H H' : Hp} {ρ ρ' : List Addr} {a : Addr} (x : Ex0 H0 ρ H0' ρ') (e : ∀ o, H a = some o → H' a = some o) : ∀ {o : Ob}, ObD K H0 ρ H a o → ObD K H0' ρ' H' a o
  | .lst _, ⟨vs, h, l⟩ => ⟨vs, e _ h, l.mono0 x⟩
  | .dK _ _, ⟨kvs, h, hk, l⟩ => ⟨kvs, e _ h, hk, l.mono0 x⟩
  | .lk _ _, ⟨ob, kvs, h, hk, l⟩ => ⟨ob, kvs, e _ h, hk, l.mono0 x⟩
/-- H0: what is frozen; ρ: where the store's objects stand -/
structure Rep (K : PySem.W.Frag) (H0 : Hp) (ρ : List Addr) (H : Hp) (st : Sto) : Prop where
  sub : ∀ a o, H0 a = some o → H a = some o
  len : ρ.length = st.length
  nd : ρ.Nodup
  out : ∀ a ∈ ρ, H0 a = none
  ob : ∀ (k : Nat) (a : Addr) (o : Ob), ρ[k]? = some a → st[k]? = some o → ObD K H0 ρ H a o
theorem Rep.sqT {K : PySem.W.Frag} {H0 H : Hp} {ρ : List Addr} {st : Sto} (R : Rep K H0 ρ H st) {a : Addr} {xs : List V} (h : SqT K H0 a xs) : SqT K H a xs := by
  rcases h with (h | ⟨o, h⟩) | h
  · exact .inl (.inl (R.sub _ _ h))
  · exact .inl (.inr ⟨o, R.sub _ _ h⟩)
  · exact .inr h
theorem Rep.sqL {K : PySem.W.Frag} {H0 H : Hp} {ρ : List Addr} {st : Sto} (R : Rep K H0 ρ H st) {a : Addr} {xs : List V} (h : SqL K H0 a xs) : SqL K H a xs := by
  rcases h with (h | ⟨o, h⟩) | h
  · exact .inl (.inl (R.sub _ _ h))
  · exact .inl (.inr ⟨o, R.sub _ _ h⟩)
  · exact .inr h
theorem Rep.rd {K : PySem.W.Frag} {H0 H : Hp} {ρ : List Addr} {st : Sto} (R : Rep K H0 ρ H st) {a : Addr} {u : HO} (h : Rd H0 a u) : Rd H a u := by
  rcases h with h | ⟨o, h⟩
  · exact .inl (R.sub _ _ h)
  · exact .inr ⟨o, R.sub _ _ h⟩
theorem Rep.fresh {K : PySem.W.Frag} {H0 H : Hp} {ρ : List Addr} {st : Sto} (R : Rep K H0 ρ H st) {p : Addr} (h : H p = none) : H0 p = none := by
  cases q : H0 p with
  | none => rfl
  | some o =>
    rw [R.sub p o q] at h
    cases h
theorem Rep.at {K : PySem.W.Frag} {H0 H : Hp} {ρ : List Addr} {st : Sto} (R : Rep K H0 ρ H st) {k : Nat} {o : Ob} (h : st[k]? = some o) : ∃ a, ρ[k]? = some a ∧ ObD K H0 ρ H a o := by
  have hk : k < ρ.length := by rw [R.len]; exact (List.getElem?_eq_some_iff.mp h).1
  exact ⟨ρ[k], List.getElem?_eq_getElem hk, R.ob k _ o (List.getElem?_eq_getElem hk) h⟩
theorem ObD.some {K : PySem.W.Frag} {H0 H : Hp} {ρ : List Addr} {a : Addr} : ∀ {o : Ob}, ObD K H0 ρ H a o → ∃ u, H a = some u
  | .lst _, ⟨_, h, _⟩ => ⟨_, h⟩
  | .dK _ _, ⟨_, h, _⟩ => ⟨_, h⟩
  | .lk _ _, ⟨_, _, h, _⟩ => ⟨_, h⟩
theorem Rep.notin {K : PySem.W.Frag} {H0 H : Hp} {ρ : List Addr} {st : Sto} (R : Rep K H0 ρ H st) {p : Addr} (h : H p = none) : p ∉ ρ := fun hp => by
  obtain ⟨k, hk, e⟩ := List.mem_iff_getElem.mp hp
  have hk2 : k < st.length := by rw [← R.len]; exact hk
  obtain ⟨a, ha, x⟩ := R.at (List.getElem?_eq_getElem hk2)
  rw [List.getElem?_eq_getElem hk] at ha
  have e2 : a = p := (Option.some.inj ha).symm.trans e
  obtain ⟨u, hu⟩ := x.some
  rw [e2, h] at hu
  cases hu
/-- a new frozen object -/
theorem Rep.newF {K : PySem.W.Frag} {H0 H : Hp} {ρ : List Addr} {st : Sto} (R : Rep K H0 ρ H st) {p : Addr} {o : HO} (h : H p = none) : Rep K (upd H0 p o) ρ (upd H p o) st := by
  have h0 := R.fresh h
  have nin := R.notin h
  refine ⟨fun a u e => ?_, R.len, R.nd, fun a ha => ?_, fun k a u hk hs => ?_⟩
  · by_cases z : a = p
    · subst z
      rw [upd_same] at e ⊢
      exact e
    · rw [upd_ne z] at e ⊢
      exact R.sub a u e
  · rw [upd_ne (fun (z : a = p) => nin (z ▸ ha))]
    exact R.out a ha
  · exact (R.ob k a u hk hs).mono (Ex0.new h0) fun w hw => by
      rw [upd_ne (ne_of_none hw h)]
      exact hw
/-- an untracked new object -/
theorem Rep.newX {K : PySem.W.Frag} {H0 H : Hp} {ρ : List Addr} {st : Sto} (R : Rep K H0 ρ H st) {p : Addr} {o : HO} (h : H p = none) : Rep K H0 ρ (upd H p o) st :=
  ⟨fun a u e => by rw [upd_ne (ne_of_none (R.sub a u e) h)]; exact R.sub a u e, R.len, R.nd, R.out, fun k a u hk hs => (R.ob k a u hk hs).mono Ex0.refl fun w hw => by
    rw [upd_ne (ne_of_none hw h)]
    exact hw⟩
theorem nodup_snoc {ρ : List Addr} {p : Addr} (h : ρ.Nodup) (n : p ∉ ρ) : (ρ ++ [p]).Nodup := by
  rw [List.nodup_append]
  refine ⟨h, by simp, fun a ha b hb => ?_⟩
  have e : b = p := by simpa using hb
  subst e
  intro z
  subst z
  exact n ha
/-- a new list of the store -/
theorem Rep.newL {K : PySem.W.Frag} {H0 H : Hp} {ρ : List Addr} {st : Sto} (R : Rep K H0 ρ H st) {p : Addr} {vs : List V} {ds : List D} (h : H p = none) (l : DenL K H0 ρ vs ds) : Rep K H0 (ρ ++ [p]) (upd H p (.lst vs)) (st ++ [.lst ds]) := by
  have h0 := R.fresh h
  refine ⟨fun a u e => ?_, by rw [List.length_append, List.length_append, R.len] <;> rfl, nodup_snoc R.nd (R.notin h), fun a ha => ?_, fun k a u hk hs => ?_⟩
  · rw [upd_ne (ne_of_none (R.sub a u e) h)]
    exact R.sub a u e
  · rcases List.mem_append.mp ha with z | z
    · exact R.out a z
    · have e : a = p := by simpa using z
      rw [e]
      exact h0
  · by_cases hlt : k < ρ.length
    · rw [List.getElem?_append_left hlt] at hk
      rw [List.getElem?_append_left (by rw [← R.len]; exact hlt)] at hs
      exact (R.ob k a u hk hs).mono Ex0.app fun w hw => by
        rw [upd_ne (ne_of_none hw h)]
        exact hw
    · have hk2 := (List.getElem?_eq_some_iff.mp hk).1
      rw [List.length_append, List.length_singleton] at hk2
      have ek : k = ρ.length := by omega
      subst ek
      rw [List.getElem?_append_right (Nat.le_refl _), Nat.sub_self] at hk
      have ea : p = a := by simpa using hk
      subst ea
      rw [R.len, List.getElem?_append_right (Nat.le_refl _), Nat.sub_self] at hs
      have eo : Ob.lst ds = u := by simpa using hs
      subst eo
      exact ⟨vs, upd_same, l.mono0 Ex0.app⟩
/-- a new dict of the store -/
theorem Rep.newK {K : PySem.W.Frag} {H0 H : Hp} {ρ : List Addr} {st : Sto} (R : Rep K H0 ρ H st) {p : Addr} {kvs : List (Key × V)} {ds : List D} (h : H p = none) (l : DenL K H0 ρ (kvs.map (·.2)) ds) : Rep K H0 (ρ ++ [p]) (upd H p (.dK kvs)) (st ++ [.dK (kvs.map (·.1)) ds]) := by
  have h0 := R.fresh h
  refine ⟨fun a u e => ?_, by rw [List.length_append, List.length_append, R.len] <;> rfl, nodup_snoc R.nd (R.notin h), fun a ha => ?_, fun k a u hk hs => ?_⟩
  · rw [upd_ne (ne_of_none (R.sub a u e) h)]
    exact R.sub a u e
  · rcases List.mem_append.mp ha with z | z
    · exact R.out a z
    · have e : a = p := by simpa using z
      rw [e]
      exact h0
  · by_cases hlt : k < ρ.length
    · rw [List.getElem?_append_left hlt] at hk
      rw [List.getElem?_append_left (by rw [← R.len]; exact hlt)] at hs
      exact (R.ob k a u hk hs).mono Ex0.app fun w hw => by
        rw [upd_ne (ne_of_none hw h)]
        exact hw
    · have hk2 := (List.getElem?_eq_some_iff.mp hk).1
      rw [List.length_append, List.length_singleton] at hk2
      have ek : k = ρ.length := by omega
      subst ek
      rw [List.getElem?_append_right (Nat.le_refl _), Nat.sub_self] at hk
      have ea : p = a := by simpa using hk
      subst ea
      rw [R.len, List.getElem?_append_right (Nat.le_refl _), Nat.sub_self] at hs
      have eo : Ob.dK (kvs.map (·.1)) ds = u := by simpa using hs
      subst eo
      exact ⟨kvs, upd_same, rfl, l.mono0 Ex0.app⟩
theorem Rep.inj {K : PySem.W.Frag} {H0 H : Hp} {ρ : List Addr} {st : Sto} (R : Rep K H0 ρ H st) {j k : Nat} {a : Addr} (hj : ρ[j]? = some a) (hk : ρ[k]? = some a) : j = k := by
  obtain ⟨h1, e1⟩ := List.getElem?_eq_some_iff.mp hj
  obtain ⟨h2, e2⟩ := List.getElem?_eq_some_iff.mp hk
  exact (List.getElem_inj R.nd).mp (e1.trans e2.symm)
/-- an object of the store is changed -/
theorem Rep.put {K : PySem.W.Frag} {H0 H : Hp} {ρ : List Addr} {st : Sto} (R : Rep K H0 ρ H st) {k : Nat} {a : Addr} {u : HO} {o : Ob} (hk : ρ[k]? = some a) (h : ObD K H0 ρ (upd H a u) a o) : Rep K H0 ρ (upd H a u) (st.set k o) := by
  have h0 : H0 a = none := R.out a (List.mem_of_getElem? hk)
  refine ⟨fun b w e => ?_, by rw [List.length_set]; exact R.len, R.nd, R.out, fun j b w hj hs => ?_⟩
  · rw [upd_ne (ne_of_none e h0)]
    exact R.sub b w e
  · by_cases e : j = k
    · subst e
      rw [hk] at hj
      cases hj
      rw [List.getElem?_set_self (by rw [← R.len]; exact (List.getElem?_eq_some_iff.mp hk).1)] at hs
      cases hs
      exact h
    · rw [List.getElem?_set_ne (fun z => e z.symm)] at hs
      have nab : b ≠ a := fun z => e (R.inj (z ▸ hj) hk)
      exact (R.ob j b w hj hs).mono Ex0.refl fun x hx => by
        rw [upd_ne nab]
        exact hx
/-- objects are no more asked for -/
theorem Rep.cut {K : PySem.W.Frag} {H0 H : Hp} {ρ : List Addr} {st : Sto} (R : Rep K H0 ρ H st) (n : Nat) (h : ∀ (k : Nat) (a : Addr) (o : Ob), (ρ.take n)[k]? = some a → (st.take n)[k]? = some o → ObD K H0 ρ H a o → ObD K H0 (ρ.take n) H a o) : Rep K H0 (ρ.take n) H (st.take n) := by
  refine ⟨R.sub, by rw [List.length_take, List.length_take, R.len], R.nd.sublist (List.take_sublist _ _), fun a ha => R.out a (List.mem_of_mem_take ha), fun k a o hk hs => h k a o hk hs ?_⟩
  have hk2 := (List.getElem?_eq_some_iff.mp hk).1
  rw [List.length_take] at hk2
  have hn : k < n := by omega
  rw [List.getElem?_take_of_lt hn] at hk hs
  exact R.ob k a o hk hs

/-- the slots -/
structure EnvR (K : PySem.W.Frag) (H0 : Hp) (ρ : List Addr) (σ : L2.St) (env : Env) : Prop where
  len : σ.length = env.length
  at_ : ∀ (i : Nat) (d : D), env[i]? = some (some d) → ∃ v, σ[i]? = some (some v) ∧ Den K H0 ρ v d
theorem EnvR.mono0 {K : PySem.W.Frag} {H H' : Hp} {ρ ρ' : List Addr} {σ : L2.St} {env : Env} (x : Ex0 H ρ H' ρ') (e : EnvR K H ρ σ env) : EnvR K H' ρ' σ env :=
  ⟨e.len, fun i d h => by
    obtain ⟨v, a, b⟩ := e.at_ i d h
    exact ⟨v, a, b.mono0 x⟩⟩
theorem EnvR.set {K : PySem.W.Frag} {H : Hp} {ρ : List Addr} {σ : L2.St} {env : Env} (e : EnvR K H ρ σ env) (i : Nat) {v : V} {d : D} (h : Den K H ρ v d) : EnvR K H ρ (σ.set i (some v)) (env.set i (some d)) := by
  refine ⟨by rw [List.length_set, List.length_set, e.len], fun j d' hj => ?_⟩
  by_cases q : i = j
  · subst q
    have hl := (List.getElem?_eq_some_iff.mp hj).1
    rw [List.length_set] at hl
    rw [List.getElem?_set_self hl] at hj
    cases hj
    exact ⟨v, by rw [List.getElem?_set_self (by rw [e.len]; exact hl)], h⟩
  · rw [List.getElem?_set_ne q] at hj
    rw [List.getElem?_set_ne q]
    exact e.at_ j d' hj
theorem EnvR.unset {K : PySem.W.Frag} {H : Hp} {ρ : List Addr} {σ : L2.St} {env : Env} (e : EnvR K H ρ σ env) (i : Nat) (x : Option V) : EnvR K H ρ (σ.set i x) (env.set i none) := by
  refine ⟨by rw [List.length_set, List.length_set, e.len], fun j d' hj => ?_⟩
  by_cases q : i = j
  · subst q
    have hl := (List.getElem?_eq_some_iff.mp hj).1
    rw [List.length_set] at hl
    rw [List.getElem?_set_self hl] at hj
    cases hj
  · rw [List.getElem?_set_ne q] at hj
    rw [List.getElem?_set_ne q]
    exact e.at_ j d' hj

/-! ### a step: what is frozen stays, the store's places stay, what else is tracked stays -/
structure Ext (H0 : Hp) (ρ : List Addr) (H : Hp) (H0' : Hp) (ρ' : List Addr) (H' : Hp) : Prop where
  e : Ex0 H0 ρ H0' ρ'
  f : ∀ a o, H a = some o → a ∉ ρ → a ∉ ρ' ∧ (H0 a = none → H0' a = none) ∧ (H' a = some o ∨ (isDictO o ∧ ∃ ob, H' a = some (.frz ob o)))
  z : ∀ a ob u, H a = some (.frz ob u) → H' a = some (.frz ob u)
theorem Ext.refl {H0 H : Hp} {ρ : List Addr} : Ext H0 ρ H H0 ρ H := ⟨Ex0.refl, fun _ _ e n => ⟨n, id, .inl e⟩, fun _ _ _ e => e⟩
theorem Ext.trans {H0 H H1 G1 H2 G2 : Hp} {ρ ρ1 ρ2 : List Addr} (a : Ext H0 ρ H H1 ρ1 G1) (b : Ext H1 ρ1 G1 H2 ρ2 G2) : Ext H0 ρ H H2 ρ2 G2 := by
  refine ⟨a.e.trans b.e, fun x o e n => ?_, fun x ob u e => b.z x ob u (a.z x ob u e)⟩
  obtain ⟨n1, k1, q⟩ := a.f x o e n
  rcases q with q | ⟨hd, ob, q⟩
  · obtain ⟨n2, k2, z⟩ := b.f x o q n1
    exact ⟨n2, k2 ∘ k1, z⟩
  · obtain ⟨n2, k2, z⟩ := b.f x _ q n1
    refine ⟨n2, k2 ∘ k1, ?_⟩
    rcases z with z | ⟨z, _⟩
    · exact .inr ⟨hd, ob, z⟩
    · exact z.elim
theorem Ext.newF {H0 H : Hp} {ρ : List Addr} {p : Addr} {o : HO} (h0 : H0 p = none) (h : H p = none) : Ext H0 ρ H (upd H0 p o) ρ (upd H p o) :=
  ⟨Ex0.new h0, fun a u e n => ⟨n, fun z => by rw [upd_ne (ne_of_none e h)]; exact z, .inl (by rw [upd_ne (ne_of_none e h)]; exact e)⟩, fun a ob u e => by rw [upd_ne (ne_of_none e h)]; exact e⟩
theorem Ext.newX {H0 H : Hp} {ρ : List Addr} {p : Addr} {o : HO} (h : H p = none) : Ext H0 ρ H H0 ρ (upd H p o) :=
  ⟨Ex0.refl, fun a u e n => ⟨n, id, .inl (by rw [upd_ne (ne_of_none e h)]; exact e)⟩, fun a ob u e => by rw [upd_ne (ne_of_none e h)]; exact e⟩
theorem Ext.newO {H0 H : Hp} {ρ : List Addr} {p : Addr} {o : HO} (h : H p = none) : Ext H0 ρ H H0 (ρ ++ [p]) (upd H p o) :=
  ⟨Ex0.app, fun a u e n => ⟨fun z => (List.mem_append.mp z).elim n fun z => ne_of_none e h (by simpa using z), id, .inl (by rw [upd_ne (ne_of_none e h)]; exact e)⟩, fun a ob u e => by rw [upd_ne (ne_of_none e h)]; exact e⟩
theorem Ext.put {H0 H : Hp} {ρ : List Addr} {a : Addr} {o w : HO} (h : a ∈ ρ) (hw : H a = some w) (nz : ∀ ob u, w ≠ .frz ob u) : Ext H0 ρ H H0 ρ (upd H a o) :=
  ⟨Ex0.refl, fun b u e n => ⟨n, id, .inl (by rw [upd_ne (fun (z : b = a) => n (z ▸ h))]; exact e)⟩, fun b ob u e => by
    rw [upd_ne (fun (z : b = a) => nz ob u (by rw [z, hw] at e; exact Option.some.inj e))]
    exact e⟩
theorem Den.mono {K : PySem.W.Frag} {H H' G G' : Hp} {ρ ρ' : List Addr} {v : V} {d : D} (h : Den K H ρ v d) (x : Ext H ρ G H' ρ' G') : Den K H' ρ' v d := Den.mono0 x.e h
theorem DenL.mono {K : PySem.W.Frag} {H H' G G' : Hp} {ρ ρ' : List Addr} {v : List V} {d : List D} (h : DenL K H ρ v d) (x : Ext H ρ G H' ρ' G') : DenL K H' ρ' v d := DenL.mono0 x.e h
theorem EnvR.mono {K : PySem.W.Frag} {H H' G G' : Hp} {ρ ρ' : List Addr} {σ : L2.St} {env : Env} (h : EnvR K H ρ σ env) (x : Ext H ρ G H' ρ' G') : EnvR K H' ρ' σ env := EnvR.mono0 x.e h

/-! ### results -/
inductive Res (α : Type) where
  | ok (a : α) (s : Sto) | ex (c f : Str) (d : D) (s : Sto) | no
def Res.bind {α β : Type} (r : Res α) (k : α → Sto → Res β) : Res β := match r with
  | .ok a s => k a s
  | .ex c f d s => .ex c f d s
  | .no => .no
@[simp] theorem Res.bind_ok {α β : Type} (a : α) (s : Sto) (k : α → Sto → Res β) : (Res.ok a s).bind k = k a s := rfl
@[simp] theorem Res.bind_ex {α β : Type} (c f : Str) (d : D) (s : Sto) (k : α → Sto → Res β) : (Res.ex c f d s : Res α).bind k = .ex c f d s := rfl
@[simp] theorem Res.bind_no {α β : Type} (k : α → Sto → Res β) : (Res.no : Res α).bind k = .no := rfl
inductive Ctl where
  | nx (e : Env) (s : Sto) | rt (d : D) (s : Sto) | bk (e : Env) (s : Sto) | ct (e : Env) (s : Sto) | ex (c f : Str) (d : D) (e : Env) (s : Sto) | no
abbrev ExpD := Env → Sto → Res D
abbrev ArgD := Env → Sto → Res (List D)
abbrev TstD := Env → Sto → Res Bool
abbrev StmD := Env → Sto → Ctl
abbrev TgtD := D → Env → Sto → Res Env
abbrev Sem := List D → Sto → Res D

/-- what a result asks of what follows -/
def Sat {α β : Type} (R : Hp → List Addr → β → α → Prop) (K : PySem.W.Frag) (cm : Str → Addr) (Wx : Value → Option Addr → Hp → Prop) (H0 : Hp) (ρ : List Addr) (H : Hp) (r : Res α) (Q : β → Hp → Prop) : Prop := match r with
  | .ok a st' => ∀ b H0' ρ' H', Ext H0 ρ H H0' ρ' H' → Rep K H0' ρ' H' st' → R H0' ρ' b a → Q b H'
  | .ex c f d st' => ∀ dd v H0' ρ' H', Ext H0 ρ H H0' ρ' H' → Rep K H0' ρ' H' st' → Den K H0' ρ' v d → H' dd = some (.xd [(f, v)]) → Wx (.ref (cm c)) (some dd) H'
  | .no => False
theorem Sat.ext {α β : Type} {R : Hp → List Addr → β → α → Prop} {K : PySem.W.Frag} {cm : Str → Addr} {Wx : Value → Option Addr → Hp → Prop} {H0 H H1 G1 : Hp} {ρ ρ1 : List Addr} {r : Res α} {Q : β → Hp → Prop} (h : Sat R K cm Wx H0 ρ H r Q) (x : Ext H0 ρ H H1 ρ1 G1) :
    Sat R K cm Wx H1 ρ1 G1 r Q := by
  cases r with
  | ok a st => exact fun b H0' ρ' H' y => h b H0' ρ' H' (x.trans y)
  | ex c f d st => exact fun dd v H0' ρ' H' y => h dd v H0' ρ' H' (x.trans y)
  | no => exact h
theorem Sat.bind {α β α' β' : Type} {R : Hp → List Addr → β → α → Prop} {R' : Hp → List Addr → β' → α' → Prop} {K : PySem.W.Frag} {cm : Str → Addr} {Wx : Value → Option Addr → Hp → Prop} {H0 H : Hp} {ρ : List Addr} {r : Res α} {k : α → Sto → Res α'} {Q : β' → Hp → Prop}
    (h : Sat R' K cm Wx H0 ρ H (r.bind k) Q) : Sat R K cm Wx H0 ρ H r fun b H1 => ∃ H0' ρ' a st', Ext H0 ρ H H0' ρ' H1 ∧ Rep K H0' ρ' H1 st' ∧ R H0' ρ' b a ∧ Sat R' K cm Wx H0' ρ' H1 (k a st') Q := by
  cases r with
  | ok a st => exact fun b H0' ρ' H' x y z => ⟨H0', ρ', a, st, x, y, z, Sat.ext h x⟩
  | ex c f d st => exact h
  | no => exact h
theorem Sat.mono {α β : Type} {R : Hp → List Addr → β → α → Prop} {K : PySem.W.Frag} {cm : Str → Addr} {Wx : Value → Option Addr → Hp → Prop} {H0 H : Hp} {ρ : List Addr} {r : Res α} {Q Q' : β → Hp → Prop} (h : Sat R K cm Wx H0 ρ H r Q) (q : ∀ b H, Q b H → Q' b H) : Sat R K cm Wx H0 ρ H r Q' := by
  cases r with
  | ok a st => exact fun b H0' ρ' H' x y z => q _ _ (h b H0' ρ' H' x y z)
  | ex c f d st => exact h
  | no => exact h

section
variable (K : PySem.W.Frag) (cm : Str → Addr) (W : WX)
/-- the readings -/
def tD (f : ExpD) : TE := fun σ H Q => ∃ H0 ρ env st, Rep K H0 ρ H st ∧ EnvR K H0 ρ σ env ∧ Sat (Den K) K cm (fun c d H' => W c d σ H') H0 ρ H (f env st) Q
def tDA (f : ArgD) : TA := fun σ H Q => ∃ H0 ρ env st, Rep K H0 ρ H st ∧ EnvR K H0 ρ σ env ∧ Sat (DenL K) K cm (fun c d H' => W c d σ H') H0 ρ H (f env st) Q
def tDT (f : TstD) : TT := fun σ H Q => ∃ H0 ρ env st, Rep K H0 ρ H st ∧ EnvR K H0 ρ σ env ∧ Sat (fun _ _ (b a : Bool) => b = a) K cm (fun c d H' => W c d σ H') H0 ρ H (f env st) Q
def SatS (D : Ends) (H0 : Hp) (ρ : List Addr) (H : Hp) : Ctl → Prop
  | .nx env st => ∀ σ' H0' ρ' H', Ext H0 ρ H H0' ρ' H' → Rep K H0' ρ' H' st → EnvR K H0' ρ' σ' env → D.nx σ' H'
  | .bk env st => ∀ σ' H0' ρ' H', Ext H0 ρ H H0' ρ' H' → Rep K H0' ρ' H' st → EnvR K H0' ρ' σ' env → D.bk σ' H'
  | .ct env st => ∀ σ' H0' ρ' H', Ext H0 ρ H H0' ρ' H' → Rep K H0' ρ' H' st → EnvR K H0' ρ' σ' env → D.ct σ' H'
  | .rt d st => ∀ v H0' ρ' H', Ext H0 ρ H H0' ρ' H' → Rep K H0' ρ' H' st → Den K H0' ρ' v d → D.rt v H'
  | .ex c f d env st => ∀ dd v σ' H0' ρ' H', Ext H0 ρ H H0' ρ' H' → Rep K H0' ρ' H' st → EnvR K H0' ρ' σ' env → Den K H0' ρ' v d → H' dd = some (.xd [(f, v)]) → W (.ref (cm c)) (some dd) σ' H'
  | .no => False
def tS (s : StmD) : TS := fun D σ H => ∃ H0 ρ env st, Rep K H0 ρ H st ∧ EnvR K H0 ρ σ env ∧ SatS K cm W D H0 ρ H (s env st)
def tG (g : TgtD) : TG := fun v σ H k => ∃ H0 ρ env st d, Rep K H0 ρ H st ∧ EnvR K H0 ρ σ env ∧ Den K H0 ρ v d ∧ Sat (EnvR K) K cm (fun c d H' => W c d σ H') H0 ρ H (g d env st) k
def tGs (g : List D → Env → Sto → Res Env) : TGs := fun vs σ H k => ∃ H0 ρ env st ds, Rep K H0 ρ H st ∧ EnvR K H0 ρ σ env ∧ DenL K H0 ρ vs ds ∧ Sat (EnvR K) K cm (fun c d H' => W c d σ H') H0 ρ H (g ds env st) k
end
theorem SatS.ext {K : PySem.W.Frag} {cm : Str → Addr} {W : WX} {D : Ends} {H0 H H1 G1 : Hp} {ρ ρ1 : List Addr} {r : Ctl} (h : SatS K cm W D H0 ρ H r) (x : Ext H0 ρ H H1 ρ1 G1) : SatS K cm W D H1 ρ1 G1 r := by
  cases r with
  | nx e st => exact fun σ' H0' ρ' H' y => h σ' H0' ρ' H' (x.trans y)
  | bk e st => exact fun σ' H0' ρ' H' y => h σ' H0' ρ' H' (x.trans y)
  | ct e st => exact fun σ' H0' ρ' H' y => h σ' H0' ρ' H' (x.trans y)
  | rt d st => exact fun v H0' ρ' H' y => h v H0' ρ' H' (x.trans y)
  | ex c f d e st => exact fun dd v σ' H0' ρ' H' y => h dd v σ' H0' ρ' H' (x.trans y)
  | no => exact h
end Z

set_option maxHeartbeats 4000000
namespace Z
open PySem PySem.Spec PyProof.Rows L2

theorem PE.imp {X : Cx} {e : Expr} {t t' : TE} (h : PE X e t) (i : ∀ σ H Q, t' σ H Q → t σ H Q) : PE X e t' := ⟨fun pins s σ H Q I q => h.run pins s σ H Q I (i σ H Q q)⟩
theorem PT.imp {X : Cx} {e : Expr} {t t' : TT} (h : PT X e t) (i : ∀ σ H Q, t' σ H Q → t σ H Q) : PT X e t' := ⟨fun pins s σ H Q I q => h.run pins s σ H Q I (i σ H Q q)⟩
theorem PA.imp {X : Cx} {e : List Expr} {t t' : TA} (h : PA X e t) (i : ∀ σ H Q, t' σ H Q → t σ H Q) : PA X e t' := ⟨fun pos pins s σ H Q I q => h.run pos pins s σ H Q I (i σ H Q q)⟩
theorem PS.imp {X : Cx} {e : Stmt} {t t' : TS} (h : PS X e t) (i : ∀ D σ H, t' D σ H → t D σ H) : PS X e t' := ⟨fun pins s σ H D I q => h.run pins s σ H D I (i D σ H q)⟩
theorem PSs.imp {X : Cx} {e : List Stmt} {t t' : TS} (h : PSs X e t) (i : ∀ D σ H, t' D σ H → t D σ H) : PSs X e t' := ⟨fun pins s σ H D I q => h.run pins s σ H D I (i D σ H q)⟩

/-- what a def knows as it is walked: its context, the error classes' places, what leaves it -/
structure DE (X : Cx) (cm : Str → Addr) (W : WX) (e : Expr) (f : ExpD) : Prop where
  pe : PE X e (tD X.K cm W f)
structure DA (X : Cx) (cm : Str → Addr) (W : WX) (es : List Expr) (f : ArgD) : Prop where
  pa : PA X es (tDA X.K cm W f)
structure DT (X : Cx) (cm : Str → Addr) (W : WX) (e : Expr) (f : TstD) : Prop where
  pt : PT X e (tDT X.K cm W f)

section
variable {X : Cx} {cm : Str → Addr} {W : WX} {a b : Expr} {fa fb : ExpD} {pos : Pos}

/-! ### names, constants -/
def fVar (i : Nat) : ExpD := fun env st => match env[i]? with
  | some (some d) => .ok d st
  | _ => .no
def fC (d : D) : ExpD := fun _ st => .ok d st
theorem de_var (i : Nat) {x : Str} {pos : Pos} (hN : X.N[i]? = some x := by rfl) (hv : Vis X.env.scope x := by first | exact Or.inl rfl | exact Or.inr (Or.inl rfl) | exact Or.inr (Or.inr rfl)) (hd : (x == ("__debug__" : Str)) = false := by decide)
    (hcd : (x == ("__classdict__" : Str)) = false := by decide) : DE X cm W (.Name x pos) (fVar i) := ⟨PE.imp (pe_var hN hv hd hcd) fun σ H Q ⟨H0, ρ, env, st, R, E, h⟩ => by
  have h : Sat (Den X.K) X.K cm (fun c d H' => W c d σ H') H0 ρ H (match env[i]? with | some (some d) => .ok d st | _ => .no) Q := h
  cases e : env[i]? with
  | none => rw [e] at h; exact h.elim
  | some o =>
    cases o with
    | none => rw [e] at h; exact h.elim
    | some d =>
      rw [e] at h
      obtain ⟨v, hv, hd⟩ := E.at_ i d e
      exact ⟨v, hv, h v H0 ρ H Ext.refl R hd⟩⟩
theorem de_c {e : Expr} {v : V} {d : D} (h : PE X e (tC v)) (hd : ∀ K H ρ, Den K H ρ v d) : DE X cm W e (fC d) := ⟨PE.imp h fun σ H Q ⟨H0, ρ, env, st, R, E, h⟩ => h v H0 ρ H Ext.refl R (hd _ _ _)⟩
theorem de_int {i j pos} : DE X cm W (.Constant (.int i) j pos) (fC (.int i)) := de_c pe_int fun _ _ _ => .int i
theorem de_bl {b j pos} : DE X cm W (.Constant (.bool b) j pos) (fC (.bl b)) := de_c pe_bl fun _ _ _ => .bl b
theorem de_non {j pos} : DE X cm W (.Constant .none j pos) (fC .non) := de_c pe_non fun _ _ _ => .non
theorem de_str {x j pos} : DE X cm W (.Constant (.str x) j pos) (fC (.str x)) := de_c pe_str fun _ _ _ => .str x
theorem de_gint {x : Str} {i : Int} {pos : Pos} (hg : Gl X x) (hm : ∃ t, X.mg x = some (.int i t)) (hd : (x == ("__debug__" : Str)) = false := by decide) : DE X cm W (.Name x pos) (fC (.int i)) := by
  obtain ⟨t, hm⟩ := hm
  exact de_c (pe_glob hg hm (v := .int i) ⟨t, rfl⟩ hd) fun _ _ _ => .int i

/-! ### argument lists -/
def fNil : ArgD := fun _ st => .ok [] st
def fCons (f : ExpD) (g : ArgD) : ArgD := fun env st => (f env st).bind fun d s1 => (g env s1).bind fun ds s2 => .ok (d :: ds) s2
theorem da_nil : DA X cm W [] fNil := ⟨PA.imp pa_nil fun σ H Q ⟨H0, ρ, env, st, R, E, h⟩ => h [] H0 ρ H Ext.refl R .nil⟩
theorem da_cons {e : Expr} {es : List Expr} {f : ExpD} {g : ArgD} (ha : DE X cm W e f) (hr : DA X cm W es g) (hs : starEach (e :: es) X.env = (false, eval e X.env) :: starEach es X.env := by rfl) : DA X cm W (e :: es) (fCons f g) :=
  ⟨PA.imp (pa_cons ha.pe hr.pa hs) fun σ H Q ⟨H0, ρ, env, st, R, E, h⟩ => by
    refine ⟨H0, ρ, env, st, R, E, Sat.mono (Sat.bind (R := Den X.K) h) ?_⟩
    rintro v H1 ⟨H0', ρ', d, s1, x, R1, dn, h1⟩
    refine ⟨H0', ρ', env, s1, R1, E.mono x, Sat.mono (Sat.bind (R := DenL X.K) h1) ?_⟩
    rintro vs H2 ⟨H0'', ρ'', ds, s2, x2, R2, dn2, h2⟩
    exact h2 _ H0'' ρ'' H2 Ext.refl R2 (.cons (dn.mono x2) dn2)⟩
/-- how many items a written argument list has -/
def ArgLen (n : Nat) (f : ArgD) : Prop := ∀ env st ds st', f env st = .ok ds st' → ds.length = n
theorem Res.bind_eq_ok {α β : Type} {r : Res α} {k : α → Sto → Res β} {b : β} {s : Sto} (h : r.bind k = .ok b s) : ∃ a s1, r = .ok a s1 ∧ k a s1 = .ok b s := by
  cases r with
  | ok a s1 => exact ⟨a, s1, rfl, h⟩
  | ex c f d s1 => cases h
  | no => cases h
theorem al_nil : ArgLen 0 fNil := fun _ _ _ _ h => by cases h; rfl
theorem al_cons {n : Nat} {f : ExpD} {g : ArgD} (h : ArgLen n g) : ArgLen (n + 1) (fCons f g) := fun env st ds st' e => by
  obtain ⟨d, s1, _, e1⟩ := Res.bind_eq_ok e
  obtain ⟨es, s2, e2, e3⟩ := Res.bind_eq_ok e1
  cases e3
  rw [List.length_cons, h env s1 es _ e2]

/-! ### operators by values -/
/-- r does what op says -/
def RealR (K : PySem.W.Frag) (cm : Str → Addr) (r : R2) (op : D → D → Sto → Res D) : Prop := ∀ (Wx : Value → Option Addr → Hp → Prop) H0 ρ H st x y dx dy (Q : VK), Rep K H0 ρ H st → Den K H0 ρ x dx → Den K H0 ρ y dy → Sat (Den K) K cm Wx H0 ρ H (op dx dy st) Q → r x y H Q
def RealU (K : PySem.W.Frag) (cm : Str → Addr) (r : V → Hp → VK → Prop) (op : D → Sto → Res D) : Prop := ∀ (Wx : Value → Option Addr → Hp → Prop) H0 ρ H st x dx (Q : VK), Rep K H0 ρ H st → Den K H0 ρ x dx → Sat (Den K) K cm Wx H0 ρ H (op dx st) Q → r x H Q
def RealC (K : PySem.W.Frag) (cm : Str → Addr) (r : List V → Hp → VK → Prop) (op : List D → Sto → Res D) : Prop := ∀ (Wx : Value → Option Addr → Hp → Prop) H0 ρ H st xs ds (Q : VK), Rep K H0 ρ H st → DenL K H0 ρ xs ds → Sat (Den K) K cm Wx H0 ρ H (op ds st) Q → r xs H Q
def fOp (op : D → D → Sto → Res D) (f g : ExpD) : ExpD := fun env st => (f env st).bind fun x s1 => (g env s1).bind fun y s2 => op x y s2
def fUn (op : D → Sto → Res D) (f : ExpD) : ExpD := fun env st => (f env st).bind fun x s1 => op x s1
def fCall (F : Sem) (g : ArgD) : ExpD := fun env st => (g env st).bind fun ds s1 => F ds s1
theorem two_imp {op : D → D → Sto → Res D} {r : R2} (hr : RealR X.K cm r op) {σ : L2.St} {H : Hp} {Q : VK} (h : tD X.K cm W (fOp op fa fb) σ H Q) : tOp r (tD X.K cm W fa) (tD X.K cm W fb) σ H Q := by
  obtain ⟨H0, ρ, env, st, R, E, h⟩ := h
  refine ⟨H0, ρ, env, st, R, E, Sat.mono (Sat.bind (R := Den X.K) h) ?_⟩
  rintro v H1 ⟨H0', ρ', d, s1, x, R1, dn, h1⟩
  refine ⟨H0', ρ', env, s1, R1, E.mono x, Sat.mono (Sat.bind (R := Den X.K) h1) ?_⟩
  rintro u H2 ⟨H0'', ρ'', d2, s2, x2, R2, dn2, h2⟩
  exact hr _ H0'' ρ'' H2 s2 v u d d2 Q R2 (dn.mono x2) dn2 h2
theorem de_op {o : Operator} {op : D → D → Sto → Res D} {r : R2} (ho : OpR X (binaryOp o) r) (hr : RealR X.K cm r op) (ha : DE X cm W a fa) (hb : DE X cm W b fb) : DE X cm W (.BinOp a o b pos) (fOp op fa fb) :=
  ⟨PE.imp (pe_op ho ha.pe hb.pe) fun σ H Q h => two_imp hr h⟩
theorem de_cmp {o : CmpOp} {op : D → D → Sto → Res D} {r : R2} (ho : OpR X (compareOp o) r) (hr : RealR X.K cm r op) (ha : DE X cm W a fa) (hb : DE X cm W b fb) (hm : behindInMarks o b = false) : DE X cm W (.Compare a [o] [b] pos) (fOp op fa fb) :=
  ⟨PE.imp (pe_cmpR ho ha.pe hb.pe hm) fun σ H Q h => two_imp hr h⟩
theorem de_un {o : UnaryOp} {op : D → Sto → Res D} {r : V → Hp → VK → Prop} (ho : UnR X (unaryOp o) r) (hr : RealU X.K cm r op) (ha : DE X cm W a fa) : DE X cm W (.UnaryOp o a pos) (fUn op fa) :=
  ⟨PE.imp (pe_un ho ha.pe) fun σ H Q ⟨H0, ρ, env, st, R, E, h⟩ => by
    refine ⟨H0, ρ, env, st, R, E, Sat.mono (Sat.bind (R := Den X.K) h) ?_⟩
    rintro v H1 ⟨H0', ρ', d, s1, x, R1, dn, h1⟩
    exact hr _ H0' ρ' H1 s1 v d Q R1 dn h1⟩
theorem call_imp {g : ArgD} {op : List D → Sto → Res D} {r : List V → Hp → VK → Prop} (hr : RealC X.K cm r op) {σ : L2.St} {H : Hp} {Q : VK} (h : tD X.K cm W (fCall op g) σ H Q) : tCB r (tDA X.K cm W g) σ H Q := by
  obtain ⟨H0, ρ, env, st, R, E, h⟩ := h
  refine ⟨H0, ρ, env, st, R, E, Sat.mono (Sat.bind (R := DenL X.K) h) ?_⟩
  rintro v H1 ⟨H0', ρ', d, s1, x, R1, dn, h1⟩
  exact hr _ H0' ρ' H1 s1 v d Q R1 dn h1
theorem de_bi {x : Str} {p : Pos} {e : Expr} {es : List Expr} {id : String} {g : ArgD} {op : List D → Sto → Res D} {r : List V → Hp → VK → Prop} (hc : CallR X (.builtin id) r) (hr : RealC X.K cm r op) (hg : Gl X x) (hm : X.mg x = none) (hv : bootBuiltins x = some (.builtin id)) (ha : DA X cm W (e :: es) g)
    (hn : x ≠ "__name__" := by decide) (hdb : (x == ("__debug__" : Str)) = false := by decide)
    (he : starEach (e :: es) X.env = (false, eval e X.env) :: starEach es X.env := by rfl) (hpl : (backTo pos (starEach es X.env)).any (·.1) = false := by rfl) : DE X cm W (.Call (.Name x p) (e :: es) [] pos) (fCall op g) :=
  ⟨PE.imp (pe_callB hc hg hm hv ha.pa hn hdb he hpl) fun σ H Q h => call_imp hr h⟩
theorem de_bty {x : Str} {p : Pos} {e : Expr} {es : List Expr} {T : String} {g : ArgD} {op : List D → Sto → Res D} {r : List V → Hp → VK → Prop} (hc : CallR X (.type T) r) (hr : RealC X.K cm r op) (hg : Gl X x) (hm : X.mg x = none) (hv : bootBuiltins x = some (.type T)) (ha : DA X cm W (e :: es) g)
    (hn : x ≠ "__name__" := by decide) (hdb : (x == ("__debug__" : Str)) = false := by decide)
    (he : starEach (e :: es) X.env = (false, eval e X.env) :: starEach es X.env := by rfl) (hpl : (backTo pos (starEach es X.env)).any (·.1) = false := by rfl) : DE X cm W (.Call (.Name x p) (e :: es) [] pos) (fCall op g) :=
  ⟨PE.imp (pe_callTy hc hg hm hv ha.pa hn hdb he hpl) fun σ H Q h => call_imp hr h⟩
theorem de_bfun {x : Str} {p : Pos} {e : Expr} {es : List Expr} {id : String} {g : ArgD} {op : List D → Sto → Res D} {r : List V → Hp → VK → Prop} (hc : CallR X (.builtin id) r) (hr : RealC X.K cm r op) (hg : Gl X x) (hm : X.mg x = some (.builtin id)) (ha : DA X cm W (e :: es) g)
    (hdb : (x == ("__debug__" : Str)) = false := by decide)
    (he : starEach (e :: es) X.env = (false, eval e X.env) :: starEach es X.env := by rfl) (hpl : (backTo pos (starEach es X.env)).any (·.1) = false := by rfl) : DE X cm W (.Call (.Name x p) (e :: es) [] pos) (fCall op g) :=
  ⟨PE.imp (pe_callBfun hc hg hm ha.pa hdb he hpl) fun σ H Q h => call_imp hr h⟩
end

/-! ### what a value is -/
def asL (st : Sto) : D → Option (List D)
  | .lst xs => some xs
  | .loc k => match st[k]? with
    | some (.lst xs) => some xs
    | _ => none
  | _ => none
/-- a list to be read -/
def asLR (st : Sto) : D → Option (List D)
  | .lst xs => some xs
  | .scr xs => some xs
  | .loc k => match st[k]? with
    | some (.lst xs) => some xs
    | _ => none
  | _ => none
def asT : D → Option (List D)
  | .tup xs => some xs
  | _ => none
def asSeq (st : Sto) : D → Option (List D)
  | .tup xs => some xs
  | .lst xs => some xs
  | .scr xs => some xs
  | .loc k => match st[k]? with
    | some (.lst xs) => some xs
    | _ => none
  | _ => none
section
variable {K : PySem.W.Frag} {H0 H : Hp} {ρ : List Addr} {st : Sto} {v : V} {d : D} {xs : List D}
theorem locL (R : Rep K H0 ρ H st) {k : Nat} {a : Addr} (h : ρ[k]? = some a) (hs : st[k]? = some (.lst xs)) : ∃ vs, H a = some (.lst vs) ∧ DenL K H0 ρ vs xs := R.ob k a _ h hs
theorem asL_ok (R : Rep K H0 ρ H st) (h : Den K H0 ρ v d) (e : asL st d = some xs) : ∃ p vs, v = .ref p ∧ H p = some (.lst vs) ∧ DenL K H0 ρ vs xs := by
  cases h with
  | lst h l =>
    cases e
    exact ⟨_, _, rfl, R.sub _ _ h, l⟩
  | @loc a k h =>
    have e : (match st[k]? with | some (.lst xs) => some xs | _ => none) = some xs := e
    cases q : st[k]? with
    | none => rw [q] at e; cases e
    | some o =>
      rw [q] at e
      cases o with
      | lst ys =>
        cases e
        obtain ⟨vs, h1, h2⟩ := locL R h q
        exact ⟨_, vs, rfl, h1, h2⟩
      | dK _ _ => cases e
      | lk _ _ => cases e
  | _ => cases e
theorem asLR_ok (R : Rep K H0 ρ H st) (h : Den K H0 ρ v d) (e : asLR st d = some xs) : ∃ p vs, v = .ref p ∧ SqL K H p vs ∧ DenL K H0 ρ vs xs := by
  cases h with
  | lst h l =>
    cases e
    exact ⟨_, _, rfl, SqL.of (R.sub _ _ h), l⟩
  | scr h l =>
    cases e
    exact ⟨_, _, rfl, R.sqL h, l⟩
  | @loc a k h =>
    have e : (match st[k]? with | some (.lst xs) => some xs | _ => none) = some xs := e
    cases q : st[k]? with
    | none => rw [q] at e; cases e
    | some o =>
      rw [q] at e
      cases o with
      | lst ys =>
        cases e
        obtain ⟨vs, h1, h2⟩ := locL R h q
        exact ⟨_, vs, rfl, SqL.of h1, h2⟩
      | dK _ _ => cases e
      | lk _ _ => cases e
  | _ => cases e
theorem asT_ok (R : Rep K H0 ρ H st) (h : Den K H0 ρ v d) (e : asT d = some xs) : ∃ p vs, v = .ref p ∧ SqT K H p vs ∧ DenL K H0 ρ vs xs := by
  cases h with
  | tup h l =>
    cases e
    exact ⟨_, _, rfl, R.sqT h, l⟩
  | _ => cases e
theorem asSeq_ok (R : Rep K H0 ρ H st) (h : Den K H0 ρ v d) (e : asSeq st d = some xs) : ∃ p vs, v = .ref p ∧ (SqL K H p vs ∨ SqT K H p vs) ∧ DenL K H0 ρ vs xs := by
  cases h with
  | tup h l =>
    cases e
    exact ⟨_, _, rfl, .inr (R.sqT h), l⟩
  | lst h l =>
    cases e
    exact ⟨_, _, rfl, .inl (SqL.of (R.sub _ _ h)), l⟩
  | scr h l =>
    cases e
    exact ⟨_, _, rfl, .inl (R.sqL h), l⟩
  | @loc a k h =>
    have e : (match st[k]? with | some (.lst xs) => some xs | _ => none) = some xs := e
    cases q : st[k]? with
    | none => rw [q] at e; cases e
    | some o =>
      rw [q] at e
      cases o with
      | lst ys =>
        cases e
        obtain ⟨vs, h1, h2⟩ := locL R h q
        exact ⟨_, vs, rfl, .inl (SqL.of h1), h2⟩
      | dK _ _ => cases e
      | lk _ _ => cases e
  | _ => cases e
end

/-! ### ints -/
def LIM : Nat := 10000000
theorem lim_le {n : Nat} (h : n ≤ LIM) : n ≤ sizeLine := Nat.le_trans h (by decide)
theorem lim_lt {n : Nat} (h : n ≤ LIM) : n < sizeLine := Nat.lt_of_le_of_lt h (by decide)
def mulOk (i j : Int) : Bool := decide (i.natAbs < 2 ^ 64) || (decide (j.natAbs < 2 ^ 64) || decide (i.natAbs.log2 + j.natAbs.log2 < 1000000))
def divOk (j : Int) : Bool := decide (j ≠ 0) && decide (j.natAbs.log2 < 9000)
def powOk (i j : Int) : Bool := decide (0 ≤ j) && (decide (j ≤ 1000000) && decide (i.natAbs < 2 ^ 64))
theorem mulOk_ok {i j : Int} (h : mulOk i j = true) : IntMulOk i j := by
  unfold mulOk at h
  rw [Bool.or_eq_true, Bool.or_eq_true] at h
  rcases h with h | h | h
  · have := of_decide_eq_true h
    exact .of_left (intBits_le_64 (by omega) (by omega))
  · have := of_decide_eq_true h
    exact .of_right (intBits_le_64 (by omega) (by omega))
  · have h2 : i.natAbs.log2 + j.natAbs.log2 < 1000000 := of_decide_eq_true h
    exact CMulW.ok h2
def oAdd : D → D → Sto → Res D
  | .int i, .int j, st => .ok (.int (i + j)) st
  | .str a, .str b, st => match decide (a.length + b.length ≤ LIM) with
    | true => .ok (.str (a ++ b)) st
    | false => .no
  | .tup a, .tup b, st => match decide (a.length + b.length ≤ LIM) with
    | true => .ok (.tup (a ++ b)) st
    | false => .no
  | x, y, st => match asL st x, asL st y with
    | some a, some b => (match decide (a.length + b.length ≤ LIM) with
      | true => .ok (.lst (a ++ b)) st
      | false => .no)
    | _, _ => .no
def oSub : D → D → Sto → Res D
  | .int i, .int j, st => .ok (.int (i - j)) st
  | _, _, _ => .no
def oMul : D → D → Sto → Res D
  | .int i, .int j, st => match mulOk i j with
    | true => .ok (.int (i * j)) st
    | false => .no
  | _, _, _ => .no
def oDiv : D → D → Sto → Res D
  | .int i, .int j, st => match divOk j with
    | true => .ok (.int (i.fdiv j)) st
    | false => .no
  | _, _, _ => .no
def oMod : D → D → Sto → Res D
  | .int i, .int j, st => match decide (j ≠ 0) with
    | true => .ok (.int (i.fmod j)) st
    | false => .no
  | _, _, _ => .no
def oPow : D → D → Sto → Res D
  | .int i, .int j, st => match powOk i j with
    | true => .ok (.int (i ^ j.toNat)) st
    | false => .no
  | _, _, _ => .no
def oNeg : D → Sto → Res D
  | .int i, st => .ok (.int (-i)) st
  | _, _ => .no
section
variable {X : Cx} {cm : Str → Addr}
theorem Den.int_inv {K : PySem.W.Frag} {H : Hp} {ρ : List Addr} {v : V} {i : Int} (h : Den K H ρ v (.int i)) : v = .int i := by cases h; rfl
theorem Den.bl_inv {K : PySem.W.Frag} {H : Hp} {ρ : List Addr} {v : V} {i : Bool} (h : Den K H ρ v (.bl i)) : v = .bl i := by cases h; rfl
theorem Den.str_inv {K : PySem.W.Frag} {H : Hp} {ρ : List Addr} {v : V} {i : Str} (h : Den K H ρ v (.str i)) : v = .str i := by cases h; rfl
theorem Den.non_inv {K : PySem.W.Frag} {H : Hp} {ρ : List Addr} {v : V} (h : Den K H ρ v .non) : v = .non := by cases h; rfl
/-- two ints alone -/
theorem real_int {r : R2} {op : D → D → Sto → Res D} {K : PySem.W.Frag} (hi : ∀ x y st, (∀ i j, x = .int i → y = .int j → False) → op x y st = .no)
    (h : ∀ (Wx : Value → Option Addr → Hp → Prop) H0 ρ H st (i j : Int) (Q : VK), Rep K H0 ρ H st → Sat (Den K) K cm Wx H0 ρ H (op (.int i) (.int j) st) Q → r (.int i) (.int j) H Q) : RealR K cm r op := by
  intro Wx H0 ρ H st x y dx dy Q R hx hy q
  by_cases c : ∃ i j, dx = .int i ∧ dy = .int j
  · obtain ⟨i, j, rfl, rfl⟩ := c
    cases hx.int_inv
    cases hy.int_inv
    exact h Wx H0 ρ H st i j Q R q
  · rw [hi dx dy st fun i j e1 e2 => c ⟨i, j, e1, e2⟩] at q
    exact q.elim
theorem op_mulD : OpR X (binaryOp .Mult) (rI (fun i j => mulOk i j = true) fun i j => .int (i * j)) := opI fun _ _ _ _ _ _ _ hc q => mul_int q (mulOk_ok hc)
theorem op_fdivD : OpR X (binaryOp .FloorDiv) (rI (fun _ j => divOk j = true) fun i j => .int (i.fdiv j)) := opI fun i j _ _ _ _ _ hc q => by
  have hc : divOk j = true := hc
  unfold divOk at hc
  rw [Bool.and_eq_true] at hc
  exact floordiv_int (of_decide_eq_true hc.1) q (.inl (PyProof.noPylong_of_log2 (of_decide_eq_true hc.2)))
theorem op_powD : OpR X (binaryOp .Pow) (rI (fun i j => powOk i j = true) fun i j => .int (i ^ j.toNat)) := opI fun i j _ _ _ _ _ hc q => by
  have hc : powOk i j = true := hc
  unfold powOk at hc
  rw [Bool.and_eq_true, Bool.and_eq_true] at hc
  exact pow_int_small (of_decide_eq_true hc.1) (of_decide_eq_true hc.2.1) (of_decide_eq_true hc.2.2) q
theorem re_sub : RealR X.K cm (rI0 fun i j => .int (i - j)) oSub := real_int (fun x y st h => by cases x <;> cases y <;> first | rfl | exact (h _ _ rfl rfl).elim) fun Wx H0 ρ H st i j Q R q => ⟨i, j, rfl, rfl, q _ H0 ρ H Ext.refl R (.int _)⟩
theorem re_mul : RealR X.K cm (rI (fun i j => mulOk i j = true) fun i j => .int (i * j)) oMul := real_int (fun x y st h => by cases x <;> cases y <;> first | rfl | exact (h _ _ rfl rfl).elim) fun Wx H0 ρ H st i j Q R q => by
  cases e : mulOk i j with
  | true => simp only [oMul, e] at q; exact ⟨i, j, rfl, rfl, e, q _ H0 ρ H Ext.refl R (.int _)⟩
  | false => simp only [oMul, e] at q; exact q.elim
theorem re_div : RealR X.K cm (rI (fun _ j => divOk j = true) fun i j => .int (i.fdiv j)) oDiv := real_int (fun x y st h => by cases x <;> cases y <;> first | rfl | exact (h _ _ rfl rfl).elim) fun Wx H0 ρ H st i j Q R q => by
  cases e : divOk j with
  | true => simp only [oDiv, e] at q; exact ⟨i, j, rfl, rfl, e, q _ H0 ρ H Ext.refl R (.int _)⟩
  | false => simp only [oDiv, e] at q; exact q.elim
theorem re_mod : RealR X.K cm (rI (fun _ j => j ≠ 0) fun i j => .int (i.fmod j)) oMod := real_int (fun x y st h => by cases x <;> cases y <;> first | rfl | exact (h _ _ rfl rfl).elim) fun Wx H0 ρ H st i j Q R q => by
  cases e : decide (j ≠ 0) with
  | true => simp only [oMod, e] at q; exact ⟨i, j, rfl, rfl, of_decide_eq_true e, q _ H0 ρ H Ext.refl R (.int _)⟩
  | false => simp only [oMod, e] at q; exact q.elim
theorem re_pow : RealR X.K cm (rI (fun i j => powOk i j = true) fun i j => .int (i ^ j.toNat)) oPow := real_int (fun x y st h => by cases x <;> cases y <;> first | rfl | exact (h _ _ rfl rfl).elim) fun Wx H0 ρ H st i j Q R q => by
  cases e : powOk i j with
  | true => simp only [oPow, e] at q; exact ⟨i, j, rfl, rfl, e, q _ H0 ρ H Ext.refl R (.int _)⟩
  | false => simp only [oPow, e] at q; exact q.elim
theorem re_neg : RealU X.K cm (rU fun i => .int (-i)) oNeg := fun Wx H0 ρ H st x dx Q R hx q => by
  cases dx with
  | int i => cases hx.int_inv; exact ⟨i, rfl, q _ H0 ρ H Ext.refl R (.int _)⟩
  | _ => exact q.elim
/-- + of ints, texts, tuples, lists -/
def rAddD (K : PySem.W.Frag) : R2 := fun x y H Q => (rI0 fun i j => .int (i + j)) x y H Q ∨ ((∃ i j, x = V.str i ∧ y = V.str j ∧ i.length + j.length ≤ sizeLine ∧ Q (.str (i ++ j)) H) ∨ (rCatA K x y H Q ∨ rCat x y H Q))
theorem op_addD : OpR X (binaryOp .Add) (rAddD X.K) := op_add.or (op_add_str.or (op_catA.or op_cat))
theorem Sat.okF {K : PySem.W.Frag} {cm : Str → Addr} {Wx : Value → Option Addr → Hp → Prop} {H0 H : Hp} {ρ : List Addr} {st : Sto} {d : D} {Q : VK} {o : HO} (R : Rep K H0 ρ H st) (h : Sat (Den K) K cm Wx H0 ρ H (.ok d st) Q)
    (hd : ∀ p, H p = none → Den K (upd H0 p o) ρ (.ref p) d) (p : Addr) (hp : H p = none) : Q (.ref p) (upd H p o) := h _ (upd H0 p o) ρ _ (Ext.newF (R.fresh hp) hp) (R.newF hp) (hd p hp)
theorem den_newT {K : PySem.W.Frag} {H0 H : Hp} {ρ : List Addr} {st : Sto} {vs : List V} {ds : List D} (R : Rep K H0 ρ H st) (l : DenL K H0 ρ vs ds) (p : Addr) (hp : H p = none) : Den K (upd H0 p (.tup vs)) ρ (.ref p) (.tup ds) :=
  .tup (SqT.of upd_same) (l.mono0 (Ex0.new (R.fresh hp)))
theorem den_newL {K : PySem.W.Frag} {H0 H : Hp} {ρ : List Addr} {st : Sto} {vs : List V} {ds : List D} (R : Rep K H0 ρ H st) (l : DenL K H0 ρ vs ds) (p : Addr) (hp : H p = none) : Den K (upd H0 p (.lst vs)) ρ (.ref p) (.lst ds) :=
  .lst upd_same (l.mono0 (Ex0.new (R.fresh hp)))
theorem re_add : RealR X.K cm (rAddD X.K) oAdd := by
  intro Wx H0 ρ H st x y dx dy Q R hx hy q
  have lists : (∃ a b, asL st dx = some a ∧ asL st dy = some b ∧ decide (a.length + b.length ≤ LIM) = true ∧ Sat (Den X.K) X.K cm Wx H0 ρ H (.ok (.lst (a ++ b)) st) Q) → rAddD X.K x y H Q := fun ⟨a, b, ea, eb, el, q⟩ => by
    obtain ⟨p, vs, rfl, hp, l1⟩ := asL_ok R hx ea
    obtain ⟨p2, ws, rfl, hp2, l2⟩ := asL_ok R hy eb
    refine .inr (.inr (.inr ⟨p, p2, vs, ws, rfl, rfl, hp, hp2, ?_, Sat.okF R q (den_newL R (l1.append l2))⟩))
    rw [l1.length, l2.length]
    exact lim_le (of_decide_eq_true el)
  have go : (oAdd dx dy st = match asL st dx, asL st dy with | some a, some b => (match decide (a.length + b.length ≤ LIM) with | true => .ok (.lst (a ++ b)) st | false => .no) | _, _ => .no) → rAddD X.K x y H Q := fun e => by
    rw [e] at q
    apply lists
    cases ea : asL st dx with
    | none => rw [ea] at q; exact q.elim
    | some a =>
      cases eb : asL st dy with
      | none => rw [ea, eb] at q; exact q.elim
      | some b =>
        rw [ea, eb] at q
        cases el : decide (a.length + b.length ≤ LIM) with
        | true => simp only [el] at q; exact ⟨a, b, rfl, rfl, el, q⟩
        | false => simp only [el] at q; exact q.elim
  cases dx with
  | int i =>
    cases dy with
    | int j =>
      cases hx.int_inv
      cases hy.int_inv
      exact .inl ⟨i, j, rfl, rfl, q _ H0 ρ H Ext.refl R (.int _)⟩
    | _ => exact go rfl
  | str a =>
    cases dy with
    | str b =>
      cases hx.str_inv
      cases hy.str_inv
      simp only [oAdd] at q
      cases el : decide (a.length + b.length ≤ LIM) with
      | true => simp only [el] at q; exact .inr (.inl ⟨a, b, rfl, rfl, lim_le (of_decide_eq_true el), q _ H0 ρ H Ext.refl R (.str _)⟩)
      | false => simp only [el] at q; exact q.elim
    | _ => exact go rfl
  | tup a =>
    cases dy with
    | tup b =>
      obtain ⟨p, vs, rfl, hp, l1⟩ := asT_ok R hx (xs := a) rfl
      obtain ⟨p2, ws, rfl, hp2, l2⟩ := asT_ok R hy (xs := b) rfl
      simp only [oAdd] at q
      cases el : decide (a.length + b.length ≤ LIM) with
      | false => simp only [el] at q; exact q.elim
      | true =>
        simp only [el] at q
        refine .inr (.inr (.inl ⟨p, p2, vs, ws, rfl, rfl, hp, hp2, ?_, fun e => ?_, fun _ e => ?_, fun _ _ => Sat.okF R q (den_newT R (l1.append l2))⟩))
        · rw [l1.length, l2.length]
          exact lim_le (of_decide_eq_true el)
        · subst e
          cases l1
          exact q _ H0 ρ H Ext.refl R hy
        · subst e
          cases l2
          rw [List.append_nil] at q
          exact q _ H0 ρ H Ext.refl R hx
    | _ => exact go rfl
  | _ => exact go (by cases dy <;> rfl)

/-! ### comparisons -/
/-! the data that == looks at -/
mutual
def toPy : D → Option PyData
  | .non => some .none
  | .bl b => some (.bool b)
  | .int i => some (.int i)
  | .str x => some (.str x)
  | .tup xs => (toPyL xs).map .tuple
  | .lst xs => (toPyL xs).map .list
  | .scr xs => (toPyL xs).map .list
  | _ => none
def toPyL : List D → Option (List PyData)
  | [] => some []
  | x :: xs => match toPy x, toPyL xs with
    | some y, some ys => some (y :: ys)
    | _, _ => none
end
def toPyS (st : Sto) : D → Option PyData
  | .loc k => match st[k]? with
    | some (.lst xs) => (toPyL xs).map .list
    | _ => none
  | d => toPy d
mutual
theorem toPy_ok {K : PySem.W.Frag} {H0 H : Hp} {ρ : List Addr} {st : Sto} (R : Rep K H0 ρ H st) : ∀ (d : D) (v : V) (p : PyData), Den K H0 ρ v d → toPy d = some p → Dp K H v p
  | .non, _, _, h, e => by cases h; cases e; exact .non
  | .bl b, _, _, h, e => by cases h; cases e; exact .bl b
  | .int i, _, _, h, e => by cases h; cases e; exact .int i
  | .str x, _, _, h, e => by cases h; cases e; exact .str x
  | .tup xs, _, _, h, e => by
    cases h with
    | tup h l =>
      obtain ⟨ps, e1, e2⟩ := Option.map_eq_some_iff.mp e
      subst e2
      exact .tup (R.sqT h) (toPyL_ok R xs _ ps l e1)
  | .lst xs, _, _, h, e => by
    cases h with
    | lst h l =>
      obtain ⟨ps, e1, e2⟩ := Option.map_eq_some_iff.mp e
      subst e2
      exact .lst (SqL.of (R.sub _ _ h)) (toPyL_ok R xs _ ps l e1)
  | .scr xs, _, _, h, e => by
    cases h with
    | scr h l =>
      obtain ⟨ps, e1, e2⟩ := Option.map_eq_some_iff.mp e
      subst e2
      exact .lst (R.sqL h) (toPyL_ok R xs _ ps l e1)
  | .dct _ _, _, _, _, e => by cases e
  | .loc _, _, _, _, e => by cases e
theorem toPyL_ok {K : PySem.W.Frag} {H0 H : Hp} {ρ : List Addr} {st : Sto} (R : Rep K H0 ρ H st) : ∀ (ds : List D) (vs : List V) (ps : List PyData), DenL K H0 ρ vs ds → toPyL ds = some ps → DpAll K H vs ps
  | [], _, _, h, e => by cases h; cases e; exact .nil
  | d :: ds, _, _, h, e => by
    cases h with
    | cons h l =>
      have e : (match toPy d, toPyL ds with | some y, some ys => some (y :: ys) | _, _ => none) = some _ := e
      cases e1 : toPy d with
      | none => rw [e1] at e; cases e
      | some y =>
        cases e2 : toPyL ds with
        | none => rw [e1, e2] at e; cases e
        | some ys =>
          rw [e1, e2] at e
          cases e
          exact .cons (toPy_ok R d _ y h e1) (toPyL_ok R ds _ ys l e2)
end
theorem toPyS_ok {K : PySem.W.Frag} {H0 H : Hp} {ρ : List Addr} {st : Sto} (R : Rep K H0 ρ H st) (d : D) (v : V) (p : PyData) (h : Den K H0 ρ v d) (e : toPyS st d = some p) : Dp K H v p := by
  cases d with
  | loc k =>
    cases h with
    | loc h =>
      have e : (match st[k]? with | some (.lst xs) => (toPyL xs).map PyData.list | _ => none) = some p := e
      cases q : st[k]? with
      | none => rw [q] at e; cases e
      | some o =>
        rw [q] at e
        cases o with
        | lst xs =>
          obtain ⟨ps, e1, e2⟩ := Option.map_eq_some_iff.mp e
          subst e2
          obtain ⟨vs, h1, h2⟩ := locL R h q
          exact .lst (SqL.of h1) (toPyL_ok R xs vs ps h2 e1)
        | dK _ _ => cases e
        | lk _ _ => cases e
  | _ => exact toPy_ok R _ _ _ h e
def scalD : D → D → Bool
  | .non, .non => true | .non, .int _ => true | .int _, .non => true | .non, .bl _ => true | .bl _, .non => true | .non, .str _ => true | .str _, .non => true
  | .int _, .int _ => true | .bl _, .bl _ => true | .str _, .str _ => true | .int _, .str _ => true | .str _, .int _ => true | .bl _, .str _ => true | .str _, .bl _ => true | _, _ => false
def eqScal : D → D → Bool
  | .non, .non => true
  | .int i, .int j => decide (i = j)
  | .bl b, .bl c => b == c
  | .str x, .str y => decide (x = y)
  | _, _ => false
def oEqB (x y : D) (st : Sto) : Option Bool := match scalD x y with
  | true => some (eqScal x y)
  | false => match toPyS st x, toPyS st y with
    | some p, some q => (match SeqAt.shaped p && SeqAt.shaped q with
      | true => some (PyData.eqv p q)
      | false => none)
    | _, _ => none
def oEq (x y : D) (st : Sto) : Res D := match oEqB x y st with
  | some b => .ok (.bl b) st
  | none => .no
def oNe (x y : D) (st : Sto) : Res D := match oEqB x y st with
  | some b => .ok (.bl (!b)) st
  | none => .no
theorem eqB_ok {K : PySem.W.Frag} {H0 H : Hp} {ρ : List Addr} {st : Sto} {x y : V} {dx dy : D} {b : Bool} (R : Rep K H0 ρ H st) (hx : Den K H0 ρ x dx) (hy : Den K H0 ρ y dy) (e : oEqB dx dy st = some b) :
    (scal x y = true ∧ decide (x = y) = b) ∨ ∃ d e, Dp K H x d ∧ Dp K H y e ∧ SeqAt.shaped d = true ∧ SeqAt.shaped e = true ∧ PyData.eqv d e = b := by
  unfold oEqB at e
  cases c : scalD dx dy with
  | true =>
    rw [c] at e
    refine .inl ?_
    cases dx <;> cases dy <;> first | cases c | skip
    all_goals (cases hx; cases hy; cases e; refine ⟨rfl, ?_⟩; first | rfl | (simp [eqScal]))
    all_goals (rename_i b1 b2; cases b1 <;> cases b2 <;> rfl)
  | false =>
    rw [c] at e
    refine .inr ?_
    cases e1 : toPyS st dx with
    | none => rw [e1] at e; cases e
    | some p =>
      cases e2 : toPyS st dy with
      | none => rw [e1, e2] at e; cases e
      | some q =>
        rw [e1, e2] at e
        cases e3 : SeqAt.shaped p && SeqAt.shaped q with
        | false => simp only [e3] at e; cases e
        | true =>
          simp only [e3] at e
          cases e
          have e4 := Bool.and_eq_true_iff.mp e3
          exact ⟨p, q, toPyS_ok R _ _ _ hx e1, toPyS_ok R _ _ _ hy e2, e4.1, e4.2, rfl⟩
def rEqA (K : PySem.W.Frag) : R2 := fun x y H Q => rEq x y H Q ∨ rEqD K x y H Q
def rNeA (K : PySem.W.Frag) : R2 := fun x y H Q => rNe x y H Q ∨ rNeD K x y H Q
theorem op_eqA (hu : X.A.units + 64 < cLine) : OpR X (compareOp .Eq) (rEqA X.K) := op_eq.or (op_eqD hu)
theorem op_neA (hu : X.A.units + 64 < cLine) : OpR X (compareOp .NotEq) (rNeA X.K) := op_ne.or (op_neD hu)
theorem re_eq : RealR X.K cm (rEqA X.K) oEq := by
  intro Wx H0 ρ H st x y dx dy Q R hx hy q
  unfold oEq at q
  cases e : oEqB dx dy st with
  | none => rw [e] at q; exact q.elim
  | some b =>
    rw [e] at q
    have qq := q _ H0 ρ H Ext.refl R (.bl b)
    rcases eqB_ok R hx hy e with ⟨s, rfl⟩ | ⟨d, f, h1, h2, h3, h4, rfl⟩
    · exact .inl ⟨s, qq⟩
    · exact .inr ⟨d, f, h1, h2, h3, h4, qq⟩
theorem re_ne : RealR X.K cm (rNeA X.K) oNe := by
  intro Wx H0 ρ H st x y dx dy Q R hx hy q
  unfold oNe at q
  cases e : oEqB dx dy st with
  | none => rw [e] at q; exact q.elim
  | some b =>
    rw [e] at q
    have qq := q _ H0 ρ H Ext.refl R (.bl (!b))
    rcases eqB_ok R hx hy e with ⟨s, rfl⟩ | ⟨d, f, h1, h2, h3, h4, rfl⟩
    · exact .inl ⟨s, qq⟩
    · exact .inr ⟨d, f, h1, h2, h3, h4, qq⟩
def oCmp (p : Int → Int → Bool) : D → D → Sto → Res D
  | .int i, .int j, st => .ok (.bl (p i j)) st
  | _, _, _ => .no
theorem re_cmp {p : Int → Int → Bool} : RealR X.K cm (rI0 fun i j => .bl (p i j)) (oCmp p) := real_int (fun x y st h => by cases x <;> cases y <;> first | rfl | exact (h _ _ rfl rfl).elim) fun Wx H0 ρ H st i j Q R q => ⟨i, j, rfl, rfl, q _ H0 ρ H Ext.refl R (.bl _)⟩
/-- x is None, x is True -/
def isNonD : D → Bool
  | .non => true
  | _ => false
def oIsN : D → D → Sto → Res D
  | x, .non, st => .ok (.bl (isNonD x)) st
  | _, _, _ => .no
def oNotN : D → D → Sto → Res D
  | x, .non, st => .ok (.bl (!isNonD x)) st
  | _, _, _ => .no
theorem isNon_ok {K : PySem.W.Frag} {H : Hp} {ρ : List Addr} {v : V} {d : D} (h : Den K H ρ v d) : decide (v = .non) = isNonD d := by cases h <;> rfl
theorem re_isN : RealR X.K cm (fun x y H Q => y = .non ∧ Q (.bl (decide (x = .non))) H) oIsN := by
  intro Wx H0 ρ H st x y dx dy Q R hx hy q
  cases dy with
  | non =>
    refine ⟨hy.non_inv, ?_⟩
    rw [isNon_ok hx]
    cases dx <;> exact q _ H0 ρ H Ext.refl R (.bl _)
  | _ => cases dx <;> exact q.elim
theorem re_notN : RealR X.K cm (fun x y H Q => y = .non ∧ Q (.bl (!decide (x = .non))) H) oNotN := by
  intro Wx H0 ρ H st x y dx dy Q R hx hy q
  cases dy with
  | non =>
    refine ⟨hy.non_inv, ?_⟩
    rw [isNon_ok hx]
    cases dx <;> exact q _ H0 ρ H Ext.refl R (.bl _)
  | _ => cases dx <;> exact q.elim
end
end Z

set_option maxHeartbeats 4000000
namespace Z
open PySem PySem.Spec PyProof.Rows L2

/-! ### tests -/
def fTest (f : ExpD) : TstD := fun env st => (f env st).bind fun d s1 => match d with
  | .bl b => .ok b s1
  | _ => .no
def fAnd (t u : TstD) : TstD := fun env st => (t env st).bind fun b s1 => match b with
  | true => u env s1
  | false => .ok false s1
def fOr (t u : TstD) : TstD := fun env st => (t env st).bind fun b s1 => match b with
  | true => .ok true s1
  | false => u env s1
def fNot (t : TstD) : TstD := fun env st => (t env st).bind fun b s1 => .ok (!b) s1
def fIf (t : TstD) (f g : ExpD) : ExpD := fun env st => (t env st).bind fun b s1 => match b with
  | true => f env s1
  | false => g env s1
def fAndV (f g : ExpD) : ExpD := fun env st => (f env st).bind fun d s1 => match d with
  | .bl true => g env s1
  | .bl false => .ok (.bl false) s1
  | _ => .no
def fOrV (f g : ExpD) : ExpD := fun env st => (f env st).bind fun d s1 => match d with
  | .bl true => .ok (.bl true) s1
  | .bl false => g env s1
  | _ => .no
def fNotV (f : ExpD) : ExpD := fun env st => (f env st).bind fun d s1 => match d with
  | .bl b => .ok (.bl (!b)) s1
  | _ => .no
/-- a value's truth -/
def truD (st : Sto) : D → Option Bool
  | .non => some false
  | .bl b => some b
  | .int i => some (i != 0)
  | .tup xs => some (!xs.isEmpty)
  | .lst xs => some (!xs.isEmpty)
  | .scr xs => some (!xs.isEmpty)
  | .loc k => match st[k]? with
    | some (.lst xs) => some (!xs.isEmpty)
    | some (.dK ks _) => some (!ks.isEmpty)
    | _ => none
  | _ => none
def fTru (f : ExpD) : TstD := fun env st => (f env st).bind fun d s1 => match truD s1 d with
  | some b => .ok b s1
  | none => .no
def fChain (o p : D → D → Sto → Res D) (f g h : ExpD) : ExpD := fun env st => (f env st).bind fun x s1 => (g env s1).bind fun y s2 => (o x y s2).bind fun z s3 => match z with
  | .bl true => (h env s3).bind fun w s4 => p y w s4
  | .bl false => .ok (.bl false) s3
  | _ => .no
theorem DenL.isEmpty {K : PySem.W.Frag} {H : Hp} {ρ : List Addr} {vs : List V} {ds : List D} (l : DenL K H ρ vs ds) : vs.isEmpty = ds.isEmpty := by cases l <;> rfl
abbrev eqR : Hp → List Addr → Bool → Bool → Prop := fun _ _ b a => b = a
section
variable {X : Cx} {cm : Str → Addr} {W : WX} {a b c : Expr} {fa fb fc : ExpD} {ta tb : TstD} {pos : Pos} {rest : List Expr}
theorem test_imp {K : PySem.W.Frag} {σ : L2.St} {H : Hp} {Q : Bool → Hp → Prop} (h : tDT K cm W (fTest fa) σ H Q) : tD K cm W fa σ H fun x H1 => ∃ k, x = .bl k ∧ Q k H1 := by
  obtain ⟨H0, ρ, env, st, R, E, h⟩ := h
  refine ⟨H0, ρ, env, st, R, E, Sat.mono (Sat.bind (R := Den K) h) ?_⟩
  rintro v H1 ⟨H0', ρ', d, s1, x, R1, dn, h1⟩
  cases d with
  | bl b => cases dn.bl_inv; exact ⟨b, rfl, h1 b H0' ρ' H1 Ext.refl R1 rfl⟩
  | _ => exact h1.elim
theorem dt_val (ha : DE X cm W a fa) (he : ∀ whole, isTrue a X.env whole = (do let v ← whole; standAt a.pos; holding [v] (truthy v)) := by intro _; rfl) : DT X cm W a (fTest fa) :=
  ⟨PT.imp (pt_val ha.pe he) fun σ H Q h => test_imp h⟩
theorem dt_cmp {o : CmpOp} {op : D → D → Sto → Res D} {r : R2} (ho : OpR X (compareOp o) r) (hr : RealR X.K cm r op) (ha : DE X cm W a fa) (hb : DE X cm W b fb) (hm : behindInMarks o b = false) : DT X cm W (.Compare a [o] [b] pos) (fTest (fOp op fa fb)) :=
  ⟨PT.imp (pt_cmpR ho ha.pe hb.pe hm) fun σ H Q h => two_imp hr (test_imp h)⟩
theorem tru_ok {K : PySem.W.Frag} {H0 H : Hp} {ρ : List Addr} {st : Sto} {v : V} {d : D} {k : Bool} (R : Rep K H0 ρ H st) (h : Den K H0 ρ v d) (e : truD st d = some k) : TruV K v H k := by
  cases h with
  | non => cases e; rfl
  | bl b => cases e; rfl
  | int i => cases e; rfl
  | str x => cases e
  | tup h l => cases e; exact .inr (.inl ⟨_, R.sqT h, by rw [l.isEmpty]⟩)
  | lst h l => cases e; exact .inl ⟨_, SqL.of (R.sub _ _ h), by rw [l.isEmpty]⟩
  | scr h l => cases e; exact .inl ⟨_, R.sqL h, by rw [l.isEmpty]⟩
  | dct h l => cases e
  | @loc a k h =>
    have e : (match st[k]? with | some (.lst xs) => some (!xs.isEmpty) | some (.dK ks _) => some (!ks.isEmpty) | _ => none) = some _ := e
    cases q : st[k]? with
    | none => rw [q] at e; cases e
    | some o =>
      rw [q] at e
      cases o with
      | lst xs =>
        cases e
        obtain ⟨vs, h1, l⟩ := locL R h q
        exact .inl ⟨vs, SqL.of h1, by rw [l.isEmpty]⟩
      | dK ks ds =>
        cases e
        obtain ⟨kvs, h1, h2, l⟩ := R.ob _ _ _ h q
        exact .inr (.inr ⟨kvs, h1, by subst h2; cases kvs <;> rfl⟩)
      | lk _ _ => cases e
theorem dt_tru (ha : DE X cm W a fa) (he : ∀ whole, isTrue a X.env whole = (do let v ← whole; standAt a.pos; holding [v] (truthy v)) := by intro _; rfl) : DT X cm W a (fTru fa) :=
  ⟨PT.imp (pt_truth ha.pe he) fun σ H Q h => by
    obtain ⟨H0, ρ, env, st, R, E, h⟩ := h
    refine ⟨H0, ρ, env, st, R, E, Sat.mono (Sat.bind (R := Den X.K) h) ?_⟩
    rintro v H1 ⟨H0', ρ', d, s1, x, R1, dn, h1⟩
    cases e : truD s1 d with
    | none => rw [e] at h1; exact h1.elim
    | some k => rw [e] at h1; exact ⟨k, tru_ok R1 dn e, h1 k H0' ρ' H1 Ext.refl R1 rfl⟩⟩
structure DW (X : Cx) (cm : Str → Addr) (W : WX) (e : Expr) (f : TstD) : Prop where
  pw : PW X e (tDT X.K cm W f)
theorem DW.t (h : DW X cm W a ta) : DT X cm W a ta := ⟨h.pw.pt⟩
theorem PW.imp {e : Expr} {t t' : TT} (h : PW X e t) (i : ∀ σ H Q, t' σ H Q → t σ H Q) : PW X e t' := ⟨fun wh pins s σ H Q I q => h.run wh pins s σ H Q I (i σ H Q q)⟩
theorem and_imp {K : PySem.W.Frag} {σ : L2.St} {H : Hp} {Q : Bool → Hp → Prop} (h : tDT K cm W (fAnd ta tb) σ H Q) : tAnd (tDT K cm W ta) (tDT K cm W tb) σ H Q := by
  obtain ⟨H0, ρ, env, st, R, E, h⟩ := h
  refine ⟨H0, ρ, env, st, R, E, Sat.mono (Sat.bind (R := eqR) h) ?_⟩
  rintro v H1 ⟨H0', ρ', d, s1, x, R1, dn, h1⟩
  have dn : v = d := dn
  subst dn
  cases v with
  | true => exact iteT ⟨H0', ρ', env, s1, R1, E.mono x, h1⟩
  | false => exact iteF (h1 false H0' ρ' H1 Ext.refl R1 rfl)
theorem or_imp {K : PySem.W.Frag} {σ : L2.St} {H : Hp} {Q : Bool → Hp → Prop} (h : tDT K cm W (fOr ta tb) σ H Q) : tOr (tDT K cm W ta) (tDT K cm W tb) σ H Q := by
  obtain ⟨H0, ρ, env, st, R, E, h⟩ := h
  refine ⟨H0, ρ, env, st, R, E, Sat.mono (Sat.bind (R := eqR) h) ?_⟩
  rintro v H1 ⟨H0', ρ', d, s1, x, R1, dn, h1⟩
  have dn : v = d := dn
  subst dn
  cases v with
  | true => exact iteT (h1 true H0' ρ' H1 Ext.refl R1 rfl)
  | false => exact iteF ⟨H0', ρ', env, s1, R1, E.mono x, h1⟩
theorem dw_and1 (ha : DT X cm W a ta) : DW X cm W (.BoolOp .And [a] pos) ta := ⟨pw_and1 ha.pt⟩
theorem dw_or1 (ha : DT X cm W a ta) : DW X cm W (.BoolOp .Or [a] pos) ta := ⟨pw_or1 ha.pt⟩
theorem dw_and (ha : DT X cm W a ta) (hb : DW X cm W (.BoolOp .And (b :: rest) pos) tb) : DW X cm W (.BoolOp .And (a :: b :: rest) pos) (fAnd ta tb) := ⟨PW.imp (pw_and ha.pt hb.pw) fun _ _ _ h => and_imp h⟩
theorem dw_or (ha : DT X cm W a ta) (hb : DW X cm W (.BoolOp .Or (b :: rest) pos) tb) : DW X cm W (.BoolOp .Or (a :: b :: rest) pos) (fOr ta tb) := ⟨PW.imp (pw_or ha.pt hb.pw) fun _ _ _ h => or_imp h⟩
theorem dt_not (ha : DT X cm W a ta) : DT X cm W (.UnaryOp .Not a pos) (fNot ta) := ⟨PT.imp (pt_not ha.pt) fun σ H Q h => by
  obtain ⟨H0, ρ, env, st, R, E, h⟩ := h
  refine ⟨H0, ρ, env, st, R, E, Sat.mono (Sat.bind (R := eqR) h) ?_⟩
  rintro v H1 ⟨H0', ρ', d, s1, x, R1, dn, h1⟩
  have dn : v = d := dn
  subst dn
  exact h1 (!v) H0' ρ' H1 Ext.refl R1 rfl⟩
theorem de_if (hc : DT X cm W c ta) (ha : DE X cm W a fa) (hb : DE X cm W b fb) : DE X cm W (.IfExp c a b pos) (fIf ta fa fb) := ⟨PE.imp (pe_ifExp hc.pt ha.pe hb.pe) fun σ H Q h => by
  obtain ⟨H0, ρ, env, st, R, E, h⟩ := h
  refine ⟨H0, ρ, env, st, R, E, Sat.mono (Sat.bind (R := eqR) h) ?_⟩
  rintro v H1 ⟨H0', ρ', d, s1, x, R1, dn, h1⟩
  have dn : v = d := dn
  subst dn
  cases v with
  | true => exact iteT ⟨H0', ρ', env, s1, R1, E.mono x, h1⟩
  | false => exact iteF ⟨H0', ρ', env, s1, R1, E.mono x, h1⟩⟩
theorem de_one {op} (h : DE X cm W a fa) : DE X cm W (.BoolOp op [a] pos) fa := ⟨pe_one h.pe⟩
theorem de_and (ha : DE X cm W a fa) (hb : DE X cm W (.BoolOp .And (b :: rest) pos) fb) : DE X cm W (.BoolOp .And (a :: b :: rest) pos) (fAndV fa fb) := ⟨PE.imp (pe_and ha.pe hb.pe) fun σ H Q h => by
  obtain ⟨H0, ρ, env, st, R, E, h⟩ := h
  refine ⟨H0, ρ, env, st, R, E, Sat.mono (Sat.bind (R := Den X.K) h) ?_⟩
  rintro v H1 ⟨H0', ρ', d, s1, x, R1, dn, h1⟩
  cases d with
  | bl k =>
    cases dn.bl_inv
    refine ⟨k, rfl, ?_⟩
    cases k with
    | true => exact iteT ⟨H0', ρ', env, s1, R1, E.mono x, h1⟩
    | false => exact iteF (h1 (.bl false) H0' ρ' H1 Ext.refl R1 (.bl _))
  | _ => exact h1.elim⟩
theorem de_or (ha : DE X cm W a fa) (hb : DE X cm W (.BoolOp .Or (b :: rest) pos) fb) : DE X cm W (.BoolOp .Or (a :: b :: rest) pos) (fOrV fa fb) := ⟨PE.imp (pe_or ha.pe hb.pe) fun σ H Q h => by
  obtain ⟨H0, ρ, env, st, R, E, h⟩ := h
  refine ⟨H0, ρ, env, st, R, E, Sat.mono (Sat.bind (R := Den X.K) h) ?_⟩
  rintro v H1 ⟨H0', ρ', d, s1, x, R1, dn, h1⟩
  cases d with
  | bl k =>
    cases dn.bl_inv
    refine ⟨k, rfl, ?_⟩
    cases k with
    | true => exact iteT (h1 (.bl true) H0' ρ' H1 Ext.refl R1 (.bl _))
    | false => exact iteF ⟨H0', ρ', env, s1, R1, E.mono x, h1⟩
  | _ => exact h1.elim⟩
theorem de_not (ha : DE X cm W a fa) : DE X cm W (.UnaryOp .Not a pos) (fNotV fa) := ⟨PE.imp (pe_not ha.pe) fun σ H Q h => by
  obtain ⟨H0, ρ, env, st, R, E, h⟩ := h
  refine ⟨H0, ρ, env, st, R, E, Sat.mono (Sat.bind (R := Den X.K) h) ?_⟩
  rintro v H1 ⟨H0', ρ', d, s1, x, R1, dn, h1⟩
  cases d with
  | bl k =>
    cases dn.bl_inv
    exact ⟨k, rfl, h1 (.bl (!k)) H0' ρ' H1 Ext.refl R1 (.bl _)⟩
  | _ => exact h1.elim⟩
theorem chain_imp {o p : D → D → Sto → Res D} {r r' : R2} (hr : RealR X.K cm r o) (hr' : RealR X.K cm r' p) {σ : L2.St} {H : Hp} {Q : VK} (h : tD X.K cm W (fChain o p fa fb fc) σ H Q) : tChain r r' (tD X.K cm W fa) (tD X.K cm W fb) (tD X.K cm W fc) σ H Q := by
  obtain ⟨H0, ρ, env, st, R, E, h⟩ := h
  refine ⟨H0, ρ, env, st, R, E, Sat.mono (Sat.bind (R := Den X.K) h) ?_⟩
  rintro v H1 ⟨H0', ρ', d, s1, x, R1, dn, h1⟩
  refine ⟨H0', ρ', env, s1, R1, E.mono x, Sat.mono (Sat.bind (R := Den X.K) h1) ?_⟩
  rintro u H2 ⟨H0'', ρ'', d2, s2, x2, R2, dn2, h2⟩
  refine hr _ H0'' ρ'' H2 s2 v u d d2 _ R2 (dn.mono x2) dn2 (Sat.mono (Sat.bind (R := Den X.K) h2) ?_)
  rintro z H3 ⟨G0, ρ3, d3, s3, x3, R3, dn3, h3⟩
  cases d3 with
  | bl k =>
    cases dn3.bl_inv
    refine ⟨k, rfl, ?_⟩
    cases k with
    | false => exact iteF (h3 (.bl false) G0 ρ3 H3 Ext.refl R3 (.bl _))
    | true =>
      refine iteT ⟨G0, ρ3, env, s3, R3, ((E.mono x).mono x2).mono x3, Sat.mono (Sat.bind (R := Den X.K) h3) ?_⟩
      rintro w H4 ⟨G4, ρ4, d4, s4, x4, R4, dn4, h4⟩
      exact hr' _ G4 ρ4 H4 s4 u w d2 d4 Q R4 ((dn2.mono x3).mono x4) dn4 h4
  | _ => exact h3.elim
theorem de_chain {op op' : CmpOp} {o p : D → D → Sto → Res D} {r r' : R2} (ho : OpR X (compareOp op) r) (hr : RealR X.K cm r o) (ho' : OpR X (compareOp op') r') (hr' : RealR X.K cm r' p) (ha : DE X cm W a fa) (hb : DE X cm W b fb) (hc : DE X cm W c fc)
    (hm : lastMarks [op, op'] [b, c] = false := by with_unfolding_all rfl) : DE X cm W (.Compare a [op, op'] [b, c] pos) (fChain o p fa fb fc) := ⟨PE.imp (pe_chain ho ho' ha.pe hb.pe hc.pe hm) fun _ _ _ h => chain_imp hr hr' h⟩
theorem dt_chain {op op' : CmpOp} {o p : D → D → Sto → Res D} {r r' : R2} (ho : OpR X (compareOp op) r) (hr : RealR X.K cm r o) (ho' : OpR X (compareOp op') r') (hr' : RealR X.K cm r' p) (ha : DE X cm W a fa) (hb : DE X cm W b fb) (hc : DE X cm W c fc)
    (hm : lastMarks [op, op'] [b, c] = false := by with_unfolding_all rfl) : DT X cm W (.Compare a [op, op'] [b, c] pos) (fTest (fChain o p fa fb fc)) := ⟨PT.imp (pt_chain ho ho' ha.pe hb.pe hc.pe hm) fun _ _ _ h => chain_imp hr hr' (test_imp h)⟩

/-! ### subscripts -/
def oIx : D → D → Sto → Res D
  | .str z, .int i, st => match decide (z.length ≤ LIM), atI z.cps.toList i with
    | true, some c => .ok (.str ⟨#[c]⟩) st
    | _, _ => .no
  | x, .int i, st => match asSeq st x with
    | some xs => (match atI xs i with
      | some d => .ok d st
      | none => .no)
    | none => .no
  | _, _, _ => .no
theorem atI_den {K : PySem.W.Frag} {H : Hp} {ρ : List Addr} {vs : List V} {ds : List D} {i : Int} {d : D} (l : DenL K H ρ vs ds) (h : atI ds i = some d) : ∃ v, atI vs i = some v ∧ Den K H ρ v d := by
  unfold atI at h ⊢
  rw [l.length]
  cases e : ixN ds.length i with
  | none => rw [e] at h; cases h
  | some j =>
    rw [e] at h
    exact l.get h
theorem re_ix : RealR X.K cm (rIx X.K) oIx := by
  intro Wx H0 ρ H st x y dx dy Q R hx hy q
  have go : ∀ i, dy = .int i → (match asSeq st dx with | some xs => (match atI xs i with | some d => Res.ok d st | none => .no) | none => .no) = oIx dx dy st → rIx X.K x y H Q := fun i ei e => by
    subst ei
    cases hy.int_inv
    rw [← e] at q
    cases ea : asSeq st dx with
    | none => rw [ea] at q; exact q.elim
    | some xs =>
      rw [ea] at q
      simp only at q
      cases ed : atI xs i with
      | none => rw [ed] at q; exact q.elim
      | some d =>
        rw [ed] at q
        obtain ⟨p, vs, rfl, hs, l⟩ := asSeq_ok R hx ea
        obtain ⟨v, hv, dn⟩ := atI_den l ed
        have qq := q v H0 ρ H Ext.refl R dn
        rcases hs with hs | hs
        · exact .inl ⟨p, vs, i, v, rfl, rfl, hs, hv, qq⟩
        · exact .inr (.inl ⟨p, vs, i, v, rfl, rfl, hs, hv, qq⟩)
  cases dy with
  | int i =>
    cases dx with
    | str z =>
      cases hx.str_inv
      cases hy.int_inv
      have q : Sat (Den X.K) X.K cm Wx H0 ρ H (match decide (z.length ≤ LIM), atI z.cps.toList i with | true, some c => Res.ok (D.str ⟨#[c]⟩) st | _, _ => .no) Q := q
      cases e1 : decide (z.length ≤ LIM) with
      | false => rw [e1] at q; exact q.elim
      | true =>
        cases e2 : atI z.cps.toList i with
        | none => rw [e1, e2] at q; exact q.elim
        | some c =>
          rw [e1, e2] at q
          exact .inr (.inr ⟨z, i, c, rfl, rfl, lim_le (of_decide_eq_true e1), e2, q _ H0 ρ H Ext.refl R (.str _)⟩)
    | _ => exact go i rfl rfl
  | _ => cases dx <;> exact q.elim
theorem de_ix (ha : DE X cm W a fa) (hb : DE X cm W b fb) (hs : PlainIx b := by exact fun _ _ => rfl) : DE X cm W (.Subscript a b pos) (fOp oIx fa fb) := ⟨PE.imp (pe_ix ix_seq ha.pe hb.pe hs) fun _ _ _ h => two_imp re_ix h⟩

/-! ### slices -/
structure DO (X : Cx) (cm : Str → Addr) (W : WX) (e : Option Expr) (f : Env → Sto → Res (Option Int)) : Prop where
  po : PO X e fun σ H Q => ∃ H0 ρ env st, Rep X.K H0 ρ H st ∧ EnvR X.K H0 ρ σ env ∧ Sat (fun _ _ (b a : Option Int) => b = a) X.K cm (fun c d H' => W c d σ H') H0 ρ H (f env st) Q
def fONone : Env → Sto → Res (Option Int) := fun _ st => .ok none st
def fOSome (f : ExpD) : Env → Sto → Res (Option Int) := fun env st => (f env st).bind fun d s1 => match d with
  | .int i => .ok (some i) s1
  | _ => .no
theorem PO.imp {e : Option Expr} {t t' : TO} (h : PO X e t) (i : ∀ σ H Q, t' σ H Q → t σ H Q) : PO X e t' := ⟨fun pins s σ H Q I q => h.run pins s σ H Q I (i σ H Q q)⟩
theorem do_none : DO X cm W none fONone := ⟨PO.imp po_none fun σ H Q ⟨H0, ρ, env, st, R, E, h⟩ => h none H0 ρ H Ext.refl R rfl⟩
theorem do_some (ha : DE X cm W a fa) : DO X cm W (some a) (fOSome fa) := ⟨PO.imp (po_some ha.pe) fun σ H Q ⟨H0, ρ, env, st, R, E, h⟩ => by
  refine ⟨H0, ρ, env, st, R, E, Sat.mono (Sat.bind (R := Den X.K) h) ?_⟩
  rintro v H1 ⟨H0', ρ', d, s1, x, R1, dn, h1⟩
  cases d with
  | int i => cases dn.int_inv; exact ⟨i, rfl, h1 (some i) H0' ρ' H1 Ext.refl R1 rfl⟩
  | _ => exact h1.elim⟩
def cutD (xs : List D) (lo hi : Option Int) : List D := (xs.drop (HT.sIx xs.length 0 lo)).take (HT.sIx xs.length xs.length hi - HT.sIx xs.length 0 lo)
theorem cut_den {K : PySem.W.Frag} {H : Hp} {ρ : List Addr} {vs : List V} {ds : List D} (l : DenL K H ρ vs ds) (lo hi : Option Int) : DenL K H ρ (cutV vs lo hi) (cutD ds lo hi) := by
  unfold cutV cutD
  rw [l.length]
  exact (l.drop _).take _
def oSl (x : D) (lo hi : Option Int) (st : Sto) : Res D := match x with
  | .str z => (match decide (z.length ≤ LIM) with
    | true => .ok (.str (cutS z lo hi)) st
    | false => .no)
  | .tup xs => .ok (.tup (cutD xs lo hi)) st
  | d => match asLR st d with
    | some xs => .ok (.lst (cutD xs lo hi)) st
    | none => .no
def fSl (f : ExpD) (g h : Env → Sto → Res (Option Int)) : ExpD := fun env st => (f env st).bind fun x s1 => (g env s1).bind fun lo s2 => (h env s2).bind fun hi s3 => oSl x lo hi s3
theorem cut_whole {xs : List D} {lo hi : Option Int} (h : HT.sIx xs.length 0 lo = 0 ∧ HT.sIx xs.length xs.length hi = xs.length) : cutD xs lo hi = xs := by
  unfold cutD
  rw [h.1, h.2, List.drop_zero, Nat.sub_zero, List.take_length]
theorem re_sl (Wx : Value → Option Addr → Hp → Prop) (H0 : Hp) (ρ : List Addr) (H : Hp) (st : Sto) (x : V) (dx : D) (lo hi : Option Int) (Q : VK) (R : Rep X.K H0 ρ H st) (hx : Den X.K H0 ρ x dx) (q : Sat (Den X.K) X.K cm Wx H0 ρ H (oSl dx lo hi st) Q) :
    rSlL X.K x lo hi H Q ∨ (rSlA X.K x lo hi H Q ∨ rSlS x lo hi H Q) := by
  have go : (match asLR st dx with | some xs => Res.ok (D.lst (cutD xs lo hi)) st | none => .no) = oSl dx lo hi st → rSlL X.K x lo hi H Q ∨ (rSlA X.K x lo hi H Q ∨ rSlS x lo hi H Q) := fun e => by
    rw [← e] at q
    cases ea : asLR st dx with
    | none => rw [ea] at q; exact q.elim
    | some xs =>
      rw [ea] at q
      obtain ⟨p, vs, rfl, hs, l⟩ := asLR_ok R hx ea
      exact .inl ⟨p, vs, rfl, hs, Sat.okF R q (den_newL R (cut_den l lo hi))⟩
  cases dx with
  | str z =>
    cases hx.str_inv
    have q : Sat (Den X.K) X.K cm Wx H0 ρ H (match decide (z.length ≤ LIM) with | true => Res.ok (D.str (cutS z lo hi)) st | false => .no) Q := q
    cases e : decide (z.length ≤ LIM) with
    | false => rw [e] at q; exact q.elim
    | true => rw [e] at q; exact .inr (.inr ⟨z, rfl, lim_le (of_decide_eq_true e), q _ H0 ρ H Ext.refl R (.str _)⟩)
  | tup xs =>
    obtain ⟨p, vs, rfl, hs, l⟩ := asT_ok R hx (xs := xs) rfl
    refine .inr (.inl ⟨p, vs, rfl, hs, fun w => ?_, fun _ => Sat.okF R q (den_newT R (cut_den l lo hi))⟩)
    have q : Sat (Den X.K) X.K cm Wx H0 ρ H (Res.ok (D.tup (cutD xs lo hi)) st) Q := q
    rw [l.length] at w
    rw [cut_whole w] at q
    exact q _ H0 ρ H Ext.refl R hx
  | _ => exact go rfl
theorem de_sl {lo hi : Option Expr} {p2 : Pos} {g h : Env → Sto → Res (Option Int)} (ha : DE X cm W a fa) (hl : DO X cm W lo g) (hh : DO X cm W hi h) : DE X cm W (.Subscript a (.Slice lo hi none p2) pos) (fSl fa g h) := ⟨PE.imp (pe_slice (sl_list.or (sl_tupA.or sl_str)) ha.pe hl.po hh.po) fun σ H Q h => by
  obtain ⟨H0, ρ, env, st, R, E, h⟩ := h
  refine ⟨H0, ρ, env, st, R, E, Sat.mono (Sat.bind (R := Den X.K) h) ?_⟩
  rintro v H1 ⟨H0', ρ', d, s1, x, R1, dn, h1⟩
  refine ⟨H0', ρ', env, s1, R1, E.mono x, Sat.mono (Sat.bind (R := fun _ _ (b a : Option Int) => b = a) h1) ?_⟩
  rintro l H2 ⟨G0, ρ2, l', s2, x2, R2, el, h2⟩
  have el : l = l' := el
  subst el
  refine ⟨G0, ρ2, env, s2, R2, (E.mono x).mono x2, Sat.mono (Sat.bind (R := fun _ _ (b a : Option Int) => b = a) h2) ?_⟩
  rintro u H3 ⟨G3, ρ3, u', s3, x3, R3, eu, h3⟩
  have eu : u = u' := eu
  subst eu
  exact re_sl _ G3 ρ3 H3 s3 v d l u Q R3 ((dn.mono x2).mono x3) h3⟩

/-! ### displays -/
def fTup (g : ArgD) : ExpD := fun env st => (g env st).bind fun ds s1 => .ok (.tup ds) s1
/-- a list that nobody will change -/
def fLst (g : ArgD) : ExpD := fun env st => (g env st).bind fun ds s1 => .ok (.lst ds) s1
/-- a list of the store -/
def fLstO (g : ArgD) : ExpD := fun env st => (g env st).bind fun ds s1 => .ok (.loc s1.length) (s1 ++ [.lst ds])
theorem de_tup {es : List Expr} {x1} {g : ArgD} {n : Nat} (ha : DA X cm W es g) (al : ArgLen n g) (hn : n ≤ LIM := by decide) : DE X cm W (.Tuple es x1 pos) (fTup g) := ⟨PE.imp (pe_tup ha.pa) fun σ H Q h => by
  obtain ⟨H0, ρ, env, st, R, E, h⟩ := h
  cases e : g env st with
  | no => simp only [fTup, e, Res.bind_no] at h; exact h.elim
  | ex c f d s1 => simp only [fTup, e, Res.bind_ex] at h; exact ⟨H0, ρ, env, st, R, E, by rw [e]; exact h⟩
  | ok ds s1 =>
    have hl := al env st ds s1 e
    simp only [fTup, e, Res.bind_ok] at h
    refine ⟨H0, ρ, env, st, R, E, ?_⟩
    rw [e]
    exact fun vs H0' ρ' H' x R1 l => ⟨by rw [l.length, hl]; exact lim_le hn, Sat.okF R1 (Sat.ext h x) (den_newT R1 l)⟩⟩
theorem de_lst {es : List Expr} {g : ArgD} {n : Nat} (ha : DA X cm W es g) (al : ArgLen n g) (hn : n ≤ LIM := by decide) : DE X cm W (.List es pos) (fLst g) := ⟨PE.imp (pe_lst ha.pa) fun σ H Q h => by
  obtain ⟨H0, ρ, env, st, R, E, h⟩ := h
  cases e : g env st with
  | no => simp only [fLst, e, Res.bind_no] at h; exact h.elim
  | ex c f d s1 => simp only [fLst, e, Res.bind_ex] at h; exact ⟨H0, ρ, env, st, R, E, by rw [e]; exact h⟩
  | ok ds s1 =>
    have hl := al env st ds s1 e
    simp only [fLst, e, Res.bind_ok] at h
    refine ⟨H0, ρ, env, st, R, E, ?_⟩
    rw [e]
    exact fun vs H0' ρ' H' x R1 l => ⟨by rw [l.length, hl]; exact lim_le hn, Sat.okF R1 (Sat.ext h x) (den_newL R1 l)⟩⟩
theorem Sat.okO {K : PySem.W.Frag} {cm : Str → Addr} {Wx : Value → Option Addr → Hp → Prop} {H0 H : Hp} {ρ : List Addr} {st : Sto} {ds : List D} {vs : List V} {Q : VK} (R : Rep K H0 ρ H st) (l : DenL K H0 ρ vs ds) (h : Sat (Den K) K cm Wx H0 ρ H (.ok (.loc st.length) (st ++ [.lst ds])) Q)
    (p : Addr) (hp : H p = none) : Q (.ref p) (upd H p (.lst vs)) := h _ H0 (ρ ++ [p]) _ (Ext.newO hp) (R.newL hp l) (.loc (by rw [← R.len, List.getElem?_append_right (Nat.le_refl _), Nat.sub_self] <;> rfl))
theorem de_lstO {es : List Expr} {g : ArgD} {n : Nat} (ha : DA X cm W es g) (al : ArgLen n g) (hn : n ≤ LIM := by decide) : DE X cm W (.List es pos) (fLstO g) := ⟨PE.imp (pe_lst ha.pa) fun σ H Q h => by
  obtain ⟨H0, ρ, env, st, R, E, h⟩ := h
  cases e : g env st with
  | no => simp only [fLstO, e, Res.bind_no] at h; exact h.elim
  | ex c f d s1 => simp only [fLstO, e, Res.bind_ex] at h; exact ⟨H0, ρ, env, st, R, E, by rw [e]; exact h⟩
  | ok ds s1 =>
    have hl := al env st ds s1 e
    simp only [fLstO, e, Res.bind_ok] at h
    refine ⟨H0, ρ, env, st, R, E, ?_⟩
    rw [e]
    exact fun vs H0' ρ' H' x R1 l => ⟨by rw [l.length, hl]; exact lim_le hn, Sat.okO R1 l (Sat.ext h x)⟩⟩
end
end Z

set_option maxHeartbeats 4000000
namespace Z
open PySem PySem.Spec PyProof.Rows L2

/-! ### statements -/
structure DS (X : Cx) (cm : Str → Addr) (W : WX) (st : Stmt) (s : StmD) : Prop where
  ps : PS X st (tS X.K cm W s)
structure DSs (X : Cx) (cm : Str → Addr) (W : WX) (sts : List Stmt) (s : StmD) : Prop where
  ps : PSs X sts (tS X.K cm W s)
structure DG (X : Cx) (cm : Str → Addr) (W : WX) (e : Expr) (g : TgtD) : Prop where
  pg : PG X e (tG X.K cm W g)
def sSkip : StmD := fun env st => .nx env st
def sSeq (a b : StmD) : StmD := fun env st => match a env st with
  | .nx e s => b e s
  | r => r
/-- an expression's value, then -/
def Res.thn (r : Res D) (env : Env) (k : D → Sto → Ctl) : Ctl := match r with
  | .ok d s => k d s
  | .ex c f d s => .ex c f d env s
  | .no => .no
@[simp] theorem Res.thn_ok (d : D) (s : Sto) (env : Env) (k : D → Sto → Ctl) : (Res.ok d s).thn env k = k d s := rfl
@[simp] theorem Res.thn_ex (c f : Str) (d : D) (s : Sto) (env : Env) (k : D → Sto → Ctl) : (Res.ex c f d s : Res D).thn env k = .ex c f d env s := rfl
@[simp] theorem Res.thn_no (env : Env) (k : D → Sto → Ctl) : (Res.no : Res D).thn env k = .no := rfl
def Res.thnB (r : Res Bool) (env : Env) (k : Bool → Sto → Ctl) : Ctl := match r with
  | .ok d s => k d s
  | .ex c f d s => .ex c f d env s
  | .no => .no
@[simp] theorem Res.thnB_ok (d : Bool) (s : Sto) (env : Env) (k : Bool → Sto → Ctl) : (Res.ok d s).thnB env k = k d s := rfl
@[simp] theorem Res.thnB_ex (c f : Str) (d : D) (s : Sto) (env : Env) (k : Bool → Sto → Ctl) : (Res.ex c f d s : Res Bool).thnB env k = .ex c f d env s := rfl
@[simp] theorem Res.thnB_no (env : Env) (k : Bool → Sto → Ctl) : (Res.no : Res Bool).thnB env k = .no := rfl
def Res.stm (r : Res Env) (env : Env) : Ctl := match r with
  | .ok e s => .nx e s
  | .ex c f d s => .ex c f d env s
  | .no => .no
@[simp] theorem Res.stm_ok (e env : Env) (s : Sto) : (Res.ok e s).stm env = .nx e s := rfl
@[simp] theorem Res.stm_ex (c f : Str) (d : D) (s : Sto) (env : Env) : (Res.ex c f d s : Res Env).stm env = .ex c f d env s := rfl
@[simp] theorem Res.stm_no (env : Env) : (Res.no : Res Env).stm env = .no := rfl
def sAsg (f : ExpD) (g : TgtD) : StmD := fun env st => (f env st).thn env fun d s1 => (g d env s1).stm env
def gN (i : Nat) : TgtD := fun d env st => .ok (env.set i (some d)) st
def Res.calm {α : Type} (r : Res α) : Res α := match r with
  | .ok a s => .ok a s
  | _ => .no
@[simp] theorem Res.calm_ok {α : Type} (a : α) (s : Sto) : (Res.ok a s).calm = .ok a s := rfl
@[simp] theorem Res.calm_ex {α : Type} (c f : Str) (d : D) (s : Sto) : (Res.ex c f d s : Res α).calm = .no := rfl
@[simp] theorem Res.calm_no {α : Type} : (Res.no : Res α).calm = .no := rfl
abbrev TgtsD := List D → Env → Sto → Res Env
def gsNil : TgtsD := fun ds env st => match ds with
  | [] => .ok env st
  | _ => .no
def gsCons (g : TgtD) (u : TgtsD) : TgtsD := fun ds env st => match ds with
  | d :: r => (g d env st).calm.bind fun e s => (u r e s).calm
  | _ => .no
def gT (n : Nat) (u : TgtsD) : TgtD := fun d env st => match asT d with
  | some xs => (match decide (xs.length = n) with
    | true => u xs env st
    | false => .no)
  | none => .no
def sDrop (f : ExpD) : StmD := fun env st => (f env st).thn env fun _ s1 => .nx env s1
def sRet (f : ExpD) : StmD := fun env st => (f env st).thn env fun d s1 => .rt d s1
def sRetN : StmD := fun _ st => .rt .non st
def sBrk : StmD := fun env st => .bk env st
def sCnt : StmD := fun env st => .ct env st
def sIf (t : TstD) (a b : StmD) : StmD := fun env st => (t env st).thnB env fun k s1 => match k with
  | true => a env s1
  | false => b env s1
section
variable {K : PySem.W.Frag} {cm : Str → Addr} {W : WX}
/-- an expression's part of a statement -/
theorem SatS.thn {D : Ends} {H0 : Hp} {ρ : List Addr} {σ : L2.St} {env : Env} {r : Res Z.D} {k : Z.D → Sto → Ctl} (E : EnvR K H0 ρ σ env) (h : SatS K cm W D H0 ρ H (r.thn env k)) :
    Sat (Den K) K cm (fun c d H' => W c d σ H') H0 ρ H r fun b H1 => ∃ H0' ρ' a st', Ext H0 ρ H H0' ρ' H1 ∧ Rep K H0' ρ' H1 st' ∧ Den K H0' ρ' b a ∧ EnvR K H0' ρ' σ env ∧ SatS K cm W D H0' ρ' H1 (k a st') := by
  cases r with
  | ok a st => exact fun b H0' ρ' H' x R dn => ⟨H0', ρ', a, st, x, R, dn, E.mono x, SatS.ext h x⟩
  | ex c f d st => exact fun dd v H0' ρ' H' x R dn e => h dd v σ H0' ρ' H' x R (E.mono x) dn e
  | no => exact h
theorem SatS.thnB {D : Ends} {H0 : Hp} {ρ : List Addr} {σ : L2.St} {env : Env} {r : Res Bool} {k : Bool → Sto → Ctl} (E : EnvR K H0 ρ σ env) (h : SatS K cm W D H0 ρ H (r.thnB env k)) :
    Sat eqR K cm (fun c d H' => W c d σ H') H0 ρ H r fun b H1 => ∃ H0' ρ' st', Ext H0 ρ H H0' ρ' H1 ∧ Rep K H0' ρ' H1 st' ∧ EnvR K H0' ρ' σ env ∧ SatS K cm W D H0' ρ' H1 (k b st') := by
  cases r with
  | ok a st => exact fun b H0' ρ' H' x R dn => ⟨H0', ρ', st, x, R, E.mono x, by have dn : b = a := dn; subst dn; exact SatS.ext h x⟩
  | ex c f d st => exact fun dd v H0' ρ' H' x R dn e => h dd v σ H0' ρ' H' x R (E.mono x) dn e
  | no => exact h
/-- a result that ends the block -/
theorem SatS.same {D D' : Ends} {H0 : Hp} {ρ : List Addr} {r : Ctl} (h : SatS K cm W D H0 ρ H r) (hn : ∀ e s, r ≠ .nx e s) (h1 : ∀ v H, D.rt v H → D'.rt v H) (h2 : ∀ σ H, D.bk σ H → D'.bk σ H) (h3 : ∀ σ H, D.ct σ H → D'.ct σ H) : SatS K cm W D' H0 ρ H r := by
  cases r with
  | nx e s => exact absurd rfl (hn e s)
  | bk e st => exact fun σ' H0' ρ' H' x y z => h2 _ _ (h σ' H0' ρ' H' x y z)
  | ct e st => exact fun σ' H0' ρ' H' x y z => h3 _ _ (h σ' H0' ρ' H' x y z)
  | rt d st => exact fun v H0' ρ' H' x y z => h1 _ _ (h v H0' ρ' H' x y z)
  | ex c f d e st => exact h
  | no => exact h
theorem seq_imp {a b : StmD} {D : Ends} {σ : L2.St} {H : Hp} (h : tS K cm W (sSeq a b) D σ H) : tSeq (tS K cm W a) (tS K cm W b) D σ H := by
  obtain ⟨H0, ρ, env, st, R, E, h⟩ := h
  refine ⟨H0, ρ, env, st, R, E, ?_⟩
  cases e : a env st with
  | nx e1 s1 =>
    simp only [sSeq, e] at h
    exact fun σ' H0' ρ' H' x R1 E1 => ⟨H0', ρ', e1, s1, R1, E1, SatS.ext h x⟩
  | _ =>
    simp only [sSeq, e] at h
    exact h
end
section
variable {X : Cx} {cm : Str → Addr} {W : WX} {e e2 c : Expr} {f f2 : ExpD} {st : Stmt} {sts as bs : List Stmt} {s s1 s2 : StmD} {g : TgtD} {t : TstD} {pos : Pos}
theorem dss_nil : DSs X cm W [] sSkip := ⟨PSs.imp pss_nil fun D σ H ⟨H0, ρ, env, st, R, E, h⟩ => h σ H0 ρ H Ext.refl R E⟩
theorem dss_one (h : DS X cm W st s) : DSs X cm W [st] s := ⟨pss_one h.ps⟩
theorem dss_cons (h1 : DS X cm W st s1) (h2 : DSs X cm W sts s2) : DSs X cm W (st :: sts) (sSeq s1 s2) := ⟨PSs.imp (pss_cons h1.ps h2.ps) fun _ _ _ h => seq_imp h⟩
structure DGs (X : Cx) (cm : Str → Addr) (W : WX) (es : List Expr) (g : TgtsD) : Prop where
  pg : PGs X es (tGs X.K cm W g)
theorem PG.imp {e : Expr} {t t' : TG} (h : PG X e t) (i : ∀ v σ H Q, t' v σ H Q → t v σ H Q) : PG X e t' := ⟨fun pins s σ H v u Q I r q => h.run pins s σ H v u Q I r (i v σ H Q q)⟩
theorem PGs.imp {e : List Expr} {t t' : TGs} (h : PGs X e t) (i : ∀ v σ H Q, t' v σ H Q → t v σ H Q) : PGs X e t' := ⟨fun pins s σ H v u Q I r q => h.run pins s σ H v u Q I r (i v σ H Q q)⟩
theorem asg_imp {K : PySem.W.Frag} {D : Ends} {σ : L2.St} {H : Hp} (h : tS K cm W (sAsg f g) D σ H) : tAsg (tD K cm W f) (tG K cm W g) D σ H := by
  obtain ⟨H0, ρ, env, st, R, E, h⟩ := h
  refine ⟨H0, ρ, env, st, R, E, Sat.mono (SatS.thn E h) ?_⟩
  rintro v H1 ⟨H0', ρ', d, s1, x, R1, dn, E1, h1⟩
  refine ⟨H0', ρ', env, s1, d, R1, E1, dn, ?_⟩
  cases e : g d env s1 with
  | ok e1 s2 =>
    simp only [e, Res.stm_ok] at h1
    exact fun σ' G ρ2 H2 y R2 E2 => h1 σ' G ρ2 H2 y R2 E2
  | ex c f d2 s2 =>
    simp only [e, Res.stm_ex] at h1
    exact fun dd v2 G ρ2 H2 y R2 dn2 ed => h1 dd v2 σ G ρ2 H2 y R2 (E1.mono y) dn2 ed
  | no =>
    simp only [e, Res.stm_no] at h1
    exact h1
theorem dg_name (i : Nat) {x : Str} (hN : X.N.Nodup) (hi : X.N[i]? = some x := by rfl) (hx : Loc X.env.scope x := by first | exact Or.inl rfl | exact Or.inr rfl) (hf : X.fn x = true ∨ X.env.scope.names.lookup x = some .local := by first | exact .inl rfl | exact .inr rfl | assumption) : DG X cm W (.Name x pos) (gN i) :=
  ⟨PG.imp (pg_name (i := i) hN hi hx hf) fun v σ H Q ⟨H0, ρ, env, st, d, R, E, dn, h⟩ => h _ H0 ρ H Ext.refl R (E.set i dn)⟩
theorem dgs_nil : DGs X cm W [] gsNil := ⟨PGs.imp pgs_nil fun vs σ H Q ⟨H0, ρ, env, st, ds, R, E, dn, h⟩ => by
  cases dn with
  | nil => exact ⟨rfl, h σ H0 ρ H Ext.refl R E⟩
  | cons _ _ => exact h.elim⟩
theorem dgs_cons {es : List Expr} {u : TgtsD} (h1 : DG X cm W e g) (h2 : DGs X cm W es u) (hs : (assignEach (e :: es) X.env).map (·.2) = assign e X.env :: (assignEach es X.env).map (·.2) := by rfl) : DGs X cm W (e :: es) (gsCons g u) :=
  ⟨PGs.imp (pgs_cons h1.pg h2.pg hs) fun vs σ H Q ⟨H0, ρ, env, st, ds, R, E, dn, h⟩ => by
    cases dn with
    | nil => exact h.elim
    | @cons v d vs ds dv dl =>
      refine ⟨v, vs, rfl, H0, ρ, env, st, d, R, E, dv, ?_⟩
      cases e1 : g d env st with
      | no => simp only [gsCons, e1, Res.calm_no, Res.bind_no] at h; exact h.elim
      | ex c f d2 s2 => simp only [gsCons, e1, Res.calm_ex, Res.bind_no] at h; exact h.elim
      | ok en s1 =>
        simp only [gsCons, e1, Res.calm_ok, Res.bind_ok] at h
        intro σ' G ρ' H' x R1 E1
        refine ⟨G, ρ', en, s1, ds, R1, E1, dl.mono x, ?_⟩
        cases e2 : u ds en s1 with
        | no => simp only [e2, Res.calm_no] at h; exact h.elim
        | ex c f d2 s2 => simp only [e2, Res.calm_ex] at h; exact h.elim
        | ok en2 s2 =>
          simp only [e2, Res.calm_ok] at h
          exact fun σ2 G2 ρ2 H2 y R2 E2 => h σ2 G2 ρ2 H2 (x.trans y) R2 E2⟩
theorem dg_tup {es : List Expr} {k n : Nat} {u : TgtsD} (hc : X.calm = true) (h : DGs X cm W es u) (hn : (assignEach es X.env).length = n := by rfl) (hst : (assignEach es X.env).findIdx? (·.1) = none := by rfl) : DG X cm W (.Tuple es k pos) (gT n u) :=
  ⟨PG.imp (pg_tup hc h.pg hn hst) fun v σ H Q ⟨H0, ρ, env, st, d, R, E, dn, h⟩ => by
    cases ea : asT d with
    | none => simp only [gT, ea] at h; exact h.elim
    | some xs =>
      cases el : decide (xs.length = n) with
      | false => simp only [gT, ea, el] at h; exact h.elim
      | true =>
        simp only [gT, ea, el] at h
        obtain ⟨p, vs, rfl, hs, l⟩ := asT_ok R dn ea
        exact ⟨p, vs, rfl, hs, by rw [l.length]; exact of_decide_eq_true el, H0, ρ, env, st, xs, R, E, l, h⟩⟩
theorem ds_asg {tg : Expr} (he : DE X cm W e f) (hg : DG X cm W tg g) (hs : swapsWithSole [tg] e pos.line X.env = pure false := by rfl) (hw : swappedStores [tg] e X.env = pure none := by rfl)
    (h1 : (assignEach [tg] X.env).map (·.2) = [assign tg X.env] := by rfl) : DS X cm W (.Assign [tg] e pos) (sAsg f g) := ⟨PS.imp (ps_asg he.pe hg.pg hs hw h1) fun _ _ _ h => asg_imp h⟩
/-- name = value (any value but a comprehension on one line) -/
theorem ds_set (i : Nat) {x : Str} {pos' : Pos} (hN : X.N.Nodup) (he : DE X cm W e f) (hi : X.N[i]? = some x := by rfl) (hx : Loc X.env.scope x := by first | exact Or.inl rfl | exact Or.inr rfl) (hs : swapsWith e (some (.Name x pos')) pos.line X.env = pure false := by rfl) (hf : X.fn x = true ∨ X.env.scope.names.lookup x = some .local := by first | exact .inl rfl | exact .inr rfl | assumption) :
    DS X cm W (.Assign [.Name x pos'] e pos) (sAsg f (gN i)) := ⟨PS.imp (ps_set (i := i) hN hi hx he.pe hs hf) fun D σ H h => by
  obtain ⟨H0, ρ, env, st, R, E, h⟩ := h
  refine ⟨H0, ρ, env, st, R, E, Sat.mono (SatS.thn E h) ?_⟩
  rintro v H1 ⟨H0', ρ', d, s1, x, R1, dn, E1, h1⟩
  exact h1 _ H0' ρ' H1 Ext.refl R1 (E1.set i dn)⟩
/-- a, b = e1, e2 of plain names -/
def sPar (i j : Nat) (ga : ArgD) : StmD := fun env st => match ga env st with
  | .ok [x, y] s => .nx ((env.set i (some x)).set j (some y)) s
  | .ex c f d s => .ex c f d env s
  | _ => .no
def sPar3 (i j l : Nat) (ga : ArgD) : StmD := fun env st => match ga env st with
  | .ok [x, y, z] s => .nx (((env.set i (some x)).set j (some y)).set l (some z)) s
  | .ex c f d s => .ex c f d env s
  | _ => .no
theorem ds_par (i j : Nat) {x y : Str} {a b : Expr} {ga : ArgD} {px py pt : Pos} {kt k2 pt2} (hc : X.calm = true) (hN : X.N.Nodup) (ha : DA X cm W [a, b] ga) (hi : X.N[i]? = some x := by rfl) (hj : X.N[j]? = some y := by rfl) (hij : i ≠ j := by decide)
    (hx : X.env.scope.names.lookup x = some .local := by rfl) (hy : X.env.scope.names.lookup y = some .local := by rfl)
    (hw : swappedStores [.Tuple [.Name x px, .Name y py] kt pt] (.Tuple [a, b] k2 pt2) X.env = pure (some [x, y]) := by rfl) (hs : swapsWithSole [.Tuple [.Name x px, .Name y py] kt pt] (.Tuple [a, b] k2 pt2) pos.line X.env = pure false := by rfl) :
    DS X cm W (.Assign [.Tuple [.Name x px, .Name y py] kt pt] (.Tuple [a, b] k2 pt2) pos) (sPar i j ga) := ⟨PS.imp (ps_par hc hN hi hj hij hx hy ha.pa hw hs) fun D σ H h => by
  obtain ⟨H0, ρ, env, st, R, E, h⟩ := h
  refine ⟨H0, ρ, env, st, R, E, ?_⟩
  cases e : ga env st with
  | no => simp only [sPar, e] at h; exact h.elim
  | ex c f d s1 => simp only [sPar, e] at h; exact fun dd v G ρ' H' x R1 dn ed => h dd v σ G ρ' H' x R1 (E.mono x) dn ed
  | ok ds s1 =>
    intro vs G ρ' H' x R1 l
    match ds, vs, l with
    | [d1, d2], _, .cons r1 (.cons r2 .nil) =>
      simp only [sPar, e] at h
      exact ⟨_, _, rfl, h _ G ρ' H' x R1 (((E.mono x).set i r1).set j r2)⟩
    | [], _, _ => simp only [sPar, e] at h; exact h.elim
    | [_], _, _ => simp only [sPar, e] at h; exact h.elim
    | _ :: _ :: _ :: _, _, _ => simp only [sPar, e] at h; exact h.elim⟩
theorem ds_drop (he : DE X cm W e f) (hs : swapsWith e none pos.line X.env = pure false := by rfl) : DS X cm W (.Expr e pos) (sDrop f) := ⟨PS.imp (ps_expr he.pe hs) fun D σ H h => by
  obtain ⟨H0, ρ, env, st, R, E, h⟩ := h
  refine ⟨H0, ρ, env, st, R, E, Sat.mono (SatS.thn E h) ?_⟩
  rintro v H1 ⟨H0', ρ', d, s1, x, R1, dn, E1, h1⟩
  exact h1 σ H0' ρ' H1 Ext.refl R1 E1⟩
theorem ds_ret (he : DE X cm W e f) : DS X cm W (.Return (some e) pos) (sRet f) := ⟨PS.imp (ps_ret he.pe) fun D σ H h => by
  obtain ⟨H0, ρ, env, st, R, E, h⟩ := h
  refine ⟨H0, ρ, env, st, R, E, Sat.mono (SatS.thn E h) ?_⟩
  rintro v H1 ⟨H0', ρ', d, s1, x, R1, dn, E1, h1⟩
  exact h1 v H0' ρ' H1 Ext.refl R1 dn⟩
theorem ds_retN : DS X cm W (.Return none pos) sRetN := ⟨PS.imp ps_retN fun D σ H ⟨H0, ρ, env, st, R, E, h⟩ => h _ H0 ρ H Ext.refl R .non⟩
theorem ds_pass : DS X cm W (.Pass pos) sSkip := ⟨PS.imp ps_pass fun D σ H ⟨H0, ρ, env, st, R, E, h⟩ => h σ H0 ρ H Ext.refl R E⟩
theorem ds_break : DS X cm W (.Break pos) sBrk := ⟨PS.imp ps_break fun D σ H ⟨H0, ρ, env, st, R, E, h⟩ => h σ H0 ρ H Ext.refl R E⟩
theorem ds_continue : DS X cm W (.Continue pos) sCnt := ⟨PS.imp ps_continue fun D σ H ⟨H0, ρ, env, st, R, E, h⟩ => h σ H0 ρ H Ext.refl R E⟩
theorem ds_if (hc : DT X cm W c t) (ha : DSs X cm W as s1) (hb : DSs X cm W bs s2) : DS X cm W (.If c as bs pos) (sIf t s1 s2) := ⟨PS.imp (ps_if hc.pt ha.ps hb.ps) fun D σ H h => by
  obtain ⟨H0, ρ, env, st, R, E, h⟩ := h
  refine ⟨H0, ρ, env, st, R, E, Sat.mono (SatS.thnB E h) ?_⟩
  rintro b H1 ⟨H0', ρ', s1, x, R1, E1, h1⟩
  cases b with
  | true => exact iteT ⟨H0', ρ', env, s1, R1, E1, h1⟩
  | false => exact iteF ⟨H0', ρ', env, s1, R1, E1, h1⟩⟩
end
end Z

set_option maxHeartbeats 4000000
namespace Z
open PySem PySem.Spec PyProof.Rows L2

/-! ### functions -/
def spD (K : PySem.W.Frag) (cm : Str → Addr) (n : Nat) (F : Sem) : Sp := fun vs H Q E => vs.length = n ∧ ∃ H0 ρ ds st, Rep K H0 ρ H st ∧ DenL K H0 ρ vs ds ∧ Sat (Den K) K cm (fun c d H' => E c d H') H0 ρ H (F ds st) Q
/-- the def st, called x, means F: with room for k calls one in another -/
structure FdI (P : Program) (w : World) (K : PySem.W.Frag) (mg : Str → Option Value) (base : Heap) (cm : Str → Addr) (k : Nat) (x : Str) (st : Stmt) (ps : List Str) (F : Sem) : Prop where
  ex : ∃ f fd, FunD K x x (defArgs st) (defBody st) (defScope st) [] [] f fd ∧ mg x = some (.ref f) ∧ FnOk P w K mg base (L2.CX P w) k f fd ps (spD K cm ps.length F) ∧ Binds K fd ps []
/-- where a def stands -/
def At (K : PySem.W.Frag) (mg : Str → Option Value) (x : Str) (st : Stmt) : Prop := ∃ f fd, FunD K x x (defArgs st) (defBody st) (defScope st) [] [] f fd ∧ mg x = some (.ref f)
def entry (n : Nat) (ds : List D) : Env := ds.map some ++ List.replicate (n - ds.length) none
def Ctl.fin (c : Ctl) : Res D := match c with
  | .rt d s => .ok d s
  | .nx _ s => .ok .non s
  | .ex c f d _ s => .ex c f d s
  | _ => .no
@[simp] theorem Ctl.fin_rt (d : D) (s : Sto) : (Ctl.rt d s).fin = .ok d s := rfl
@[simp] theorem Ctl.fin_nx (e : Env) (s : Sto) : (Ctl.nx e s).fin = .ok .non s := rfl
@[simp] theorem Ctl.fin_ex (c f : Str) (d : D) (e : Env) (s : Sto) : (Ctl.ex c f d e s).fin = .ex c f d s := rfl
@[simp] theorem Ctl.fin_no : Ctl.no.fin = .no := rfl
def runFn (n : Nat) (body : StmD) : Sem := fun ds st => (body (entry n ds) st).fin
abbrev Bnd (x : Str) (st : Stmt) (ps : List Str) : Prop := ∀ (kV doc pm : Value) (an : Option Addr) (cdv ct : Value) (us : List Value), us.length = ps.length → bindArgs (PySem.W.fnOf x x (defArgs st) (defBody st) (defScope st) .none kV doc pm an cdv ct) ⟨us, []⟩ = pure (ps.zip us)
theorem envR_start {K : PySem.W.Frag} {H0 : Hp} {ρ : List Addr} {N : List Str} {vs : List V} {ds : List D} (l : DenL K H0 ρ vs ds) : EnvR K H0 ρ (L2.start N vs) (entry N.length ds) := by
  refine ⟨by unfold L2.start entry; rw [List.length_append, List.length_append, List.length_map, List.length_map, List.length_replicate, List.length_replicate, l.length], fun i d h => ?_⟩
  unfold entry at h
  unfold L2.start
  by_cases hi : i < ds.length
  · rw [List.getElem?_append_left (by simpa using hi), List.getElem?_map] at h
    rw [List.getElem?_append_left (by rw [List.length_map, l.length]; exact hi), List.getElem?_map]
    cases e : ds[i]? with
    | none => rw [e] at h; cases h
    | some d' =>
      rw [e] at h
      cases h
      obtain ⟨v, hv, dn⟩ := l.get e
      rw [hv]
      exact ⟨v, rfl, dn⟩
  · rw [List.getElem?_append_right (by simpa using hi), List.getElem?_replicate] at h
    split at h <;> cases h
theorem fd_mk {P : Program} {w : World} {K : PySem.W.Frag} {mg : Str → Option Value} {base : Heap} {cm : Str → Addr} {k : Nat} {x : Str} {st : Stmt} {N ps : List Str} {body : StmD} (at_ : At K mg x st) (sc : FnScope N ps (defScope st)) (bd : Bnd x st ps)
    (hb : ∀ (f : Addr) (cdv : Value) (A : Around) (outer : List PySem.Env) (s : Shared) (H : Hp) (E : XK), Room k (A.deeper (envOfC x (defScope st) s.heap.objs.size f cdv)) →
      DSs (cxOf (L2.CX P w) P w K mg base N x (defScope st) f cdv A outer s H E) cm (fun c d _ H' => E c d H') (defBody st) body) : FdI P w K mg base cm (k + 1) x st ps (runFn N.length body) := by
  obtain ⟨f, fd, F, hm⟩ := at_
  refine ⟨f, fd, F, hm, F.ok sc (fun vs H Q E h => h.1) (fun cdv A outer s H vs Q E hr h => ⟨_, (hb f cdv A outer s H E hr).ps, ?_⟩), F.bindsN bd⟩
  obtain ⟨_, H0, ρ, ds, st', R, l, h⟩ := h
  refine ⟨H0, ρ, entry N.length ds, st', R, envR_start l, ?_⟩
  unfold runFn at h
  cases e : body (entry N.length ds) st' with
  | rt d s1 => rw [e] at h; exact fun v G ρ' H' x R1 dn => h v G ρ' H' x R1 dn
  | nx en s1 => rw [e] at h; exact fun σ' G ρ' H' x R1 _ => h .non G ρ' H' x R1 .non
  | ex c f d en s1 => rw [e] at h; exact fun dd v σ' G ρ' H' x R1 _ dn ed => h dd v G ρ' H' x R1 dn ed
  | bk _ _ => rw [e] at h; exact h.elim
  | ct _ _ => rw [e] at h; exact h.elim
  | no => rw [e] at h; exact h.elim
theorem FdI.mono {P : Program} {w : World} {K : PySem.W.Frag} {mg : Str → Option Value} {base : Heap} {cm : Str → Addr} {j k : Nat} {x : Str} {st : Stmt} {ps : List Str} {F : Sem} (G : FdI P w K mg base cm j x st ps F) (h : j ≤ k) : FdI P w K mg base cm k x st ps F := by
  obtain ⟨f, fd, a, b, c, d⟩ := G.ex
  exact ⟨f, fd, a, b, c.mono h, d⟩
/-- another meaning that asks more -/
theorem FdI.imp {P : Program} {w : World} {K : PySem.W.Frag} {mg : Str → Option Value} {base : Heap} {cm : Str → Addr} {k : Nat} {x : Str} {st : Stmt} {ps : List Str} {F F' : Sem} (G : FdI P w K mg base cm k x st ps F)
    (h : ∀ H0 ρ H ds st (Wx : Value → Option Addr → Hp → Prop) (Q : VK), Rep K H0 ρ H st → Sat (Den K) K cm Wx H0 ρ H (F' ds st) Q → Sat (Den K) K cm Wx H0 ρ H (F ds st) Q) : FdI P w K mg base cm k x st ps F' := by
  obtain ⟨f, fd, a, b, c, d⟩ := G.ex
  exact ⟨f, fd, a, b, c.imp fun vs H Q E ⟨hl, H0, ρ, ds, st, R, l, q⟩ => ⟨hl, H0, ρ, ds, st, R, l, h H0 ρ H ds st _ Q R q⟩, d⟩
theorem FdI.eq {P : Program} {w : World} {K : PySem.W.Frag} {mg : Str → Option Value} {base : Heap} {cm : Str → Addr} {k : Nat} {x : Str} {st : Stmt} {ps : List Str} {F F' : Sem} (G : FdI P w K mg base cm k x st ps F) (h : F' = F) : FdI P w K mg base cm k x st ps F' := h ▸ G

section
variable {X : Cx} {cm : Str → Addr} {W : WX} {e e2 c : Expr} {f f2 : ExpD} {st : Stmt} {sts as bs : List Stmt} {s s1 s2 : StmD} {g : TgtD} {t : TstD} {pos : Pos} {ga gk : ArgD}
/-- f(e, ..) -/
theorem de_call {k : Nat} {x : Str} {df : Stmt} {ps : List Str} {F : Sem} {n : Nat} {es : List Expr} {p : Pos} (G : FdI X.prog X.w X.K X.mg X.base cm k x df ps F) (hr : Room k X.A) (tk : Takes X W) (hg : Gl X x) (ha : DA X cm W (e :: es) ga) (al : ArgLen n ga) (hn : n = ps.length := by rfl)
    (hdb : (x == ("__debug__" : Str)) = false := by decide) (he : starEach (e :: es) X.env = (false, eval e X.env) :: starEach es X.env := by rfl) (hpl : (backTo pos (starEach es X.env)).any (·.1) = false := by rfl) :
    DE X cm W (.Call (.Name x p) (e :: es) [] pos) (fCall F ga) := by
  obtain ⟨a, fd, FD, hm, ok, bd⟩ := G.ex
  refine ⟨PE.imp (pe_callS ok hr hg hm FD.kp bd (fun σ => passAt tk σ) ha.pa hdb he hpl) fun σ H Q h => ?_⟩
  obtain ⟨H0, ρ, env, st, R, E, h⟩ := h
  refine ⟨H0, ρ, env, st, R, E, ?_⟩
  cases ee : ga env st with
  | no => simp only [fCall, ee, Res.bind_no] at h; exact h.elim
  | ex c f d s1 => simp only [fCall, ee, Res.bind_ex] at h; exact h
  | ok ds s1 =>
    simp only [fCall, ee, Res.bind_ok] at h
    exact fun vs G ρ' H' x R1 l => ⟨by rw [l.length, al env st ds s1 ee, hn], G, ρ', ds, s1, R1, l, Sat.ext h x⟩
/-- f() -/
theorem run_fnS0 {CX : CXT} {k : Nat} {f : Addr} {fd : FuncData} {ps : List Str} {sp : Sp} {E : L2.St → XK} {x : Str} {p : Pos} (F : FnOk X.prog X.w X.K X.mg X.base CX k f fd ps sp) (hr : Room k X.A) (hg : Gl X x) (hm : X.mg x = some (.ref f)) (hk : PySem.W.keepIn X.K (.ref f) = true) (hb : Binds X.K fd ps []) (hx : ∀ σ, PassesAt CX X σ (E σ))
    (hdb : (x == ("__debug__" : Str)) = false := by decide) : PE X (.Call (.Name x p) [] [] pos) (fun σ H Q => sp [] H Q (E σ)) := by
  refine ⟨fun pins s σ H Q I h => ?_⟩
  refine wpAny_Call_Name_kw (ld_glob I hg hm ?_ hdb)
  exact PySem.W.callWith_K0 I.kIn hk (run_fnS (us := []) F hr hb (hx σ) I .nil h)
theorem de_call0 {k : Nat} {x : Str} {df : Stmt} {F : Sem} {p : Pos} (G : FdI X.prog X.w X.K X.mg X.base cm k x df [] F) (hr : Room k X.A) (tk : Takes X W) (hg : Gl X x) (hdb : (x == ("__debug__" : Str)) = false := by decide) :
    DE X cm W (.Call (.Name x p) [] [] pos) (fCall F fNil) := by
  obtain ⟨a, fd, FD, hm, ok, bd⟩ := G.ex
  refine ⟨PE.imp (run_fnS0 ok hr hg hm FD.kp bd (fun σ => passAt tk σ) hdb) fun σ H Q h => ?_⟩
  obtain ⟨H0, ρ, env, st, R, E, h⟩ := h
  exact ⟨rfl, H0, ρ, [], st, R, .nil, h⟩
/-- the values in the parameters' order: pm the places -/
def perm {α : Type} (pm : List Nat) (xs : List α) : List α := pm.filterMap fun i => xs[i]?
theorem perm_vals {xs : List V} {us : List Value} (r : Vals xs us) : ∀ pm : List Nat, Vals (perm pm xs) (perm pm us)
  | [] => .nil
  | i :: pm => by
    unfold perm
    rw [List.filterMap_cons, List.filterMap_cons]
    cases e : xs[i]? with
    | none =>
      rw [r.none_of e]
      exact perm_vals r pm
    | some v =>
      obtain ⟨u, hu, rv⟩ := r.get e
      rw [hu]
      exact .cons rv (perm_vals r pm)
theorem perm_den {K : PySem.W.Frag} {H0 : Hp} {ρ : List Addr} {vs : List V} {ds : List D} (l : DenL K H0 ρ vs ds) : ∀ pm : List Nat, DenL K H0 ρ (perm pm vs) (perm pm ds)
  | [] => .nil
  | i :: pm => by
    unfold perm
    rw [List.filterMap_cons, List.filterMap_cons]
    cases e : ds[i]? with
    | none =>
      have e2 : vs[i]? = none := by
        rw [List.getElem?_eq_none_iff] at e ⊢
        rw [l.length]
        exact e
      rw [e2]
      exact perm_den l pm
    | some d =>
      obtain ⟨v, hv, dn⟩ := l.get e
      rw [hv]
      exact .cons dn (perm_den l pm)
structure DK (X : Cx) (cm : Str → Addr) (W : WX) (kws : List Keyword) (f : ArgD) : Prop where
  pk : PK X kws (tDA X.K cm W f)
theorem PK.imp {kws : List Keyword} {t t' : TA} (h : PK X kws t) (i : ∀ σ H Q, t' σ H Q → t σ H Q) : PK X kws t' := ⟨fun pos pins s σ H Q I q => h.run pos pins s σ H Q I (i σ H Q q)⟩
theorem dk_nil : DK X cm W [] fNil := ⟨PK.imp pk_nil fun σ H Q ⟨H0, ρ, env, st, R, E, h⟩ => h [] H0 ρ H Ext.refl R .nil⟩
theorem dk_cons {nm : Option Str} {kpos : Pos} {kws : List Keyword} (ha : DE X cm W e f) (hr : DK X cm W kws gk) : DK X cm W (⟨nm, e, kpos⟩ :: kws) (fCons f gk) :=
  ⟨PK.imp (pk_cons ha.pe hr.pk) fun σ H Q ⟨H0, ρ, env, st, R, E, h⟩ => by
    refine ⟨H0, ρ, env, st, R, E, Sat.mono (Sat.bind (R := Den X.K) h) ?_⟩
    rintro v H1 ⟨H0', ρ', d, s1, x, R1, dn, h1⟩
    refine ⟨H0', ρ', env, s1, R1, E.mono x, Sat.mono (Sat.bind (R := DenL X.K) h1) ?_⟩
    rintro vs H2 ⟨H0'', ρ'', ds, s2, x2, R2, dn2, h2⟩
    exact h2 _ H0'' ρ'' H2 Ext.refl R2 (.cons (dn.mono x2) dn2)⟩
/-- how a call by keywords alone binds -/
abbrev KBnd (x : Str) (st : Stmt) (ps ks : List Str) (pm : List Nat) : Prop := ∀ (kV doc pm' : Value) (an : Option Addr) (cdv ct : Value) (ws : List Value), ws.length = ks.length → bindArgs (PySem.W.fnOf x x (defArgs st) (defBody st) (defScope st) .none kV doc pm' an cdv ct) ⟨[], ks.zip ws⟩ = pure (ps.zip (perm pm ws))
def fCallK (F : Sem) (pm : List Nat) (g : ArgD) : ExpD := fun env st => (g env st).bind fun ds s1 => F (perm pm ds) s1
theorem de_callK {k : Nat} {x : Str} {df : Stmt} {ps ks : List Str} {pm : List Nat} {F : Sem} {p : Pos} {kws : List Keyword} (G : FdI X.prog X.w X.K X.mg X.base cm k x df ps F) (hr : Room k X.A) (tk : Takes X W) (hg : Gl X x) (ha : DK X cm W kws gk) (al : ArgLen ks.length gk) (kb : KBnd x df ps ks pm)
    (hpm : ∀ ds : List D, ds.length = ks.length → (perm pm ds).length = ps.length)
    (hall : (backToKw pos (keywordEach kws X.env)).all (·.1.isSome) = true := by rfl) (hks : (backToKw pos (keywordEach kws X.env)).filterMap (·.1) = ks := by rfl)
    (hdb : (x == ("__debug__" : Str)) = false := by decide) (hpl : ((backTo pos (starEach [] X.env)).any (·.1) || (backToKw pos (keywordEach kws X.env)).any (·.1.isNone)) = false := by rfl) :
    DE X cm W (.Call (.Name x p) [] kws pos) (fCallK F pm gk) := by
  obtain ⟨a, fd, FD, hm, ok, bd⟩ := G.ex
  refine ⟨⟨fun pins s σ H Q I h => ?_⟩⟩
  refine wpAny_Call_Name_kw (ld_glob I hg hm ?_ hdb)
  refine PySem.W.callWith_KW0 (h₀ := X.base) I.ok.mod.kin FD.kp hall ?_ hpl
  have key : tDA X.K cm W gk σ H fun zs H1 => zs.length = ks.length ∧ spD X.K cm ps.length F (perm pm zs) H1 Q (WE W σ) := by
    obtain ⟨H0, ρ, env, st, R, E, h⟩ := h
    refine ⟨H0, ρ, env, st, R, E, ?_⟩
    cases ee : gk env st with
    | no => simp only [fCallK, ee, Res.bind_no] at h; exact h.elim
    | ex c f d s1 => simp only [fCallK, ee, Res.bind_ex] at h; exact h
    | ok ds s1 =>
      simp only [fCallK, ee, Res.bind_ok] at h
      have hl := al env st ds s1 ee
      exact fun vs G ρ' H' x R1 l => ⟨by rw [l.length, hl], by rw [(perm_den l pm).length]; exact hpm ds hl, G, ρ', perm pm ds, s1, R1, perm_den l pm, Sat.ext h x⟩
  refine thn (ha.pk.run pos pins s σ H _ I key) fun ws s2 ⟨zs, H2, I2, rz, lz, q2⟩ => ⟨I2.kIn, ?_⟩
  rw [hks]
  have lw : ws.length = ks.length := rz.length.symm.trans lz
  obtain ⟨oc, od, dV, kV, doc, pm', an, cdv, ct, osl, efd, lk, hcd, hD, hK⟩ := FD.ex
  have hdV : dV = .none := by
    rcases hD with ⟨_, q⟩ | ⟨q, _⟩
    · exact q
    · exact absurd rfl q
  have bt : BindsTo s2 fd ⟨[], ks.zip ws⟩ (ps.zip (perm pm ws)) := by
    rw [efd, hdV]
    exact .of_eq (kb kV doc pm' an cdv ct ws lw)
  refine wpAny_call (codeAny_mono (ok.run X.A X.stack s2 H2 ⟨[], ks.zip ws⟩ (perm pm ws) (perm pm zs) Q (WE W σ) hr I2.env0 bt (perm_vals rz pm) q2) fun r s' hq => ?_)
  cases r with
  | error e => exact passAt tk σ pins H2 s2 e s' I2 hq
  | ok fl =>
    cases fl with
    | ret u => exact I2.after hq
    | next => exact False.elim hq
    | brk => exact False.elim hq
    | cont => exact False.elim hq
end

/-! ### what is left behind a def: its own objects are dropped -/
mutual
def D.lt (n : Nat) : D → Bool
  | .tup xs => D.ltL n xs
  | .lst xs => D.ltL n xs
  | .scr xs => D.ltL n xs
  | .dct _ xs => D.ltL n xs
  | .loc k => decide (k < n)
  | _ => true
def D.ltL (n : Nat) : List D → Bool
  | [] => true
  | x :: xs => D.lt n x && D.ltL n xs
end
def Ob.lt (n : Nat) : Ob → Bool
  | .lst xs => D.ltL n xs
  | .dK _ xs => D.ltL n xs
  | .lk _ xs => D.ltL n xs
section
variable {K : PySem.W.Frag} {H0 H : Hp} {ρ : List Addr} {n : Nat}
mutual
theorem Den.cut : ∀ {v : V} {d : D}, Den K H0 ρ v d → d.lt n = true → Den K H0 (ρ.take n) v d
  | _, _, .non, _ => .non
  | _, _, .bl b, _ => .bl b
  | _, _, .int i, _ => .int i
  | _, _, .str s, _ => .str s
  | _, _, .tup h l, e => .tup h (DenL.cut l e)
  | _, _, .lst h l, e => .lst h (DenL.cut l e)
  | _, _, .scr h l, e => .scr h (DenL.cut l e)
  | _, _, .dct h l, e => .dct h (DenL.cut l e)
  | _, _, .loc (k := k) h, e => .loc (by rw [List.getElem?_take_of_lt (of_decide_eq_true e)]; exact h)
theorem DenL.cut : ∀ {vs : List V} {ds : List D}, DenL K H0 ρ vs ds → D.ltL n ds = true → DenL K H0 (ρ.take n) vs ds
  | _, _, .nil, _ => .nil
  | _, _, .cons h l, e => by
    obtain ⟨e1, e2⟩ := Bool.and_eq_true_iff.mp e
    exact .cons (Den.cut h e1) (DenL.cut l e2)
end
theorem ObD.cut {a : Addr} : ∀ {o : Ob}, ObD K H0 ρ H a o → o.lt n = true → ObD K H0 (ρ.take n) H a o
  | .lst _, ⟨vs, h, l⟩, e => ⟨vs, h, l.cut e⟩
  | .dK _ _, ⟨kvs, h, hk, l⟩, e => ⟨kvs, h, hk, l.cut e⟩
  | .lk _ _, ⟨ob, kvs, h, hk, l⟩, e => ⟨ob, kvs, h, hk, l.cut e⟩
theorem all_get {st : Sto} {k : Nat} {o : Ob} (h : st.all (Ob.lt n) = true) (e : st[k]? = some o) : o.lt n = true := List.all_eq_true.mp h o (List.mem_of_getElem? e)
theorem Rep.drop {st : Sto} (R : Rep K H0 ρ H st) (n : Nat) (h : (st.take n).all (Ob.lt n) = true) : Rep K H0 (ρ.take n) H (st.take n) :=
  R.cut n fun k a o _ hs x => x.cut (all_get h hs)
end
/-- the store as it was, but for the elder objects' changes -/
def gcT (F : Sem) : Sem := fun ds st => match F ds st with
  | .ok d s => (match d.lt st.length && (s.take st.length).all (Ob.lt st.length) with
    | true => .ok d (s.take st.length)
    | false => .no)
  | .ex c f d s => (match d.lt st.length && (s.take st.length).all (Ob.lt st.length) with
    | true => .ex c f d (s.take st.length)
    | false => .no)
  | .no => .no
/-- the list that is handed back is no longer changed -/
def gcF (F : Sem) : Sem := fun ds st => match F ds st with
  | .ok (.loc k) s => (match s[k]? with
    | some (.lst xs) => (match decide (st.length ≤ k) && (D.ltL st.length xs && (s.take st.length).all (Ob.lt st.length)) with
      | true => .ok (.lst xs) (s.take st.length)
      | false => .no)
    | _ => .no)
  | .ok _ _ => .no
  | .ex c f d s => (match d.lt st.length && (s.take st.length).all (Ob.lt st.length) with
    | true => .ex c f d (s.take st.length)
    | false => .no)
  | .no => .no
section
variable {P : Program} {w : World} {K : PySem.W.Frag} {mg : Str → Option Value} {base : Heap} {cm : Str → Addr} {k : Nat} {x : Str} {st : Stmt} {ps : List Str} {F : Sem}
theorem Ext.cutT {H0 H H0' H' : Hp} {ρ ρ' : List Addr} {n : Nat} (x : Ext H0 ρ H H0' ρ' H') (e : ρ.length = n) : ρ'.take n = ρ ∧ Ext H0 ρ H H0' (ρ'.take n) H' := by
  obtain ⟨m, em⟩ := x.e.r
  have q : ρ'.take n = ρ := by
    rw [em, ← e, List.take_append_of_le_length (Nat.le_refl _), List.take_length]
  refine ⟨q, ⟨⟨x.e.h, [], by rw [q, List.append_nil]⟩, fun a o h hn => ?_, x.z⟩⟩
  obtain ⟨n1, k1, z⟩ := x.f a o h hn
  exact ⟨by rw [q]; exact hn, k1, z⟩
theorem sat_cutX {H0 H : Hp} {ρ : List Addr} {st s : Sto} {c f : Str} {d : D} {Wx : Value → Option Addr → Hp → Prop} {Q : VK} (R : Rep K H0 ρ H st)
    (q : Sat (Den K) K cm Wx H0 ρ H (match d.lt st.length && (s.take st.length).all (Ob.lt st.length) with | true => .ex c f d (s.take st.length) | false => .no) Q) : Sat (Den K) K cm Wx H0 ρ H (.ex c f d s) Q := by
  cases e : d.lt st.length && (s.take st.length).all (Ob.lt st.length) with
  | false => rw [e] at q; exact q.elim
  | true =>
    rw [e] at q
    obtain ⟨e1, e2⟩ := Bool.and_eq_true_iff.mp e
    intro dd v H0' ρ' H' x R1 dn ed
    exact q dd v H0' (ρ'.take st.length) H' (x.cutT R.len).2 (R1.drop _ e2) (dn.cut e1) ed
theorem fd_gcT (G : FdI P w K mg base cm k x st ps F) : FdI P w K mg base cm k x st ps (gcT F) := G.imp fun H0 ρ H ds st Wx Q R q => by
  unfold gcT at q
  cases eF : F ds st with
  | no => rw [eF] at q; exact q
  | ex c f d s => rw [eF] at q; exact sat_cutX R q
  | ok d s =>
    rw [eF] at q
    simp only at q
    cases e : d.lt st.length && (s.take st.length).all (Ob.lt st.length) with
    | false => rw [e] at q; exact q.elim
    | true =>
      rw [e] at q
      obtain ⟨e1, e2⟩ := Bool.and_eq_true_iff.mp e
      intro v H0' ρ' H' x R1 dn
      exact q v H0' (ρ'.take st.length) H' (x.cutT R.len).2 (R1.drop _ e2) (dn.cut e1)
theorem fd_gcF (G : FdI P w K mg base cm k x st ps F) : FdI P w K mg base cm k x st ps (gcF F) := G.imp fun H0 ρ H ds st Wx Q R q => by
  unfold gcF at q
  cases eF : F ds st with
  | no => rw [eF] at q; exact q
  | ex c f d s => rw [eF] at q; exact sat_cutX R q
  | ok d s =>
    rw [eF] at q
    cases d with
    | loc j =>
      simp only at q
      cases es : s[j]? with
      | none => rw [es] at q; exact q.elim
      | some o =>
        rw [es] at q
        cases o with
        | dK _ _ => exact q.elim
        | lk _ _ => exact q.elim
        | lst xs =>
          simp only at q
          cases e : decide (st.length ≤ j) && (D.ltL st.length xs && (s.take st.length).all (Ob.lt st.length)) with
          | false => rw [e] at q; exact q.elim
          | true =>
            rw [e] at q
            obtain ⟨e1, e2⟩ := Bool.and_eq_true_iff.mp e
            obtain ⟨e2, e3⟩ := Bool.and_eq_true_iff.mp e2
            have hj := of_decide_eq_true e1
            intro v H0' ρ' H' x R1 dn
            cases dn with
            | @loc a _ ha =>
              obtain ⟨vs, h1, l⟩ := locL R1 ha es
              obtain ⟨q1, x2⟩ := x.cutT R.len
              have a0 : H0' a = none := R1.out a (List.mem_of_getElem? ha)
              have nin : a ∉ ρ := fun hm => by
                obtain ⟨i, hi, ei⟩ := List.mem_iff_getElem.mp hm
                have g : ρ'[i]? = some a := x.e.get (by rw [List.getElem?_eq_getElem hi, ei])
                have := R1.inj g ha
                have hl := R.len
                omega
              have R2 := R1.drop st.length e3
              refine q (.ref a) (upd H0' a (.lst vs)) (ρ'.take st.length) H' ⟨⟨fun b u hb => ?_, x2.e.r⟩, fun b u hb nb => ?_, x2.z⟩ ⟨fun b u hb => ?_, R2.len, R2.nd, fun b hb => ?_, fun i b o hi ho => ?_⟩ (.lst upd_same ((l.cut e2).mono0 (Ex0.new a0)))
              · rcases x.e.h b u hb with z | ⟨z1, ob, z⟩
                · exact .inl (by rw [upd_ne (ne_of_none z a0)]; exact z)
                · exact .inr ⟨z1, ob, by rw [upd_ne (ne_of_none z a0)]; exact z⟩
              · obtain ⟨n1, k1, z⟩ := x2.f b u hb nb
                refine ⟨n1, fun q0 => ?_, z⟩
                have nba : b ≠ a := fun q2 => (x.f b u hb nb).1 (by rw [q2]; exact List.mem_of_getElem? ha)
                rw [upd_ne nba]
                exact k1 q0
              · by_cases z : b = a
                · subst z
                  rw [upd_same] at hb
                  cases hb
                  exact h1
                · rw [upd_ne z] at hb
                  exact R1.sub b u hb
              · rw [upd_ne fun z => nin (by rw [← q1, ← z]; exact hb)]
                exact R2.out b hb
              · exact (R2.ob i b o hi ho).mono (Ex0.new a0) fun _ h => h
    | _ => exact q.elim
end

/-! ### for -/
inductive SrcD where
  | fz (xs : List D) | lc (k : Nat)
abbrev ItrD := Env → Sto → Res SrcD
/-- the turns of J give xs -/
def ItOk (K : PySem.W.Frag) (J : It) (H0 : Hp) (ρ : List Addr) (xs : List D) : Prop :=
  (∀ (i : Nat) (x : D) H H0' ρ' H' st, Ext H0 ρ H H0' ρ' H' → Rep K H0' ρ' H' st → xs[i]? = some x → J.go i H' ∧ ∀ v H2, J.yld i H' v H2 → ∃ H0'', Ext H0' ρ' H' H0'' ρ' H2 ∧ Rep K H0'' ρ' H2 st ∧ Den K H0'' ρ' v x) ∧
  (∀ H H0' ρ' H' st, Ext H0 ρ H H0' ρ' H' → Rep K H0' ρ' H' st → J.stop xs.length H')
def SrcR (K : PySem.W.Frag) : Hp → List Addr → It → SrcD → Prop
  | H0, ρ, J, .fz xs => ItOk K J H0 ρ xs
  | _, ρ, J, .lc k => ∃ a, ρ[k]? = some a ∧ J = Itl K a
def tI (K : PySem.W.Frag) (cm : Str → Addr) (W : WX) (f : ItrD) : TI := fun σ H R => ∃ H0 ρ env st, Rep K H0 ρ H st ∧ EnvR K H0 ρ σ env ∧ Sat (SrcR K) K cm (fun c d H' => W c d σ H') H0 ρ H (f env st) R
structure DI (X : Cx) (cm : Str → Addr) (W : WX) (tg iter : Expr) (f : ItrD) : Prop where
  pi : PI X tg iter (tI X.K cm W f)
def forD (g : TgtD) (body : StmD) : List D → Env → Sto → Ctl
  | [], env, st => .nx env st
  | x :: xs, env, st => match g x env st with
    | .ok e1 s1 => (match body e1 s1 with
      | .nx e s => forD g body xs e s
      | .ct e s => forD g body xs e s
      | .bk e s => .nx e s
      | r => r)
    | .ex c f d s => .ex c f d env s
    | .no => .no
def forK (g : TgtD) (body : StmD) (k : Nat) : Nat → Nat → Env → Sto → Ctl
  | 0, _, _, _ => .no
  | m + 1, i, env, st => match st[k]? with
    | some (.lst xs) => (match xs[i]? with
      | none => .nx env st
      | some x => (match g x env st with
        | .ok e1 s1 => (match body e1 s1 with
          | .nx e s => forK g body k m (i + 1) e s
          | .ct e s => forK g body k m (i + 1) e s
          | .bk e s => .nx e s
          | r => r)
        | .ex c f d s => .ex c f d env s
        | .no => .no))
    | _ => .no
def lenAt (st : Sto) (k : Nat) : Nat := match st[k]? with
  | some (.lst xs) => xs.length
  | _ => 0
def sFor (f : ItrD) (g : TgtD) (body : StmD) : StmD := fun env st => match f env st with
  | .ok (.fz xs) s => forD g body xs env s
  | .ok (.lc k) s => forK g body k (lenAt s k + 1) 0 env s
  | .ex c f d s => .ex c f d env s
  | .no => .no
def PgI (K : PySem.W.Frag) (J : It) := J
section
variable {K : PySem.W.Frag} {cm : Str → Addr} {W : WX} {f : ItrD} {g : TgtD} {body : StmD}
/-- one turn -/
theorem turn_imp {D : Ends} {N : L2.St → Hp → Prop} {H0 H : Hp} {ρ : List Addr} {σ : L2.St} {env : Env} {st : Sto} {v : V} {d : Z.D} {more : Env → Sto → Ctl} (R : Rep K H0 ρ H st) (E : EnvR K H0 ρ σ env) (dn : Den K H0 ρ v d)
    (h : SatS K cm W D H0 ρ H (match g d env st with | .ok e1 s1 => (match body e1 s1 with | .nx e s => more e s | .ct e s => more e s | .bk e s => .nx e s | r => r) | .ex c f d s => .ex c f d env s | .no => .no))
    (hN : ∀ e s σ' H0' ρ' H', Ext H0 ρ H H0' ρ' H' → Rep K H0' ρ' H' s → EnvR K H0' ρ' σ' e → SatS K cm W D H0' ρ' H' (more e s) → N σ' H') :
    tG K cm W g v σ H fun σ2 H2 => tS K cm W body { D with nx := N, ct := N, bk := D.nx } σ2 H2 := by
  refine ⟨H0, ρ, env, st, d, R, E, dn, ?_⟩
  cases eg : g d env st with
  | no => rw [eg] at h; exact h
  | ex c f d2 s2 => rw [eg] at h; exact fun dd v2 G ρ2 H2 y R2 dn2 ed => h dd v2 σ G ρ2 H2 y R2 (E.mono y) dn2 ed
  | ok e1 s1 =>
    rw [eg] at h
    simp only at h
    intro σ2 G ρ2 H2 y R2 E2
    refine ⟨G, ρ2, e1, s1, R2, E2, ?_⟩
    have h := SatS.ext h y
    cases eb : body e1 s1 with
    | nx e s => rw [eb] at h; exact fun σ' G' ρ' H' x R1 E1 => hN e s σ' G' ρ' H' (y.trans x) R1 E1 (SatS.ext h x)
    | ct e s => rw [eb] at h; exact fun σ' G' ρ' H' x R1 E1 => hN e s σ' G' ρ' H' (y.trans x) R1 E1 (SatS.ext h x)
    | bk e s => rw [eb] at h; exact h
    | rt d s => rw [eb] at h; exact h
    | ex c f d e s => rw [eb] at h; exact h
    | no => rw [eb] at h; exact h
theorem for_imp {D : Ends} {σ : L2.St} {H : Hp} (h : tS K cm W (sFor f g body) D σ H) : tFor (tI K cm W f) (tG K cm W g) (tS K cm W body) D σ H := by
  obtain ⟨H0, ρ, env, st, R, E, h⟩ := h
  refine ⟨H0, ρ, env, st, R, E, ?_⟩
  unfold sFor at h
  cases ef : f env st with
  | no => rw [ef] at h; exact h
  | ex c fl d s => rw [ef] at h; exact fun dd v G ρ' H' x R1 dn ed => h dd v σ G ρ' H' x R1 (E.mono x) dn ed
  | ok src s =>
    rw [ef] at h
    intro J H1 ρ1 G1 x1 R1 hJ
    have E1 := E.mono x1
    have h1 := SatS.ext h x1
    cases src with
    | fz xs =>
      have hJ : ItOk K J H1 ρ1 xs := hJ
      have h1 : SatS K cm W D H1 ρ1 G1 (forD g body xs env s) := h1
      refine ⟨fun i m σ' H' => i ≤ xs.length ∧ m = xs.length - i ∧ ∃ H0' ρ' env' st', Ext H1 ρ1 G1 H0' ρ' H' ∧ Rep K H0' ρ' H' st' ∧ EnvR K H0' ρ' σ' env' ∧ SatS K cm W D H0' ρ' H' (forD g body (xs.drop i) env' st'),
        ⟨xs.length, Nat.zero_le _, rfl, H1, ρ1, env, s, Ext.refl, R1, E1, h1⟩, ?_⟩
      rintro i m σ' H' ⟨hi, rfl, H0', ρ', env', st', x', R', E', h'⟩
      by_cases hlt : i < xs.length
      · have ex : xs[i]? = some xs[i] := List.getElem?_eq_getElem hlt
        obtain ⟨hgo, hy⟩ := hJ.1 i xs[i] G1 H0' ρ' H' st' x' R' ex
        refine .inr ⟨hgo, fun σ2 H2 => ∃ H0'' ρ'' env'' st'', Ext H1 ρ1 G1 H0'' ρ'' H2 ∧ Rep K H0'' ρ'' H2 st'' ∧ EnvR K H0'' ρ'' σ2 env'' ∧ SatS K cm W D H0'' ρ'' H2 (forD g body (xs.drop (i + 1)) env'' st''),
          fun σ2 H2 q => ⟨xs.length - (i + 1), by omega, hlt, rfl, q⟩, fun v H2 yv => ?_⟩
        obtain ⟨H0'', x2, R2, dn⟩ := hy v H2 yv
        rw [List.drop_eq_getElem_cons hlt] at h'
        exact turn_imp R2 (E'.mono x2) dn (SatS.ext h' x2) fun e s σ3 G3 ρ3 H3 x3 R3 E3 q => ⟨G3, ρ3, e, s, (x'.trans x2).trans x3, R3, E3, q⟩
      · have ei : i = xs.length := by omega
        subst ei
        rw [List.drop_length] at h'
        exact .inl ⟨hJ.2 G1 H0' ρ' H' st' x' R', h' σ' H0' ρ' H' Ext.refl R' E'⟩
    | lc k =>
      obtain ⟨a, ha, rfl⟩ := hJ
      have h1 : SatS K cm W D H1 ρ1 G1 (forK g body k (lenAt s k + 1) 0 env s) := h1
      refine ⟨fun i m σ' H' => ∃ H0' ρ' env' st', ρ'[k]? = some a ∧ Rep K H0' ρ' H' st' ∧ EnvR K H0' ρ' σ' env' ∧ SatS K cm W D H0' ρ' H' (forK g body k m i env' st'),
        ⟨_, H1, ρ1, env, s, ha, R1, E1, h1⟩, ?_⟩
      rintro i m σ' H' ⟨H0', ρ', env', st', ha', R', E', h'⟩
      cases m with
      | zero => exact h'.elim
      | succ m =>
        unfold forK at h'
        cases es : st'[k]? with
        | none => rw [es] at h'; exact h'.elim
        | some o =>
          cases o with
          | dK _ _ => rw [es] at h'; exact h'.elim
          | lk _ _ => rw [es] at h'; exact h'.elim
          | lst xs =>
            rw [es] at h'
            simp only at h'
            obtain ⟨vs, hv, l⟩ := locL R' ha' es
            cases ei : xs[i]? with
            | none =>
              rw [ei] at h'
              refine .inl ⟨⟨vs, SqL.of hv, ?_⟩, h' σ' H0' ρ' H' Ext.refl R' E'⟩
              rw [l.length]
              exact List.getElem?_eq_none_iff.mp ei
            | some x =>
              rw [ei] at h'
              simp only at h'
              obtain ⟨v, hvi, dn⟩ := l.get ei
              refine .inr ⟨⟨vs, v, SqL.of hv, hvi⟩, fun σ2 H2 => ∃ H0'' ρ'' env'' st'', ρ''[k]? = some a ∧ Rep K H0'' ρ'' H2 st'' ∧ EnvR K H0'' ρ'' σ2 env'' ∧ SatS K cm W D H0'' ρ'' H2 (forK g body k m (i + 1) env'' st''),
                fun σ2 H2 q => ⟨m, Nat.lt_succ_self m, q⟩, fun v' H2 yv => ?_⟩
              obtain ⟨e2, yv⟩ := yv
              subst e2
              have ev := yv vs (SqL.of hv)
              rw [hvi] at ev
              cases ev
              exact turn_imp R' E' dn h' fun e s σ3 G3 ρ3 H3 x3 R3 E3 q => ⟨G3, ρ3, e, s, x3.e.get ha', R3, E3, q⟩
end
section
variable {X : Cx} {cm : Str → Addr} {W : WX} {tg iter e : Expr} {fi : ItrD} {f : ExpD} {g : TgtD} {body : List Stmt} {sb : StmD} {t : TstD} {pos : Pos} {ga : ArgD}
theorem ds_for (hp : PassesOwn (model X.prog X.w) X.A X.env X.xe) (hc : X.calm = true) (hi : DI X cm W tg iter fi) (hg : DG X cm W tg g) (hb : DSs X cm W body sb) (hs : ∀ x, foldedSetIterable iter X.env x = pure x := by intro _; rfl) :
    DS X cm W (.For tg iter body [] pos) (sFor fi g sb) := ⟨PS.imp (ps_for hp hc hi.pi hg.pg hb.ps hs) fun _ _ _ h => for_imp h⟩
theorem PI.imp {w w' : TI} (h : PI X tg iter w) (i : ∀ σ H R, w' σ H R → w σ H R) : PI X tg iter w' := ⟨fun pins s σ H R I q => h.run pins s σ H R I (i σ H R q)⟩
/-- a list or a tuple as it comes -/
theorem pi_seq {l : Expr} {tl : TE} (hl : PE X l tl) : PI X tg l (fun σ H R => tl σ H fun x H1 => (∃ a, x = .ref a ∧ (∃ xs, SqL X.K H1 a xs) ∧ R (Itl X.K a) H1) ∨ ∃ a, x = .ref a ∧ (∃ xs, SqT X.K H1 a xs) ∧ R (Itt X.K a) H1) := by
  refine ⟨fun pins s σ H R I h => ?_⟩
  refine thn (hl.run pins s σ H _ I h) fun v s1 ⟨x, H1, I1, r1, q1⟩ => ?_
  rcases q1 with ⟨a, e, ⟨xs, hq⟩, q⟩ | ⟨a, e, ⟨xs, hq⟩, q⟩
  · subst e
    cases r1
    obtain ⟨its, rv, p, hz⟩ := I1.list hq
    refine wpAny_pyIter_list p.isList ?_
    refine ⟨s1.heap.objs.size, [s1.heap.objs.size], _, _, H1, rfl, I1.kept (t' := s1.toks) fun b o e => Heap.get?_push_of_some _ e, turn_list a _, ⟨_, Heap.get?_push_size _ rfl, rfl, rfl⟩, fun b hb => ?_, q⟩
    have e : b = s1.heap.objs.size := by simpa using hb
    subst e
    exact I1.fpOk (Nat.le_refl _) (I1.hok.fresh (Nat.le_refl _))
  · subst e
    cases r1
    obtain ⟨its, rv, p, hz⟩ := I1.tuple hq
    refine wpAny_pyIter_tuple (show s1.heap.IsTuple a its.toArray from p) ?_
    refine ⟨s1.heap.objs.size, [s1.heap.objs.size], _, _, H1, rfl, I1.kept (t' := s1.toks) fun b o e => Heap.get?_push_of_some _ e, turn_tuple a _, ⟨_, Heap.get?_push_size _ rfl, rfl, rfl⟩, fun b hb => ?_, q⟩
    have e : b = s1.heap.objs.size := by simpa using hb
    subst e
    exact I1.fpOk (Nat.le_refl _) (I1.hok.fresh (Nat.le_refl _))
def srcD (st : Sto) : D → Option SrcD
  | .tup xs => some (.fz xs)
  | .lst xs => some (.fz xs)
  | .scr xs => some (.fz xs)
  | .loc k => match st[k]? with
    | some (.lst _) => some (.lc k)
    | _ => none
  | _ => none
def fIt (f : ExpD) : ItrD := fun env st => (f env st).bind fun d s => match srcD s d with
  | some x => .ok x s
  | none => .no
theorem SqL.inj {K : PySem.W.Frag} {H : Hp} {a : Addr} {xs : List V} (h : H a = some (.lst xs)) {ys : List V} (q : SqL K H a ys) (hk : K.lookup a = none) : ys = xs := by
  rcases q with (q | ⟨o, q⟩) | ⟨o, its, n, z, _⟩
  · rw [h] at q; cases q; rfl
  · rw [h] at q; cases q
  · rw [hk] at z; cases z
/-- the items of a list that stays, turn by turn: what a turn yields is in every reading of it -/
theorem itOk_list {K : PySem.W.Frag} {H0 : Hp} {ρ : List Addr} {a : Addr} {vs : List V} {ds : List D} (hs : SqL K H0 a vs) (l : DenL K H0 ρ vs ds) : ItOk K (Itl K a) H0 ρ ds := by
  refine ⟨fun i x H H0' ρ' H' st xt R e => ?_, fun H H0' ρ' H' st xt R => ⟨vs, R.sqL (xt.e.sqL hs), by rw [l.length]; exact Nat.le_refl _⟩⟩
  obtain ⟨v, hv, dn⟩ := l.get e
  refine ⟨⟨vs, v, R.sqL (xt.e.sqL hs), hv⟩, fun v' H2 y => ?_⟩
  obtain ⟨e2, y⟩ := y
  subst e2
  have ev := y vs (R.sqL (xt.e.sqL hs))
  rw [hv] at ev
  cases ev
  exact ⟨H0', Ext.refl, R, dn.mono xt⟩
theorem itOk_tup {K : PySem.W.Frag} {H0 : Hp} {ρ : List Addr} {a : Addr} {vs : List V} {ds : List D} (hs : SqT K H0 a vs) (l : DenL K H0 ρ vs ds) : ItOk K (Itt K a) H0 ρ ds := by
  refine ⟨fun i x H H0' ρ' H' st xt R e => ?_, fun H H0' ρ' H' st xt R => ⟨vs, R.sqT (xt.e.sqT hs), by rw [l.length]; exact Nat.le_refl _⟩⟩
  obtain ⟨v, hv, dn⟩ := l.get e
  refine ⟨⟨vs, v, R.sqT (xt.e.sqT hs), hv⟩, fun v' H2 y => ?_⟩
  obtain ⟨e2, y⟩ := y
  subst e2
  have ev := y vs (R.sqT (xt.e.sqT hs))
  rw [hv] at ev
  cases ev
  exact ⟨H0', Ext.refl, R, dn.mono xt⟩
theorem di_seq (he : DE X cm W e f) : DI X cm W tg e (fIt f) := ⟨PI.imp (pi_seq he.pe) fun σ H Q h => by
  obtain ⟨H0, ρ, env, st, R, E, h⟩ := h
  refine ⟨H0, ρ, env, st, R, E, Sat.mono (Sat.bind (R := Den X.K) h) ?_⟩
  rintro v H1 ⟨H0', ρ', d, s1, x, R1, dn, h1⟩
  cases dn with
  | tup hs l => exact .inr ⟨_, rfl, ⟨_, R1.sqT hs⟩, h1 _ H0' ρ' H1 Ext.refl R1 (itOk_tup hs l)⟩
  | lst hs l => exact .inl ⟨_, rfl, ⟨_, SqL.of (R1.sub _ _ hs)⟩, h1 _ H0' ρ' H1 Ext.refl R1 (itOk_list (SqL.of hs) l)⟩
  | scr hs l => exact .inl ⟨_, rfl, ⟨_, R1.sqL hs⟩, h1 _ H0' ρ' H1 Ext.refl R1 (itOk_list hs l)⟩
  | @loc a k ha =>
    have h1 : Sat (SrcR X.K) X.K cm (fun c d H' => W c d σ H') H0' ρ' H1 (match (match s1[k]? with | some (.lst _) => some (SrcD.lc k) | _ => none) with | some x => .ok x s1 | none => .no) Q := h1
    cases es : s1[k]? with
    | none => rw [es] at h1; exact h1.elim
    | some o =>
      cases o with
      | dK _ _ => rw [es] at h1; exact h1.elim
      | lk _ _ => rw [es] at h1; exact h1.elim
      | lst xs =>
        rw [es] at h1
        obtain ⟨vs, hv, l⟩ := locL R1 ha es
        exact .inl ⟨a, rfl, ⟨vs, SqL.of hv⟩, h1 _ H0' ρ' H1 Ext.refl R1 ⟨a, ha, rfl⟩⟩
  | _ => exact h1.elim⟩
/-- ranges -/
def rgD (lo c : Int) (n : Nat) : List D := (List.range n).map fun (i : Nat) => D.int (lo + (i : Int) * c)
theorem rgD_get {lo c : Int} {n i : Nat} {x : D} (h : (rgD lo c n)[i]? = some x) : i < n ∧ x = .int (lo + (i : Int) * c) := by
  unfold rgD at h
  rw [List.getElem?_map] at h
  cases e : (List.range n)[i]? with
  | none => rw [e] at h; cases h
  | some j =>
    rw [e] at h
    cases h
    have q := List.getElem?_eq_some_iff.mp e
    obtain ⟨h1, h2⟩ := q
    rw [List.length_range] at h1
    rw [List.getElem_range] at h2
    exact ⟨h1, by rw [h2]⟩
def rgB (j : Int) : Bool := decide (-(2 ^ 62) ≤ j) && decide (j < 2 ^ 62)
theorem rgB_ok {j : Int} (h : rgB j = true) : -(2 ^ 62) ≤ j ∧ j < 2 ^ 62 := by
  obtain ⟨a, b⟩ := Bool.and_eq_true_iff.mp h
  exact ⟨of_decide_eq_true a, of_decide_eq_true b⟩
def fRg1 (ga : ArgD) : ItrD := fun env st => (ga env st).bind fun ds s => match ds with
  | [.int j] => (match rgB j with
    | true => .ok (.fz (rgD 0 1 j.toNat)) s
    | false => .no)
  | _ => .no
def fRg2 (ga : ArgD) : ItrD := fun env st => (ga env st).bind fun ds s => match ds with
  | [.int i, .int j] => (match rgB i && rgB j with
    | true => .ok (.fz (rgD i 1 (j - i).toNat)) s
    | false => .no)
  | _ => .no
theorem itOk_rng {K : PySem.W.Frag} {H0 : Hp} {ρ : List Addr} {lo : Int} {n : Nat} : ItOk K (Itr lo n) H0 ρ (rgD lo 1 n) := by
  refine ⟨fun i x H H0' ρ' H' st xt R e => ?_, fun H H0' ρ' H' st xt R => by unfold rgD; rw [List.length_map, List.length_range]; exact Nat.le_refl n⟩
  obtain ⟨hi, rfl⟩ := rgD_get e
  refine ⟨hi, fun v' H2 y => ?_⟩
  obtain ⟨e2, y⟩ := y
  subst e2 y
  rw [Int.mul_one]
  exact ⟨H0', Ext.refl, R, .int _⟩
theorem di_rg1 {a : Expr} {p : Pos} (hg : Gl X "range") (hm : X.mg "range" = none) (ha : DA X cm W [a] ga) (hs : starEach [a] X.env = [(false, eval a X.env)] := by rfl) : DI X cm W tg (.Call (.Name "range" p) [a] [] pos) (fRg1 ga) := ⟨PI.imp (pi_range1 hg hm ha.pa hs) fun σ H Q h => by
  obtain ⟨H0, ρ, env, st, R, E, h⟩ := h
  refine ⟨H0, ρ, env, st, R, E, Sat.mono (Sat.bind (R := DenL X.K) h) ?_⟩
  rintro v H1 ⟨H0', ρ', ds, s1, x, R1, l, h1⟩
  match ds, v, l with
  | [.int j], _, .cons r .nil =>
    cases r.int_inv
    simp only at h1
    cases e : rgB j with
    | false => rw [e] at h1; exact h1.elim
    | true =>
      rw [e] at h1
      exact ⟨j, rfl, (rgB_ok e).1, (rgB_ok e).2, h1 _ H0' ρ' H1 Ext.refl R1 itOk_rng⟩
  | [], _, _ => exact h1.elim
  | .int _ :: _ :: _, _, _ => exact h1.elim
  | .non :: _, _, _ => exact h1.elim
  | .bl _ :: _, _, _ => exact h1.elim
  | .str _ :: _, _, _ => exact h1.elim
  | .tup _ :: _, _, _ => exact h1.elim
  | .lst _ :: _, _, _ => exact h1.elim
  | .scr _ :: _, _, _ => exact h1.elim
  | .dct _ _ :: _, _, _ => exact h1.elim
  | .loc _ :: _, _, _ => exact h1.elim⟩
/-- two ints in a list, or not -/
def two? : List D → Option (Int × Int)
  | [.int i, .int j] => some (i, j)
  | _ => none
theorem two_den {K : PySem.W.Frag} {H : Hp} {ρ : List Addr} {vs : List V} {ds : List D} {p : Int × Int} (l : DenL K H ρ vs ds) (h : two? ds = some p) : vs = [.int p.1, .int p.2] := by
  unfold two? at h
  split at h
  · cases h
    cases l with
    | cons r l =>
      cases l with
      | cons r2 l =>
        cases l
        rw [r.int_inv, r2.int_inv]
  · cases h
def fRg2' (ga : ArgD) : ItrD := fun env st => (ga env st).bind fun ds s => match two? ds with
  | some p => (match rgB p.1 && rgB p.2 with
    | true => .ok (.fz (rgD p.1 1 (p.2 - p.1).toNat)) s
    | false => .no)
  | none => .no
theorem di_rg2 {a b : Expr} {p : Pos} (hg : Gl X "range") (hm : X.mg "range" = none) (ha : DA X cm W [a, b] ga) (hs : starEach [a, b] X.env = [(false, eval a X.env), (false, eval b X.env)] := by rfl) (hs2 : starEach [b] X.env = [(false, eval b X.env)] := by rfl) :
    DI X cm W tg (.Call (.Name "range" p) [a, b] [] pos) (fRg2' ga) := ⟨PI.imp (pi_range2 hg hm ha.pa hs hs2) fun σ H Q h => by
  obtain ⟨H0, ρ, env, st, R, E, h⟩ := h
  refine ⟨H0, ρ, env, st, R, E, Sat.mono (Sat.bind (R := DenL X.K) h) ?_⟩
  rintro v H1 ⟨H0', ρ', ds, s1, x, R1, l, h1⟩
  cases e : two? ds with
  | none => rw [e] at h1; exact h1.elim
  | some p =>
    rw [e] at h1
    simp only at h1
    cases e2 : rgB p.1 && rgB p.2 with
    | false => rw [e2] at h1; exact h1.elim
    | true =>
      rw [e2] at h1
      obtain ⟨a1, a2⟩ := Bool.and_eq_true_iff.mp e2
      exact ⟨p.1, p.2, two_den l e, ⟨(rgB_ok a1).1, (rgB_ok a1).2, (rgB_ok a2).1, (rgB_ok a2).2⟩, h1 _ H0' ρ' H1 Ext.refl R1 itOk_rng⟩⟩
/-- while; m bounds the turns -/
def whD (t : TstD) (body : StmD) : Nat → Env → Sto → Ctl
  | 0, _, _ => .no
  | m + 1, env, st => (t env st).thnB env fun k s1 => match k with
    | false => .nx env s1
    | true => (match body env s1 with
      | .nx e s => whD t body m e s
      | .ct e s => whD t body m e s
      | .bk e s => .nx e s
      | r => r)
theorem wh_imp {K : PySem.W.Frag} {m : Nat} {D : Ends} {σ : L2.St} {H : Hp} (h : tS K cm W (whD t sb m) D σ H) : tWhile (tDT K cm W t) (tS K cm W sb) D σ H := by
  refine ⟨fun m σ' H' => tS K cm W (whD t sb m) D σ' H', ⟨m, h⟩, fun m σ' H' h => ?_⟩
  obtain ⟨H0, ρ, env, st, R, E, h⟩ := h
  cases m with
  | zero => exact h.elim
  | succ m =>
    refine ⟨H0, ρ, env, st, R, E, Sat.mono (SatS.thnB E h) ?_⟩
    rintro b H1 ⟨H0', ρ', s1, x, R1, E1, h1⟩
    cases b with
    | false => exact iteF (h1 σ' H0' ρ' H1 Ext.refl R1 E1)
    | true =>
      refine iteT ⟨fun σ2 H2 => tS K cm W (whD t sb m) D σ2 H2, fun σ2 H2 q => ⟨m, Nat.lt_succ_self m, q⟩, H0', ρ', env, s1, R1, E1, ?_⟩
      simp only at h1
      cases eb : sb env s1 with
      | nx e s => rw [eb] at h1; exact fun σ2 G ρ2 H2 y R2 E2 => ⟨G, ρ2, e, s, R2, E2, SatS.ext h1 y⟩
      | ct e s => rw [eb] at h1; exact fun σ2 G ρ2 H2 y R2 E2 => ⟨G, ρ2, e, s, R2, E2, SatS.ext h1 y⟩
      | bk e s => rw [eb] at h1; exact h1
      | rt d s => rw [eb] at h1; exact h1
      | ex c f d e s => rw [eb] at h1; exact h1
      | no => rw [eb] at h1; exact h1
theorem ds_while (m : Nat) (hp : PassesOwn (model X.prog X.w) X.A X.env X.xe) (hc : DT X cm W e t) (hb : DSs X cm W body sb) : DS X cm W (.While e body [] pos) (whD t sb m) := ⟨PS.imp (ps_while hp hc.pt hb.ps) fun _ _ _ h => wh_imp h⟩
end
end Z

set_option maxHeartbeats 4000000
namespace Z
open PySem PySem.Spec PyProof.Rows L2

/-! ### comprehensions -/
/-- two rows of slots that part at the places is alone -/
def Agr (is : List Nat) (σ σ' : L2.St) : Prop := σ'.length = σ.length ∧ ∀ j, j ∉ is → σ'[j]? = σ[j]?
theorem Agr.refl {σ : L2.St} : Agr [] σ σ := ⟨rfl, fun _ _ => rfl⟩
theorem Agr.trans {is js : List Nat} {a b c : L2.St} (x : Agr is a b) (y : Agr js b c) : Agr (is ++ js) a c :=
  ⟨y.1.trans x.1, fun j h => (y.2 j fun z => h (List.mem_append_right _ z)).trans (x.2 j fun z => h (List.mem_append_left _ z))⟩
theorem Agr.set {σ : L2.St} {i : Nat} {v : Option V} : Agr [i] σ (σ.set i v) := ⟨by rw [List.length_set], fun j h => List.getElem?_set_ne (fun z => h (by simp [z]))⟩
theorem wipe_get {σ : L2.St} {j : Nat} : ∀ {vs : List Nat}, (wipe σ vs)[j]? = if j ∈ vs then (if j < σ.length then some none else none) else σ[j]?
  | [] => by rw [if_neg (by simp)] <;> rfl
  | v :: vs => by
    unfold wipe
    by_cases h : v = j
    · subst h
      rw [if_pos (List.mem_cons_self)]
      by_cases hl : v < σ.length
      · rw [List.getElem?_set_self (by rw [wipe_length]; exact hl), if_pos hl]
      · rw [List.getElem?_eq_none (by rw [List.length_set, wipe_length]; omega), if_neg hl]
    · rw [List.getElem?_set_ne h, wipe_get (vs := vs)]
      by_cases hv : j ∈ vs
      · rw [if_pos hv, if_pos (List.mem_cons_of_mem _ hv)]
      · rw [if_neg hv, if_neg (fun z => (List.mem_cons.mp z).elim (fun q => h q.symm) hv)]
theorem wipe_agr {σ σ2 : L2.St} {is vs : List Nat} (h : Agr is (wipe σ vs) σ2) (sub : ∀ i ∈ is, i ∈ vs) : wipe σ2 vs = wipe σ vs := by
  have hl : σ2.length = σ.length := by rw [h.1, wipe_length]
  apply List.ext_getElem?
  intro j
  rw [wipe_get, wipe_get, hl]
  by_cases hj : j ∈ vs
  · rw [if_pos hj, if_pos hj]
  · rw [if_neg hj, if_neg hj, h.2 j (fun z => hj (sub j z)), wipe_get, if_neg hj]
def tGw (K : PySem.W.Frag) (cm : Str → Addr) (W : WX) (is : List Nat) (g : TgtD) : TG := fun v σ H k => ∃ H0 ρ env st d, Rep K H0 ρ H st ∧ EnvR K H0 ρ σ env ∧ Den K H0 ρ v d ∧ Sat (fun H0 ρ σ' env' => EnvR K H0 ρ σ' env' ∧ Agr is σ σ') K cm (fun c d H' => W c d σ H') H0 ρ H (g d env st) k
def tGsw (K : PySem.W.Frag) (cm : Str → Addr) (W : WX) (is : List Nat) (g : TgtsD) : TGs := fun vs σ H k => ∃ H0 ρ env st ds, Rep K H0 ρ H st ∧ EnvR K H0 ρ σ env ∧ DenL K H0 ρ vs ds ∧ Sat (fun H0 ρ σ' env' => EnvR K H0 ρ σ' env' ∧ Agr is σ σ') K cm (fun c d H' => W c d σ H') H0 ρ H (g ds env st) k
structure DGw (X : Cx) (cm : Str → Addr) (W : WX) (is : List Nat) (e : Expr) (g : TgtD) : Prop where
  pg : PG X e (tGw X.K cm W is g)
structure DGsw (X : Cx) (cm : Str → Addr) (W : WX) (is : List Nat) (es : List Expr) (g : TgtsD) : Prop where
  pg : PGs X es (tGsw X.K cm W is g)
section
variable {X : Cx} {cm : Str → Addr} {W : WX} {e : Expr} {g : TgtD} {pos : Pos}
theorem dgw_name (i : Nat) {x : Str} (hN : X.N.Nodup) (hi : X.N[i]? = some x := by rfl) (hx : Loc X.env.scope x := by first | exact Or.inl rfl | exact Or.inr rfl) (hf : X.fn x = true ∨ X.env.scope.names.lookup x = some .local := by first | exact .inl rfl | exact .inr rfl | assumption) : DGw X cm W [i] (.Name x pos) (gN i) :=
  ⟨PG.imp (pg_name (i := i) hN hi hx hf) fun v σ H Q ⟨H0, ρ, env, st, d, R, E, dn, h⟩ => h _ H0 ρ H Ext.refl R ⟨E.set i dn, Agr.set⟩⟩
theorem dgsw_nil : DGsw X cm W [] [] gsNil := ⟨PGs.imp pgs_nil fun vs σ H Q ⟨H0, ρ, env, st, ds, R, E, dn, h⟩ => by
  cases dn with
  | nil => exact ⟨rfl, h σ H0 ρ H Ext.refl R ⟨E, Agr.refl⟩⟩
  | cons _ _ => exact h.elim⟩
theorem dgsw_cons {is js : List Nat} {es : List Expr} {u : TgtsD} (h1 : DGw X cm W is e g) (h2 : DGsw X cm W js es u) (hs : (assignEach (e :: es) X.env).map (·.2) = assign e X.env :: (assignEach es X.env).map (·.2) := by rfl) : DGsw X cm W (is ++ js) (e :: es) (gsCons g u) :=
  ⟨PGs.imp (pgs_cons h1.pg h2.pg hs) fun vs σ H Q ⟨H0, ρ, env, st, ds, R, E, dn, h⟩ => by
    cases dn with
    | nil => exact h.elim
    | @cons v d vs ds dv dl =>
      refine ⟨v, vs, rfl, H0, ρ, env, st, d, R, E, dv, ?_⟩
      cases e1 : g d env st with
      | no => simp only [gsCons, e1, Res.calm_no, Res.bind_no] at h; exact h.elim
      | ex c f d2 s2 => simp only [gsCons, e1, Res.calm_ex, Res.bind_no] at h; exact h.elim
      | ok en s1 =>
        simp only [gsCons, e1, Res.calm_ok, Res.bind_ok] at h
        intro σ' G ρ' H' x R1 E1
        refine ⟨G, ρ', en, s1, ds, R1, E1.1, dl.mono x, ?_⟩
        cases e2 : u ds en s1 with
        | no => simp only [e2, Res.calm_no] at h; exact h.elim
        | ex c f d2 s2 => simp only [e2, Res.calm_ex] at h; exact h.elim
        | ok en2 s2 =>
          simp only [e2, Res.calm_ok] at h
          exact fun σ2 G2 ρ2 H2 y R2 E2 => h σ2 G2 ρ2 H2 (x.trans y) R2 ⟨E2.1, E1.2.trans E2.2⟩⟩
theorem dgw_tup {is : List Nat} {es : List Expr} {k n : Nat} {u : TgtsD} (hc : X.calm = true) (h : DGsw X cm W is es u) (hn : (assignEach es X.env).length = n := by rfl) (hst : (assignEach es X.env).findIdx? (·.1) = none := by rfl) : DGw X cm W is (.Tuple es k pos) (gT n u) :=
  ⟨PG.imp (pg_tup hc h.pg hn hst) fun v σ H Q ⟨H0, ρ, env, st, d, R, E, dn, h⟩ => by
    cases ea : asT d with
    | none => simp only [gT, ea] at h; exact h.elim
    | some xs =>
      cases el : decide (xs.length = n) with
      | false => simp only [gT, ea, el] at h; exact h.elim
      | true =>
        simp only [gT, ea, el] at h
        obtain ⟨p, vs, rfl, hs, l⟩ := asT_ok R dn ea
        exact ⟨p, vs, rfl, hs, by rw [l.length]; exact of_decide_eq_true el, H0, ρ, env, st, xs, R, E, l, h⟩⟩
end
def wipeE (env : Env) : List Nat → Env
  | [] => env
  | v :: vs => (wipeE env vs).set v none
theorem EnvR.wipe {K : PySem.W.Frag} {H : Hp} {ρ : List Addr} {σ : L2.St} {env : Env} (e : EnvR K H ρ σ env) : ∀ vs : List Nat, EnvR K H ρ (L2.wipe σ vs) (wipeE env vs)
  | [] => e
  | v :: vs => (EnvR.wipe e vs).unset v none
/-- one more item, or not -/
def lcStep (g : TgtD) (t : TstD) (e : ExpD) (env : Env) (x : D) (acc : List D) (st : Sto) : Res (List D) := (g x env st).calm.bind fun e1 s1 => (t e1 s1).calm.bind fun b s2 => match b with
  | true => (e e1 s2).calm.bind fun d s3 => (match decide (acc.length < LIM) with
    | true => .ok (acc ++ [d]) s3
    | false => .no)
  | false => .ok acc s2
def lcD (g : TgtD) (t : TstD) (e : ExpD) (env : Env) : List D → List D → Sto → Res (List D)
  | [], acc, st => .ok acc st
  | x :: xs, acc, st => (lcStep g t e env x acc st).bind fun acc' s => lcD g t e env xs acc' s
def lcK (g : TgtD) (t : TstD) (e : ExpD) (env : Env) (k : Nat) : Nat → Nat → List D → Sto → Res (List D)
  | 0, _, _, _ => .no
  | m + 1, i, acc, st => match st[k]? with
    | some (.lst xs) => (match xs[i]? with
      | none => .ok acc st
      | some x => (lcStep g t e env x acc st).bind fun acc' s => lcK g t e env k m (i + 1) acc' s)
    | _ => .no
def lcR (fi : ItrD) (g : TgtD) (t : TstD) (e : ExpD) (vs : List Nat) : Env → Sto → Res (List D) := fun env st => (fi env st).bind fun src s => match src with
  | .fz xs => lcD g t e (wipeE env vs) xs [] s
  | .lc k => lcK g t e (wipeE env vs) k (lenAt s k + 1) 0 [] s
def fLc (fi : ItrD) (g : TgtD) (t : TstD) (e : ExpD) (vs : List Nat) : ExpD := fun env st => (lcR fi g t e vs env st).bind fun acc s => .ok (.lst acc) s
def fLcO (fi : ItrD) (g : TgtD) (t : TstD) (e : ExpD) (vs : List Nat) : ExpD := fun env st => (lcR fi g t e vs env st).bind fun acc s => .ok (.loc s.length) (s ++ [.lst acc])
abbrev W0 : WX := fun _ _ _ _ => False
def fYes : TstD := fun _ st => .ok true st
section
variable {K : PySem.W.Frag} {cm : Str → Addr} {W : WX} {fi : ItrD} {g : TgtD} {t : TstD} {e : ExpD}
/-- the list at Dl is ours alone -/
structure Own (K : PySem.W.Frag) (H0 : Hp) (ρ : List Addr) (H : Hp) (Dl : Addr) (acc : List D) : Prop where
  at_ : ∃ vs, H Dl = some (.lst vs) ∧ DenL K H0 ρ vs acc
  h0 : H0 Dl = none
  nin : Dl ∉ ρ
theorem Own.step {H0 H H0' H' : Hp} {ρ ρ' : List Addr} {Dl : Addr} {acc : List D} (o : Own K H0 ρ H Dl acc) (x : Ext H0 ρ H H0' ρ' H') : Own K H0' ρ' H' Dl acc := by
  obtain ⟨vs, h, l⟩ := o.at_
  obtain ⟨n1, k1, z⟩ := x.f _ _ h o.nin
  refine ⟨⟨vs, ?_, l.mono x⟩, k1 o.h0, n1⟩
  rcases z with z | ⟨z, _⟩
  · exact z
  · exact z.elim
theorem Own.app {H0 H : Hp} {ρ : List Addr} {Dl : Addr} {acc : List D} {st : Sto} {v : V} {d : D} {vs : List V} (R : Rep K H0 ρ H st) (o : Own K H0 ρ H Dl acc) (h : H Dl = some (.lst vs)) (l : DenL K H0 ρ vs acc) (dn : Den K H0 ρ v d) :
    Rep K H0 ρ (upd H Dl (.lst (vs ++ [v]))) st ∧ Own K H0 ρ (upd H Dl (.lst (vs ++ [v]))) Dl (acc ++ [d]) := by
  refine ⟨⟨fun a u e => ?_, R.len, R.nd, R.out, fun k a u hk hs => ?_⟩, ⟨_, upd_same, l.append (.one dn)⟩, o.h0, o.nin⟩
  · rw [upd_ne (ne_of_none e o.h0)]
    exact R.sub a u e
  · exact (R.ob k a u hk hs).mono Ex0.refl fun w hw => by
      rw [upd_ne (fun (z : a = Dl) => o.nin (z ▸ List.mem_of_getElem? hk))]
      exact hw
theorem Ext.own {G0 G H0 H : Hp} {ρ0 ρ : List Addr} {Dl : Addr} {o : HO} (x : Ext G0 ρ0 G H0 ρ H) (h : G Dl = none) : Ext G0 ρ0 G H0 ρ (upd H Dl o) :=
  ⟨x.e, fun a u e n => by
    obtain ⟨n1, k1, z⟩ := x.f a u e n
    exact ⟨n1, k1, by rw [upd_ne (ne_of_none e h)]; exact z⟩, fun a ob u e => by rw [upd_ne (ne_of_none e h)]; exact x.z a ob u e⟩
theorem lc_turn {is vs : List Nat} {G0 G H0 H : Hp} {ρ0 ρ : List Addr} {σ : L2.St} {env : Env} {st : Sto} {v : V} {x : D} {acc : List D} {Dl : Addr} {more : List D → Sto → Res (List D)} {fin : List D → Sto → Res D} {total : Res D} {Nx : Hp → Prop}
    (sub : ∀ i ∈ is, i ∈ vs) (hG : G Dl = none) (xt : Ext G0 ρ0 G H0 ρ H) (R : Rep K H0 ρ H st) (E : EnvR K H0 ρ (L2.wipe σ vs) env) (dn : Den K H0 ρ v x) (o : Own K H0 ρ H Dl acc)
    (heq : total = ((lcStep g t e env x acc st).bind more).bind fin) (bad : total ≠ .no)
    (hN : ∀ acc' s H0' ρ' H', Ext G0 ρ0 G H0' ρ' H' → Rep K H0' ρ' H' s → Own K H0' ρ' H' Dl acc' → Ex0 H0 ρ H0' ρ' → total = (more acc' s).bind fin → Nx H') :
    tGw K cm W0 is g v (L2.wipe σ vs) H fun σ2 H2 => L2.wipe σ2 vs = L2.wipe σ vs ∧ tDT K cm W0 t σ2 H2 fun b H3 => if b = true then tD K cm W0 e σ2 H3 fun y H4 => ∃ acc, H4 Dl = some (.lst acc) ∧ acc.length < sizeLine ∧ Nx (upd H4 Dl (.lst (acc ++ [y]))) else Nx H3 := by
  refine ⟨H0, ρ, env, st, x, R, E, dn, ?_⟩
  cases eg : g x env st with
  | no => exact (bad (by rw [heq]; simp [lcStep, eg])).elim
  | ex c f d s => exact (bad (by rw [heq]; simp [lcStep, eg])).elim
  | ok e1 s1 =>
    intro σ2 H1 ρ1 G1 x1 R1 E1
    refine ⟨wipe_agr E1.2 sub, H1, ρ1, e1, s1, R1, E1.1, ?_⟩
    cases et : t e1 s1 with
    | no => exact (bad (by rw [heq]; simp [lcStep, eg, et])).elim
    | ex c f d s => exact (bad (by rw [heq]; simp [lcStep, eg, et])).elim
    | ok b s2 =>
      intro b' H2 ρ2 G2 x2 R2 eb
      have eb : b' = b := eb
      subst eb
      have o2 := (o.step x1).step x2
      have xt2 := (xt.trans x1).trans x2
      cases b' with
      | false =>
        refine iteF (hN acc s2 H2 ρ2 G2 xt2 R2 o2 (x1.e.trans x2.e) ?_)
        rw [heq]
        simp [lcStep, eg, et]
      | true =>
        refine iteT ⟨H2, ρ2, e1, s2, R2, E1.1.mono x2, ?_⟩
        cases ee : e e1 s2 with
        | no => exact (bad (by rw [heq]; simp [lcStep, eg, et, ee])).elim
        | ex c f d s => exact (bad (by rw [heq]; simp [lcStep, eg, et, ee])).elim
        | ok d s3 =>
          intro y H3 ρ3 G3 x3 R3 dn3
          have o3 := o2.step x3
          cases el : decide (acc.length < LIM) with
          | false => exact (bad (by rw [heq]; simp [lcStep, eg, et, ee, el])).elim
          | true =>
            obtain ⟨ws, hw, l⟩ := o3.at_
            obtain ⟨R4, o4⟩ := Own.app R3 o3 hw l dn3
            refine ⟨ws, hw, ?_, hN (acc ++ [d]) s3 H3 ρ3 _ ((xt2.trans x3).own hG) R4 o4 ((x1.e.trans x2.e).trans x3.e) ?_⟩
            · rw [l.length]
              exact Nat.lt_of_lt_of_le (of_decide_eq_true el) (by decide)
            · rw [heq]
              simp [lcStep, eg, et, ee, el]
theorem Own.new {H0 H : Hp} {ρ : List Addr} {st : Sto} {Dl : Addr} (R : Rep K H0 ρ H st) (h : H Dl = none) : Own K H0 ρ (upd H Dl (.lst [])) Dl [] := ⟨⟨[], upd_same, .nil⟩, R.fresh h, R.notin h⟩
def ItOkH (K : PySem.W.Frag) (J : It) (H0 : Hp) (ρ : List Addr) (H : Hp) (xs : List D) : Prop :=
  (∀ (i : Nat) (x : D) H0' ρ' H' st, Ext H0 ρ H H0' ρ' H' → Rep K H0' ρ' H' st → xs[i]? = some x → J.go i H' ∧ ∀ v H2, J.yld i H' v H2 → ∃ H0'', Ext H0' ρ' H' H0'' ρ' H2 ∧ Rep K H0'' ρ' H2 st ∧ Den K H0'' ρ' v x) ∧
  (∀ H0' ρ' H' st, Ext H0 ρ H H0' ρ' H' → Rep K H0' ρ' H' st → J.stop xs.length H')
theorem ItOk.h {J : It} {H0 : Hp} {ρ : List Addr} {xs : List D} (h : ItOk K J H0 ρ xs) (H : Hp) : ItOkH K J H0 ρ H xs := ⟨fun i x => h.1 i x H, h.2 H⟩
theorem lc_fz {is vs : List Nat} {G0 G : Hp} {ρ0 : List Addr} {σ : L2.St} {env : Env} {s : Sto} {xs : List D} {J : It} {Dl : Addr} {fin : List D → Sto → Res D} {total : Res D} {Qe : Hp → Prop} (sub : ∀ i ∈ is, i ∈ vs) (R0 : Rep K G0 ρ0 G s) (E0 : EnvR K G0 ρ0 (L2.wipe σ vs) env)
    (hJ : ItOkH K J G0 ρ0 G xs) (hD : G Dl = none) (hT0 : total = (lcD g t e env xs [] s).bind fin) (bad : total ≠ .no)
    (hfin : ∀ H0' ρ' H' st' acc, Ext G0 ρ0 G H0' ρ' H' → Rep K H0' ρ' H' st' → Own K H0' ρ' H' Dl acc → total = fin acc st' → Qe H') :
    ∃ W : Nat → Nat → Hp → Prop, (∃ m, W 0 m (upd G Dl (.lst []))) ∧ ∀ i m H, W i m H → (J.stop i H ∧ Qe H) ∨ (J.go i H ∧ ∃ Nx : Hp → Prop, (∀ H', Nx H' → ∃ m', m' < m ∧ W (i + 1) m' H') ∧ ∀ x H', J.yld i H x H' →
      tGw K cm W0 is g x (L2.wipe σ vs) H' fun σ2 H2 => L2.wipe σ2 vs = L2.wipe σ vs ∧ tDT K cm W0 t σ2 H2 fun b H3 => if b = true then tD K cm W0 e σ2 H3 fun y H4 => ∃ acc, H4 Dl = some (.lst acc) ∧ acc.length < sizeLine ∧ Nx (upd H4 Dl (.lst (acc ++ [y]))) else Nx H3) := by
  have o0 := Own.new R0 hD
  have R0' : Rep K G0 ρ0 (upd G Dl (.lst [])) s := R0.newX hD
  have x00 : Ext G0 ρ0 G G0 ρ0 (upd G Dl (.lst [])) := Ext.newX hD
  refine ⟨fun i m H' => i ≤ xs.length ∧ m = xs.length - i ∧ ∃ H0' ρ' st' acc, Ext G0 ρ0 G H0' ρ' H' ∧ Rep K H0' ρ' H' st' ∧ Own K H0' ρ' H' Dl acc ∧ total = (lcD g t e env (xs.drop i) acc st').bind fin,
    ⟨xs.length, Nat.zero_le _, rfl, G0, ρ0, s, [], x00, R0', o0, hT0⟩, ?_⟩
  rintro i m H' ⟨hi, rfl, H0', ρ', st', acc, x', R', o', heq⟩
  by_cases hlt : i < xs.length
  · have ex : xs[i]? = some xs[i] := List.getElem?_eq_getElem hlt
    obtain ⟨hgo, hy⟩ := hJ.1 i xs[i] H0' ρ' H' st' x' R' ex
    refine .inr ⟨hgo, fun H2 => ∃ H0'' ρ'' st'' acc', Ext G0 ρ0 G H0'' ρ'' H2 ∧ Rep K H0'' ρ'' H2 st'' ∧ Own K H0'' ρ'' H2 Dl acc' ∧ total = (lcD g t e env (xs.drop (i + 1)) acc' st'').bind fin,
      fun H2 q => ⟨xs.length - (i + 1), by omega, hlt, rfl, q⟩, fun v H2 yv => ?_⟩
    obtain ⟨H0'', x2, R2, dn⟩ := hy v H2 yv
    rw [List.drop_eq_getElem_cons hlt] at heq
    exact lc_turn sub hD (x'.trans x2) R2 (EnvR.mono (EnvR.mono E0 x') x2) dn (o'.step x2) heq bad fun acc' s3 H3 ρ3 G3 x3 R3 o3 _ q => ⟨H3, ρ3, s3, acc', x3, R3, o3, q⟩
  · have ei : i = xs.length := by omega
    subst ei
    rw [List.drop_length] at heq
    exact .inl ⟨hJ.2 H0' ρ' H' st' x' R', hfin H0' ρ' H' st' acc x' R' o' heq⟩
/-- the reading of a comprehension, its end told by fin -/
theorem lc_core {is vs : List Nat} {σ : L2.St} {H : Hp} {Q : VK} {fin : List D → Sto → Res D} (sub : ∀ i ∈ is, i ∈ vs)
    (hfin : ∀ G0 ρ0 G H0 ρ H st acc Dl (Wx : Value → Option Addr → Hp → Prop), G Dl = none → Ext G0 ρ0 G H0 ρ H → Rep K H0 ρ H st → Own K H0 ρ H Dl acc → Sat (Den K) K cm Wx G0 ρ0 G (fin acc st) Q → Q (.ref Dl) H)
    (h : tD K cm W (fun env st => (lcR fi g t e vs env st).bind fin) σ H Q) : tLc (tI K cm W fi) (tGw K cm W0 is g) (tDT K cm W0 t) (tD K cm W0 e) vs σ H Q := by
  obtain ⟨H0, ρ, env, st, R, E, h⟩ := h
  refine ⟨H0, ρ, env, st, R, E, ?_⟩
  unfold lcR at h
  cases ef : fi env st with
  | no => simp only [ef, Res.bind_no] at h; exact h
  | ex c fl d s => simp only [ef, Res.bind_ex] at h; exact h
  | ok src s =>
    simp only [ef, Res.bind_ok] at h
    intro J G0 ρ0 G x0 R0 hJ Dl hD
    have E0 := (E.mono x0).wipe vs
    have hQ := Sat.ext h x0
    have o0 := Own.new R0 hD
    have R0' : Rep K G0 ρ0 (upd G Dl (.lst [])) s := R0.newX hD
    have x00 : Ext G0 ρ0 G G0 ρ0 (upd G Dl (.lst [])) := Ext.newX hD
    cases src with
    | fz xs =>
      have hJ : ItOk K J G0 ρ0 xs := hJ
      have hQ : Sat (Den K) K cm _ G0 ρ0 G ((lcD g t e (wipeE env vs) xs [] s).bind fin) Q := hQ
      exact lc_fz sub R0 E0 (hJ.h G) hD rfl (fun q => by rw [q] at hQ; exact hQ) fun H0' ρ' H' st' acc x' R' o' q => by
        rw [q] at hQ
        exact hfin G0 ρ0 G H0' ρ' H' st' acc Dl _ hD x' R' o' hQ
    | lc k =>
      obtain ⟨a, ha, rfl⟩ := hJ
      obtain ⟨T0, hT0, hQ⟩ : ∃ T0, T0 = (lcK g t e (wipeE env vs) k (lenAt s k + 1) 0 [] s).bind fin ∧ Sat (Den K) K cm _ G0 ρ0 G T0 Q := ⟨_, rfl, hQ⟩
      refine ⟨fun i m H' => ∃ H0' ρ' st' acc, Ext G0 ρ0 G H0' ρ' H' ∧ Rep K H0' ρ' H' st' ∧ Own K H0' ρ' H' Dl acc ∧ T0 = (lcK g t e (wipeE env vs) k m i acc st').bind fin,
        ⟨_, G0, ρ0, s, [], x00, R0', o0, hT0⟩, ?_⟩
      rintro i m H' ⟨H0', ρ', st', acc, x', R', o', heq⟩
      have ha' := x'.e.get ha
      cases m with
      | zero =>
        rw [heq] at hQ
        exact hQ.elim
      | succ m =>
        unfold lcK at heq
        cases es : st'[k]? with
        | none => rw [heq] at hQ; simp only [es, Res.bind_no] at hQ; exact hQ.elim
        | some ob =>
          cases ob with
          | dK _ _ => rw [heq] at hQ; simp only [es, Res.bind_no] at hQ; exact hQ.elim
          | lk _ _ => rw [heq] at hQ; simp only [es, Res.bind_no] at hQ; exact hQ.elim
          | lst xs =>
            obtain ⟨ws, hv, l⟩ := locL R' ha' es
            simp only [es] at heq
            cases ei : xs[i]? with
            | none =>
              simp only [ei, Res.bind_ok] at heq
              refine .inl ⟨⟨ws, SqL.of hv, ?_⟩, ?_⟩
              · rw [l.length]
                exact List.getElem?_eq_none_iff.mp ei
              · rw [show T0 = fin acc st' from heq] at hQ
                exact hfin G0 ρ0 G H0' ρ' H' st' acc Dl _ hD x' R' o' hQ
            | some x =>
              simp only [ei] at heq
              obtain ⟨v, hvi, dn⟩ := l.get ei
              refine .inr ⟨⟨ws, v, SqL.of hv, hvi⟩, fun H2 => ∃ H0'' ρ'' st'' acc', Ext G0 ρ0 G H0'' ρ'' H2 ∧ Rep K H0'' ρ'' H2 st'' ∧ Own K H0'' ρ'' H2 Dl acc' ∧ T0 = (lcK g t e (wipeE env vs) k m (i + 1) acc' st'').bind fin,
                fun H2 q => ⟨m, Nat.lt_succ_self m, q⟩, fun v' H2 yv => ?_⟩
              obtain ⟨e2, yv⟩ := yv
              subst e2
              have ev := yv ws (SqL.of hv)
              rw [hvi] at ev
              cases ev
              exact lc_turn sub hD x' R' (EnvR.mono E0 x') dn o' heq (fun q => by rw [q] at hQ; exact hQ) fun acc' s3 H3 ρ3 G3 x3 R3 o3 _ q => ⟨H3, ρ3, s3, acc', x3, R3, o3, q⟩
theorem Own.freeze {H0 H : Hp} {ρ : List Addr} {st : Sto} {Dl : Addr} {acc : List D} (R : Rep K H0 ρ H st) (o : Own K H0 ρ H Dl acc) : ∃ vs, Rep K (upd H0 Dl (.lst vs)) ρ H st ∧ Den K (upd H0 Dl (.lst vs)) ρ (.ref Dl) (.lst acc) ∧ H Dl = some (.lst vs) := by
  obtain ⟨vs, h, l⟩ := o.at_
  refine ⟨vs, ⟨fun a u e => ?_, R.len, R.nd, fun a ha => ?_, fun k a u hk hs => (R.ob k a u hk hs).mono (Ex0.new o.h0) fun _ q => q⟩, .lst upd_same (l.mono0 (Ex0.new o.h0)), h⟩
  · by_cases z : a = Dl
    · subst z
      rw [upd_same] at e
      cases e
      exact h
    · rw [upd_ne z] at e
      exact R.sub a u e
  · rw [upd_ne (fun (z : a = Dl) => o.nin (z ▸ ha))]
    exact R.out a ha
theorem Own.store {H0 H : Hp} {ρ : List Addr} {st : Sto} {Dl : Addr} {acc : List D} (R : Rep K H0 ρ H st) (o : Own K H0 ρ H Dl acc) : Rep K H0 (ρ ++ [Dl]) H (st ++ [.lst acc]) ∧ Den K H0 (ρ ++ [Dl]) (.ref Dl) (.loc st.length) := by
  obtain ⟨vs, h, l⟩ := o.at_
  refine ⟨⟨R.sub, by rw [List.length_append, List.length_append, R.len] <;> rfl, nodup_snoc R.nd o.nin, fun a ha => ?_, fun k a u hk hs => ?_⟩, .loc (by rw [← R.len, List.getElem?_append_right (Nat.le_refl _), Nat.sub_self] <;> rfl)⟩
  · rcases List.mem_append.mp ha with z | z
    · exact R.out a z
    · have e : a = Dl := by simpa using z
      rw [e]
      exact o.h0
  · by_cases hlt : k < ρ.length
    · rw [List.getElem?_append_left hlt] at hk
      rw [List.getElem?_append_left (by rw [← R.len]; exact hlt)] at hs
      exact (R.ob k a u hk hs).mono Ex0.app fun w hw => hw
    · have hk2 := (List.getElem?_eq_some_iff.mp hk).1
      rw [List.length_append, List.length_singleton] at hk2
      have ek : k = ρ.length := by omega
      subst ek
      rw [List.getElem?_append_right (Nat.le_refl _), Nat.sub_self] at hk
      have ea : Dl = a := by simpa using hk
      subst ea
      rw [R.len, List.getElem?_append_right (Nat.le_refl _), Nat.sub_self] at hs
      have eo : Ob.lst acc = u := by simpa using hs
      subst eo
      exact ⟨vs, h, l.mono0 Ex0.app⟩
theorem lc_imp {is vs : List Nat} {σ : L2.St} {H : Hp} {Q : VK} (sub : ∀ i ∈ is, i ∈ vs) (h : tD K cm W (fLc fi g t e vs) σ H Q) : tLc (tI K cm W fi) (tGw K cm W0 is g) (tDT K cm W0 t) (tD K cm W0 e) vs σ H Q := by
  refine lc_core sub (fun G0 ρ0 G H0 ρ H st acc Dl Wx hG x R o hQ => ?_) h
  obtain ⟨vs, R2, dn, hv⟩ := o.freeze R
  refine hQ (.ref Dl) (upd H0 Dl (.lst vs)) ρ H ⟨⟨fun a u e => ?_, x.e.r⟩, fun a u e n => ?_, x.z⟩ R2 dn
  · rcases x.e.h a u e with z | ⟨z1, ob, z⟩
    · exact .inl (by rw [upd_ne (ne_of_none z o.h0)]; exact z)
    · exact .inr ⟨z1, ob, by rw [upd_ne (ne_of_none z o.h0)]; exact z⟩
  · obtain ⟨n1, k1, z⟩ := x.f a u e n
    exact ⟨n1, fun q => by rw [upd_ne (ne_of_none e hG)]; exact k1 q, z⟩
theorem lcO_imp {is vs : List Nat} {σ : L2.St} {H : Hp} {Q : VK} (sub : ∀ i ∈ is, i ∈ vs) (h : tD K cm W (fLcO fi g t e vs) σ H Q) : tLc (tI K cm W fi) (tGw K cm W0 is g) (tDT K cm W0 t) (tD K cm W0 e) vs σ H Q := by
  refine lc_core sub (fun G0 ρ0 G H0 ρ H st acc Dl Wx hG x R o hQ => ?_) h
  obtain ⟨R2, dn⟩ := o.store R
  refine hQ (.ref Dl) H0 (ρ ++ [Dl]) H ⟨x.e.trans Ex0.app, fun a u e n => ?_, x.z⟩ R2 dn
  obtain ⟨n1, k1, z⟩ := x.f a u e n
  exact ⟨fun q => (List.mem_append.mp q).elim n1 fun q => ne_of_none e hG (by simpa using q), k1, z⟩
end
section
variable {X : Cx} {cm : Str → Addr} {W : WX} {elt tg iter : Expr} {ifs : List Expr} {scope : Scope} {own : List (Str × Nat)} {pos spos py : Pos} {fi : ItrD} {g : TgtD} {t : TstD} {fe : ExpD} {is : List Nat}
/-- in a comprehension's block -/
abbrev Blk (X : Cx) (scope : Scope) (P : Cx → Prop) : Prop := ∀ (s : Shared) (H : Hp) (C : Addr) (cl : List (Str × Addr)) (fp : List Addr), P (X.blk s H scope (compEnvC scope cl C X.env) fp)
structure DTs (X : Cx) (cm : Str → Addr) (W : WX) (ifs : List Expr) (t : TstD) : Prop where
  pt : PTs X ifs (tDT X.K cm W t)
theorem PTs.imp {ifs : List Expr} {t t' : TT} (h : PTs X ifs t) (i : ∀ σ H Q, t' σ H Q → t σ H Q) : PTs X ifs t' := ⟨fun pins s σ H Q I q => h.run pins s σ H Q I (i σ H Q q)⟩
theorem dts_nil : DTs X cm W [] fYes := ⟨PTs.imp pts_nil fun σ H Q ⟨H0, ρ, env, st, R, E, h⟩ => h true H0 ρ H Ext.refl R rfl⟩
theorem dts_one {c : Expr} (h : DT X cm W c t) : DTs X cm W [c] t := ⟨pts_one h.pt⟩
theorem de_lc (hc : X.calm = true) (hN : X.N.Nodup) (hi : DI X cm W tg iter fi) (ok : BlkOk X.N X.env.scope scope own) (hg : Blk X scope fun Y => DGw Y cm W0 is tg g) (ht : Blk X scope fun Y => DTs Y cm W0 ifs t) (he : Blk X scope fun Y => DE Y cm W0 elt fe)
    (sub : ∀ i ∈ is, i ∈ own.map (·.2) := by decide) (hs : ∀ x, foldedSetIterable iter X.env x = pure x := by intro _; rfl) : DE X cm W (.ListComp elt [⟨tg, iter, ifs, 0⟩] scope pos) (fLc fi g t fe (own.map (·.2))) :=
  ⟨PE.imp (pe_lc hc hN hi.pi ok (fun s H C cl fp => (hg s H C cl fp).pg) (fun s H C cl fp => (ht s H C cl fp).pt) (fun s H C cl fp => (he s H C cl fp).pe) hs) fun _ _ _ h => lc_imp sub h⟩
theorem de_lcO (hc : X.calm = true) (hN : X.N.Nodup) (hi : DI X cm W tg iter fi) (ok : BlkOk X.N X.env.scope scope own) (hg : Blk X scope fun Y => DGw Y cm W0 is tg g) (ht : Blk X scope fun Y => DTs Y cm W0 ifs t) (he : Blk X scope fun Y => DE Y cm W0 elt fe)
    (sub : ∀ i ∈ is, i ∈ own.map (·.2) := by decide) (hs : ∀ x, foldedSetIterable iter X.env x = pure x := by intro _; rfl) : DE X cm W (.ListComp elt [⟨tg, iter, ifs, 0⟩] scope pos) (fLcO fi g t fe (own.map (·.2))) :=
  ⟨PE.imp (pe_lc hc hN hi.pi ok (fun s H C cl fp => (hg s H C cl fp).pg) (fun s H C cl fp => (ht s H C cl fp).pt) (fun s H C cl fp => (he s H C cl fp).pe) hs) fun _ _ _ h => lcO_imp sub h⟩
theorem set_end {K : PySem.W.Frag} {f : ExpD} {i : Nat} {D : Ends} {σ : L2.St} {H : Hp} (h : tS K cm W (sAsg f (gN i)) D σ H) : tD K cm W f σ H fun x H1 => gName i x σ H1 D.nx := by
  obtain ⟨H0, ρ, env, st, R, E, h⟩ := h
  refine ⟨H0, ρ, env, st, R, E, Sat.mono (SatS.thn E h) ?_⟩
  rintro v H1 ⟨H0', ρ', d, s1, x, R1, dn, E1, h1⟩
  exact h1 _ H0' ρ' H1 Ext.refl R1 (E1.set i dn)
/-- name = [..] on one line -/
theorem ds_setLc (i : Nat) {y : Str} (hc : X.calm = true) (hN : X.N.Nodup) (hsw : swapsWith (.ListComp elt [⟨tg, iter, ifs, 0⟩] scope pos) (some (.Name y py)) spos.line X.env = pure true) (hi : DI X cm W tg iter fi) (ok : BlkOk X.N X.env.scope scope own) (hg : Blk X scope fun Y => DGw Y cm W0 is tg g) (ht : Blk X scope fun Y => DTs Y cm W0 ifs t) (he : Blk X scope fun Y => DE Y cm W0 elt fe)
    (hy : X.N[i]? = some y := by rfl) (hyl : X.env.scope.names.lookup y = some .local := by rfl) (sub : ∀ i ∈ is, i ∈ own.map (·.2) := by decide) (hs : ∀ x, foldedSetIterable iter X.env x = pure x := by intro _; rfl) :
    DS X cm W (.Assign [.Name y py] (.ListComp elt [⟨tg, iter, ifs, 0⟩] scope pos) spos) (sAsg (fLc fi g t fe (own.map (·.2))) (gN i)) :=
  ⟨PS.imp (ps_setLc hc hN hy hyl hsw hi.pi ok (fun s H C cl fp => (hg s H C cl fp).pg) (fun s H C cl fp => (ht s H C cl fp).pt) (fun s H C cl fp => (he s H C cl fp).pe) hs) fun _ _ _ h => lc_imp sub (set_end h)⟩
theorem ds_setLcO (i : Nat) {y : Str} (hc : X.calm = true) (hN : X.N.Nodup) (hsw : swapsWith (.ListComp elt [⟨tg, iter, ifs, 0⟩] scope pos) (some (.Name y py)) spos.line X.env = pure true) (hi : DI X cm W tg iter fi) (ok : BlkOk X.N X.env.scope scope own) (hg : Blk X scope fun Y => DGw Y cm W0 is tg g) (ht : Blk X scope fun Y => DTs Y cm W0 ifs t) (he : Blk X scope fun Y => DE Y cm W0 elt fe)
    (hy : X.N[i]? = some y := by rfl) (hyl : X.env.scope.names.lookup y = some .local := by rfl) (sub : ∀ i ∈ is, i ∈ own.map (·.2) := by decide) (hs : ∀ x, foldedSetIterable iter X.env x = pure x := by intro _; rfl) :
    DS X cm W (.Assign [.Name y py] (.ListComp elt [⟨tg, iter, ifs, 0⟩] scope pos) spos) (sAsg (fLcO fi g t fe (own.map (·.2))) (gN i)) :=
  ⟨PS.imp (ps_setLc hc hN hy hyl hsw hi.pi ok (fun s H C cl fp => (hg s H C cl fp).pg) (fun s H C cl fp => (ht s H C cl fp).pt) (fun s H C cl fp => (he s H C cl fp).pe) hs) fun _ _ _ h => lcO_imp sub (set_end h)⟩
end
end Z

set_option maxHeartbeats 4000000
namespace Z
open PySem PySem.Spec PyProof.Rows L2

/-! ### built-ins -/
theorem CallR.or {X : Cx} {f : Value} {r r' : List V → Hp → VK → Prop} (h : CallR X f r) (h' : CallR X f r') : CallR X f (fun xs H Q => r xs H Q ∨ r' xs H Q) := by
  intro pins s σ H vs us Q I rv q
  rcases q with q | q
  · exact h pins s σ H vs us Q I rv q
  · exact h' pins s σ H vs us Q I rv q
theorem bb_len : bootBuiltins "len" = some (.builtin "len") := by decide +kernel
theorem bb_abs : bootBuiltins "abs" = some (.builtin "abs") := by decide +kernel
theorem bb_max : bootBuiltins "max" = some (.builtin "max") := by decide +kernel
theorem bb_min : bootBuiltins "min" = some (.builtin "min") := by decide +kernel
theorem bb_sum : bootBuiltins "sum" = some (.builtin "sum") := by decide +kernel
theorem bb_all : bootBuiltins "all" = some (.builtin "all") := by decide +kernel
theorem bb_any : bootBuiltins "any" = some (.builtin "any") := by decide +kernel
theorem bb_isi : bootBuiltins "isinstance" = some (.builtin "isinstance") := by decide +kernel
theorem bb_int : bootBuiltins "int" = some (.type "int") := by decide +kernel
theorem bb_bool : bootBuiltins "bool" = some (.type "bool") := by decide +kernel
theorem bb_str : bootBuiltins "str" = some (.type "str") := by decide +kernel
theorem bb_list : bootBuiltins "list" = some (.type "list") := by decide +kernel
theorem bb_tuple : bootBuiltins "tuple" = some (.type "tuple") := by decide +kernel
theorem bb_dict : bootBuiltins "dict" = some (.type "dict") := by decide +kernel
theorem bb_sorted : bootBuiltins "sorted" = some (.builtin "sorted") := by decide +kernel

/-- one thing in a list -/
def one? : List D → Option D
  | [d] => some d
  | _ => none
theorem one_den {K : PySem.W.Frag} {H : Hp} {ρ : List Addr} {vs : List V} {ds : List D} {d : D} (l : DenL K H ρ vs ds) (h : one? ds = some d) : ∃ v, vs = [v] ∧ Den K H ρ v d := by
  unfold one? at h
  split at h
  · cases h
    cases l with
    | cons r l =>
      cases l
      exact ⟨_, rfl, r⟩
  · cases h
def lenD (st : Sto) : D → Option Nat
  | .str x => (match decide (x.length ≤ LIM) with
    | true => some x.length
    | false => none)
  | .tup xs => some xs.length
  | .lst xs => some xs.length
  | .scr xs => some xs.length
  | .loc k => (match st[k]? with
    | some (.lst xs) => some xs.length
    | some (.dK ks _) => some ks.length
    | some (.lk ks _) => some ks.length
    | none => none)
  | .dct ks _ => some ks.length
  | _ => none
def oLen : List D → Sto → Res D := fun ds st => match one? ds with
  | some d => (match lenD st d with
    | some n => .ok (.int n) st
    | none => .no)
  | none => .no
def rLenA (K : PySem.W.Frag) : List V → Hp → VK → Prop := fun xs H Q => (∃ x n, xs = [x] ∧ LenV K x H n ∧ Q (.int n) H) ∨ ∃ d kvs, xs = [.ref d] ∧ Rd H d (.dK kvs) ∧ Q (.int kvs.length) H
section
variable {X : Cx} {cm : Str → Addr} {W : WX} {pos p : Pos} {e : Expr} {es : List Expr} {ga : ArgD} {f : ExpD}
theorem call_lenRd : CallR X (.builtin "len") (fun xs H Q => ∃ d kvs, xs = [.ref d] ∧ Rd H d (.dK kvs) ∧ Q (.int kvs.length) H) := by
  intro pins s σ H vs us Q I r h
  obtain ⟨d, kvs, rfl, h, q⟩ := h
  obtain ⟨u, rfl, ru⟩ := vals1 r
  cases ru
  exact d_len I h fun t s' I' => ⟨.int kvs.length, H, I', ⟨t, rfl⟩, q⟩
theorem len_ok {K : PySem.W.Frag} {H0 H : Hp} {ρ : List Addr} {st : Sto} {v : V} {d : D} {n : Nat} {Q : VK} (R : Rep K H0 ρ H st) (h : Den K H0 ρ v d) (e : lenD st d = some n) (q : Q (.int n) H) : rLenA K [v] H Q := by
  have seq : (∃ xs, asSeq st d = some xs ∧ n = xs.length) → rLenA K [v] H Q := fun ⟨xs, e1, e2⟩ => by
    obtain ⟨p, vs, rfl, hs, l⟩ := asSeq_ok R h e1
    refine .inl ⟨_, n, rfl, ?_, q⟩
    rcases hs with hs | hs
    · exact .inl ⟨vs, hs, by rw [l.length]; exact e2⟩
    · exact .inr ⟨vs, hs, by rw [l.length]; exact e2⟩
  cases d with
  | str x =>
    cases h.str_inv
    have e : (match decide (x.length ≤ LIM) with | true => some x.length | false => none) = some n := e
    cases el : decide (x.length ≤ LIM) with
    | false => rw [el] at e; cases e
    | true => rw [el] at e; cases e; exact .inl ⟨_, _, rfl, ⟨lim_le (of_decide_eq_true el), rfl⟩, q⟩
  | tup xs => cases e; exact seq ⟨xs, rfl, rfl⟩
  | lst xs => cases e; exact seq ⟨xs, rfl, rfl⟩
  | scr xs => cases e; exact seq ⟨xs, rfl, rfl⟩
  | dct ks ds =>
    cases e
    cases h with
    | dct hr l =>
      rw [List.length_map] at q
      exact .inr ⟨_, _, rfl, R.rd hr, q⟩
  | loc k =>
    have e : (match st[k]? with | some (.lst xs) => some xs.length | some (.dK ks _) => some ks.length | some (.lk ks _) => some ks.length | none => none) = some n := e
    cases es : st[k]? with
    | none => rw [es] at e; cases e
    | some o =>
      rw [es] at e
      cases o with
      | lst xs => cases e; exact seq ⟨xs, by simp only [asSeq, es], rfl⟩
      | dK ks ds =>
        cases e
        cases h with
        | loc ha =>
          obtain ⟨kvs, h1, h2, l⟩ := R.ob _ _ _ ha es
          subst h2
          rw [List.length_map] at q
          exact .inr ⟨_, _, rfl, .inl h1, q⟩
      | lk ks ds =>
        cases e
        cases h with
        | loc ha =>
          obtain ⟨ob, kvs, h1, h2, l⟩ := R.ob _ _ _ ha es
          subst h2
          rw [List.length_map] at q
          exact .inr ⟨_, _, rfl, .inr ⟨ob, h1⟩, q⟩
  | _ => cases e
theorem rc_len : RealC X.K cm (rLenA X.K) oLen := by
  intro Wx H0 ρ H st xs ds Q R l q
  unfold oLen at q
  cases e1 : one? ds with
  | none => rw [e1] at q; exact q.elim
  | some d =>
    rw [e1] at q
    obtain ⟨v, rfl, dn⟩ := one_den l e1
    simp only at q
    cases e2 : lenD st d with
    | none => rw [e2] at q; exact q.elim
    | some n => rw [e2] at q; exact len_ok R dn e2 (q _ H0 ρ H Ext.refl R (.int _))
theorem de_len (hm : X.mg "len" = none) (ha : DA X cm W (e :: es) ga) (hg : Gl X "len" := by rfl) (he : starEach (e :: es) X.env = (false, eval e X.env) :: starEach es X.env := by rfl) (hpl : (backTo pos (starEach es X.env)).any (·.1) = false := by rfl) :
    DE X cm W (.Call (.Name "len" p) (e :: es) [] pos) (fCall oLen ga) := de_bi (call_len.or call_lenRd) rc_len hg hm bb_len ha (by decide) (by decide) he hpl

/-- one int -/
def int1? : List D → Option Int
  | [.int i] => some i
  | _ => none
theorem int1_den {K : PySem.W.Frag} {H : Hp} {ρ : List Addr} {vs : List V} {ds : List D} {i : Int} (l : DenL K H ρ vs ds) (h : int1? ds = some i) : vs = [.int i] := by
  unfold int1? at h
  split at h
  · cases h
    cases l with
    | cons r l => cases l; rw [r.int_inv]
  · cases h
def oInt1 (g : Int → D) : List D → Sto → Res D := fun ds st => match int1? ds with
  | some i => .ok (g i) st
  | none => .no
def oInt2 (g : Int → Int → D) : List D → Sto → Res D := fun ds st => match two? ds with
  | some p => .ok (g p.1 p.2) st
  | none => .no
theorem rc_abs : RealC X.K cm (fun xs H Q => ∃ i, xs = [V.int i] ∧ Q (.int (if i < 0 then -i else i)) H) (oInt1 fun i => .int (if i < 0 then -i else i)) := by
  intro Wx H0 ρ H st xs ds Q R l q
  unfold oInt1 at q
  cases e1 : int1? ds with
  | none => rw [e1] at q; exact q.elim
  | some i => rw [e1] at q; exact ⟨i, int1_den l e1, q _ H0 ρ H Ext.refl R (.int _)⟩
theorem rc_int2 {g : Int → Int → Int} : RealC X.K cm (fun xs H Q => ∃ i j, xs = [V.int i, .int j] ∧ Q (.int (g i j)) H) (oInt2 fun i j => .int (g i j)) := by
  intro Wx H0 ρ H st xs ds Q R l q
  unfold oInt2 at q
  cases e1 : two? ds with
  | none => rw [e1] at q; exact q.elim
  | some p => rw [e1] at q; exact ⟨p.1, p.2, two_den l e1, q _ H0 ρ H Ext.refl R (.int _)⟩
theorem de_abs (hm : X.mg "abs" = none) (ha : DA X cm W (e :: es) ga) (hg : Gl X "abs" := by rfl) (he : starEach (e :: es) X.env = (false, eval e X.env) :: starEach es X.env := by rfl) (hpl : (backTo pos (starEach es X.env)).any (·.1) = false := by rfl) :
    DE X cm W (.Call (.Name "abs" p) (e :: es) [] pos) (fCall (oInt1 fun i => .int (if i < 0 then -i else i)) ga) := de_bi call_abs rc_abs hg hm bb_abs ha (by decide) (by decide) he hpl
theorem de_max2 (hc : X.calm = true) (hm : X.mg "max" = none) (ha : DA X cm W (e :: es) ga) (hg : Gl X "max" := by rfl) (he : starEach (e :: es) X.env = (false, eval e X.env) :: starEach es X.env := by rfl) (hpl : (backTo pos (starEach es X.env)).any (·.1) = false := by rfl) :
    DE X cm W (.Call (.Name "max" p) (e :: es) [] pos) (fCall (oInt2 fun i j => .int (if j > i then j else i)) ga) := de_bi (call_max2 hc) rc_int2 hg hm bb_max ha (by decide) (by decide) he hpl
theorem de_min2 (hc : X.calm = true) (hm : X.mg "min" = none) (ha : DA X cm W (e :: es) ga) (hg : Gl X "min" := by rfl) (he : starEach (e :: es) X.env = (false, eval e X.env) :: starEach es X.env := by rfl) (hpl : (backTo pos (starEach es X.env)).any (·.1) = false := by rfl) :
    DE X cm W (.Call (.Name "min" p) (e :: es) [] pos) (fCall (oInt2 fun i j => .int (if j < i then j else i)) ga) := de_bi (call_min2 hc) rc_int2 hg hm bb_min ha (by decide) (by decide) he hpl
theorem de_gcd {x : Str} (hm : X.mg x = some (.builtin "math.gcd")) (ha : DA X cm W (e :: es) ga) (hg : Gl X x := by rfl) (hdb : (x == ("__debug__" : Str)) = false := by decide) (he : starEach (e :: es) X.env = (false, eval e X.env) :: starEach es X.env := by rfl) (hpl : (backTo pos (starEach es X.env)).any (·.1) = false := by rfl) :
    DE X cm W (.Call (.Name x p) (e :: es) [] pos) (fCall (oInt2 fun i j => .int ((Nat.gcd i.natAbs j.natAbs : Nat) : Int)) ga) := de_bfun cr_gcd rc_int2 hg hm ha hdb he hpl
/-- int of an int, of a truth -/
def oInt : List D → Sto → Res D := fun ds st => match one? ds with
  | some (.int i) => .ok (.int i) st
  | some (.bl b) => .ok (.int (if b then 1 else 0)) st
  | _ => .no
theorem rc_intc : RealC X.K cm (fun xs H Q => (∃ i, xs = [V.int i] ∧ Q (.int i) H) ∨ ∃ k, xs = [V.bl k] ∧ Q (.int (if k then 1 else 0)) H) oInt := by
  intro Wx H0 ρ H st xs ds Q R l q
  unfold oInt at q
  cases e1 : one? ds with
  | none => rw [e1] at q; exact q.elim
  | some d =>
    rw [e1] at q
    obtain ⟨v, rfl, dn⟩ := one_den l e1
    cases d with
    | int i => cases dn.int_inv; exact .inl ⟨i, rfl, q _ H0 ρ H Ext.refl R (.int _)⟩
    | bl b => cases dn.bl_inv; exact .inr ⟨b, rfl, q _ H0 ρ H Ext.refl R (.int _)⟩
    | _ => exact q.elim
theorem de_intc (hm : X.mg "int" = none) (ha : DA X cm W (e :: es) ga) (hg : Gl X "int" := by rfl) (he : starEach (e :: es) X.env = (false, eval e X.env) :: starEach es X.env := by rfl) (hpl : (backTo pos (starEach es X.env)).any (·.1) = false := by rfl) :
    DE X cm W (.Call (.Name "int" p) (e :: es) [] pos) (fCall oInt ga) := de_bty call_int1 rc_intc hg hm bb_int ha (by decide) (by decide) he hpl
/-- str of an int -/
def oStr : List D → Sto → Res D := fun ds st => match int1? ds with
  | some i => (match decide (i.natAbs.log2 < 1920) with
    | true => .ok (.str (toString i)) st
    | false => .no)
  | none => .no
theorem rc_str : RealC X.K cm (fun xs H Q => ∃ i, xs = [V.int i] ∧ i.natAbs.log2 < 1920 ∧ Q (.str (toString i)) H) oStr := by
  intro Wx H0 ρ H st xs ds Q R l q
  unfold oStr at q
  cases e1 : int1? ds with
  | none => rw [e1] at q; exact q.elim
  | some i =>
    rw [e1] at q
    simp only at q
    cases e2 : decide (i.natAbs.log2 < 1920) with
    | false => rw [e2] at q; exact q.elim
    | true => rw [e2] at q; exact ⟨i, int1_den l e1, of_decide_eq_true e2, q _ H0 ρ H Ext.refl R (.str _)⟩
theorem de_strc (hm : X.mg "str" = none) (ha : DA X cm W (e :: es) ga) (hg : Gl X "str" := by rfl) (he : starEach (e :: es) X.env = (false, eval e X.env) :: starEach es X.env := by rfl) (hpl : (backTo pos (starEach es X.env)).any (·.1) = false := by rfl) :
    DE X cm W (.Call (.Name "str" p) (e :: es) [] pos) (fCall oStr ga) := de_bty call_str_int rc_str hg hm bb_str ha (by decide) (by decide) he hpl

/-! ### lists of ints, of truths -/
def ints? : List D → Option (List Int)
  | [] => some []
  | .int i :: r => (ints? r).map (i :: ·)
  | _ => none
def bools? : List D → Option (List Bool)
  | [] => some []
  | .bl i :: r => (bools? r).map (i :: ·)
  | _ => none
theorem ints_den {K : PySem.W.Frag} {H : Hp} {ρ : List Addr} : ∀ {vs : List V} {ds : List D} {is : List Int}, DenL K H ρ vs ds → ints? ds = some is → vs = is.map V.int
  | _, _, _, .nil, e => by cases e; rfl
  | _, _, _, .cons (d := d) r l, e => by
    cases d with
    | int i =>
      have e : (ints? _).map (i :: ·) = some _ := e
      obtain ⟨js, e1, e2⟩ := Option.map_eq_some_iff.mp e
      subst e2
      rw [List.map_cons, r.int_inv, ints_den l e1]
    | _ => cases e
theorem bools_den {K : PySem.W.Frag} {H : Hp} {ρ : List Addr} : ∀ {vs : List V} {ds : List D} {is : List Bool}, DenL K H ρ vs ds → bools? ds = some is → vs = is.map V.bl
  | _, _, _, .nil, e => by cases e; rfl
  | _, _, _, .cons (d := d) r l, e => by
    cases d with
    | bl i =>
      have e : (bools? _).map (i :: ·) = some _ := e
      obtain ⟨js, e1, e2⟩ := Option.map_eq_some_iff.mp e
      subst e2
      rw [List.map_cons, r.bl_inv, bools_den l e1]
    | _ => cases e
/-- one list of ints (truths) -/
def oInts (g : List Int → D) : List D → Sto → Res D := fun ds st => match one? ds with
  | some d => (match (asLR st d).bind ints? with
    | some is => .ok (g is) st
    | none => .no)
  | none => .no
def oBools (g : List Bool → D) : List D → Sto → Res D := fun ds st => match one? ds with
  | some d => (match (asLR st d).bind bools? with
    | some is => .ok (g is) st
    | none => .no)
  | none => .no
theorem rc_ints {g : List Int → D} {r : List V → Hp → VK → Prop} (h : ∀ (a : Addr) is H (Q : VK), SqL X.K H a (is.map V.int) → (∀ v, Den X.K (fun _ => none) [] v (g is) → Q v H) → r [.ref a] H Q) (hg : ∀ is, ∃ i, g is = .int i) : RealC X.K cm r (oInts g) := by
  intro Wx H0 ρ H st xs ds Q R l q
  unfold oInts at q
  cases e1 : one? ds with
  | none => rw [e1] at q; exact q.elim
  | some d =>
    rw [e1] at q
    obtain ⟨v, rfl, dn⟩ := one_den l e1
    simp only at q
    cases e2 : (asLR st d).bind ints? with
    | none => rw [e2] at q; exact q.elim
    | some is =>
      rw [e2] at q
      obtain ⟨xs, e3, e4⟩ := Option.bind_eq_some_iff.mp e2
      obtain ⟨p, vs, rfl, hs, l2⟩ := asLR_ok R dn e3
      have ev := ints_den l2 e4
      subst ev
      refine h p is H Q hs fun v hv => ?_
      obtain ⟨i, ei⟩ := hg is
      rw [ei] at hv
      cases hv.int_inv
      exact q _ H0 ρ H Ext.refl R (by rw [ei]; exact .int i)
theorem rc_sum : RealC X.K cm (rSum X.K) (oInts fun is => .int is.sum) := rc_ints (fun a is H Q hs q => ⟨a, is, rfl, hs, q _ (.int _)⟩) fun is => ⟨_, rfl⟩
theorem rc_bools {g : List Bool → Bool} : RealC X.K cm (fun vs H Q => ∃ (a : Addr) (bs : List Bool), vs = [V.ref a] ∧ SqL X.K H a (bs.map V.bl) ∧ Q (.bl (g bs)) H) (oBools fun is => .bl (g is)) := by
  intro Wx H0 ρ H st xs ds Q R l q
  unfold oBools at q
  cases e1 : one? ds with
  | none => rw [e1] at q; exact q.elim
  | some d =>
    rw [e1] at q
    obtain ⟨v, rfl, dn⟩ := one_den l e1
    simp only at q
    cases e2 : (asLR st d).bind bools? with
    | none => rw [e2] at q; exact q.elim
    | some is =>
      rw [e2] at q
      obtain ⟨xs, e3, e4⟩ := Option.bind_eq_some_iff.mp e2
      obtain ⟨p, vs, rfl, hs, l2⟩ := asLR_ok R dn e3
      have ev := bools_den l2 e4
      subst ev
      exact ⟨p, is, rfl, hs, q _ H0 ρ H Ext.refl R (.bl _)⟩
theorem de_sum (hc : X.calm = true) (hm : X.mg "sum" = none) (ha : DA X cm W (e :: es) ga) (hg : Gl X "sum" := by rfl) (he : starEach (e :: es) X.env = (false, eval e X.env) :: starEach es X.env := by rfl) (hpl : (backTo pos (starEach es X.env)).any (·.1) = false := by rfl) :
    DE X cm W (.Call (.Name "sum" p) (e :: es) [] pos) (fCall (oInts fun is => .int is.sum) ga) := de_bi (cr_sum hc) rc_sum hg hm bb_sum ha (by decide) (by decide) he hpl
theorem de_all (hc : X.calm = true) (hm : X.mg "all" = none) (ha : DA X cm W (e :: es) ga) (hg : Gl X "all" := by rfl) (he : starEach (e :: es) X.env = (false, eval e X.env) :: starEach es X.env := by rfl) (hpl : (backTo pos (starEach es X.env)).any (·.1) = false := by rfl) :
    DE X cm W (.Call (.Name "all" p) (e :: es) [] pos) (fCall (oBools fun is => .bl (is.all id)) ga) := de_bi (cr_all hc) rc_bools hg hm bb_all ha (by decide) (by decide) he hpl
theorem de_any (hc : X.calm = true) (hm : X.mg "any" = none) (ha : DA X cm W (e :: es) ga) (hg : Gl X "any" := by rfl) (he : starEach (e :: es) X.env = (false, eval e X.env) :: starEach es X.env := by rfl) (hpl : (backTo pos (starEach es X.env)).any (·.1) = false := by rfl) :
    DE X cm W (.Call (.Name "any" p) (e :: es) [] pos) (fCall (oBools fun is => .bl (is.any id)) ga) := de_bi (cr_any hc) rc_bools hg hm bb_any ha (by decide) (by decide) he hpl
/-- list(x), tuple(x) -/
def oList : List D → Sto → Res D := fun ds st => match one? ds with
  | some d => (match asSeq st d with
    | some xs => .ok (.lst xs) st
    | none => .no)
  | none => .no
def oListO : List D → Sto → Res D := fun ds st => match one? ds with
  | some d => (match asSeq st d with
    | some xs => .ok (.loc st.length) (st ++ [.lst xs])
    | none => .no)
  | none => .no
def oTuple : List D → Sto → Res D := fun ds st => match one? ds with
  | some d => (match asSeq st d with
    | some xs => .ok (.tup xs) st
    | none => .no)
  | none => .no
theorem rc_list : RealC X.K cm (fun xs H Q => ∃ p ys, xs = [V.ref p] ∧ (SqL X.K H p ys ∨ SqT X.K H p ys) ∧ ∀ l, H l = none → Q (.ref l) (upd H l (.lst ys))) oList := by
  intro Wx H0 ρ H st xs ds Q R l q
  unfold oList at q
  cases e1 : one? ds with
  | none => rw [e1] at q; exact q.elim
  | some d =>
    rw [e1] at q
    obtain ⟨v, rfl, dn⟩ := one_den l e1
    simp only at q
    cases e2 : asSeq st d with
    | none => rw [e2] at q; exact q.elim
    | some is =>
      rw [e2] at q
      obtain ⟨p, vs, rfl, hs, l2⟩ := asSeq_ok R dn e2
      exact ⟨p, vs, rfl, hs, Sat.okF R q (den_newL R l2)⟩
theorem rc_listO : RealC X.K cm (fun xs H Q => ∃ p ys, xs = [V.ref p] ∧ (SqL X.K H p ys ∨ SqT X.K H p ys) ∧ ∀ l, H l = none → Q (.ref l) (upd H l (.lst ys))) oListO := by
  intro Wx H0 ρ H st xs ds Q R l q
  unfold oListO at q
  cases e1 : one? ds with
  | none => rw [e1] at q; exact q.elim
  | some d =>
    rw [e1] at q
    obtain ⟨v, rfl, dn⟩ := one_den l e1
    simp only at q
    cases e2 : asSeq st d with
    | none => rw [e2] at q; exact q.elim
    | some is =>
      rw [e2] at q
      obtain ⟨p, vs, rfl, hs, l2⟩ := asSeq_ok R dn e2
      exact ⟨p, vs, rfl, hs, Sat.okO R l2 q⟩
theorem rc_tuple : RealC X.K cm (fun xs H Q => ∃ p ys, xs = [V.ref p] ∧ ((SqL X.K H p ys ∧ ∀ l, H l = none → Q (.ref l) (upd H l (.tup ys))) ∨ (SqT X.K H p ys ∧ Q (.ref p) H))) oTuple := by
  intro Wx H0 ρ H st xs ds Q R l q
  unfold oTuple at q
  cases e1 : one? ds with
  | none => rw [e1] at q; exact q.elim
  | some d =>
    rw [e1] at q
    obtain ⟨v, rfl, dn⟩ := one_den l e1
    simp only at q
    cases e2 : asSeq st d with
    | none => rw [e2] at q; exact q.elim
    | some is =>
      rw [e2] at q
      cases dn with
      | tup hs l2 => cases e2; exact ⟨_, _, rfl, .inr ⟨R.sqT hs, q _ H0 ρ H Ext.refl R (.tup hs l2)⟩⟩
      | lst hs l2 => cases e2; exact ⟨_, _, rfl, .inl ⟨SqL.of (R.sub _ _ hs), Sat.okF R q (den_newT R l2)⟩⟩
      | scr hs l2 => cases e2; exact ⟨_, _, rfl, .inl ⟨R.sqL hs, Sat.okF R q (den_newT R l2)⟩⟩
      | @loc a k ha =>
        obtain ⟨p, vs, ep, hs, l2⟩ := asLR_ok R (.loc ha) (show asLR st (.loc k) = some is from e2)
        cases ep
        exact ⟨_, _, rfl, .inl ⟨hs, Sat.okF R q (den_newT R l2)⟩⟩
      | _ => cases e2
theorem de_list (hm : X.mg "list" = none) (ha : DA X cm W (e :: es) ga) (hg : Gl X "list" := by rfl) (he : starEach (e :: es) X.env = (false, eval e X.env) :: starEach es X.env := by rfl) (hpl : (backTo pos (starEach es X.env)).any (·.1) = false := by rfl) :
    DE X cm W (.Call (.Name "list" p) (e :: es) [] pos) (fCall oList ga) := de_bty call_list_of rc_list hg hm bb_list ha (by decide) (by decide) he hpl
theorem de_listO (hm : X.mg "list" = none) (ha : DA X cm W (e :: es) ga) (hg : Gl X "list" := by rfl) (he : starEach (e :: es) X.env = (false, eval e X.env) :: starEach es X.env := by rfl) (hpl : (backTo pos (starEach es X.env)).any (·.1) = false := by rfl) :
    DE X cm W (.Call (.Name "list" p) (e :: es) [] pos) (fCall oListO ga) := de_bty call_list_of rc_listO hg hm bb_list ha (by decide) (by decide) he hpl
theorem de_tuple (hm : X.mg "tuple" = none) (ha : DA X cm W (e :: es) ga) (hg : Gl X "tuple" := by rfl) (he : starEach (e :: es) X.env = (false, eval e X.env) :: starEach es X.env := by rfl) (hpl : (backTo pos (starEach es X.env)).any (·.1) = false := by rfl) :
    DE X cm W (.Call (.Name "tuple" p) (e :: es) [] pos) (fCall oTuple ga) := de_bty call_tuple_of rc_tuple hg hm bb_tuple ha (by decide) (by decide) he hpl

/-! ### isinstance -/
inductive PT where
  | non | bl | int | str | tup | lst | dct
  deriving DecidableEq
def PT.nm : PT → String
  | .non => "NoneType" | .bl => "bool" | .int => "int" | .str => "str" | .tup => "tuple" | .lst => "list" | .dct => "dict"
def isPT : PT → PT → Bool
  | .bl, .int => true
  | a, b => decide (a = b)
theorem kit_pt (a b : PT) : kitB a.nm b.nm = some (isPT a b) := by cases a <;> cases b <;> decide +kernel
def tyD (st : Sto) : D → Option PT
  | .non => some .non
  | .bl _ => some .bl
  | .int _ => some .int
  | .str _ => some .str
  | .tup _ => some .tup
  | .lst _ => some .lst
  | .scr _ => some .lst
  | .dct _ _ => some .dct
  | .loc k => match st[k]? with
    | some (.lst _) => some .lst
    | some (.dK _ _) => some .dct
    | some (.lk _ _) => some .dct
    | none => none
theorem ty_ok {K : PySem.W.Frag} {H0 H : Hp} {ρ : List Addr} {st : Sto} {v : V} {d : D} {t : PT} (R : Rep K H0 ρ H st) (h : Den K H0 ρ v d) (e : tyD st d = some t) : TyX K H v (.type t.nm) := by
  have tup : ∀ {p : Addr} {vs : List V}, SqT K H p vs → TyX K H (.ref p) (.type "tuple") := fun {p vs} h => by
    rcases h with (h | ⟨o, h⟩) | ⟨o, its, n, h, hc, _⟩
    · exact .base (.tup h)
    · exact .fTuple h
    · exact .kTuple h hc
  have lst : ∀ {p : Addr} {vs : List V}, SqL K H p vs → TyX K H (.ref p) (.type "list") := fun {p vs} h => by
    rcases h with (h | ⟨o, h⟩) | ⟨o, its, n, h, hc, _⟩
    · exact .base (.lst h)
    · exact .base (.frz h)
    · exact .kList h hc
  cases h with
  | non => cases e; exact .base .non
  | bl b => cases e; exact .base (.bl b)
  | int i => cases e; exact .base (.int i)
  | str x => cases e; exact .base (.str x)
  | tup h l => cases e; exact tup (R.sqT h)
  | lst h l => cases e; exact lst (SqL.of (R.sub _ _ h))
  | scr h l => cases e; exact lst (R.sqL h)
  | dct h l =>
    cases e
    rcases R.rd h with h | ⟨o, h⟩
    · exact .base (.dK h)
    · exact .fDict h
  | @loc a k ha =>
    have e : (match st[k]? with | some (.lst _) => some PT.lst | some (.dK _ _) => some .dct | some (.lk _ _) => some .dct | none => none) = some t := e
    cases es : st[k]? with
    | none => rw [es] at e; cases e
    | some o =>
      rw [es] at e
      cases o with
      | lst xs =>
        cases e
        obtain ⟨vs, h1, _⟩ := locL R ha es
        exact lst (SqL.of h1)
      | dK ks ds =>
        cases e
        obtain ⟨kvs, h1, _, _⟩ := R.ob _ _ _ ha es
        exact .base (.dK h1)
      | lk ks ds =>
        cases e
        obtain ⟨ob, kvs, h1, _, _⟩ := R.ob _ _ _ ha es
        exact .fDict h1
def fIsi (n : PT) (f : ExpD) : ExpD := fun env st => (f env st).bind fun d s => match tyD s d with
  | some t => .ok (.bl (isPT t n)) s
  | none => .no
def fIsiT (ns : List PT) (f : ExpD) : ExpD := fun env st => (f env st).bind fun d s => match tyD s d with
  | some t => .ok (.bl (ns.any fun n => isPT t n)) s
  | none => .no
/-- a built-in class's name -/
structure TyN (X : Cx) (e : Expr) (n : PT) : Prop where
  pe : PE X e (tC (.ty n.nm))
  st : ∀ es, starEach (e :: es) X.env = (false, eval e X.env) :: starEach es X.env
theorem tyn {x : Str} {pp : Pos} (n : PT) (hm : X.mg x = none) (hv : bootBuiltins x = some (.type n.nm) := by decide +kernel) (hg : Gl X x := by rfl) (hn : x ≠ "__name__" := by decide) (hd : (x == ("__debug__" : Str)) = false := by decide) : TyN X (.Name x pp) n :=
  ⟨pe_bltn hg hm hv rfl hn hd, fun _ => rfl⟩
theorem de_isi {T : Expr} {n : PT} (hm : X.mg "isinstance" = none) (ha : DE X cm W e f) (hT : TyN X T n) (hg : Gl X "isinstance" := by rfl) (he : starEach (e :: [T]) X.env = (false, eval e X.env) :: starEach [T] X.env := by rfl) (hpl : (backTo pos (starEach [T] X.env)).any (·.1) = false := by rfl) :
    DE X cm W (.Call (.Name "isinstance" p) [e, T] [] pos) (fIsi n f) := ⟨PE.imp (pe_callB call_isi hg hm bb_isi (pa_cons ha.pe (pa_cons hT.pe pa_nil (hT.st [])) he) (by decide) (by decide) he hpl) fun σ H Q h => by
  obtain ⟨H0, ρ, env, st, R, E, h⟩ := h
  refine ⟨H0, ρ, env, st, R, E, Sat.mono (Sat.bind (R := Den X.K) h) ?_⟩
  rintro v H1 ⟨H0', ρ', d, s1, x, R1, dn, h1⟩
  cases et : tyD s1 d with
  | none => rw [et] at h1; exact h1.elim
  | some t =>
    rw [et] at h1
    exact ⟨v, .ty n.nm, .type t.nm, .type n.nm, isPT t n, rfl, .ty n.nm, ty_ok R1 dn et, kit_ty (kit_pt t n), h1 _ H0' ρ' H1 Ext.refl R1 (.bl _)⟩⟩
inductive TyNs (X : Cx) : List Expr → List PT → Prop
  | nil : TyNs X [] []
  | cons {e : Expr} {n : PT} {es : List Expr} {ns : List PT} : TyN X e n → TyNs X es ns → TyNs X (e :: es) (n :: ns)
def tTys : List PT → TA
  | [] => tNil
  | n :: ns => tCons (tC (.ty n.nm)) (tTys ns)
theorem TyNs.pa {es : List Expr} {ns : List PT} (h : TyNs X es ns) : PA X es (tTys ns) := by
  induction h with
  | nil => exact pa_nil
  | cons h _ ih => exact pa_cons h.pe ih (h.st _)
theorem tTys_ok {σ : L2.St} {H : Hp} {Q : List V → Hp → Prop} : ∀ {ns : List PT}, Q (ns.map fun n => .ty n.nm) H → tTys ns σ H Q
  | [], q => q
  | n :: ns, q => tTys_ok (ns := ns) (Q := fun xs H => Q (.ty n.nm :: xs) H) q
theorem kit_any {K : PySem.W.Frag} (t : PT) : ∀ ns : List PT, PySem.W.kitAny K (.type t.nm) (ns.map fun n => .type n.nm) = some (ns.any fun n => isPT t n)
  | [] => kitAny_nil
  | n :: ns => by
    rw [List.map_cons, List.any_cons]
    refine kitAny_cons (kit_ty (kit_pt t n)) (fun e => ?_) (fun e => ?_)
    · rw [e, Bool.false_or]
      exact kit_any t ns
    · rw [e, Bool.true_or]
theorem paired_cls : ∀ ns : List PT, Paired ClsV (ns.map fun n => V.ty n.nm) (ns.map fun n => Value.type n.nm)
  | [] => .nil
  | n :: ns => .cons (.ty n.nm) (paired_cls ns)
theorem de_isiT {Ts : List Expr} {ns : List PT} {tk : _} {tp : Pos} (hm : X.mg "isinstance" = none) (ha : DE X cm W e f) (hT : TyNs X Ts ns) (hl : ns.length ≤ LIM := by decide) (hg : Gl X "isinstance" := by rfl)
    (he : starEach (e :: [.Tuple Ts tk tp]) X.env = (false, eval e X.env) :: starEach [.Tuple Ts tk tp] X.env := by rfl) (he2 : starEach [.Tuple Ts tk tp] X.env = (false, eval (.Tuple Ts tk tp) X.env) :: starEach [] X.env := by rfl) (hpl : (backTo pos (starEach [.Tuple Ts tk tp] X.env)).any (·.1) = false := by rfl) :
    DE X cm W (.Call (.Name "isinstance" p) [e, .Tuple Ts tk tp] [] pos) (fIsiT ns f) := ⟨PE.imp (pe_callB call_isiT hg hm bb_isi (pa_cons ha.pe (pa_cons (pe_tup hT.pa) pa_nil he2) he) (by decide) (by decide) he hpl) fun σ H Q h => by
  obtain ⟨H0, ρ, env, st, R, E, h⟩ := h
  refine ⟨H0, ρ, env, st, R, E, Sat.mono (Sat.bind (R := Den X.K) h) ?_⟩
  rintro v H1 ⟨H0', ρ', d, s1, x, R1, dn, h1⟩
  refine tTys_ok ⟨by rw [List.length_map]; exact lim_le hl, fun tp hp => ?_⟩
  cases et : tyD s1 d with
  | none => rw [et] at h1; exact h1.elim
  | some t =>
    rw [et] at h1
    have R2 : Rep X.K H0' ρ' (upd H1 tp (.tup (ns.map fun n => V.ty n.nm))) s1 := R1.newX hp
    exact ⟨v, tp, _, .type t.nm, _, _, rfl, upd_same, paired_cls ns, ty_ok R2 dn et, kit_any t ns, h1 _ H0' ρ' _ (Ext.newX hp) R2 (.bl _)⟩⟩

/-! ### methods of lists -/
/-- o.append(e) -/
def oAppend (o d : D) (st : Sto) : Res D := match o with
  | .loc k => (match st[k]? with
    | some (.lst xs) => (match decide (xs.length < LIM) with
      | true => .ok .non (st.set k (.lst (xs ++ [d])))
      | false => .no)
    | _ => .no)
  | _ => .no
def isLoc (o : D) (st : Sto) : Bool := match o with
  | .loc k => (match st[k]? with
    | some (.lst _) => true
    | _ => false)
  | _ => false
def fMeth1 (op : D → D → Sto → Res D) (f g : ExpD) : ExpD := fun env st => (f env st).bind fun o s1 => match isLoc o s1 with
  | true => (g env s1).bind fun d s2 => op o d s2
  | false => .no
def fMeth0 (op : D → Sto → Res D) (f : ExpD) : ExpD := fun env st => (f env st).bind fun o s1 => match isLoc o s1 with
  | true => op o s1
  | false => .no
theorem isLoc_ok {K : PySem.W.Frag} {H0 H : Hp} {ρ : List Addr} {st : Sto} {v : V} {o : D} (R : Rep K H0 ρ H st) (h : Den K H0 ρ v o) (e : isLoc o st = true) : tyV K "list" v H := by
  cases o with
  | loc k =>
    have e : (match st[k]? with | some (.lst _) => true | _ => false) = true := e
    cases es : st[k]? with
    | none => rw [es] at e; cases e
    | some ob =>
      rw [es] at e
      cases ob with
      | dK _ _ => cases e
      | lk _ _ => cases e
      | lst xs =>
        cases h with
        | loc ha =>
          obtain ⟨vs, h1, _⟩ := locL R ha es
          exact .inl ⟨rfl, vs, SqL.of h1⟩
  | _ => cases e
/-- r does what op says, on a list of the store -/
def RealM (K : PySem.W.Frag) (cm : Str → Addr) (r : V → List V → Hp → VK → Prop) (op : D → D → Sto → Res D) : Prop := ∀ (Wx : Value → Option Addr → Hp → Prop) H0 ρ H st x y dx dy (Q : VK), Rep K H0 ρ H st → Den K H0 ρ x dx → Den K H0 ρ y dy → Sat (Den K) K cm Wx H0 ρ H (op dx dy st) Q → r x [y] H Q
def RealM0 (K : PySem.W.Frag) (cm : Str → Addr) (r : V → List V → Hp → VK → Prop) (op : D → Sto → Res D) : Prop := ∀ (Wx : Value → Option Addr → Hp → Prop) H0 ρ H st x dx (Q : VK), Rep K H0 ρ H st → Den K H0 ρ x dx → Sat (Den K) K cm Wx H0 ρ H (op dx st) Q → r x [] H Q
variable {o : Expr} {fo : ExpD} {apos cpos : Pos}
theorem meth1_imp {r : V → List V → Hp → VK → Prop} {op : D → D → Sto → Res D} (hr : RealM X.K cm r op) {σ : L2.St} {H : Hp} {Q : VK} (h : tD X.K cm W (fMeth1 op fo f) σ H Q) : tBM X.K "list" r (tD X.K cm W fo) (tCons (tD X.K cm W f) tNil) σ H Q := by
  obtain ⟨H0, ρ, env, st, R, E, h⟩ := h
  refine ⟨H0, ρ, env, st, R, E, Sat.mono (Sat.bind (R := Den X.K) h) ?_⟩
  rintro v H1 ⟨H0', ρ', d, s1, x, R1, dn, h1⟩
  cases el : isLoc d s1 with
  | false => rw [el] at h1; exact h1.elim
  | true =>
    rw [el] at h1
    refine ⟨isLoc_ok R1 dn el, H0', ρ', env, s1, R1, E.mono x, Sat.mono (Sat.bind (R := Den X.K) h1) ?_⟩
    rintro u H2 ⟨H0'', ρ'', d2, s2, x2, R2, dn2, h2⟩
    exact hr _ H0'' ρ'' H2 s2 v u d d2 Q R2 (dn.mono x2) dn2 h2
theorem re_append : RealM X.K cm rAppend oAppend := by
  intro Wx H0 ρ H st x y dx dy Q R hx hy q
  cases dx with
  | loc k =>
    have q : Sat (Den X.K) X.K cm Wx H0 ρ H (match st[k]? with | some (.lst xs) => (match decide (xs.length < LIM) with | true => Res.ok D.non (st.set k (.lst (xs ++ [dy]))) | false => .no) | _ => .no) Q := q
    cases es : st[k]? with
    | none => rw [es] at q; exact q.elim
    | some ob =>
      rw [es] at q
      cases ob with
      | dK _ _ => exact q.elim
      | lk _ _ => exact q.elim
      | lst xs =>
        simp only at q
        cases el : decide (xs.length < LIM) with
        | false => rw [el] at q; exact q.elim
        | true =>
          rw [el] at q
          cases hx with
          | @loc a _ ha =>
            obtain ⟨vs, h1, l⟩ := locL R ha es
            refine ⟨a, vs, y, rfl, rfl, h1, ?_, q .non H0 ρ _ (Ext.put (List.mem_of_getElem? ha) h1 (fun _ _ z => nomatch z)) (R.put ha ⟨_, upd_same, l.append (.one hy)⟩) .non⟩
            rw [l.length]
            exact Nat.lt_of_lt_of_le (of_decide_eq_true el) (by decide)
  | _ => exact q.elim
theorem de_append (ho : DE X cm W o fo) (ha : DE X cm W e f) (hst : starEach (e :: []) X.env = (false, eval e X.env) :: starEach [] X.env := by rfl) (hbase : attributeBase o "append" X.env (eval o X.env) = eval o X.env := by rfl)
    (hfew : ((backTo cpos (starEach (e :: []) X.env)).all (fun x => !x.1) && (backToKw cpos (keywordEach [] X.env)).all (fun x => x.1.isSome) && decide ((e :: ([] : List Expr)).length + ([] : List Keyword).length + (if ([] : List Keyword).isEmpty then 0 else 1) < 30)) = true := by rfl)
    (hline : (apos.endLine == cpos.line) = true := by rfl) :
    DE X cm W (.Call (.Attribute o "append" apos) [e] [] cpos) (fMeth1 oAppend fo f) := ⟨PE.imp (pe_bm PySem.F.plainAttrs_list PySem.F.slot_list_append PySem.F.type_list_append mt_append ho.pe (pa_cons ha.pe pa_nil hst) hbase hfew hline hst rfl) fun _ _ _ h => meth1_imp re_append h⟩
/-- o.pop(i) -/
def oPopAt (o d : D) (st : Sto) : Res D := match o, d with
  | .loc k, .int i => (match st[k]? with
    | some (.lst xs) => (match decide (-(2 ^ 63) ≤ i) && decide (i < 2 ^ 63), seqIndex? i xs.length with
      | true, some j => (match xs[j]? with
        | some y => .ok y (st.set k (.lst (xs.eraseIdx j)))
        | none => .no)
      | _, _ => .no)
    | _ => .no)
  | _, _ => .no
theorem DenL.erase {K : PySem.W.Frag} {H : Hp} {ρ : List Addr} : ∀ {vs : List V} {ds : List D} (i : Nat), DenL K H ρ vs ds → DenL K H ρ (vs.eraseIdx i) (ds.eraseIdx i)
  | _, _, _, .nil => .nil
  | _, _, 0, .cons _ t => t
  | _, _, i + 1, .cons r t => .cons r (DenL.erase i t)
theorem DenL.dropLast {K : PySem.W.Frag} {H : Hp} {ρ : List Addr} {vs : List V} {ds : List D} (l : DenL K H ρ vs ds) : DenL K H ρ vs.dropLast ds.dropLast := by
  rw [List.dropLast_eq_take, List.dropLast_eq_take, l.length]
  exact l.take _
theorem re_popAt : RealM X.K cm rPopAt oPopAt := by
  intro Wx H0 ρ H st x y dx dy Q R hx hy q
  cases dx with
  | loc k =>
    cases dy with
    | int i =>
      have q : Sat (Den X.K) X.K cm Wx H0 ρ H (match st[k]? with | some (.lst xs) => (match decide (-(2 ^ 63) ≤ i) && decide (i < 2 ^ 63), seqIndex? i xs.length with | true, some j => (match xs[j]? with | some y => Res.ok y (st.set k (.lst (xs.eraseIdx j))) | none => .no) | _, _ => .no) | _ => .no) Q := q
      cases es : st[k]? with
      | none => rw [es] at q; exact q.elim
      | some ob =>
        rw [es] at q
        cases ob with
        | dK _ _ => exact q.elim
        | lk _ _ => exact q.elim
        | lst xs =>
          simp only at q
          cases eb : decide (-(2 ^ 63) ≤ i) && decide (i < 2 ^ 63) with
          | false => rw [eb] at q; exact q.elim
          | true =>
            cases ei : seqIndex? i xs.length with
            | none => rw [eb, ei] at q; exact q.elim
            | some j =>
              rw [eb, ei] at q
              simp only at q
              cases ej : xs[j]? with
              | none => rw [ej] at q; exact q.elim
              | some d =>
                rw [ej] at q
                cases hy.int_inv
                cases hx with
                | @loc a _ ha =>
                  obtain ⟨vs, h1, l⟩ := locL R ha es
                  obtain ⟨v, hv, dn⟩ := l.get ej
                  obtain ⟨b1, b2⟩ := Bool.and_eq_true_iff.mp eb
                  exact ⟨a, vs, i, j, v, rfl, rfl, h1, of_decide_eq_true b1, of_decide_eq_true b2, by rw [l.length]; exact ei, hv, q v H0 ρ _ (Ext.put (List.mem_of_getElem? ha) h1 (fun _ _ z => nomatch z)) (R.put ha ⟨_, upd_same, l.erase j⟩) dn⟩
    | _ => exact q.elim
  | _ => cases dy <;> exact q.elim
theorem de_popAt (ho : DE X cm W o fo) (ha : DE X cm W e f) (hst : starEach (e :: []) X.env = (false, eval e X.env) :: starEach [] X.env := by rfl) (hbase : attributeBase o "pop" X.env (eval o X.env) = eval o X.env := by rfl)
    (hfew : ((backTo cpos (starEach (e :: []) X.env)).all (fun x => !x.1) && (backToKw cpos (keywordEach [] X.env)).all (fun x => x.1.isSome) && decide ((e :: ([] : List Expr)).length + ([] : List Keyword).length + (if ([] : List Keyword).isEmpty then 0 else 1) < 30)) = true := by rfl)
    (hline : (apos.endLine == cpos.line) = true := by rfl) :
    DE X cm W (.Call (.Attribute o "pop" apos) [e] [] cpos) (fMeth1 oPopAt fo f) := ⟨PE.imp (pe_bm PySem.F.plainAttrs_list PySem.F.slot_list_pop PySem.F.type_list_pop mt_popAt ho.pe (pa_cons ha.pe pa_nil hst) hbase hfew hline hst rfl) fun _ _ _ h => meth1_imp re_popAt h⟩
/-- o.pop() -/
def oPop (o : D) (st : Sto) : Res D := match o with
  | .loc k => (match st[k]? with
    | some (.lst xs) => (match xs[xs.length - 1]? with
      | some y => .ok y (st.set k (.lst xs.dropLast))
      | none => .no)
    | _ => .no)
  | _ => .no
theorem re_pop : RealM0 X.K cm rPop oPop := by
  intro Wx H0 ρ H st x dx Q R hx q
  cases dx with
  | loc k =>
    have q : Sat (Den X.K) X.K cm Wx H0 ρ H (match st[k]? with | some (.lst xs) => (match xs[xs.length - 1]? with | some y => Res.ok y (st.set k (.lst xs.dropLast)) | none => .no) | _ => .no) Q := q
    cases es : st[k]? with
    | none => rw [es] at q; exact q.elim
    | some ob =>
      rw [es] at q
      cases ob with
      | dK _ _ => exact q.elim
      | lk _ _ => exact q.elim
      | lst xs =>
        simp only at q
        cases ej : xs[xs.length - 1]? with
        | none => rw [ej] at q; exact q.elim
        | some d =>
          rw [ej] at q
          cases hx with
          | @loc a _ ha =>
            obtain ⟨vs, h1, l⟩ := locL R ha es
            obtain ⟨v, hv, dn⟩ := l.get ej
            exact ⟨a, vs, v, rfl, rfl, h1, by rw [l.length]; exact hv, q v H0 ρ _ (Ext.put (List.mem_of_getElem? ha) h1 (fun _ _ z => nomatch z)) (R.put ha ⟨_, upd_same, l.dropLast⟩) dn⟩
  | _ => exact q.elim
theorem de_pop (ho : DE X cm W o fo) (hbase : attributeBase o "pop" X.env (eval o X.env) = eval o X.env := by rfl) (hline : (apos.endLine == cpos.line) = true := by rfl) :
    DE X cm W (.Call (.Attribute o "pop" apos) [] [] cpos) (fMeth0 oPop fo) := ⟨PE.imp (pe_bm0 PySem.F.plainAttrs_list PySem.F.slot_list_pop PySem.F.type_list_pop mt_pop ho.pe hbase hline) fun σ H Q h => by
  obtain ⟨H0, ρ, env, st, R, E, h⟩ := h
  refine ⟨H0, ρ, env, st, R, E, Sat.mono (Sat.bind (R := Den X.K) h) ?_⟩
  rintro v H1 ⟨H0', ρ', d, s1, x, R1, dn, h1⟩
  cases el : isLoc d s1 with
  | false => rw [el] at h1; exact h1.elim
  | true => rw [el] at h1; exact ⟨isLoc_ok R1 dn el, re_pop _ H0' ρ' H1 s1 v d Q R1 dn h1⟩⟩
/-- o.extend(e) -/
def oExtend (o d : D) (st : Sto) : Res D := match o with
  | .loc k => (match st[k]?, asL st d with
    | some (.lst xs), some ys => (match decide (xs.length + ys.length ≤ LIM) with
      | true => .ok .non (st.set k (.lst (xs ++ ys)))
      | false => .no)
    | _, _ => .no)
  | _ => .no
theorem re_extend : RealM X.K cm rExtend oExtend := by
  intro Wx H0 ρ H st x y dx dy Q R hx hy q
  cases dx with
  | loc k =>
    have q : Sat (Den X.K) X.K cm Wx H0 ρ H (match st[k]?, asL st dy with | some (.lst xs), some ys => (match decide (xs.length + ys.length ≤ LIM) with | true => Res.ok D.non (st.set k (.lst (xs ++ ys))) | false => .no) | _, _ => .no) Q := q
    cases es : st[k]? with
    | none => rw [es] at q; exact q.elim
    | some ob =>
      cases ob with
      | dK _ _ => rw [es] at q; exact q.elim
      | lk _ _ => rw [es] at q; exact q.elim
      | lst xs =>
        cases ea : asL st dy with
        | none => rw [es, ea] at q; exact q.elim
        | some ys =>
          rw [es, ea] at q
          simp only at q
          cases el : decide (xs.length + ys.length ≤ LIM) with
          | false => rw [el] at q; exact q.elim
          | true =>
            rw [el] at q
            cases hx with
            | @loc a _ ha =>
              obtain ⟨vs, h1, l⟩ := locL R ha es
              obtain ⟨p2, ws, rfl, hp2, l2⟩ := asL_ok R hy ea
              refine ⟨a, p2, vs, ws, rfl, rfl, h1, hp2, ?_, q .non H0 ρ _ (Ext.put (List.mem_of_getElem? ha) h1 (fun _ _ z => nomatch z)) (R.put ha ⟨_, upd_same, l.append l2⟩) .non⟩
              rw [l.length, l2.length]
              exact lim_le (of_decide_eq_true el)
  | _ => exact q.elim
theorem de_extend (ho : DE X cm W o fo) (ha : DE X cm W e f) (hst : starEach (e :: []) X.env = (false, eval e X.env) :: starEach [] X.env := by rfl) (hbase : attributeBase o "extend" X.env (eval o X.env) = eval o X.env := by rfl)
    (hfew : ((backTo cpos (starEach (e :: []) X.env)).all (fun x => !x.1) && (backToKw cpos (keywordEach [] X.env)).all (fun x => x.1.isSome) && decide ((e :: ([] : List Expr)).length + ([] : List Keyword).length + (if ([] : List Keyword).isEmpty then 0 else 1) < 30)) = true := by rfl)
    (hline : (apos.endLine == cpos.line) = true := by rfl) :
    DE X cm W (.Call (.Attribute o "extend" apos) [e] [] cpos) (fMeth1 oExtend fo f) := ⟨PE.imp (pe_bm PySem.F.plainAttrs_list PySem.F.slot_list_extend PySem.F.type_list_extend mt_extend ho.pe (pa_cons ha.pe pa_nil hst) hbase hfew hline hst rfl) fun _ _ _ h => meth1_imp re_extend h⟩
/-- o[i] = .. -/
def gIx (fo fi : ExpD) : TgtD := fun d env st => (fo env st).bind fun o s1 => (fi env s1).bind fun i s2 => match o, i with
  | .loc k, .int n => (match s2[k]? with
    | some (.lst xs) => (match ixN xs.length n with
      | some j => .ok env (s2.set k (.lst (xs.set j d)))
      | none => .no)
    | _ => .no)
  | _, _ => .no
theorem dg_ix {i : Expr} (ho : DE X cm W o fo) (hi : DE X cm W i f) (ha : ∀ v, assign (.Subscript o i pos) X.env v = (do
      let ov ← holding [v] (eval o X.env)
      let iv ← holding [v, ov] (eval i X.env)
      standAt pos
      holding [v, ov, iv] (setItem ov iv v)
      release [v, ov, iv] []) := by intro _; rfl) : DG X cm W (.Subscript o i pos) (gIx fo f) := ⟨PG.imp (pg_sub ho.pe hi.pe set_list ha) fun v σ H Q h => by
  obtain ⟨H0, ρ, env, st, d, R, E, dn, h⟩ := h
  refine ⟨H0, ρ, env, st, R, E, Sat.mono (Sat.bind (R := Den X.K) h) ?_⟩
  rintro ov H1 ⟨H0', ρ', od, s1, x, R1, on, h1⟩
  refine ⟨H0', ρ', env, s1, R1, E.mono x, Sat.mono (Sat.bind (R := Den X.K) h1) ?_⟩
  rintro iv H2 ⟨H0'', ρ'', id', s2, x2, R2, idn, h2⟩
  cases od with
  | loc k =>
    cases id' with
    | int n =>
      cases idn.int_inv
      simp only at h2
      cases es : s2[k]? with
      | none => rw [es] at h2; exact h2.elim
      | some ob =>
        rw [es] at h2
        cases ob with
        | dK _ _ => exact h2.elim
        | lk _ _ => exact h2.elim
        | lst xs =>
          simp only at h2
          cases ej : ixN xs.length n with
          | none => rw [ej] at h2; exact h2.elim
          | some j =>
            rw [ej] at h2
            cases on.mono x2 with
            | @loc a _ hk =>
              obtain ⟨vs, h3, l⟩ := locL R2 hk es
              exact ⟨a, vs, n, j, rfl, rfl, h3, by rw [l.length]; exact ej, h2 _ H0'' ρ'' _ (Ext.put (List.mem_of_getElem? hk) h3 (fun _ _ z => nomatch z)) (R2.put hk ⟨_, upd_same, DenL.set ((dn.mono x).mono x2) j l⟩) ((E.mono x).mono x2)⟩
    | _ => exact h2.elim
  | _ => cases id' <;> exact h2.elim⟩
end
end Z

set_option maxHeartbeats 4000000
namespace Z
open PySem PySem.Spec PyProof.Rows L2

/-! ### dicts -/
def keyOf : D → Option Key
  | .int i => some (.inl i)
  | .str x => some (.inr x)
  | _ => none
def keyD : Key → D
  | .inl i => .int i
  | .inr x => .str x
def lookD : List Key → List D → Key → Option D
  | k' :: ks, d :: ds, k => if k' = k then some d else lookD ks ds k
  | _, _, _ => none
def putKs (ks : List Key) (k : Key) : List Key := if (ks.any fun k' => decide (k' = k)) = true then ks else ks ++ [k]
def putDs : List Key → List D → Key → D → List D
  | k' :: ks, d :: ds, k, x => (if k' = k then x else d) :: putDs ks ds k x
  | _, _, _, _ => []
def putD (ks : List Key) (ds : List D) (k : Key) (x : D) : List D := if (ks.any fun k' => decide (k' = k)) = true then putDs ks ds k x else ds ++ [x]
def asDict (st : Sto) : D → Option (List Key × List D)
  | .dct ks ds => some (ks, ds)
  | .loc k => match st[k]? with
    | some (.dK ks ds) => some (ks, ds)
    | some (.lk ks ds) => some (ks, ds)
    | _ => none
  | _ => none
section
variable {K : PySem.W.Frag} {H0 H : Hp} {ρ : List Addr} {st : Sto} {v : V} {d : D}
theorem keyOf_den {k : Key} (h : Den K H0 ρ v d) (e : keyOf d = some k) : v = kV k := by
  cases d with
  | int i => cases e; exact h.int_inv
  | str x => cases e; exact h.str_inv
  | _ => cases e
theorem keyD_den (k : Key) : Den K H0 ρ (kV k) (keyD k) := by
  cases k with
  | inl i => exact .int i
  | inr x => exact .str x
theorem look_den : ∀ {kvs : List (Key × V)} {ds : List D} {k : Key}, DenL K H0 ρ (kvs.map (·.2)) ds → match lookD (kvs.map (·.1)) ds k with
    | some d => ∃ v, valV kvs k = some v ∧ Den K H0 ρ v d
    | none => valV kvs k = none
  | [], _, k, l => by cases l; exact valV_nil
  | (k', v') :: r, _, k, l => by
    cases l with
    | @cons _ d _ ds r1 l =>
      show match (if k' = k then some d else lookD (r.map (·.1)) ds k) with | some d => ∃ v, valV ((k', v') :: r) k = some v ∧ Den K H0 ρ v d | none => valV ((k', v') :: r) k = none
      by_cases e : k' = k
      · rw [if_pos e]
        exact ⟨v', valV_pos (p := (k', v')) e, r1⟩
      · rw [if_neg e, valV_neg (p := (k', v')) e]
        exact look_den (kvs := r) l
theorem asDict_ok {p : List Key × List D} (R : Rep K H0 ρ H st) (h : Den K H0 ρ v d) (e : asDict st d = some p) : ∃ a kvs, v = .ref a ∧ Rd H a (.dK kvs) ∧ kvs.map (·.1) = p.1 ∧ DenL K H0 ρ (kvs.map (·.2)) p.2 := by
  cases h with
  | dct h l => cases e; exact ⟨_, _, rfl, R.rd h, rfl, l⟩
  | @loc a k ha =>
    have e : (match st[k]? with | some (.dK ks ds) => some (ks, ds) | some (.lk ks ds) => some (ks, ds) | _ => none) = some p := e
    cases es : st[k]? with
    | none => rw [es] at e; cases e
    | some o =>
      rw [es] at e
      cases o with
      | lst _ => cases e
      | dK ks ds =>
        cases e
        obtain ⟨kvs, h1, h2, l⟩ := R.ob _ _ _ ha es
        exact ⟨a, kvs, rfl, .inl h1, h2, l⟩
      | lk ks ds =>
        cases e
        obtain ⟨ob, kvs, h1, h2, l⟩ := R.ob _ _ _ ha es
        exact ⟨a, kvs, rfl, .inr ⟨ob, h1⟩, h2, l⟩
  | _ => cases e
/-- what a look at a dict gives -/
theorem dget_ok {p : List Key × List D} {y : V} {dy : D} {k : Key} (R : Rep K H0 ρ H st) (h : Den K H0 ρ v d) (hy : Den K H0 ρ y dy) (e : asDict st d = some p) (ek : keyOf dy = some k) : ∃ a, v = .ref a ∧ match lookD p.1 p.2 k with
    | some d => ∃ w, DGet H a y (some w) ∧ Den K H0 ρ w d
    | none => DGet H a y none := by
  obtain ⟨a, kvs, rfl, hr, h1, l⟩ := asDict_ok R h e
  have ey := keyOf_den hy ek
  subst ey
  have q := look_den (k := k) l
  rw [← h1]
  refine ⟨a, rfl, ?_⟩
  cases el : lookD (kvs.map (·.1)) p.2 k with
  | none => rw [el] at q; exact .inl ⟨kvs, k, hr, rfl, q.symm⟩
  | some d =>
    rw [el] at q
    obtain ⟨w, hw, dn⟩ := q
    exact ⟨w, .inl ⟨kvs, k, hr, rfl, hw.symm⟩, dn⟩
end
def oDget (o i : D) (st : Sto) : Res D := match asDict st o, keyOf i with
  | some p, some k => (match lookD p.1 p.2 k with
    | some d => .ok d st
    | none => .no)
  | _, _ => .no
def oDin (i o : D) (st : Sto) : Res D := match asDict st o, keyOf i with
  | some p, some k => .ok (.bl (lookD p.1 p.2 k).isSome) st
  | _, _ => .no
def oDnin (i o : D) (st : Sto) : Res D := match asDict st o, keyOf i with
  | some p, some k => .ok (.bl (!(lookD p.1 p.2 k).isSome)) st
  | _, _ => .no
section
variable {X : Cx} {cm : Str → Addr} {W : WX} {pos p : Pos} {o i e : Expr} {fo fi f : ExpD} {k : Nat}
theorem de_dget (hr : Room k X.A) (ho : DE X cm W o fo) (hi : DE X cm W i fi) (hs : NoSl i := by exact fun _ _ => rfl) : DE X cm W (.Subscript o i pos) (fOp oDget fo fi) := ⟨PE.imp (pe_dget (hu_of hr) ho.pe hi.pe hs) fun σ H Q h => by
  obtain ⟨H0, ρ, env, st, R, E, h⟩ := h
  refine ⟨H0, ρ, env, st, R, E, Sat.mono (Sat.bind (R := Den X.K) h) ?_⟩
  rintro v H1 ⟨H0', ρ', d, s1, x, R1, dn, h1⟩
  refine ⟨H0', ρ', env, s1, R1, E.mono x, Sat.mono (Sat.bind (R := Den X.K) h1) ?_⟩
  rintro u H2 ⟨H0'', ρ'', d2, s2, x2, R2, dn2, h2⟩
  unfold oDget at h2
  cases e1 : asDict s2 d with
  | none => rw [e1] at h2; exact h2.elim
  | some p =>
    cases e2 : keyOf d2 with
    | none => rw [e1, e2] at h2; exact h2.elim
    | some k =>
      rw [e1, e2] at h2
      obtain ⟨a, ev, q⟩ := dget_ok R2 (dn.mono x2) dn2 e1 e2
      simp only at h2
      cases e3 : lookD p.1 p.2 k with
      | none => rw [e3] at h2; exact h2.elim
      | some d3 =>
        rw [e3] at h2 q
        obtain ⟨w, hg, dw⟩ := q
        exact ⟨a, w, ev, hg, h2 w H0'' ρ'' H2 Ext.refl R2 dw⟩⟩
theorem din_imp {neg : Bool} {σ : L2.St} {H : Hp} {Q : VK} (h : tD X.K cm W (fOp (if neg then oDnin else oDin) fi fo) σ H Q) : (if neg then tDNotIn else tDIn) (tD X.K cm W fi) (tD X.K cm W fo) σ H Q := by
  have key : tD X.K cm W fi σ H fun y H1 => tD X.K cm W fo σ H1 fun x H2 => ∃ a o, x = .ref a ∧ DGet H2 a y o ∧ Q (.bl (if neg then !o.isSome else o.isSome)) H2 := by
    obtain ⟨H0, ρ, env, st, R, E, h⟩ := h
    refine ⟨H0, ρ, env, st, R, E, Sat.mono (Sat.bind (R := Den X.K) h) ?_⟩
    rintro v H1 ⟨H0', ρ', d, s1, x, R1, dn, h1⟩
    refine ⟨H0', ρ', env, s1, R1, E.mono x, Sat.mono (Sat.bind (R := Den X.K) h1) ?_⟩
    rintro u H2 ⟨H0'', ρ'', d2, s2, x2, R2, dn2, h2⟩
    have h2 : Sat (Den X.K) X.K cm (fun c d H' => W c d σ H') H0'' ρ'' H2 (match asDict s2 d2, keyOf d with | some p, some k => .ok (.bl (if neg then !(lookD p.1 p.2 k).isSome else (lookD p.1 p.2 k).isSome)) s2 | _, _ => .no) Q := by
      cases neg <;> exact h2
    cases e1 : asDict s2 d2 with
    | none => rw [e1] at h2; exact h2.elim
    | some p =>
      cases e2 : keyOf d with
      | none => rw [e1, e2] at h2; exact h2.elim
      | some k =>
        rw [e1, e2] at h2
        obtain ⟨a, ev, q⟩ := dget_ok R2 dn2 (dn.mono x2) e1 e2
        have h2 := h2 _ H0'' ρ'' H2 Ext.refl R2 (.bl _)
        cases e3 : lookD p.1 p.2 k with
        | none => rw [e3] at h2 q; exact ⟨a, none, ev, q, h2⟩
        | some d3 =>
          rw [e3] at h2 q
          obtain ⟨w, hg, dw⟩ := q
          exact ⟨a, some w, ev, hg, h2⟩
  cases neg <;> exact key
theorem de_din (hr : Room k X.A) (hi : DE X cm W i fi) (ho : DE X cm W o fo) (h1 : behindInMarks .In o = false := by rfl) : DE X cm W (.Compare i [.In] [o] pos) (fOp oDin fi fo) := ⟨PE.imp (pe_cmp (pc_din (hu_of hr) hi.pe ho.pe) h1) fun _ _ _ h => din_imp (neg := false) h⟩
theorem de_dnin (hr : Room k X.A) (hi : DE X cm W i fi) (ho : DE X cm W o fo) (h1 : behindInMarks .NotIn o = false := by rfl) : DE X cm W (.Compare i [.NotIn] [o] pos) (fOp oDnin fi fo) := ⟨PE.imp (pe_cmp (pc_dnotin (hu_of hr) hi.pe ho.pe) h1) fun _ _ _ h => din_imp (neg := true) h⟩
theorem dt_din (hr : Room k X.A) (hi : DE X cm W i fi) (ho : DE X cm W o fo) (h1 : behindInMarks .In o = false := by rfl) : DT X cm W (.Compare i [.In] [o] pos) (fTest (fOp oDin fi fo)) := ⟨PT.imp (pt_cmp (pc_din (hu_of hr) hi.pe ho.pe) h1) fun _ _ _ h => din_imp (neg := false) (test_imp h)⟩
theorem dt_dnin (hr : Room k X.A) (hi : DE X cm W i fi) (ho : DE X cm W o fo) (h1 : behindInMarks .NotIn o = false := by rfl) : DT X cm W (.Compare i [.NotIn] [o] pos) (fTest (fOp oDnin fi fo)) := ⟨PT.imp (pt_cmp (pc_dnotin (hu_of hr) hi.pe ho.pe) h1) fun _ _ _ h => din_imp (neg := true) (test_imp h)⟩
end
/-- d[k] = v -/
theorem put_any (kvs : List (Key × V)) (k : Key) : (kvs.any fun kv => decide (kv.1 = k)) = ((kvs.map (·.1)).any fun k' => decide (k' = k)) := by
  rw [List.any_map] <;> rfl
theorem put_keys (kvs : List (Key × V)) (k : Key) (v : V) : (putK kvs k v).map (·.1) = putKs (kvs.map (·.1)) k := by
  unfold putK putKs
  rw [put_any]
  by_cases h : ((kvs.map (·.1)).any fun k' => decide (k' = k)) = true
  · rw [if_pos h, if_pos h, List.map_map]
    apply List.map_congr_left
    intro kv _
    show (if kv.1 = k then (kv.1, v) else kv).1 = kv.1
    split <;> rfl
  · rw [if_neg h, if_neg h, List.map_append] <;> rfl
theorem putDs_den {K : PySem.W.Frag} {H : Hp} {ρ : List Addr} {v : V} {x : D} (r : Den K H ρ v x) (k : Key) : ∀ {kvs : List (Key × V)} {ds : List D}, DenL K H ρ (kvs.map (·.2)) ds → DenL K H ρ ((kvs.map fun kv => if kv.1 = k then (kv.1, v) else kv).map (·.2)) (putDs (kvs.map (·.1)) ds k x)
  | [], _, l => by cases l; exact .nil
  | (k', v') :: rest, _, l => by
    cases l with
    | @cons _ d _ ds r1 l =>
      show DenL K H ρ ((if k' = k then (k', v) else (k', v')).2 :: _) ((if k' = k then x else d) :: _)
      refine .cons ?_ (putDs_den r k (kvs := rest) l)
      by_cases e : k' = k
      · rw [if_pos e, if_pos e]; exact r
      · rw [if_neg e, if_neg e]; exact r1
theorem put_den {K : PySem.W.Frag} {H : Hp} {ρ : List Addr} {v : V} {x : D} {k : Key} {kvs : List (Key × V)} {ds : List D} (r : Den K H ρ v x) (l : DenL K H ρ (kvs.map (·.2)) ds) : DenL K H ρ ((putK kvs k v).map (·.2)) (putD (kvs.map (·.1)) ds k x) := by
  unfold putK putD
  rw [put_any]
  by_cases h : ((kvs.map (·.1)).any fun k' => decide (k' = k)) = true
  · rw [if_pos h, if_pos h]
    exact putDs_den r k l
  · rw [if_neg h, if_neg h, List.map_append]
    exact l.append (.one r)
def sDput (fo fi f : ExpD) : StmD := fun env st => (f env st).thn env fun d s1 => (fo env s1).thn env fun o s2 => (fi env s2).thn env fun i s3 => match o, keyOf i with
  | .loc n, some k => (match s3[n]? with
    | some (.dK ks ds) => (match decide (ks.length < LIM) with
      | true => .nx env (s3.set n (.dK (putKs ks k) (putD ks ds k d)))
      | false => .no)
    | _ => .no)
  | _, _ => .no
section
variable {X : Cx} {cm : Str → Addr} {W : WX} {pos p : Pos} {o i e : Expr} {fo fi f : ExpD} {k : Nat}
theorem dput_imp {D : Ends} {σ : L2.St} {H : Hp} (h : tS X.K cm W (sDput fo fi f) D σ H) : sDPut (tD X.K cm W fo) (tD X.K cm W fi) (tD X.K cm W f) D σ H := by
  obtain ⟨H0, ρ, env, st, R, E, h⟩ := h
  refine ⟨H0, ρ, env, st, R, E, Sat.mono (SatS.thn E h) ?_⟩
  rintro v H1 ⟨H0', ρ', d, s1, x, R1, dn, E1, h1⟩
  refine ⟨H0', ρ', env, s1, R1, E1, Sat.mono (SatS.thn E1 h1) ?_⟩
  rintro ov H2 ⟨G2, ρ2, od, s2, x2, R2, on, E2, h2⟩
  refine ⟨G2, ρ2, env, s2, R2, E2, Sat.mono (SatS.thn E2 h2) ?_⟩
  rintro iv H3 ⟨G3, ρ3, id', s3, x3, R3, idn, E3, h3⟩
  cases od with
  | loc n =>
    cases ek : keyOf id' with
    | none => rw [ek] at h3; exact h3.elim
    | some k =>
      rw [ek] at h3
      simp only at h3
      cases es : s3[n]? with
      | none => rw [es] at h3; exact h3.elim
      | some ob =>
        rw [es] at h3
        cases ob with
        | lst _ => exact h3.elim
        | lk _ _ => exact h3.elim
        | dK ks ds =>
          simp only at h3
          cases el : decide (ks.length < LIM) with
          | false => rw [el] at h3; exact h3.elim
          | true =>
            rw [el] at h3
            cases on.mono x3 with
            | @loc a _ ha =>
              obtain ⟨kvs, h4, h5, l⟩ := R3.ob _ _ _ ha es
              subst h5
              rw [List.length_map] at el
              refine ⟨a, _, rfl, .inl ⟨kvs, k, h4, keyOf_den idn ek, Nat.lt_of_lt_of_le (of_decide_eq_true el) (by decide), rfl⟩, ?_⟩
              refine h3 σ G3 ρ3 _ (Ext.put (List.mem_of_getElem? ha) h4 (fun _ _ z => nomatch z)) (R3.put ha ⟨_, upd_same, put_keys _ _ _, put_den ((dn.mono x2).mono x3) l⟩) E3
  | _ => exact h3.elim
theorem ds_dput (hr : Room k X.A) (ho : DE X cm W o fo) (hi : DE X cm W i fi) (he : DE X cm W e f) (hs : swapsWith e (some (.Subscript o i p)) pos.line X.env = pure false := by rfl) :
    DS X cm W (.Assign [.Subscript o i p] e pos) (sDput fo fi f) := ⟨PS.imp (ps_dput (hu_of hr) ho.pe hi.pe he.pe hs) fun _ _ _ h => dput_imp h⟩
/-! displays -/
def fPairs : List (ExpD × ExpD) → Env → Sto → Res (List (D × D))
  | [], _, st => .ok [] st
  | (f, g) :: r, env, st => (f env st).bind fun x s1 => (g env s1).bind fun y s2 => (fPairs r env s2).bind fun ps s3 => .ok ((x, y) :: ps) s3
def keysOf : List (D × D) → Option (List Key)
  | [] => some []
  | (x, _) :: r => match keyOf x, keysOf r with
    | some k, some ks => some (k :: ks)
    | _, _ => none
def distinct : List Key → Bool
  | [] => true
  | k :: ks => !(ks.any fun k' => decide (k' = k)) && distinct ks
/-- a written dict, its keys unlike: an object of the store -/
def fDctO (ps : List (ExpD × ExpD)) : ExpD := fun env st => (fPairs ps env st).bind fun qs s => match keysOf qs with
  | some ks => (match distinct ks with
    | true => .ok (.loc s.length) (s ++ [.dK ks (qs.map (·.2))])
    | false => .no)
  | none => .no
def DenP (K : PySem.W.Frag) (H : Hp) (ρ : List Addr) (vs : List (V × V)) (ds : List (D × D)) : Prop := DenL K H ρ (vs.map (·.1)) (ds.map (·.1)) ∧ DenL K H ρ (vs.map (·.2)) (ds.map (·.2))
inductive DPs (X : Cx) (cm : Str → Addr) (W : WX) (pos : Pos) : List (Option Expr) → List Expr → List (ExpD × ExpD) → Prop
  | nil : DPs X cm W pos [] [] []
  | cons {k v : Expr} {ks : List (Option Expr)} {vs : List Expr} {f g : ExpD} {ps : List (ExpD × ExpD)} : DE X cm W k f → DE X cm W v g → DPs X cm W pos ks vs ps → DPs X cm W pos (some k :: ks) (v :: vs) ((f, g) :: ps)
theorem DPs.pps {ks : List (Option Expr)} {vs : List Expr} {ps : List (ExpD × ExpD)} (h : DPs X cm W pos ks vs ps) : PPs X pos ks vs (ps.map fun p => (tD X.K cm W p.1, tD X.K cm W p.2)) := by
  induction h with
  | nil => exact pps_nil
  | cons a b _ ih => exact pps_cons a.pe b.pe ih
theorem pairs_imp {K : PySem.W.Frag} {σ : L2.St} {env : Env} {Q : List (V × V) → Hp → Prop} : ∀ {ps : List (ExpD × ExpD)} {H0 ρ H st}, Rep K H0 ρ H st → EnvR K H0 ρ σ env → Sat (DenP K) K cm (fun c d H' => W c d σ H') H0 ρ H (fPairs ps env st) Q → tPairs (ps.map fun p => (tD K cm W p.1, tD K cm W p.2)) σ H Q
  | [], H0, ρ, H, st, R, E, h => h [] H0 ρ H Ext.refl R ⟨.nil, .nil⟩
  | (f, g) :: ps, H0, ρ, H, st, R, E, h => by
    refine ⟨H0, ρ, env, st, R, E, Sat.mono (Sat.bind (R := Den K) h) ?_⟩
    rintro v H1 ⟨H0', ρ', d, s1, x, R1, dn, h1⟩
    refine ⟨H0', ρ', env, s1, R1, E.mono x, Sat.mono (Sat.bind (R := Den K) h1) ?_⟩
    rintro u H2 ⟨G2, ρ2, d2, s2, x2, R2, dn2, h2⟩
    refine pairs_imp R2 ((E.mono x).mono x2) (Sat.mono (Sat.bind (R := DenP K) h2) ?_)
    rintro ws H3 ⟨G3, ρ3, ps, s3, x3, R3, dn3, h3⟩
    exact h3 _ G3 ρ3 H3 Ext.refl R3 ⟨.cons ((dn.mono x2).mono x3) dn3.1, .cons (dn2.mono x3) dn3.2⟩
theorem merge_distinct : ∀ (more kvs : List (Key × V)), distinct (more.map (·.1)) = true → (∀ p ∈ more, (kvs.any fun kv => decide (kv.1 = p.1)) = false) → mergeK kvs more = kvs ++ more
  | [], kvs, _, _ => (List.append_nil _).symm
  | p :: more, kvs, h, hd => by
    obtain ⟨h1, h2⟩ := Bool.and_eq_true_iff.mp h
    have e : putK kvs p.1 p.2 = kvs ++ [p] := by
      unfold putK
      rw [if_neg (by rw [hd p List.mem_cons_self]; decide)]
    show mergeK (putK kvs p.1 p.2) more = _
    rw [e, merge_distinct more (kvs ++ [p]) h2 fun q hq => ?_, List.append_assoc] <;> try rfl
    rw [List.any_append, hd q (List.mem_cons_of_mem _ hq)]
    simp only [List.any_cons, List.any_nil, Bool.or_false, Bool.false_or]
    refine decide_eq_false fun z => ?_
    have h1' : ((more.map (·.1)).any fun k' => decide (k' = p.1)) = false := by simpa using h1
    have : ((more.map (·.1)).any fun k' => decide (k' = p.1)) = true := List.any_eq_true.mpr ⟨q.1, List.mem_map.mpr ⟨q, hq, rfl⟩, decide_eq_true z.symm⟩
    rw [h1'] at this
    cases this
theorem merge_nil {kvs : List (Key × V)} (h : distinct (kvs.map (·.1)) = true) : mergeK [] kvs = kvs := by
  rw [merge_distinct kvs [] h fun _ _ => rfl, List.nil_append]
theorem keysOf_den {K : PySem.W.Frag} {H : Hp} {ρ : List Addr} : ∀ {vs : List (V × V)} {ds : List (D × D)} {ks : List Key}, DenP K H ρ vs ds → keysOf ds = some ks → ∃ kvs : List (Key × V), vs = kvs.map (fun kv => (kV kv.1, kv.2)) ∧ kvs.map (·.1) = ks ∧ kvs.map (·.2) = vs.map (·.2)
  | [], [], _, _, e => by cases e; exact ⟨[], rfl, rfl, rfl⟩
  | [], _ :: _, _, h, _ => by cases h.1
  | _ :: _, [], _, h, _ => by cases h.1
  | (v, w) :: vs, (x, y) :: ds, ks, h, e => by
    have e : (match keyOf x, keysOf ds with | some k, some ks => some (k :: ks) | _, _ => none) = some ks := e
    cases e1 : keyOf x with
    | none => rw [e1] at e; cases e
    | some k =>
      cases e2 : keysOf ds with
      | none => rw [e1, e2] at e; cases e
      | some ks' =>
        rw [e1, e2] at e
        cases e
        obtain ⟨h1, h2⟩ := h
        cases h1 with
        | cons r1 l1 =>
          cases h2 with
          | cons r2 l2 =>
            obtain ⟨kvs, a, b, c⟩ := keysOf_den (vs := vs) ⟨l1, l2⟩ e2
            have ev := keyOf_den r1 e1
            have ev : v = kV k := ev
            exact ⟨(k, w) :: kvs, by rw [List.map_cons, ← a, ev], by rw [List.map_cons, b], by rw [List.map_cons, List.map_cons, c]⟩
theorem pairs_len : ∀ {ps : List (ExpD × ExpD)} {env : Z.Env} {st s : Sto} {qs : List (D × D)}, fPairs ps env st = .ok qs s → qs.length = ps.length
  | [], _, _, _, _, h => by cases h; rfl
  | (f, g) :: ps, env, st, s, qs, h => by
    obtain ⟨x, s1, _, h⟩ := Res.bind_eq_ok h
    obtain ⟨y, s2, _, h⟩ := Res.bind_eq_ok h
    obtain ⟨r, s3, h3, h⟩ := Res.bind_eq_ok h
    cases h
    rw [List.length_cons, List.length_cons, pairs_len h3]
theorem de_dctO {ks : List (Option Expr)} {vs : List Expr} {ps : List (ExpD × ExpD)} (h : DPs X cm W pos ks vs ps) (hall : ks.all (·.isSome) = true := by rfl) (hl : ks.length = vs.length := by rfl) (h0 : ks ≠ [] := by intro z; cases z) (h15 : ks.length ≤ 15 := by decide) (hps : ps.length ≤ 15 := by decide) : DE X cm W (.Dict ks vs pos) (fDctO ps) :=
  ⟨PE.imp (pe_disp h.pps hall hl h0 h15) fun σ H Q h => by
    obtain ⟨H0, ρ, env, st, R, E, h⟩ := h
    intro p hp
    have R0 : Rep X.K H0 ρ (upd H p (.dK [])) st := R.newX hp
    refine pairs_imp R0 E ?_
    have x0 : Ext H0 ρ H H0 ρ (upd H p (.dK [])) := Ext.newX hp
    cases ef : fPairs ps env st with
    | no => simp only [fDctO, ef, Res.bind_no] at h; exact h
    | ex c f d s => simp only [fDctO, ef, Res.bind_ex] at h; exact Sat.ext (R := DenP X.K) (r := (.ex c f d s : Res (List (D × D)))) h x0
    | ok qs s =>
      simp only [fDctO, ef, Res.bind_ok] at h
      intro ws G2 ρ2 H2 x R2 dn
      obtain ⟨n1, k1, z⟩ := x.f p _ upd_same (R.notin hp)
      have hp2 : H2 p = some (.dK []) := by
        rcases z with z | ⟨z, _⟩
        · exact z
        · exact z.elim
      cases ek : keysOf qs with
      | none => rw [ek] at h; exact h.elim
      | some ks2 =>
        rw [ek] at h
        simp only at h
        cases ed : distinct ks2 with
        | false => rw [ed] at h; exact h.elim
        | true =>
          rw [ed] at h
          obtain ⟨kvs, e1, e2, e3⟩ := keysOf_den dn ek
          have g0 : G2 p = none := k1 (R.fresh hp)
          have hl2 : kvs.length ≤ 15 := by
            have q1 := pairs_len ef
            have q2 := congrArg List.length e3
            have q3 := dn.2.length
            rw [List.length_map] at q2
            rw [List.length_map] at q3
            rw [List.length_map] at q3
            rw [List.length_map] at q2
            omega
          refine ⟨hp2, kvs, e1, hl2, ?_⟩
          rw [merge_nil (by rw [e2]; exact ed)]
          have ln : DenL X.K G2 ρ2 (kvs.map (·.2)) (qs.map (·.2)) := by rw [e3]; exact dn.2
          refine h (.ref p) G2 (ρ2 ++ [p]) _ ⟨x.e.trans Ex0.app, fun a u e n => ?_, fun a ob u e => ?_⟩ ⟨fun a u e => ?_, by rw [List.length_append, List.length_append, R2.len] <;> rfl, nodup_snoc R2.nd n1, fun a ha => ?_, fun k a u hk hs => ?_⟩ (.loc (by rw [← R2.len, List.getElem?_append_right (Nat.le_refl _), Nat.sub_self] <;> rfl))
          · have np := ne_of_none e hp
            obtain ⟨m1, m2, m3⟩ := x.f a u (by rw [upd_ne np]; exact e) n
            exact ⟨fun q => (List.mem_append.mp q).elim m1 fun q => np (by simpa using q), m2, by rw [upd_ne np]; exact m3⟩
          · have np := ne_of_none e hp
            rw [upd_ne np]
            exact x.z a ob u (by rw [upd_ne np]; exact e)
          · rw [upd_ne (ne_of_none e g0)]
            exact R2.sub a u e
          · rcases List.mem_append.mp ha with z | z
            · exact R2.out a z
            · have e : a = p := by simpa using z
              rw [e]
              exact g0
          · by_cases hlt : k < ρ2.length
            · rw [List.getElem?_append_left hlt] at hk
              rw [List.getElem?_append_left (by rw [← R2.len]; exact hlt)] at hs
              exact (R2.ob k a u hk hs).mono Ex0.app fun w hw => by
                rw [upd_ne (fun (z : a = p) => n1 (z ▸ List.mem_of_getElem? hk))]
                exact hw
            · have hk2 := (List.getElem?_eq_some_iff.mp hk).1
              rw [List.length_append, List.length_singleton] at hk2
              have ek2 : k = ρ2.length := by omega
              subst ek2
              rw [List.getElem?_append_right (Nat.le_refl _), Nat.sub_self] at hk
              have ea : p = a := by simpa using hk
              subst ea
              rw [R2.len, List.getElem?_append_right (Nat.le_refl _), Nat.sub_self] at hs
              have eo : Ob.dK ks2 (qs.map (·.2)) = u := by simpa using hs
              subst eo
              exact ⟨kvs, upd_same, e2, ln.mono0 Ex0.app⟩⟩
end
end Z

set_option maxHeartbeats 4000000
namespace Z
open PySem PySem.Spec PyProof.Rows L2

/-! ### errors of one field -/
/-- __init__(self, v): self.fl = v -/
def spNew (K : PySem.W.Frag) (fl : Str) : Sp := fun vs H Q _ => ∃ (a C : Addr) (v : V), vs = [.ref a, v] ∧ OexC K C ∧ PySem.W.findIn K (.ref C) fl = some none ∧ H a = some (exo a C none) ∧
  ∀ dx, H dx = none → dx ≠ a → Q .non (upd (upd H dx (exd dx [(fl, v)])) a (exo a C (some dx)))
/-- the class x of errors with the one field fl, at C -/
structure ErrD (P : Program) (w : World) (K : PySem.W.Frag) (mg : Str → Option Value) (base : Heap) (x fl : Str) (C : Addr) : Prop where
  T : OexC K C
  X : XfC K C
  no : PySem.W.findIn K (.ref C) fl = some none
  gC : mg x = some (.ref C)
  ini : ∃ fI fd ps, PySem.W.findIn K (.ref C) "__init__" = some (some (.ref fI)) ∧ PySem.W.typeIn K (.ref fI) = some (.type "function") ∧ FnOk P w K mg base (L2.CX P w) 1 fI fd ps (spNew K fl) ∧ Binds K fd ps []
theorem err_init {P : Program} {w : World} {K : PySem.W.Frag} {mg : Str → Option Value} {base : Heap} {fI : Addr} {fd : FuncData} {qn fl s g : Str} {st : Stmt} {p1 p2 p3 p4 : Pos} (F : FunD K "__init__" qn (defArgs st) (defBody st) (defScope st) [] [] fI fd)
    (sc : FnScope [s, g] [s, g] (defScope st)) (hb : defBody st = [.Assign [.Attribute (.Name s p1) fl p2] (.Name g p3) p4])
    (hs : Vis (defScope st) s) (hg : Vis (defScope st) g) (ds : (s == ("__debug__" : Str)) = false) (dg : (g == ("__debug__" : Str)) = false) (cs : (s == ("__classdict__" : Str)) = false) (cg : (g == ("__classdict__" : Str)) = false)
    (hw : ∀ e : PySem.Env, swapsWith (.Name g p3) (some (.Attribute (.Name s p1) fl p2)) p4.line e = pure false)
    (bd : ∀ (kV doc pm : Value) (an : Option Addr) (cdv ct : Value) (us : List Value), us.length = [s, g].length → bindArgs (PySem.W.fnOf "__init__" qn (defArgs st) (defBody st) (defScope st) .none kV doc pm an cdv ct) ⟨us, []⟩ = pure ([s, g].zip us)) :
    FnOk P w K mg base (L2.CX P w) 1 fI fd [s, g] (spNew K fl) ∧ Binds K fd [s, g] [] := by
  refine ⟨F.ok sc (fun vs H Q E ⟨a, C, v, e, _⟩ => by rw [e] <;> rfl) (fun cdv A outer sh H vs Q E hr h => ⟨tOst K fl (tVar 0) (tVar 1), ?_, ?_⟩), F.bindsN bd⟩
  · rw [hb]
    exact pss_one (ps_ost (pe_var rfl hs ds cs) (pe_var rfl hg dg cg) (hw _))
  · obtain ⟨a, C, v, rfl, T, no, ha, q⟩ := h
    exact ⟨v, rfl, .ref a, rfl, a, C, rfl, T, no, .inl ⟨ha, fun dx h1 h2 => q dx h1 h2⟩⟩
theorem one_le {v : V} : [v].length ≤ 1000 := by
  show 1 ≤ 1000
  decide
/-- raise x(e) -/
def sRaise (x fl : Str) (f : ExpD) : StmD := fun env st => (f env st).thn env fun d s => .ex x fl d env s
theorem made_is {H : Hp} {a dx : Addr} {o1 o2 u1 u : HO} (ha : H a = none) (hd : H dx = none) (n : dx ≠ a) : upd (del (upd (upd H dx o1) a o2) a) dx u = upd H dx u := by
  funext b
  by_cases e : b = dx
  · subst e
    rw [upd_same, upd_same]
  · rw [upd_ne e, upd_ne e]
    by_cases e2 : b = a
    · subst e2
      rw [del_same, ha]
    · rw [del_ne e2, upd_ne e2, upd_ne e]
section
variable {X : Cx} {cm : Str → Addr} {W : WX} {e : Expr} {f : ExpD}
theorem ds_raise {k : Nat} {x fl : Str} {p pos pos2 : Pos} (G : ErrD X.prog X.w X.K X.mg X.base x fl (cm x)) (hc : X.calm = true) (hr : Room (k + 2) X.A) (tk : Takes X W) (he : DE X cm W e f) (hg : Gl X x)
    (hdb : (x == ("__debug__" : Str)) = false := by decide) (hst : starEach (e :: []) X.env = (false, eval e X.env) :: starEach [] X.env := by rfl) (hpl : (backTo pos (starEach [] X.env)).any (·.1) = false := by rfl) :
    DS X cm W (.Raise (some (.Call (.Name x p) [e] [] pos)) none pos2) (sRaise x fl f) := by
  obtain ⟨fI, fd, ps, iC, tI, ok, bd⟩ := G.ini
  have hr2 : Room (1 + 1) X.A := hr.mono (Nat.le_add_left _ _)
  refine ⟨PS.imp (ps_raise hc tk (pmk_oex (dvs := []) (ds := []) G.T iC tI ok hr2 bd .nil passL hg G.gC (pa_cons he.pe pa_nil hst) hdb hst hpl)) fun D σ H h => ?_⟩
  obtain ⟨H0, ρ, env, st, R, E, h⟩ := h
  refine ⟨H0, ρ, env, st, R, E, ?_⟩
  cases ee : f env st with
  | no => simp only [sRaise, ee, Res.thn] at h; exact h.elim
  | ex c f d s1 =>
    simp only [sRaise, ee, Res.thn] at h
    exact fun dd v H0' ρ' H' x R1 dn ed => h dd v σ H0' ρ' H' x R1 (E.mono x) dn ed
  | ok d s1 =>
    simp only [sRaise, ee, Res.thn] at h
    intro v H0' ρ' H' xt R1 dn
    refine ⟨one_le, fun a ha => ⟨a, cm _, v, rfl, G.T, G.no, upd_same, fun dx h1 h2 => ⟨rfl, dx, [(fl, v)], upd_same, ?_, ?_, ?_⟩⟩⟩
    · rw [upd_ne h2, upd_same]
    · rw [upd_ne h2] at h1
      exact h1
    · have h3 : H' dx = none := by
        rw [upd_ne h2] at h1
        exact h1
      have e3 : upd (del (upd (upd (upd H' a (exo a (cm x) none)) dx (exd dx [(fl, v)])) a (exo a (cm x) (some dx))) a) dx (.xd [(fl, v)]) = upd H' dx (.xd [(fl, v)]) := by
        funext b
        by_cases e1 : b = dx
        · subst e1
          rw [upd_same, upd_same]
        · rw [upd_ne e1, upd_ne e1]
          by_cases e2 : b = a
          · subst e2
            rw [del_same, ha]
          · rw [del_ne e2, upd_ne e2, upd_ne e1, upd_ne e2]
      have h9 := h dx v σ H0' ρ' (upd H' dx (.xd [(fl, v)])) (xt.trans (Ext.newX h3)) (R1.newX h3) (E.mono xt) dn upd_same
      rw [← e3] at h9
      exact h9
end
end Z

set_option maxHeartbeats 4000000
namespace Z
open PySem PySem.Spec PyProof.Rows L2

/-! ### try with any except clauses, each with or without a name -/
abbrev Su := Addr → Value → Option Addr → TS
def endsN (D : Ends) : Option Nat → Ends
  | none => D
  | some i => ⟨fun σ H => D.nx (σ.set i none) H, D.rt, fun σ H => D.bk (σ.set i none) H, fun σ H => D.ct (σ.set i none) H⟩
def inN (σ : L2.St) (a : Addr) : Option Nat → L2.St
  | none => σ
  | some i => σ.set i (some (.ref a))
def wCl (K : PySem.W.Frag) (Wout : WX) (D : Ends) : List (Value × Option Nat × Su) → WX
  | [] => Wout
  | (c, n, ts) :: r => fun cls d σ H => ∃ b, PySem.W.exmOne K cls c = some b ∧ (b = true → ∀ a, H a = none → ts a cls d (endsN D n) (inN σ a n) H) ∧ (b = false → wCl K Wout D r cls d σ H)
abbrev SuOk (X : Cx) (suite : List Stmt) (ts : Su) : Prop := ∀ (a : Addr) (oe : Obj) (cls : Value) (d : Option Addr) (pn : List (Addr × Obj)), Zc cls d oe → (∃ vs, oe.data = .fields vs) → PSs (X.suite a ((a, oe) :: pn)) suite (ts a cls d)
inductive ClOk (X : Cx) : List ExceptHandler → List (Value × Option Nat × Su) → Prop
  | nil : ClOk X [] []
  | plain {x : Str} {c : Value} {ts : Su} {b0 : Stmt} {suite : List Stmt} {np p : Pos} {hs : List ExceptHandler} {l : List (Value × Option Nat × Su)} : Names X x c → SuOk X (b0 :: suite) ts → ClOk X hs l → ClOk X (.ExceptHandler (some (.Name x np)) none (b0 :: suite) p :: hs) ((c, none, ts) :: l)
  | named {x n : Str} {i : Nat} {c : Value} {ts : Su} {b0 : Stmt} {suite : List Stmt} {np p : Pos} {hs : List ExceptHandler} {l : List (Value × Option Nat × Su)} : Names X x c → X.N[i]? = some n → X.env.kindOf n = some .local → SuOk X (b0 :: suite) ts → ClOk X hs l →
      ClOk X (.ExceptHandler (some (.Name x np)) (some n) (b0 :: suite) p :: hs) ((c, some i, ts) :: l)
section
variable {X : Cx} {h1 : ExceptHandler} {body : List Stmt} {hs : List ExceptHandler} {l : List (Value × Option Nat × Su)} {p : Pos} {tb : WX → TS} {Wout : WX}
theorem sp_out {pins : List (Addr × Obj)} {D : Ends} {a : Addr} {q : Addr × Obj} {pn' : List (Addr × Obj)} (ok : X.Ok) {s : Shared} : ∀ {f : Flow}, SP (X.suite a (q :: (X.pn ++ pins))) pn' D f s → SP X pins D f s
  | .next, ⟨σ, H, J, w⟩ => ⟨σ, H, J.unsuite ok, w⟩
  | .brk, ⟨σ, H, J, w⟩ => ⟨σ, H, J.unsuite ok, w⟩
  | .cont, ⟨σ, H, J, w⟩ => ⟨σ, H, J.unsuite ok, w⟩
  | .ret _, ⟨v, σ, H, J, r, w⟩ => ⟨v, σ, H, J.unsuite ok, r, w⟩
theorem sp_try {pins : List (Addr × Obj)} {D : Ends} {xe : Value → Shared → Prop} {pn' : List (Addr × Obj)} (ok : X.Ok) {s : Shared} : ∀ {f : Flow}, SP (X.tr (X.pn ++ pins) xe) pn' D f s → SP X pins D f s
  | .next, ⟨σ, H, J, w⟩ => ⟨σ, H, J.ofTry ok, w⟩
  | .brk, ⟨σ, H, J, w⟩ => ⟨σ, H, J.ofTry ok, w⟩
  | .cont, ⟨σ, H, J, w⟩ => ⟨σ, H, J.ofTry ok, w⟩
  | .ret _, ⟨v, σ, H, J, r, w⟩ => ⟨v, σ, H, J.ofTry ok, r, w⟩
/-- what stands behind the landing: the exception is at a; looking at a clause leaves the heap -/
theorem cl_run (hN : X.N.Nodup) (tk : Takes X Wout) (hs0 : X.stack = X.env :: X.outer) (hf : X.env.frame = some X.env.locals) {pins : List (Addr × Obj)} {D : Ends} {a : Addr} {B : Heap} {sI s3 : Shared} {σ : L2.St} {H : Hp} {cls : Value} {d : Option Addr}
    (J : Inv X pins σ H sI) (nb : ∀ b o, sI.heap.get? b = some o → b ∉ frs X.stack → B.get? b = some o) (up3 : sI.heap.UpToSlots s3.heap) (os3 : s3.os = sI.os) (ag : AllBare s3.gens) (na : H a = none) (fl : HandSPX.FlyingZ B (X.env :: X.outer) a (Zc cls d) s3.heap) :
    ∀ {hs : List ExceptHandler} {l : List (Value × Option Nat × Su)}, ClOk X hs l → wCl X.K Wout D l cls d σ H → wpAny (model X.prog X.w) X.A (handleBy (.ref a) X.env hs) (SP X pins D) X.xe s3 := by
  have ok := J.ok
  have J3 : Inv X pins σ H s3 := J.landed nb fl.1 up3 os3 ag
  obtain ⟨oe, fv, hoe, hz, hfv⟩ := fl.there
  have out : a ∉ frs (X.env :: X.outer) := fun hm => by
    obtain ⟨_, o2, e2, k2⟩ := fl.2.2.1.mem hm
    rw [hoe] at e2
    cases e2
    exact k2 _ hfv
  have aL : a ≠ X.env.locals := fun z => out (List.mem_filterMap.mpr ⟨X.env, List.mem_cons_self, by rw [hf, z]⟩)
  have aF : a ∉ X.fs := fun hm => by
    obtain ⟨e, me, q⟩ := List.mem_filterMap.mp hm
    exact out (List.mem_filterMap.mpr ⟨e, List.mem_cons_of_mem _ me, q⟩)
  have look : ∀ {x : Str} {c : Value} {np : Pos} {Q E : Value → Shared → Prop}, Names X x c → Q c s3 → wpAny (model X.prog X.w) (X.A.mark (some (.ref a))) (eval (.Name x np) X.env) Q E s3 := fun {x c np Q E} hc q => by
    have S3 := J3.suite hoe hfv na aL aF
    obtain ⟨hg, hd, m | ⟨m, v, nn⟩⟩ := hc
    · exact ld_glob (X := X.suite a ((a, oe) :: (X.pn ++ pins))) S3 hg m q hd
    · exact ld_blt (X := X.suite a ((a, oe) :: (X.pn ++ pins))) S3 hg m v q nn hd
  have LT : PySem.W.Looks (model X.prog X.w) s3.heap (typeOf (.ref a)) cls := fun A' Q' E' s' k' q' => wpAny_typeOf_ref (k' _ _ hoe) (by rw [hz.1]; exact q')
  intro hs l hk
  induction hk with
  | nil =>
    intro w
    refine wpAny_handleBy_nil ?_
    obtain ⟨_, _, _, o4, fv4, T4, _, _, ho4, _, hd4, hi4, _⟩ := id fl
    have last : wpAny (model X.prog X.w) X.A (setFlight (.ref a) X.env.frame) (fun _ s4 => wpAny (model X.prog X.w) X.A (throw (.ref a) : PySem.Sem Flow) (SP X pins D) X.xe s4) X.xe s3 := by
      rw [hf]
      exact HandSPX.setFlight_upZ fl fun h4 held up4 => wpAny_throw (tk _ _ ⟨a, B, sI, pins, σ, H, cls, d, rfl, J, nb, up3.trans up4, .inr (.inr (by rw [hs0]; exact held)), na, os3, ag, w⟩)
    unfold PySem.passOn
    refine wpAny_bind (wpAny_field ho4 hd4 hi4 ?_)
    rw [if_neg (by simp : ¬ ((Value.ref T4 == Value.none) = true))]
    first | exact wpAny_bind (wpAny_pure (wpAny_bind last)) | exact wpAny_bind last
  | plain hc su _ ih =>
    intro ⟨b, hb, yes, no⟩
    refine wpAny_handleBy_cons (codeAny_handlers_test (look hc ((PySem.W.exm_one (M := model X.prog X.w) J3.kIn LT hb).here ?_))) (fun q => by cases q)
    cases b with
    | false => exact ih (no rfl)
    | true =>
      refine codeAny_handlers_suite (HandSPX.lands_againZ fl fun h4 fl4 up4 => ?_)
      obtain ⟨o4, v4, ho4, hz4, hv4⟩ := fl4.there
      have S4 := (J.landed (s' := { s3 with heap := h4 }) nb fl4.1 (up3.trans up4) os3 ag).suite ho4 hv4 na aL aF
      exact wpAny_mono ((su a o4 cls d (X.pn ++ pins) hz4 ⟨_, hv4⟩).run [] _ _ H D S4 (yes rfl a na)) (fun _ _ q => sp_out ok q) fun _ _ z => z.elim
  | @named x n i c ts b0 suite np p hs l hc hi hln su _ ih =>
    intro ⟨b, hb, yes, no⟩
    refine wpAny_handleBy_cons (codeAny_handlers_test (look hc ((PySem.W.exm_one (M := model X.prog X.w) J3.kIn LT hb).here ?_))) (fun q => by cases q)
    cases b with
    | false => exact ih (no rfl)
    | true =>
      refine codeAny_handlers_suite_as (HandSPX.lands_againZ fl fun h4 fl4 up4 => ?_)
      obtain ⟨o4, v4, ho4, hz4, hv4⟩ := fl4.there
      have S4 := (J.landed (s' := { s3 with heap := h4 }) nb fl4.1 (up3.trans up4) os3 ag).suite ho4 hv4 na aL aF
      refine store_ok (X := X.suite a ((a, o4) :: (X.pn ++ pins))) (v := .ref a) S4 hN hi (.inl hln) rfl (fun s5 S5 => ?_) (.inr hln)
      refine wpAny_mono ((su a o4 cls d (X.pn ++ pins) hz4 ⟨_, hv4⟩).run [] s5 _ H _ S5 (yes rfl a na)) (fun f s6 q => ?_) fun _ _ z => z.elim
      have bye : ∀ {σ6 : L2.St} {H6 : Hp} {Q : Shared → Prop}, Inv (X.suite a ((a, o4) :: (X.pn ++ pins))) [] σ6 H6 s6 → (∀ s7, Inv X pins (σ6.set i none) H6 s7 → Q s7) → wpAny (model X.prog X.w) X.A (do bindName X.env n .none; unbindBehindTheSuite X.env n p) (fun _ s7 => Q s7) X.xe s6 :=
        fun S6 hq => gone_ok (S6.unsuite ok) hN hi hln hq
      match f, q with
      | .next, ⟨_, _, S6, q6⟩ => exact bye S6 fun s7 J7 => ⟨_, _, J7, q6⟩
      | .brk, ⟨_, _, S6, q6⟩ => exact bye S6 fun s7 J7 => ⟨_, _, J7, q6⟩
      | .cont, ⟨_, _, S6, q6⟩ => exact bye S6 fun s7 J7 => ⟨_, _, J7, q6⟩
      | .ret u, ⟨_, _, _, S6, r6, q6⟩ => exact bye S6 fun s7 J7 => ⟨_, _, _, J7, r6, q6⟩
theorem ps_try_cl (hs0 : X.stack = X.env :: X.outer) (hf : X.env.frame = some X.env.locals) (hN : X.N.Nodup) (tk : Takes X Wout)
    (hb : ∀ (V : WX) (pn : List (Addr × Obj)) (xe : Value → Shared → Prop), Takes (X.tr pn xe) V → PassesOwn (model X.prog X.w) X.A X.env xe → PSs (X.tr pn xe) body (tb V)) (hh : ClOk X (h1 :: hs) l) :
    PS X (.Try body (h1 :: hs) [] [] p) (fun D σ H => tb (wCl X.K Wout D l) D σ H) := by
  refine ⟨fun pins s σ H D I h => wpAny_Try_except ?_⟩
  have ok := I.ok
  let xe : Value → Shared → Prop := fun e s1 => wpAny (model X.prog X.w) X.A (noteFrame e X.env) (fun _ s2 => wpAny (model X.prog X.w) X.A (setFlight e none) (fun _ s3 => wpAny (model X.prog X.w) X.A (handleBy e X.env (h1 :: hs)) (SP X pins D) X.xe s3) X.xe s2) X.xe s1
  have tk2 : Takes (X.tr (X.pn ++ pins) xe) (wCl X.K Wout D l) := fun u s' xx => by
    obtain ⟨a, B, sI, pins', σ', H', cls, d, rfl, J', nb, up, sky, na, os, ag, w⟩ := xx
    have sky' : Sky B (X.env :: X.outer) a (Zc cls d) X.env.locals s'.heap := by
      rw [← hs0]
      exact sky
    show wpAny (model X.prog X.w) X.A (noteFrame (.ref a) X.env) _ _ _
    exact Sky.land Zc.steady (by rw [ok.frames, hs0]) hf sky' fun h3 fl3 up3 => cl_run hN tk hs0 hf (s3 := { s' with heap := h3 }) (J'.ofTry ok) nb (up.trans up3) os ag na fl3 hh w
  refine wpAny_mono ((hb _ _ xe tk2 PassesOwn.looking).run [] s σ H D (I.toTry xe) h) (fun f s1 q => ?_) fun _ _ he => he
  match f, q with
  | .next, ⟨_, _, J, w⟩ => exact wpAny_execs_nil ⟨_, _, J.ofTry ok, w⟩
  | .brk, q => exact sp_try ok q
  | .cont, q => exact sp_try ok q
  | .ret _, q => exact sp_try ok q
end
end Z

set_option maxHeartbeats 4000000
namespace Z
open PySem PySem.Spec PyProof.Rows L2

/-! ### except suites; try -/
/-- class, field, the field's value -/
abbrev SuD := Str → Str → D → StmD
abbrev GX := Str → Str → D → Option D
structure XIn (K : PySem.W.Frag) (cm : Str → Addr) (a : Addr) (cls : Value) (d : Option Addr) (n : Option Nat) (H0 : Hp) (ρ : List Addr) (σ : L2.St) (H : Hp) (c f : Str) (dv : D) : Prop where
  c : cls = .ref (cm c)
  d : ∃ dd v, d = some dd ∧ H dd = some (.xd [(f, v)]) ∧ Den K H0 ρ v dv
  s : ∀ i, n = some i → σ[i]? = some (some (.ref a))
def tSu (K : PySem.W.Frag) (cm : Str → Addr) (n : Option Nat) (su : SuD) : Su := fun a cls d D σ H => ∃ H0 ρ env st c f dv, XIn K cm a cls d n H0 ρ σ H c f dv ∧ Rep K H0 ρ H st ∧ EnvR K H0 ρ σ env ∧ SatS K cm W0 D H0 ρ H (su c f dv env st)
def tSX (K : PySem.W.Frag) (cm : Str → Addr) (n : Option Nat) (a : Addr) (cls : Value) (d : Option Addr) (g : GX) : TE := fun σ H Q => ∃ H0 ρ c f dv r, XIn K cm a cls d n H0 ρ σ H c f dv ∧ g c f dv = some r ∧ ∀ u, Den K H0 ρ u r → Q u H
def tSXs (K : PySem.W.Frag) (cm : Str → Addr) (n : Option Nat) (a : Addr) (cls : Value) (d : Option Addr) (g : Str → Str → D → Option (List D)) : TA := fun σ H Q => ∃ H0 ρ c f dv r, XIn K cm a cls d n H0 ρ σ H c f dv ∧ g c f dv = some r ∧ ∀ u, DenL K H0 ρ u r → Q u H
structure DX (X : Cx) (cm : Str → Addr) (n : Option Nat) (e : Expr) (g : GX) : Prop where
  pe : ∀ (a : Addr) (oe : Obj) (cls : Value) (d : Option Addr) (pn : List (Addr × Obj)), Zc cls d oe → (∃ vs, oe.data = .fields vs) → PE (X.suite a ((a, oe) :: pn)) e (tSX X.K cm n a cls d g)
structure DXs (X : Cx) (cm : Str → Addr) (n : Option Nat) (es : List Expr) (g : Str → Str → D → Option (List D)) : Prop where
  pa : ∀ (a : Addr) (oe : Obj) (cls : Value) (d : Option Addr) (pn : List (Addr × Obj)), Zc cls d oe → (∃ vs, oe.data = .fields vs) → PA (X.suite a ((a, oe) :: pn)) es (tSXs X.K cm n a cls d g)
def gxC (d : D) : GX := fun _ _ _ => some d
def gxF (cs : List Str) (n : Str) : GX := fun c f dv => match cs.contains c && f == n with
  | true => some dv
  | false => none
def gxN : Str → Str → D → Option (List D) := fun _ _ _ => some []
def gxK (g : GX) (gs : Str → Str → D → Option (List D)) : Str → Str → D → Option (List D) := fun c f dv => match g c f dv, gs c f dv with
  | some d, some ds => some (d :: ds)
  | _, _ => none
def hR (gs : Str → Str → D → Option (List D)) : SuD := fun c f dv _ st => match gs c f dv with
  | some ds => .rt (.lst ds) st
  | none => .no
def hC (d : D) : SuD := fun _ _ _ _ st => .rt d st
section
variable {X : Cx} {cm : Str → Addr} {W : WX} {n : Option Nat} {e : Expr} {es : List Expr} {g : GX} {gs : Str → Str → D → Option (List D)} {pos : Pos}
theorem dx_c {v : V} {d : D} (h : ∀ Y : Cx, PE Y e (tC v)) (dn : ∀ K H0 ρ, Den K H0 ρ v d) : DX X cm n e (gxC d) := ⟨fun a oe cls dd pn _ _ => PE.imp (h _) fun σ H Q ⟨H0, ρ, c, f, dv, r, hx, er, q⟩ => by
  cases er
  exact q v (dn _ _ _)⟩
theorem dx_str {x : Str} {j} : DX X cm n (.Constant (.str x) j pos) (gxC (.str x)) := dx_c (fun _ => pe_str) fun _ _ _ => .str x
theorem dx_non {j} : DX X cm n (.Constant .none j pos) (gxC .non) := dx_c (fun _ => pe_non) fun _ _ _ => .non
theorem dx_f {cs : List Str} {i : Nat} {nm y : Str} {p : Pos} (hc : ∀ c ∈ cs, XfC X.K (cm c) ∧ PySem.W.findIn X.K (.ref (cm c)) nm = some none) (hi : X.N[i]? = some y := by rfl) (hv : Vis X.env.scope y := by first | exact Or.inl rfl | exact Or.inr (Or.inl rfl) | exact Or.inr (Or.inr rfl))
    (hd : (y == ("__debug__" : Str)) = false := by decide) (hcd : (y == ("__classdict__" : Str)) = false := by decide) (hb : attributeBase (.Name y p) nm X.env (eval (.Name y p) X.env) = eval (.Name y p) X.env := by rfl) : DX X cm (some i) (.Attribute (.Name y p) nm pos) (gxF cs nm) := ⟨fun a oe cls dd pn hz hf => by
  refine ⟨fun pins s σ H Q I ⟨H0, ρ, c, f, dv, r, hx, er, q⟩ => ?_⟩
  cases ee : cs.contains c && f == nm with
  | false => rw [gxF, ee] at er; cases er
  | true =>
    rw [gxF, ee] at er
    cases er
    obtain ⟨e1, e2⟩ := Bool.and_eq_true_iff.mp ee
    have e2 := eq_of_beq e2
    subst e2
    have h1 := hc c (List.contains_iff_mem.mp e1)
    obtain ⟨d1, v, ed, eh, dn⟩ := hx.d
    have hcl := hx.c
    subst hcl
    exact (pe_xf (X := X) (pn := pn) h1.1 h1.2 hz hf (pe_var (X := X.suite a ((a, oe) :: pn)) hi hv hd hcd) hb).run pins s σ H Q I ⟨.ref a, hx.s i rfl, rfl, rfl, d1, _, v, ed, eh, by simp [List.lookup], q v dn⟩⟩
theorem dxs_nil : DXs X cm n [] gxN := ⟨fun a oe cls d pn _ _ => PA.imp pa_nil fun σ H Q ⟨H0, ρ, c, f, dv, r, hx, er, q⟩ => by
  cases er
  exact q [] .nil⟩
theorem dxs_cons (h1 : DX X cm n e g) (h2 : DXs X cm n es gs) (he : starEach (e :: es) X.env = (false, eval e X.env) :: starEach es X.env := by rfl) : DXs X cm n (e :: es) (gxK g gs) := ⟨fun a oe cls d pn hz hf => PA.imp (pa_cons (h1.pe a oe cls d pn hz hf) (h2.pa a oe cls d pn hz hf) he) fun σ H Q ⟨H0, ρ, c, f, dv, r, hx, er, q⟩ => by
  cases e1 : g c f dv with
  | none => simp only [gxK, e1] at er; cases er
  | some d1 =>
    cases e2 : gs c f dv with
    | none => simp only [gxK, e1, e2] at er; cases er
    | some ds =>
      simp only [gxK, e1, e2] at er
      cases er
      exact ⟨H0, ρ, c, f, dv, d1, hx, e1, fun u hu => ⟨H0, ρ, c, f, dv, ds, hx, e2, fun us hus => q _ (.cons hu hus)⟩⟩⟩
def GxLen (k : Nat) (gs : Str → Str → D → Option (List D)) : Prop := ∀ c f dv ds, gs c f dv = some ds → ds.length = k
theorem gxl_nil : GxLen 0 gxN := fun _ _ _ _ e => by
  cases e
  rfl
theorem gxl_cons {k : Nat} (h : GxLen k gs) : GxLen (k + 1) (gxK g gs) := fun c f dv ds e => by
  cases e1 : g c f dv with
  | none => simp only [gxK, e1] at e; cases e
  | some d1 =>
    cases e2 : gs c f dv with
    | none => simp only [gxK, e1, e2] at e; cases e
    | some d2 =>
      simp only [gxK, e1, e2] at e
      cases e
      exact congrArg (· + 1) (h c f dv d2 e2)
structure DSu (X : Cx) (cm : Str → Addr) (n : Option Nat) (suite : List Stmt) (su : SuD) : Prop where
  ok : SuOk X suite (tSu X.K cm n su)
/-- return [e, ..] in a suite -/
theorem su_ret {k : Nat} {pos2 : Pos} (h : DXs X cm n es gs) (hl : GxLen k gs) (hk : k ≤ LIM := by decide) : DSu X cm n [.Return (some (.List es pos)) pos2] (hR gs) := ⟨fun a oe cls d pn hz hf =>
  PSs.imp (pss_one (ps_ret (pe_lst (h.pa a oe cls d pn hz hf)))) fun D σ H ⟨H0, ρ, env, st, c, f, dv, hx, R, E, q⟩ => by
  cases eg : gs c f dv with
  | none => rw [hR, eg] at q; exact q.elim
  | some ds =>
    rw [hR, eg] at q
    refine ⟨H0, ρ, c, f, dv, ds, hx, eg, fun us l => ⟨by rw [l.length, hl _ _ _ _ eg]; exact lim_le hk, fun p hp => ?_⟩⟩
    exact q (.ref p) (upd H0 p (.lst us)) ρ _ (Ext.newF (R.fresh hp) hp) (R.newF hp) (.lst upd_same (l.mono0 (Ex0.new (R.fresh hp))))⟩
end

def setN (e : Env) : Option Nat → Env
  | none => e
  | some i => e.set i none
def Ctl.unN (n : Option Nat) : Ctl → Ctl
  | .nx e s => .nx (setN e n) s
  | .bk e s => .bk (setN e n) s
  | .ct e s => .ct (setN e n) s
  | .rt d s => .rt d s
  | _ => .no
def hasN (e : Env) : Option Nat → Bool
  | none => true
  | some i => decide (i < e.length)
def hdD (sub : Str → Str → Option Bool) (c f : Str) (d : D) (e : Env) (s : Sto) : List (Str × Option Nat × SuD) → Ctl
  | [] => .ex c f d e s
  | (h, n, su) :: r => match sub c h with
    | some true => (match hasN e n with
      | true => (su c f d (setN e n) s).unN n
      | false => .no)
    | some false => hdD sub c f d e s r
    | none => .no
def sTry (sub : Str → Str → Option Bool) (body : StmD) (hs : List (Str × Option Nat × SuD)) : StmD := fun env st => match body env st with
  | .ex c f d e s => hdD sub c f d e s hs
  | r => r
section
variable {X : Cx} {cm : Str → Addr} {W : WX}
def SubOk (K : PySem.W.Frag) (cm : Str → Addr) (sub : Str → Str → Option Bool) : Prop := ∀ c h b, sub c h = some b → PySem.W.exmOne K (.ref (cm c)) (.ref (cm h)) = some b
/-- the clauses -/
inductive ClD (X : Cx) (cm : Str → Addr) : List ExceptHandler → List (Str × Option Nat × SuD) → Prop
  | nil : ClD X cm [] []
  | plain {x : Str} {su : SuD} {b0 : Stmt} {suite : List Stmt} {np p : Pos} {hs : List ExceptHandler} {l : List (Str × Option Nat × SuD)} : Names X x (.ref (cm x)) → DSu X cm none (b0 :: suite) su → ClD X cm hs l → ClD X cm (.ExceptHandler (some (.Name x np)) none (b0 :: suite) p :: hs) ((x, none, su) :: l)
  | named {x n : Str} {i : Nat} {su : SuD} {b0 : Stmt} {suite : List Stmt} {np p : Pos} {hs : List ExceptHandler} {l : List (Str × Option Nat × SuD)} : Names X x (.ref (cm x)) → X.N[i]? = some n → X.env.kindOf n = some .local → DSu X cm (some i) (b0 :: suite) su → ClD X cm hs l →
      ClD X cm (.ExceptHandler (some (.Name x np)) (some n) (b0 :: suite) p :: hs) ((x, some i, su) :: l)
def clM (K : PySem.W.Frag) (cm : Str → Addr) (l : List (Str × Option Nat × SuD)) : List (Value × Option Nat × Su) := l.map fun q => (.ref (cm q.1), q.2.1, tSu K cm q.2.1 q.2.2)
theorem ClD.ok {hs : List ExceptHandler} {l : List (Str × Option Nat × SuD)} (h : ClD X cm hs l) : ClOk X hs (clM X.K cm l) := by
  induction h with
  | nil => exact .nil
  | plain a b _ ih => exact .plain a b.ok ih
  | named a b c d _ ih => exact .named a b c d.ok ih
theorem EnvR.inN {K : PySem.W.Frag} {H0 : Hp} {ρ : List Addr} {σ : L2.St} {e : Env} (E : EnvR K H0 ρ σ e) (a : Addr) : ∀ n : Option Nat, EnvR K H0 ρ (inN σ a n) (setN e n)
  | none => E
  | some i => E.unset i _
theorem un_imp {K : PySem.W.Frag} {D : Ends} {H0 H : Hp} {ρ : List Addr} : ∀ {n : Option Nat} {r : Ctl}, SatS K cm W D H0 ρ H (r.unN n) → SatS K cm W0 (endsN D n) H0 ρ H r
  | _, .no, q => q
  | _, .ex _ _ _ _ _, q => q.elim
  | none, .rt _ _, q => q
  | some _, .rt _ _, q => q
  | none, .nx _ _, q => q
  | none, .bk _ _, q => q
  | none, .ct _ _, q => q
  | some i, .nx _ _, q => fun σ' H0' ρ' H' x R1 E1 => q _ H0' ρ' H' x R1 (E1.unset i none)
  | some i, .bk _ _, q => fun σ' H0' ρ' H' x R1 E1 => q _ H0' ρ' H' x R1 (E1.unset i none)
  | some i, .ct _ _, q => fun σ' H0' ρ' H' x R1 E1 => q _ H0' ρ' H' x R1 (E1.unset i none)
theorem hd_imp {K : PySem.W.Frag} {sub : Str → Str → Option Bool} (so : SubOk K cm sub) {D : Ends} {H0 H : Hp} {ρ : List Addr} {c f : Str} {d : Z.D} {e : Env} {s : Sto} {σ : L2.St} {dd : Addr} {v : V} (R : Rep K H0 ρ H s) (E : EnvR K H0 ρ σ e) (dn : Den K H0 ρ v d) (ed : H dd = some (.xd [(f, v)])) :
    ∀ {l : List (Str × Option Nat × SuD)}, SatS K cm W D H0 ρ H (hdD sub c f d e s l) → wCl K W D (clM K cm l) (.ref (cm c)) (some dd) σ H
  | [], q => q dd v σ H0 ρ H Ext.refl R E dn ed
  | (h, n, su) :: r, q => by
    cases es : sub c h with
    | none => simp only [hdD, es] at q; exact q.elim
    | some b =>
      refine ⟨b, so c h b es, fun eb a ha => ?_, fun eb => ?_⟩
      · subst eb
        simp only [hdD, es] at q
        cases hn : hasN e n with
        | false => rw [hn] at q; exact q.elim
        | true =>
          rw [hn] at q
          refine ⟨H0, ρ, setN e n, s, c, f, d, ⟨rfl, ⟨dd, v, rfl, ed, dn⟩, fun i ei => ?_⟩, R, E.inN a n, ?_⟩
          · subst ei
            exact List.getElem?_set_self (by rw [E.len]; exact of_decide_eq_true hn)
          · exact un_imp q
      · subst eb
        simp only [hdD, es] at q
        exact hd_imp so R E dn ed q
theorem ds_try {h1 : ExceptHandler} {body : List Stmt} {hs : List ExceptHandler} {l : List (Str × Option Nat × SuD)} {sb : StmD} {p : Pos} {sub : Str → Str → Option Bool} (so : SubOk X.K cm sub) (hs0 : X.stack = X.env :: X.outer) (hf : X.env.frame = some X.env.locals) (hN : X.N.Nodup) (tk : Takes X W)
    (hb : ∀ (V : WX) (pn : List (Addr × Obj)) (xe : Value → Shared → Prop), Takes (X.tr pn xe) V → PassesOwn (model X.prog X.w) X.A X.env xe → DSs (X.tr pn xe) cm V body sb) (hh : ClD X cm (h1 :: hs) l) : DS X cm W (.Try body (h1 :: hs) [] [] p) (sTry sub sb l) :=
  ⟨PS.imp (ps_try_cl (tb := fun V => tS X.K cm V sb) hs0 hf hN tk (fun V pn xe a b => (hb V pn xe a b).ps) hh.ok) fun D σ H ⟨H0, ρ, env, st, R, E, h⟩ => by
    refine ⟨H0, ρ, env, st, R, E, ?_⟩
    cases eb : sb env st with
    | no => simp only [sTry, eb] at h; exact h.elim
    | nx e s => simp only [sTry, eb] at h; exact h
    | bk e s => simp only [sTry, eb] at h; exact h
    | ct e s => simp only [sTry, eb] at h; exact h
    | rt d s => simp only [sTry, eb] at h; exact h
    | ex c f d e s =>
      simp only [sTry, eb] at h
      exact fun dd v σ' H0' ρ' H' x R1 E1 dn ed => hd_imp so R1 E1 dn ed (SatS.ext h x)⟩
end
end Z

set_option maxHeartbeats 4000000
namespace Z
open PySem PySem.Spec PyProof.Rows L2

/-! ### {}; dict([(k, v), ..]) -/
def fDct0 : ExpD := fun _ st => .ok (.loc st.length) (st ++ [.dK [] []])
def pairOf : D → Option (Key × D)
  | .tup [k, v] => (keyOf k).map fun q => (q, v)
  | _ => none
def pairsOf : List D → Option (List (Key × D))
  | [] => some []
  | x :: xs => match pairOf x, pairsOf xs with
    | some p, some ps => some (p :: ps)
    | _, _ => none
def oDict : List D → Sto → Res D := fun ds st => match one? ds with
  | some x => (match asLR st x with
    | some xs => (match pairsOf xs with
      | some ps => (match distinct (ps.map (·.1)) with
        | true => .ok (.loc st.length) (st ++ [.dK (ps.map (·.1)) (ps.map (·.2))])
        | false => .no)
      | none => .no)
    | none => .no)
  | none => .no
section
variable {X : Cx} {cm : Str → Addr} {W : WX} {e : Expr} {es : List Expr} {ga : ArgD} {pos p : Pos}
theorem de_dct0 : DE X cm W (.Dict [] [] pos) fDct0 := ⟨PE.imp pe_dnewK fun σ H Q ⟨H0, ρ, env, st, R, E, h⟩ => fun p hp =>
  h (.ref p) H0 (ρ ++ [p]) _ (Ext.newO hp) (R.newK (kvs := []) (ds := []) hp .nil) (.loc (by rw [← R.len, List.getElem?_append_right (Nat.le_refl _), Nat.sub_self] <;> rfl))⟩
theorem pair_den {K : PySem.W.Frag} {H0 : Hp} {ρ : List Addr} {v : V} {d : D} {q : Key × D} (h : Den K H0 ρ v d) (e : pairOf d = some q) : ∃ p y, v = .ref p ∧ SqT K H0 p [kV q.1, y] ∧ Den K H0 ρ y q.2 := by
  unfold pairOf at e
  split at e
  · rename_i k x
    cases ek : keyOf k with
    | none => rw [ek] at e; cases e
    | some kk =>
      rw [ek] at e
      cases e
      cases h with
      | tup hs l =>
        cases l with
        | cons r1 l =>
          cases l with
          | cons r2 l =>
            cases l
            have e1 := keyOf_den r1 ek
            subst e1
            exact ⟨_, _, rfl, hs, r2⟩
  · cases e
theorem pairs_den {K : PySem.W.Frag} {H0 H : Hp} {ρ : List Addr} {st : Sto} (R : Rep K H0 ρ H st) : ∀ {vs : List V} {ds : List D} {qs : List (Key × D)}, DenL K H0 ρ vs ds → pairsOf ds = some qs →
    ∃ (ps : List Addr) (kvs : List (Key × V)), vs = ps.map V.ref ∧ Paired (fun p kv => SqT K H p [kV kv.1, kv.2]) ps kvs ∧ kvs.map (·.1) = qs.map (·.1) ∧ DenL K H0 ρ (kvs.map (·.2)) (qs.map (·.2))
  | _, _, qs, .nil, e => by
    cases e
    exact ⟨[], [], rfl, .nil, rfl, .nil⟩
  | _, _, qs, .cons (d := d) (ds := ds) r l, e => by
    cases e1 : pairOf d with
    | none => simp only [pairsOf, e1] at e; cases e
    | some q =>
      cases e2 : pairsOf ds with
      | none => simp only [pairsOf, e1, e2] at e; cases e
      | some qs' =>
        simp only [pairsOf, e1, e2] at e
        cases e
        obtain ⟨p, y, rfl, hs, dn⟩ := pair_den r e1
        obtain ⟨ps, kvs, rfl, hp, hk, hl⟩ := pairs_den R l e2
        exact ⟨p :: ps, (q.1, y) :: kvs, rfl, .cons (R.sqT hs) hp, by rw [List.map_cons, List.map_cons, hk], .cons dn hl⟩
theorem rc_dict : RealC X.K cm (fun xs H Q => ∃ (a : Addr) (ps : List Addr) (kvs : List (Key × V)), xs = [V.ref a] ∧ SqL X.K H a (ps.map V.ref) ∧ Paired (fun p kv => SqT X.K H p [kV kv.1, kv.2]) ps kvs ∧ ∀ p, H p = none → Q (.ref p) (upd H p (.dK (mergeK [] kvs)))) oDict := by
  intro Wx H0 ρ H st xs ds Q R l q
  unfold oDict at q
  cases e1 : one? ds with
  | none => rw [e1] at q; exact q.elim
  | some d =>
    rw [e1] at q
    obtain ⟨v, rfl, dn⟩ := one_den l e1
    simp only at q
    cases e2 : asLR st d with
    | none => rw [e2] at q; exact q.elim
    | some is =>
      rw [e2] at q
      simp only at q
      cases e3 : pairsOf is with
      | none => rw [e3] at q; exact q.elim
      | some ps =>
        rw [e3] at q
        simp only at q
        cases e4 : distinct (ps.map (·.1)) with
        | false => rw [e4] at q; exact q.elim
        | true =>
          rw [e4] at q
          have fin : ∀ {p : Addr} {vs : List V}, SqL X.K H p vs → DenL X.K H0 ρ vs is → v = .ref p → ∃ (a : Addr) (ps : List Addr) (kvs : List (Key × V)), [v] = [V.ref a] ∧ SqL X.K H a (ps.map V.ref) ∧ Paired (fun p kv => SqT X.K H p [kV kv.1, kv.2]) ps kvs ∧ ∀ p, H p = none → Q (.ref p) (upd H p (.dK (mergeK [] kvs))) := fun {p vs} hs l2 ep => by
            obtain ⟨as, kvs, rfl, hp, hk, hl⟩ := pairs_den R l2 e3
            refine ⟨p, as, kvs, by rw [ep], hs, hp, fun a ha => ?_⟩
            have em : mergeK [] kvs = kvs := merge_nil (by rw [hk]; exact e4)
            rw [em]
            have R2 := R.newK (kvs := kvs) ha hl
            rw [hk] at R2
            exact q (.ref a) H0 (ρ ++ [a]) _ (Ext.newO ha) R2 (.loc (by rw [← R.len, List.getElem?_append_right (Nat.le_refl _), Nat.sub_self] <;> rfl))
          obtain ⟨p, vs, ep, hs, l2⟩ := asLR_ok R dn e2
          exact fin hs l2 ep
theorem de_dict (hc : X.calm = true) (hm : X.mg "dict" = none) (ha : DA X cm W (e :: es) ga) (hg : Gl X "dict" := by rfl) (he : starEach (e :: es) X.env = (false, eval e X.env) :: starEach es X.env := by rfl) (hpl : (backTo pos (starEach es X.env)).any (·.1) = false := by rfl) :
    DE X cm W (.Call (.Name "dict" p) (e :: es) [] pos) (fCall oDict ga) := de_bty (call_dictP hc) rc_dict hg hm bb_dict ha (by decide) (by decide) he hpl
end

/-! ### a, b, c = x, y, z; range(i, j, c); is of bools -/
section
variable {X : Cx} {cm : Str → Addr} {W : WX} {a b c tg : Expr} {ga : ArgD} {pos p : Pos}
theorem ds_par3 (i j l : Nat) {x y z : Str} {px py pz pt : Pos} {kt k2 pt2} (hc : X.calm = true) (hN : X.N.Nodup) (ha : DA X cm W [a, b, c] ga) (hi : X.N[i]? = some x := by rfl) (hj : X.N[j]? = some y := by rfl) (hl : X.N[l]? = some z := by rfl) (hij : i ≠ j := by decide) (hil : i ≠ l := by decide) (hjl : j ≠ l := by decide)
    (hx : X.env.scope.names.lookup x = some .local := by rfl) (hy : X.env.scope.names.lookup y = some .local := by rfl) (hz : X.env.scope.names.lookup z = some .local := by rfl)
    (hw : swappedStores [.Tuple [.Name x px, .Name y py, .Name z pz] kt pt] (.Tuple [a, b, c] k2 pt2) X.env = pure (some [x, y, z]) := by rfl) (hs : swapsWithSole [.Tuple [.Name x px, .Name y py, .Name z pz] kt pt] (.Tuple [a, b, c] k2 pt2) pos.line X.env = pure false := by rfl) :
    DS X cm W (.Assign [.Tuple [.Name x px, .Name y py, .Name z pz] kt pt] (.Tuple [a, b, c] k2 pt2) pos) (sPar3 i j l ga) := ⟨PS.imp (ps_par3 hc hN hi hj hl hij hil hjl hx hy hz ha.pa hw hs) fun D σ H h => by
  obtain ⟨H0, ρ, env, st, R, E, h⟩ := h
  refine ⟨H0, ρ, env, st, R, E, ?_⟩
  cases e : ga env st with
  | no => simp only [sPar3, e] at h; exact h.elim
  | ex c f d s1 => simp only [sPar3, e] at h; exact fun dd v G ρ' H' x R1 dn ed => h dd v σ G ρ' H' x R1 (E.mono x) dn ed
  | ok ds s1 =>
    intro vs G ρ' H' x R1 l
    match ds, vs, l with
    | [d1, d2, d3], _, .cons r1 (.cons r2 (.cons r3 .nil)) =>
      simp only [sPar3, e] at h
      exact ⟨_, _, _, rfl, h _ G ρ' H' x R1 ((((E.mono x).set i r1).set j r2).set _ r3)⟩
    | [], _, _ => simp only [sPar3, e] at h; exact h.elim
    | [_], _, _ => simp only [sPar3, e] at h; exact h.elim
    | [_, _], _, _ => simp only [sPar3, e] at h; exact h.elim
    | _ :: _ :: _ :: _ :: _, _, _ => simp only [sPar3, e] at h; exact h.elim⟩
def three? : List D → Option (Int × Int × Int)
  | [.int i, .int j, .int k] => some (i, j, k)
  | _ => none
theorem three_den {K : PySem.W.Frag} {H : Hp} {ρ : List Addr} {vs : List V} {ds : List D} {q : Int × Int × Int} (l : DenL K H ρ vs ds) (h : three? ds = some q) : vs = [.int q.1, .int q.2.1, .int q.2.2] := by
  unfold three? at h
  split at h
  · cases h
    match vs, l with
    | _, .cons r1 (.cons r2 (.cons r3 .nil)) => rw [r1.int_inv, r2.int_inv, r3.int_inv]
  · cases h
/-- how many items range(i, j, c) has, c small -/
def rg3 (i j c : Int) : Option Nat := if c = 0 then none else if c.natAbs < 1073741824 then (match Builtin.Range.small i j c with
  | true => some (Builtin.Range.rangeSize i j c).toNat
  | false => none) else none
theorem rgSize_nn (i j c : Int) : 0 ≤ Builtin.Range.rangeSize i j c ∨ (Builtin.Range.rangeSize i j c).toNat = 0 := by omega
def fRg3 (ga : ArgD) : ItrD := fun env st => (ga env st).bind fun ds s => match three? ds with
  | some p => (match rg3 p.1 p.2.1 p.2.2 with
    | some n => (match decide (Builtin.Range.rangeSize p.1 p.2.1 p.2.2 = n) with
      | true => .ok (.fz (rgD p.1 p.2.2 n)) s
      | false => .no)
    | none => .no)
  | none => .no
theorem itOk_rngC {K : PySem.W.Frag} {H0 : Hp} {ρ : List Addr} {i c : Int} {n : Nat} : ItOk K (Itc i c n) H0 ρ (rgD i c n) := by
  refine ⟨fun k x H H0' ρ' H' st x1 R h => ?_, fun H H0' ρ' H' st x1 R => ?_⟩
  · obtain ⟨h1, h2⟩ := rgD_get h
    exact ⟨h1, fun v H2 yv => by
      obtain ⟨e1, e2⟩ := yv
      subst e1 e2 h2
      exact ⟨H0', Ext.refl, R, .int _⟩⟩
  · show n ≤ (rgD i c n).length
    unfold rgD
    rw [List.length_map, List.length_range]
    exact Nat.le_refl _
theorem di_rg3 (hg : Gl X "range") (hm : X.mg "range" = none) (ha : DA X cm W [a, b, c] ga) (hs : starEach [a, b, c] X.env = (false, eval a X.env) :: starEach [b, c] X.env := by rfl) (hpl : (backTo pos (starEach [b, c] X.env)).any (·.1) = false := by rfl) :
    DI X cm W tg (.Call (.Name "range" p) [a, b, c] [] pos) (fRg3 ga) := ⟨PI.imp (pi_range3 hg hm ha.pa hs hpl) fun σ H Q h => by
  obtain ⟨H0, ρ, env, st, R, E, h⟩ := h
  refine ⟨H0, ρ, env, st, R, E, Sat.mono (Sat.bind (R := DenL X.K) h) ?_⟩
  rintro v H1 ⟨H0', ρ', ds, s1, x, R1, l, h1⟩
  cases e : three? ds with
  | none => rw [e] at h1; exact h1.elim
  | some q =>
    rw [e] at h1
    simp only at h1
    cases e2 : rg3 q.1 q.2.1 q.2.2 with
    | none => rw [e2] at h1; exact h1.elim
    | some n =>
      rw [e2] at h1
      simp only at h1
      cases e3 : decide (Builtin.Range.rangeSize q.1 q.2.1 q.2.2 = n) with
      | false => rw [e3] at h1; exact h1.elim
      | true =>
        rw [e3] at h1
        unfold rg3 at e2
        split at e2
        · cases e2
        · rename_i hz
          split at e2
          · rename_i hs
            cases e4 : Builtin.Range.small q.1 q.2.1 q.2.2 with
            | false => rw [e4] at e2; cases e2
            | true => exact ⟨q.1, q.2.1, q.2.2, n, three_den l e, ⟨hz, hs, e4, of_decide_eq_true e3⟩, h1 _ H0' ρ' H1 Ext.refl R1 itOk_rngC⟩
          · cases e2⟩
end
def oIsB : D → D → Sto → Res D
  | .bl a, .bl b, st => .ok (.bl (decide (a = b))) st
  | _, _, _ => .no
def oNotB : D → D → Sto → Res D
  | .bl a, .bl b, st => .ok (.bl (!decide (a = b))) st
  | _, _, _ => .no
theorem re_isB {K : PySem.W.Frag} {cm : Str → Addr} : RealR K cm rIsB oIsB := by
  intro Wx H0 ρ H st x y dx dy Q R hx hy q
  cases dx with
  | bl a =>
    cases dy with
    | bl b =>
      cases hx
      cases hy
      exact ⟨a, b, rfl, rfl, q _ H0 ρ H Ext.refl R (.bl _)⟩
    | _ => exact q.elim
  | _ => exact q.elim
theorem re_notB {K : PySem.W.Frag} {cm : Str → Addr} : RealR K cm rNotB oNotB := by
  intro Wx H0 ρ H st x y dx dy Q R hx hy q
  cases dx with
  | bl a =>
    cases dy with
    | bl b =>
      cases hx
      cases hy
      exact ⟨a, b, rfl, rfl, q _ H0 ρ H Ext.refl R (.bl _)⟩
    | _ => exact q.elim
  | _ => exact q.elim

/-! ### [.. for k in d ..], d a name's dict of the store -/
/-- the dict at n is locked meanwhile -/
def fLcKeys (i : Nat) (g : TgtD) (t : TstD) (e : ExpD) (vs : List Nat) : ExpD := fun env st => match env[i]? with
  | some (some (.loc n)) => (match st[n]? with
    | some (.dK ks ds) => (lcD g t e (wipeE env vs) (ks.map keyD) [] (st.set n (.lk ks ds))).bind fun acc s => match s[n]? with
      | some (.lk ks2 ds2) => .ok (.lst acc) (s.set n (.dK ks2 ds2))
      | _ => .no
    | _ => .no)
  | _ => .no
theorem lcStep_noex {g : TgtD} {t : TstD} {e : ExpD} {env : Env} {x : D} {acc : List D} {st : Sto} {c f : Str} {d : D} {s : Sto} : lcStep g t e env x acc st ≠ .ex c f d s := by
  unfold lcStep
  cases g x env st with
  | no => intro q; cases q
  | ex _ _ _ _ => intro q; cases q
  | ok e1 s1 =>
    show (t e1 s1).calm.bind _ ≠ _
    cases t e1 s1 with
    | no => intro q; cases q
    | ex _ _ _ _ => intro q; cases q
    | ok b s2 =>
      cases b with
      | false => intro q; cases q
      | true =>
        show (e e1 s2).calm.bind _ ≠ _
        cases e e1 s2 with
        | no => intro q; cases q
        | ex _ _ _ _ => intro q; cases q
        | ok d1 s3 =>
          show (match decide (acc.length < LIM) with | true => Res.ok (acc ++ [d1]) s3 | false => .no) ≠ _
          cases decide (acc.length < LIM) <;> intro q <;> cases q
theorem lcD_noex {g : TgtD} {t : TstD} {e : ExpD} {env : Env} {c f : Str} {d : D} {s : Sto} : ∀ {xs acc : List D} {st : Sto}, lcD g t e env xs acc st ≠ .ex c f d s
  | [], _, _ => fun q => by cases q
  | x :: xs, acc, st => by
    show (lcStep g t e env x acc st).bind _ ≠ _
    cases h : lcStep g t e env x acc st with
    | no => intro q; cases q
    | ex _ _ _ _ => exact absurd h lcStep_noex
    | ok a s1 => exact lcD_noex
section
variable {K : PySem.W.Frag} {cm : Str → Addr} {W : WX} {g : TgtD} {t : TstD} {e : ExpD}
theorem keys_imp {i : Nat} {is vs : List Nat} {σ : L2.St} {H : Hp} {Q : VK} (sub : ∀ i ∈ is, i ∈ vs) (h : tD K cm W (fLcKeys i g t e vs) σ H Q) : tLockE (tLc (iKeys (tVar i)) (tGw K cm W0 is g) (tDT K cm W0 t) (tD K cm W0 e) vs) σ H Q := by
  obtain ⟨H0, ρ, env, st, R, E, h⟩ := h
  unfold fLcKeys at h
  cases ei : env[i]? with
  | none => simp only [ei] at h; exact h.elim
  | some o =>
    cases o with
    | none => simp only [ei] at h; exact h.elim
    | some dd =>
      cases dd with
      | loc n =>
        simp only [ei] at h
        cases es : st[n]? with
        | none => simp only [es] at h; exact h.elim
        | some ob =>
          cases ob with
          | dK ks ds =>
            simp only [es] at h
            obtain ⟨v, hv, dn⟩ := E.at_ i _ ei
            cases dn with
            | @loc a _ ha =>
              obtain ⟨kvs, hk, ek, l⟩ := R.ob n a _ ha es
              have hm : a ∈ ρ := List.mem_of_getElem? ha
              refine ⟨a, .dK kvs, hk, trivial, fun od => ?_⟩
              have R1 : Rep K H0 ρ (upd H a (.frz od (.dK kvs))) (st.set n (.lk ks ds)) := R.put ha ⟨od, kvs, upd_same, ek, l⟩
              have x1 : Ext H0 ρ H H0 ρ (upd H a (.frz od (.dK kvs))) := Ext.put hm hk fun _ _ q => nomatch q
              refine ⟨.ref a, hv, a, od, rfl, .inl ⟨kvs, upd_same, fun Dl hD => ?_⟩⟩
              have hJ : ItOkH K (Itk a od kvs) H0 ρ (upd H a (.frz od (.dK kvs))) (ks.map keyD) := by
                refine ⟨fun k x H0' ρ' H' st' x' R' hx => ?_, fun H0' ρ' H' st' x' R' => ?_⟩
                · have ha' : H' a = some (.frz od (.dK kvs)) := x'.z a od _ upd_same
                  rw [List.getElem?_map] at hx
                  cases ekk : ks[k]? with
                  | none => rw [ekk] at hx; cases hx
                  | some kk =>
                    rw [ekk] at hx
                    cases hx
                    rw [← ek, List.getElem?_map] at ekk
                    cases ekv : kvs[k]? with
                    | none => rw [ekv] at ekk; cases ekk
                    | some kv =>
                      rw [ekv] at ekk
                      cases ekk
                      refine ⟨⟨ha', (List.getElem?_eq_some_iff.mp ekv).1⟩, fun v H2 yv => ?_⟩
                      obtain ⟨e1, k2, v2, e2, e3⟩ := yv
                      subst e1
                      rw [ekv] at e2
                      cases e2
                      subst e3
                      exact ⟨H0', Ext.refl, R', keyD_den _⟩
                · refine ⟨x'.z a od _ upd_same, ?_⟩
                  rw [List.length_map, ← ek, List.length_map]
                  exact Nat.le_refl _
              refine lc_fz (fin := fun acc s => match s[n]? with | some (.lk ks2 ds2) => .ok (.lst acc) (s.set n (.dK ks2 ds2)) | _ => .no) sub R1 (E.wipe vs) hJ hD rfl (fun q => by rw [q] at h; exact h) fun H0' ρ' H' st' acc x' R' o' q => ?_
              have hz : H' a = some (.frz od (.dK kvs)) := x'.z a od _ upd_same
              refine ⟨hz, ?_⟩
              rw [q] at h
              have ha' : ρ'[n]? = some a := x'.e.get ha
              cases en : st'[n]? with
              | none => rw [en] at h; exact h.elim
              | some ob2 =>
                cases ob2 with
                | lst _ => rw [en] at h; exact h.elim
                | dK _ _ => rw [en] at h; exact h.elim
                | lk ks2 ds2 =>
                  rw [en] at h
                  obtain ⟨ob3, kvs3, hz3, ek3, l3⟩ := R'.ob n a _ ha' en
                  rw [hz] at hz3
                  cases hz3
                  obtain ⟨ws, R2, dn2, hw⟩ := o'.freeze R'
                  have R3 := R2.put (u := .dK kvs) (o := .dK ks2 ds2) ha' ⟨kvs, upd_same, ek3, l3.mono0 (Ex0.new o'.h0)⟩
                  have xx := x1.trans x'
                  refine h (.ref Dl) (upd H0' Dl (.lst ws)) ρ' _ ⟨⟨fun b u e => ?_, xx.e.r⟩, fun b u e nb => ?_, fun b ob u e => ?_⟩ R3 dn2
                  · rcases xx.e.h b u e with z | ⟨z1, ob, z⟩
                    · exact .inl (by rw [upd_ne (ne_of_none z o'.h0)]; exact z)
                    · exact .inr ⟨z1, ob, by rw [upd_ne (ne_of_none z o'.h0)]; exact z⟩
                  · obtain ⟨n1, k1, z⟩ := xx.f b u e nb
                    have nba : b ≠ a := fun q => nb (q ▸ hm)
                    have e1 : upd H a (.frz od (.dK kvs)) b = some u := by rw [upd_ne nba]; exact e
                    refine ⟨n1, fun q => by rw [upd_ne (ne_of_none e1 hD)]; exact k1 q, ?_⟩
                    rw [upd_ne nba]
                    exact z
                  · have nba : b ≠ a := fun q => by
                      rw [q, hk] at e
                      cases e
                    rw [upd_ne nba]
                    exact xx.z b ob u e
          | _ => simp only [es] at h; exact h.elim
      | _ => simp only [ei] at h; exact h.elim
end
section
variable {X : Cx} {cm : Str → Addr} {W : WX} {elt tg : Expr} {ifs : List Expr} {scope : Scope} {own : List (Str × Nat)} {pos py : Pos} {g : TgtD} {t : TstD} {fe : ExpD} {is : List Nat}
theorem de_lcKeys (i : Nat) {y : Str} (hc : X.calm = true) (hN : X.N.Nodup) (ok : BlkOk X.N X.env.scope scope own) (hg : Blk X scope fun Y => DGw Y cm W0 is tg g) (ht : Blk X scope fun Y => DTs Y cm W0 ifs t) (he : Blk X scope fun Y => DE Y cm W0 elt fe)
    (hy : X.N[i]? = some y := by rfl) (hv : Vis X.env.scope y := by first | exact Or.inl rfl | exact Or.inr (Or.inl rfl) | exact Or.inr (Or.inr rfl)) (hd : (y == ("__debug__" : Str)) = false := by decide) (hcd : (y == ("__classdict__" : Str)) = false := by decide)
    (sub : ∀ i ∈ is, i ∈ own.map (·.2) := by decide) (hs : ∀ x, foldedSetIterable (.Name y py) X.env x = pure x := by intro _; rfl) : DE X cm W (.ListComp elt [⟨tg, .Name y py, ifs, 0⟩] scope pos) (fLcKeys i g t fe (own.map (·.2))) :=
  ⟨PE.imp (pe_lock (pe_lc hc hN (pi_keys (pe_var hy hv hd hcd)) ok (fun s H C cl fp => (hg s H C cl fp).pg) (fun s H C cl fp => (ht s H C cl fp).pt) (fun s H C cl fp => (he s H C cl fp).pe) hs)) fun _ _ _ h => keys_imp sub h⟩
end
end Z

set_option maxHeartbeats 4000000
namespace Z
open PySem PySem.Spec PyProof.Rows L2

/-! ### what the head tells -/
theorem fd_zero {P : Program} {w : World} {K : PySem.W.Frag} {mg : Str → Option Value} {base : Heap} {cm : Str → Addr} {x : Str} {st : Stmt} {ps : List Str} (at_ : At K mg x st) (bd : Bnd x st ps) : FdI P w K mg base cm 0 x st ps (fun _ _ => .no) := by
  obtain ⟨f, fd, F, hm⟩ := at_
  exact ⟨f, fd, F, hm, ⟨fun vs H Q E h => h.1, fun A outer s H args us vs Q E hr he hb hv h => by
    obtain ⟨_, _, _, _, _, _, _, q⟩ := h
    exact q.elim⟩, F.bindsN bd⟩
def subT (t : List ((Str × Str) × Bool)) (c h : Str) : Option Bool := t.lookup (c, h)
theorem subT_ok {K : PySem.W.Frag} {cm : Str → Addr} {t : List ((Str × Str) × Bool)} (h : ∀ q ∈ t, PySem.W.exmOne K (.ref (cm q.1.1)) (.ref (cm q.1.2)) = some q.2) : SubOk K cm (subT t) := fun c h1 b e => by
  unfold subT at e
  have key : ∀ {l : List ((Str × Str) × Bool)} {p : Str × Str} {b : Bool}, l.lookup p = some b → (p, b) ∈ l := fun {l p b} => by
    induction l with
    | nil => intro q; cases q
    | cons q l ih =>
      intro z
      rw [List.lookup_cons] at z
      cases e2 : (p == q.1) with
      | true =>
        rw [e2] at z
        simp only at z
        have e3 := eq_of_beq e2
        cases z
        rw [e3]
        exact List.mem_cons_self
      | false =>
        rw [e2] at z
        exact List.mem_cons_of_mem _ (ih z)
  exact h _ (key e)
/-- a class over ValueError -/
def clsB (K : PySem.W.Frag) (C : Addr) : Bool := match K.lookup C with
  | some ⟨.type "type", _, .cls cd, sl⟩ => (match cd.mro, sl.toList with
    | .ref C' :: bm, [_, _, _, _, some (.builtin n), _] => C' == C && n == "ValueError.__new__" && !cd.hasDel && cd.hasDict && PySem.HandSPX.refsVE bm
    | _, _ => false)
  | _ => false
theorem clsB_ok {K : PySem.W.Frag} {C : Addr} (h : clsB K C = true) : ∃ nm q N bs bm sn sub ab col dd k0 k1 k2 k3 k5, K.lookup C = some (excClassObj nm q C N bs bm true sn sub ab col dd k0 k1 k2 k3 k5 "ValueError.__new__") ∧ PySem.HandSPX.refsVE bm = true := by
  unfold clsB at h
  split at h
  · rename_i dd cd sl ho
    split at h
    · rename_i C' bm k0 k1 k2 k3 n k5 hm hs
      simp only [Bool.and_eq_true, beq_iff_eq, Bool.not_eq_true'] at h
      obtain ⟨⟨⟨⟨rfl, rfl⟩, hdel⟩, hdic⟩, ht⟩ := h
      obtain ⟨nm, bs, mro, ns, qn, hd, sn, sub, ab, col, del⟩ := cd
      dsimp only at hm hdel hdic
      subst hm hdel hdic
      obtain ⟨l⟩ := sl
      simp only at hs
      subst hs
      exact ⟨nm, qn, ns, bs, bm, sn, sub, ab, col, dd, k0, k1, k2, k3, k5, ho, ht⟩
    · cases h
  · cases h
def errB (K : PySem.W.Frag) (x fl : Str) : Bool := clsB K (He.ga K x) && (xfB K (He.ga K x) && (decide (PySem.W.findIn K (.ref (He.ga K x)) fl = some none) && (decide (PySem.W.findIn K (.ref (He.ga K x)) "__init__" = some (some (.ref (He.fAd K (x, some "__init__"))))) &&
  (decide (PySem.W.typeIn K (.ref (He.fAd K (x, some "__init__"))) = some (.type "function")) && (decide (PySem.W.findIn K (.ref (He.ga K x)) "__setattr__" = some (some (.builtin "object.__setattr__"))) &&
  (decide (PySem.W.typeIn K (.ref (He.ga K x)) = some (.type "type")) && PySem.W.keepIn K (.ref (He.ga K x))))))))
theorem errB_ok {P : Program} {w : World} {K : PySem.W.Frag} {mg : Str → Option Value} {base : Heap} {x fl : Str} {ps : List Str} {fd : FuncData} (h : errB K x fl = true) (hm : mg x = some (.ref (He.ga K x))) (ok : FnOk P w K mg base (L2.CX P w) 1 (He.fAd K (x, some "__init__")) fd ps (spNew K fl) ∧ Binds K fd ps []) : ErrD P w K mg base x fl (He.ga K x) := by
  obtain ⟨h1, h⟩ := Bool.and_eq_true_iff.mp h
  obtain ⟨h2, h⟩ := Bool.and_eq_true_iff.mp h
  obtain ⟨h3, h⟩ := Bool.and_eq_true_iff.mp h
  obtain ⟨h4, h⟩ := Bool.and_eq_true_iff.mp h
  obtain ⟨h5, h⟩ := Bool.and_eq_true_iff.mp h
  obtain ⟨h6, h⟩ := Bool.and_eq_true_iff.mp h
  obtain ⟨h7, h8⟩ := Bool.and_eq_true_iff.mp h
  have X := xfB_ok h2
  exact ⟨⟨clsB_ok h1, of_decide_eq_true h6, X.exC, of_decide_eq_true h7, h8⟩, X, of_decide_eq_true h3, hm, _, fd, ps, of_decide_eq_true h4, of_decide_eq_true h5, ok⟩
def exmB (K : PySem.W.Frag) (t : List ((Str × Str) × Bool)) : Bool := t.all fun q => decide (PySem.W.exmOne K (.ref (He.ga K q.1.1)) (.ref (He.ga K q.1.2)) = some q.2)
theorem exmB_ok {K : PySem.W.Frag} {t : List ((Str × Str) × Bool)} (h : exmB K t = true) : SubOk K (He.ga K) (subT t) := subT_ok fun q hq => of_decide_eq_true (List.all_eq_true.mp h q hq)
/-- the law's end -/
theorem law_end {P : Program} {w : World} {K : PySem.W.Frag} {mg : Str → Option Value} {cm : Str → Addr} {k : Nat} {st : Stmt} {M : Sem} {f : Addr} {fd : FuncData} (F : FunD K "law" "law" (defArgs st) (defBody st) (defScope st) [] [] f fd) (hm : mg "law" = some (.ref f))
    (hF : ∀ base : Heap, K.In base → base.Ns mainGlobals mg → FdI P w K mg base cm k "law" st ["script"] M) (law : ∀ ns : List Int, ns.length ≤ 63 → ∃ s, M [.scr (ns.map D.int)] [] = .ok (.bl true) s) :
    ∃ sp : Sp, (∀ (H : Hp) (a : Addr) (ns : List Int), ns.length ≤ 63 → L2.Only H → SqL K H a (ns.map V.int) → sp [.ref a] H (fun v _ => v = .bl true) fun _ _ _ => False) ∧ ∀ base : Heap, K.In base → base.Ns mainGlobals mg → FnOk P w K mg base CX0 k f fd ["script"] sp := by
  refine ⟨fun vs H Q _ => spD K cm 1 M vs H Q fun _ _ _ => False, fun H a ns hl _ hS => ?_, fun base X G => ?_⟩
  · obtain ⟨s, e⟩ := law ns hl
    refine ⟨rfl, H, [], [.scr (ns.map D.int)], [], ⟨fun _ _ q => q, rfl, List.nodup_nil, fun _ q => (List.not_mem_nil q).elim, fun k a o q _ => nomatch (show (none : Option Addr) = some a from q)⟩, .cons (.scr hS ?_) .nil, ?_⟩
    · clear hS hl e
      induction ns with
      | nil => exact .nil
      | cons n ns ih => exact .cons (.int n) ih
    · rw [e]
      intro v H0' ρ' H' x R dn
      cases dn
      rfl
  · obtain ⟨f2, fd2, F2, hm2, ok, bd⟩ := (hF base X G).ex
    rw [hm] at hm2
    cases hm2
    have efd : fd = fd2 := by
      obtain ⟨oc, od, dV, kV, doc, pm', an, cdv, ct, osl, efd, lk, hcd, hD, hK⟩ := F.ex
      obtain ⟨oc', od', dV', kV', doc', pm'', an', cdv', ct', osl', efd', lk', hcd', hD', hK'⟩ := F2.ex
      rw [lk] at lk'
      injection lk' with e1
      injection e1 with e2 e3 e4 e5
      injection e4
    subst efd
    exact ⟨fun vs H Q E h => h.1, fun A outer s H args us vs Q E hr he hb hv h => codeAny_mono (ok.run A outer s H args us vs Q (fun _ _ _ => False) hr he hb hv h) fun r s' q => by
      cases r with
      | error e =>
        obtain ⟨_, _, _, _, _, _, _, _, _, _, _, _, z⟩ := q
        exact z.elim
      | ok fl => cases fl <;> exact q⟩
end Z

set_option maxHeartbeats 4000000
namespace Z
open PySem PySem.Spec PyProof.Rows L2

/-! ### the meanings, step by step: each constant waits for what it hangs on -/
section
variable {env : Env} {st s : Sto} {f g h : ExpD} {ga : ArgD} {d x y : D} {ds : List D} {c fl : Str} {op o1 o2 : D → D → Sto → Res D} {i j : Int} {t u : TstD} {sa sb : StmD} {e : Env}
@[simp] theorem ev_var (i : Nat) : fVar i env st = match env[i]? with | some (some d) => .ok d st | _ => .no := rfl
@[simp] theorem ev_c : fC d env st = .ok d st := rfl
@[simp] theorem ev_nil : fNil env st = .ok [] st := rfl
def k_cons1 (ga : ArgD) (env : Env) : Res D → Res (List D) | .ok d s => (ga env s).bind fun ds s2 => .ok (d :: ds) s2 | .ex c f d s => .ex c f d s | .no => .no
def k_cons2 (d : D) : Res (List D) → Res (List D) | .ok ds s => .ok (d :: ds) s | .ex c f d s => .ex c f d s | .no => .no
@[simp] theorem ev_cons : fCons f ga env st = k_cons1 ga env (f env st) := by
  show (f env st).bind _ = _
  cases f env st <;> rfl
@[simp] theorem k_cons1_ok : k_cons1 ga env (.ok d s) = k_cons2 d (ga env s) := by
  show (ga env s).bind _ = _
  cases ga env s <;> rfl
@[simp] theorem k_cons1_ex : k_cons1 ga env (.ex c fl d s) = .ex c fl d s := rfl
@[simp] theorem k_cons2_ok : k_cons2 d (.ok ds s) = .ok (d :: ds) s := rfl
@[simp] theorem k_cons2_ex : k_cons2 d (.ex c fl x s) = .ex c fl x s := rfl
def k_op1 (op : D → D → Sto → Res D) (g : ExpD) (env : Env) : Res D → Res D | .ok x s => (g env s).bind fun y s2 => op x y s2 | .ex c f d s => .ex c f d s | .no => .no
def k_op2 (op : D → D → Sto → Res D) (x : D) : Res D → Res D | .ok y s => op x y s | .ex c f d s => .ex c f d s | .no => .no
@[simp] theorem ev_op : fOp op f g env st = k_op1 op g env (f env st) := by
  show (f env st).bind _ = _
  cases f env st <;> rfl
@[simp] theorem k_op1_ok : k_op1 op g env (.ok d s) = k_op2 op d (g env s) := by
  show (g env s).bind _ = _
  cases g env s <;> rfl
@[simp] theorem k_op1_ex : k_op1 op g env (.ex c fl d s) = .ex c fl d s := rfl
@[simp] theorem k_op2_ok : k_op2 op x (.ok y s) = op x y s := rfl
@[simp] theorem k_op2_ex : k_op2 op x (.ex c fl d s) = .ex c fl d s := rfl
def k_un (op : D → Sto → Res D) : Res D → Res D | .ok x s => op x s | .ex c f d s => .ex c f d s | .no => .no
@[simp] theorem ev_un {op : D → Sto → Res D} : fUn op f env st = k_un op (f env st) := by
  show (f env st).bind _ = _
  cases f env st <;> rfl
@[simp] theorem k_un_ok {op : D → Sto → Res D} : k_un op (.ok x s) = op x s := rfl
@[simp] theorem k_un_ex {op : D → Sto → Res D} : k_un op (.ex c fl d s) = .ex c fl d s := rfl
def k_call (F : Sem) : Res (List D) → Res D | .ok ds s => F ds s | .ex c f d s => .ex c f d s | .no => .no
@[simp] theorem ev_call {F : Sem} : fCall F ga env st = k_call F (ga env st) := by
  show (ga env st).bind _ = _
  cases ga env st <;> rfl
@[simp] theorem k_call_ok {F : Sem} : k_call F (.ok ds s) = F ds s := rfl
@[simp] theorem k_call_ex {F : Sem} : k_call F (.ex c fl d s) = .ex c fl d s := rfl
@[simp] theorem ev_callK {F : Sem} {pm : List Nat} : fCallK F pm ga env st = k_call (fun ds s => F (perm pm ds) s) (ga env st) := by
  show (ga env st).bind _ = _
  cases ga env st <;> rfl
/-! tests -/
def k_test : Res D → Res Bool | .ok (.bl b) s => .ok b s | .ex c f d s => .ex c f d s | _ => .no
@[simp] theorem ev_test : fTest f env st = k_test (f env st) := by
  show (f env st).bind _ = _
  cases f env st with
  | ok d s => cases d <;> rfl
  | _ => rfl
@[simp] theorem k_test_ok {b : Bool} : k_test (.ok (.bl b) s) = .ok b s := rfl
@[simp] theorem k_test_ex : k_test (.ex c fl d s) = .ex c fl d s := rfl
def k_tru : Res D → Res Bool | .ok d s => (match truD s d with | some b => .ok b s | none => .no) | .ex c f d s => .ex c f d s | .no => .no
@[simp] theorem ev_tru : fTru f env st = k_tru (f env st) := by
  show (f env st).bind _ = _
  cases f env st <;> rfl
@[simp] theorem k_tru_bl {b : Bool} : k_tru (.ok (.bl b) s) = .ok b s := rfl
@[simp] theorem k_tru_int : k_tru (.ok (.int i) s) = .ok (i != 0) s := rfl
@[simp] theorem k_tru_non : k_tru (.ok .non s) = .ok false s := rfl
@[simp] theorem k_tru_lst : k_tru (.ok (.lst ds) s) = .ok (!ds.isEmpty) s := rfl
@[simp] theorem k_tru_tup : k_tru (.ok (.tup ds) s) = .ok (!ds.isEmpty) s := rfl
@[simp] theorem k_tru_ex : k_tru (.ex c fl d s) = .ex c fl d s := rfl
def k_and (u : TstD) (env : Env) : Res Bool → Res Bool | .ok true s => u env s | .ok false s => .ok false s | .ex c f d s => .ex c f d s | .no => .no
def k_or (u : TstD) (env : Env) : Res Bool → Res Bool | .ok true s => .ok true s | .ok false s => u env s | .ex c f d s => .ex c f d s | .no => .no
@[simp] theorem ev_and : fAnd t u env st = k_and u env (t env st) := by
  show (t env st).bind _ = _
  cases t env st with
  | ok b s => cases b <;> rfl
  | _ => rfl
@[simp] theorem ev_or : fOr t u env st = k_or u env (t env st) := by
  show (t env st).bind _ = _
  cases t env st with
  | ok b s => cases b <;> rfl
  | _ => rfl
@[simp] theorem k_and_t : k_and u env (.ok true s) = u env s := rfl
@[simp] theorem k_and_f : k_and u env (.ok false s) = .ok false s := rfl
@[simp] theorem k_and_ex : k_and u env (.ex c fl d s) = .ex c fl d s := rfl
@[simp] theorem k_or_t : k_or u env (.ok true s) = .ok true s := rfl
@[simp] theorem k_or_f : k_or u env (.ok false s) = u env s := rfl
@[simp] theorem k_or_ex : k_or u env (.ex c fl d s) = .ex c fl d s := rfl
def k_not : Res Bool → Res Bool | .ok b s => .ok (!b) s | .ex c f d s => .ex c f d s | .no => .no
@[simp] theorem ev_not : fNot t env st = k_not (t env st) := by
  show (t env st).bind _ = _
  cases t env st <;> rfl
@[simp] theorem k_not_ok {b : Bool} : k_not (.ok b s) = .ok (!b) s := rfl
@[simp] theorem k_not_ex : k_not (.ex c fl d s) = .ex c fl d s := rfl
def k_if (f g : ExpD) (env : Env) : Res Bool → Res D | .ok true s => f env s | .ok false s => g env s | .ex c f d s => .ex c f d s | .no => .no
@[simp] theorem ev_if : fIf t f g env st = k_if f g env (t env st) := by
  show (t env st).bind _ = _
  cases t env st with
  | ok b s => cases b <;> rfl
  | _ => rfl
@[simp] theorem k_if_t : k_if f g env (.ok true s) = f env s := rfl
@[simp] theorem k_if_f : k_if f g env (.ok false s) = g env s := rfl
@[simp] theorem k_if_ex : k_if f g env (.ex c fl d s) = .ex c fl d s := rfl
def k_andV (g : ExpD) (env : Env) : Res D → Res D | .ok (.bl true) s => g env s | .ok (.bl false) s => .ok (.bl false) s | .ex c f d s => .ex c f d s | _ => .no
def k_orV (g : ExpD) (env : Env) : Res D → Res D | .ok (.bl true) s => .ok (.bl true) s | .ok (.bl false) s => g env s | .ex c f d s => .ex c f d s | _ => .no
@[simp] theorem ev_andV : fAndV f g env st = k_andV g env (f env st) := by
  show (f env st).bind _ = _
  cases f env st with
  | ok d s =>
    cases d with
    | bl b => cases b <;> rfl
    | _ => rfl
  | _ => rfl
@[simp] theorem ev_orV : fOrV f g env st = k_orV g env (f env st) := by
  show (f env st).bind _ = _
  cases f env st with
  | ok d s =>
    cases d with
    | bl b => cases b <;> rfl
    | _ => rfl
  | _ => rfl
@[simp] theorem k_andV_t : k_andV g env (.ok (.bl true) s) = g env s := rfl
@[simp] theorem k_andV_f : k_andV g env (.ok (.bl false) s) = .ok (.bl false) s := rfl
@[simp] theorem k_andV_ex : k_andV g env (.ex c fl d s) = .ex c fl d s := rfl
@[simp] theorem k_orV_t : k_orV g env (.ok (.bl true) s) = .ok (.bl true) s := rfl
@[simp] theorem k_orV_f : k_orV g env (.ok (.bl false) s) = g env s := rfl
@[simp] theorem k_orV_ex : k_orV g env (.ex c fl d s) = .ex c fl d s := rfl
def k_notV : Res D → Res D | .ok (.bl b) s => .ok (.bl (!b)) s | .ex c f d s => .ex c f d s | _ => .no
@[simp] theorem ev_notV : fNotV f env st = k_notV (f env st) := by
  show (f env st).bind _ = _
  cases f env st with
  | ok d s => cases d <;> rfl
  | _ => rfl
@[simp] theorem k_notV_ok {b : Bool} : k_notV (.ok (.bl b) s) = .ok (.bl (!b)) s := rfl
@[simp] theorem k_notV_ex : k_notV (.ex c fl d s) = .ex c fl d s := rfl
/-! chains: here unfolded at once -/
def k_ch1 (o p : D → D → Sto → Res D) (g h : ExpD) (env : Env) : Res D → Res D | .ok x s => fChain o p (fC x) g h env s | .ex c f d s => .ex c f d s | .no => .no
def k_ch2 (o p : D → D → Sto → Res D) (h : ExpD) (env : Env) (x : D) : Res D → Res D | .ok y s => fChain o p (fC x) (fC y) h env s | .ex c f d s => .ex c f d s | .no => .no
def k_ch3 (p : D → D → Sto → Res D) (h : ExpD) (env : Env) (y : D) : Res D → Res D | .ok (.bl true) s => (h env s).bind fun w s4 => p y w s4 | .ok (.bl false) s => .ok (.bl false) s | .ex c f d s => .ex c f d s | _ => .no
theorem ev_chain : fChain o1 o2 f g h env st = k_ch1 o1 o2 g h env (f env st) := by
  show (f env st).bind _ = _
  cases f env st <;> rfl
theorem k_ch1_ok : k_ch1 o1 o2 g h env (.ok x s) = k_ch2 o1 o2 h env x (g env s) := by
  show (g env s).bind _ = _
  cases g env s <;> rfl
/-! slices -/
def k_tup : Res (List D) → Res D | .ok ds s => .ok (.tup ds) s | .ex c f d s => .ex c f d s | .no => .no
def k_lst : Res (List D) → Res D | .ok ds s => .ok (.lst ds) s | .ex c f d s => .ex c f d s | .no => .no
def k_lstO : Res (List D) → Res D | .ok ds s => .ok (.loc s.length) (s ++ [.lst ds]) | .ex c f d s => .ex c f d s | .no => .no
@[simp] theorem ev_tup : fTup ga env st = k_tup (ga env st) := by
  show (ga env st).bind _ = _
  cases ga env st <;> rfl
@[simp] theorem ev_lst : fLst ga env st = k_lst (ga env st) := by
  show (ga env st).bind _ = _
  cases ga env st <;> rfl
@[simp] theorem ev_lstO : fLstO ga env st = k_lstO (ga env st) := by
  show (ga env st).bind _ = _
  cases ga env st <;> rfl
@[simp] theorem k_tup_ok : k_tup (.ok ds s) = .ok (.tup ds) s := rfl
@[simp] theorem k_tup_ex : k_tup (.ex c fl d s) = .ex c fl d s := rfl
@[simp] theorem k_lst_ok : k_lst (.ok ds s) = .ok (.lst ds) s := rfl
@[simp] theorem k_lst_ex : k_lst (.ex c fl d s) = .ex c fl d s := rfl
@[simp] theorem k_lstO_ok : k_lstO (.ok ds s) = .ok (.loc s.length) (s ++ [.lst ds]) := rfl
@[simp] theorem k_lstO_ex : k_lstO (.ex c fl d s) = .ex c fl d s := rfl
def k_isi (n : PT) : Res D → Res D | .ok d s => (match tyD s d with | some t => .ok (.bl (isPT t n)) s | none => .no) | .ex c f d s => .ex c f d s | .no => .no
def k_isiT (ns : List PT) : Res D → Res D | .ok d s => (match tyD s d with | some t => .ok (.bl (ns.any fun n => isPT t n)) s | none => .no) | .ex c f d s => .ex c f d s | .no => .no
@[simp] theorem ev_isi {n : PT} : fIsi n f env st = k_isi n (f env st) := by
  show (f env st).bind _ = _
  cases f env st <;> rfl
@[simp] theorem ev_isiT {n : List PT} : fIsiT n f env st = k_isiT n (f env st) := by
  show (f env st).bind _ = _
  cases f env st <;> rfl
theorem k_isi_ty {n t : PT} (h : tyD s d = some t) : k_isi n (.ok d s) = .ok (.bl (isPT t n)) s := by
  show (match tyD s d with | some t => (Res.ok (D.bl (isPT t n)) s : Res D) | none => .no) = _
  rw [h]
theorem k_isiT_ty {n : List PT} {t : PT} (h : tyD s d = some t) : k_isiT n (.ok d s) = .ok (.bl (n.any fun n => isPT t n)) s := by
  show (match tyD s d with | some t => (Res.ok (D.bl (n.any fun n => isPT t n)) s : Res D) | none => .no) = _
  rw [h]
@[simp] theorem k_isi_ok {n : PT} : k_isi n (.ok d s) = match tyD s d with | some t => .ok (.bl (isPT t n)) s | none => .no := rfl
@[simp] theorem k_isiT_ok {n : List PT} : k_isiT n (.ok d s) = match tyD s d with | some t => .ok (.bl (n.any fun n => isPT t n)) s | none => .no := rfl
@[simp] theorem k_isi_ex {n : PT} : k_isi n (.ex c fl d s) = .ex c fl d s := rfl
def k_m1 (op : D → D → Sto → Res D) (g : ExpD) (env : Env) : Res D → Res D | .ok o s => (match isLoc o s with | true => (g env s).bind fun d s2 => op o d s2 | false => .no) | .ex c f d s => .ex c f d s | .no => .no
@[simp] theorem ev_m1 : fMeth1 op f g env st = k_m1 op g env (f env st) := by
  show (f env st).bind _ = _
  cases f env st <;> rfl
theorem k_m1_ok (hl : isLoc d s = true) : k_m1 op g env (.ok d s) = k_op2 op d (g env s) := by
  show (match isLoc d s with | true => (g env s).bind fun d2 s2 => op d d2 s2 | false => .no) = _
  rw [hl]
  show (g env s).bind _ = _
  cases g env s <;> rfl
/-! statements -/
@[simp] theorem ev_skip : sSkip env st = .nx env st := rfl
def k_seq (b : StmD) : Ctl → Ctl | .nx e s => b e s | r => r
@[simp] theorem ev_seq : sSeq sa sb env st = k_seq sb (sa env st) := rfl
@[simp] theorem k_seq_nx : k_seq sb (.nx e s) = sb e s := rfl
@[simp] theorem k_seq_rt : k_seq sb (.rt d s) = .rt d s := rfl
@[simp] theorem k_seq_bk : k_seq sb (.bk e s) = .bk e s := rfl
@[simp] theorem k_seq_ct : k_seq sb (.ct e s) = .ct e s := rfl
@[simp] theorem k_seq_ex : k_seq sb (.ex c fl d e s) = .ex c fl d e s := rfl
def k_asg (g : TgtD) (env : Env) : Res D → Ctl | .ok d s => (g d env s).stm env | .ex c f d s => .ex c f d env s | .no => .no
@[simp] theorem ev_asg {g : TgtD} : sAsg f g env st = k_asg g env (f env st) := by
  show (f env st).thn env _ = _
  cases f env st <;> rfl
def k_stm (env : Env) : Res Env → Ctl | .ok e s => .nx e s | .ex c f d s => .ex c f d env s | .no => .no
@[simp] theorem k_asg_ok {g : TgtD} : k_asg g env (.ok d s) = k_stm env (g d env s) := by
  show (g d env s).stm env = _
  cases g d env s <;> rfl
@[simp] theorem k_asg_ex {g : TgtD} : k_asg g env (.ex c fl d s) = .ex c fl d env s := rfl
@[simp] theorem k_stm_ok : k_stm env (.ok e s) = .nx e s := rfl
@[simp] theorem k_stm_ex : k_stm env (.ex c fl d s) = .ex c fl d env s := rfl
@[simp] theorem ev_gN {i : Nat} : gN i d env st = .ok (env.set i (some d)) st := rfl
@[simp] theorem ev_gsNil : gsNil [] env st = .ok env st := rfl
def k_gs (u : TgtsD) (ds : List D) : Res Env → Res Env | .ok e s => (u ds e s).calm | _ => .no
@[simp] theorem ev_gsCons {g : TgtD} {u : TgtsD} : gsCons g u (d :: ds) env st = k_gs u ds (g d env st) := by
  show (g d env st).calm.bind _ = _
  cases g d env st <;> rfl
@[simp] theorem k_gs_ok {u : TgtsD} : k_gs u ds (.ok e s) = (u ds e s).calm := rfl
@[simp] theorem ev_gT {n : Nat} {u : TgtsD} : gT n u (.tup ds) env st = match decide (ds.length = n) with | true => u ds env st | false => .no := rfl
def k_drop (env : Env) : Res D → Ctl | .ok _ s => .nx env s | .ex c f d s => .ex c f d env s | .no => .no
@[simp] theorem ev_drop : sDrop f env st = k_drop env (f env st) := by
  show (f env st).thn env _ = _
  cases f env st <;> rfl
@[simp] theorem k_drop_ok : k_drop env (.ok d s) = .nx env s := rfl
@[simp] theorem k_drop_ex : k_drop env (.ex c fl d s) = .ex c fl d env s := rfl
def k_ret (env : Env) : Res D → Ctl | .ok d s => .rt d s | .ex c f d s => .ex c f d env s | .no => .no
@[simp] theorem ev_ret : sRet f env st = k_ret env (f env st) := by
  show (f env st).thn env _ = _
  cases f env st <;> rfl
@[simp] theorem k_ret_ok : k_ret env (.ok d s) = .rt d s := rfl
@[simp] theorem k_ret_ex : k_ret env (.ex c fl d s) = .ex c fl d env s := rfl
@[simp] theorem ev_retN : sRetN env st = .rt .non st := rfl
@[simp] theorem ev_brk : sBrk env st = .bk env st := rfl
@[simp] theorem ev_cnt : sCnt env st = .ct env st := rfl
def k_sif (a b : StmD) (env : Env) : Res Bool → Ctl | .ok true s => a env s | .ok false s => b env s | .ex c f d s => .ex c f d env s | .no => .no
@[simp] theorem ev_sif : sIf t sa sb env st = k_sif sa sb env (t env st) := by
  show (t env st).thnB env _ = _
  cases t env st with
  | ok b s => cases b <;> rfl
  | _ => rfl
@[simp] theorem k_sif_t : k_sif sa sb env (.ok true s) = sa env s := rfl
@[simp] theorem k_sif_f : k_sif sa sb env (.ok false s) = sb env s := rfl
@[simp] theorem k_sif_ex : k_sif sa sb env (.ex c fl d s) = .ex c fl d env s := rfl
def k_par (i j : Nat) (env : Env) : Res (List D) → Ctl | .ok [x, y] s => .nx ((env.set i (some x)).set j (some y)) s | .ex c f d s => .ex c f d env s | _ => .no
@[simp] theorem ev_par {i j : Nat} : sPar i j ga env st = k_par i j env (ga env st) := rfl
@[simp] theorem k_par_ok {i j : Nat} : k_par i j env (.ok [x, y] s) = .nx ((env.set i (some x)).set j (some y)) s := rfl
@[simp] theorem k_par_ex {i j : Nat} : k_par i j env (.ex c fl d s) = .ex c fl d env s := rfl
def k_par3 (i j l : Nat) (env : Env) : Res (List D) → Ctl | .ok [x, y, z] s => .nx (((env.set i (some x)).set j (some y)).set l (some z)) s | .ex c f d s => .ex c f d env s | _ => .no
@[simp] theorem ev_par3 {i j l : Nat} : sPar3 i j l ga env st = k_par3 i j l env (ga env st) := rfl
@[simp] theorem k_par3_ok {i j l : Nat} {z : D} : k_par3 i j l env (.ok [x, y, z] s) = .nx (((env.set i (some x)).set j (some y)).set l (some z)) s := rfl
@[simp] theorem k_par3_ex {i j l : Nat} : k_par3 i j l env (.ex c fl d s) = .ex c fl d env s := rfl
def k_raise (cn fn : Str) (env : Env) : Res D → Ctl | .ok d s => .ex cn fn d env s | .ex c f d s => .ex c f d env s | .no => .no
@[simp] theorem ev_raise {cn fn : Str} : sRaise cn fn f env st = k_raise cn fn env (f env st) := by
  show (f env st).thn env _ = _
  cases f env st <;> rfl
@[simp] theorem k_raise_ok {cn fn : Str} : k_raise cn fn env (.ok d s) = .ex cn fn d env s := rfl
/-! o[i] = e -/
def k_gIx1 (fi : ExpD) (d : D) (env : Env) (r : Res D) : Res Env := r.bind fun o s1 => (fi env s1).bind fun i s2 => match o, i with
  | .loc k, .int n => (match s2[k]? with
    | some (.lst xs) => (match ixN xs.length n with
      | some j => .ok env (s2.set k (.lst (xs.set j d)))
      | none => .no)
    | _ => .no)
  | _, _ => .no
@[simp] theorem ev_gIx : gIx f g d env st = k_gIx1 g d env (f env st) := rfl
def putI (env : Env) (s : Sto) (k : Nat) (n : Int) (d : D) : Res Env := match s[k]? with
    | some (.lst xs) => (match ixN xs.length n with
      | some j => .ok env (s.set k (.lst (xs.set j d)))
      | none => .no)
    | _ => .no
def k_gIx2 (o d : D) (env : Env) : Res D → Res Env | .ok (.int n) s => (match o with | .loc k => putI env s k n d | _ => .no) | .ex c f d s => .ex c f d s | _ => .no
@[simp] theorem k_gIx1_ok {k : Nat} : k_gIx1 g d env (.ok (.loc k) s) = k_gIx2 (.loc k) d env (g env s) := by
  show (g env s).bind _ = _
  cases g env s with
  | ok i s2 => cases i <;> rfl
  | _ => rfl
@[simp] theorem k_gIx2_ok {k : Nat} : k_gIx2 (.loc k) d env (.ok (.int i) s) = putI env s k i d := rfl
theorem putI_at {k : Nat} {xs : List D} {j : Nat} (h : s[k]? = some (.lst xs)) (hj : ixN xs.length i = some j) : putI env s k i d = .ok env (s.set k (.lst (xs.set j d))) := by
  unfold putI
  rw [h]
  simp only [hj]
/-! operators -/
@[simp] theorem oAdd_int : oAdd (.int i) (.int j) st = .ok (.int (i + j)) st := rfl
@[simp] theorem oSub_int : oSub (.int i) (.int j) st = .ok (.int (i - j)) st := rfl
theorem oMul_int (h : mulOk i j = true) : oMul (.int i) (.int j) st = .ok (.int (i * j)) st := by
  simp only [oMul, h]
theorem oDiv_int (h : divOk j = true) : oDiv (.int i) (.int j) st = .ok (.int (i.fdiv j)) st := by
  simp only [oDiv, h]
theorem oMod_int (h : j ≠ 0) : oMod (.int i) (.int j) st = .ok (.int (i.fmod j)) st := by
  have h2 : decide (j ≠ 0) = true := decide_eq_true h
  simp only [oMod, h2]
theorem oPow_int (h : powOk i j = true) : oPow (.int i) (.int j) st = .ok (.int (i ^ j.toNat)) st := by
  simp only [oPow, h]
@[simp] theorem oNeg_int : oNeg (.int i) st = .ok (.int (-i)) st := rfl
@[simp] theorem oCmp_int {p : Int → Int → Bool} : oCmp p (.int i) (.int j) st = .ok (.bl (p i j)) st := rfl
@[simp] theorem oEq_int : oEq (.int i) (.int j) st = .ok (.bl (decide (i = j))) st := rfl
@[simp] theorem oNe_int : oNe (.int i) (.int j) st = .ok (.bl (!decide (i = j))) st := rfl
@[simp] theorem oEq_bl {a b : Bool} : oEq (.bl a) (.bl b) st = .ok (.bl (a == b)) st := rfl
@[simp] theorem oNe_bl {a b : Bool} : oNe (.bl a) (.bl b) st = .ok (.bl (!(a == b))) st := rfl
@[simp] theorem oEq_str {a b : Str} : oEq (.str a) (.str b) st = .ok (.bl (decide (a = b))) st := rfl
@[simp] theorem oNe_str {a b : Str} : oNe (.str a) (.str b) st = .ok (.bl (!decide (a = b))) st := rfl
@[simp] theorem oEq_nils : oEq (.lst []) (.lst []) st = .ok (.bl true) st := rfl
@[simp] theorem oIsN_x : oIsN x .non st = .ok (.bl (isNonD x)) st := by cases x <;> rfl
@[simp] theorem oNotN_x : oNotN x .non st = .ok (.bl (!isNonD x)) st := by cases x <;> rfl
@[simp] theorem oIsB_bl {a b : Bool} : oIsB (.bl a) (.bl b) st = .ok (.bl (decide (a = b))) st := rfl
@[simp] theorem isNonD_non : isNonD .non = true := rfl
@[simp] theorem isNonD_bl {b : Bool} : isNonD (.bl b) = false := rfl
@[simp] theorem isNonD_int : isNonD (.int i) = false := rfl
@[simp] theorem isNonD_str {a : Str} : isNonD (.str a) = false := rfl
@[simp] theorem isNonD_tup : isNonD (.tup ds) = false := rfl
@[simp] theorem isNonD_lst : isNonD (.lst ds) = false := rfl
@[simp] theorem isNonD_loc {k : Nat} : isNonD (.loc k) = false := rfl
@[simp] theorem tyD_non : tyD st .non = some .non := rfl
@[simp] theorem tyD_bl {b : Bool} : tyD st (.bl b) = some .bl := rfl
@[simp] theorem tyD_int : tyD st (.int i) = some .int := rfl
@[simp] theorem tyD_str {a : Str} : tyD st (.str a) = some .str := rfl
@[simp] theorem tyD_tup : tyD st (.tup ds) = some .tup := rfl
@[simp] theorem tyD_lst : tyD st (.lst ds) = some .lst := rfl
@[simp] theorem oInt_int : oInt [.int i] st = .ok (.int i) st := rfl
@[simp] theorem oInt1_int {q : Int → D} : oInt1 q [.int i] st = .ok (q i) st := rfl
@[simp] theorem oInt2_int {q : Int → Int → D} : oInt2 q [.int i, .int j] st = .ok (q i j) st := rfl
@[simp] theorem oLen_tup : oLen [.tup ds] st = .ok (.int ds.length) st := rfl
@[simp] theorem oLen_lst : oLen [.lst ds] st = .ok (.int ds.length) st := rfl
@[simp] theorem oLen_scr : oLen [.scr ds] st = .ok (.int ds.length) st := rfl
theorem oIx_seq {xs : List D} (hx : asSeq st x = some xs) (hi : atI xs i = some d) : oIx x (.int i) st = .ok d st := by
  cases x with
  | str z => cases hx
  | _ => simp only [oIx, hx, hi]
@[simp] theorem oIx_tup : oIx (.tup ds) (.int i) st = match atI ds i with | some d => .ok d st | none => .no := rfl
@[simp] theorem oIx_lst : oIx (.lst ds) (.int i) st = match atI ds i with | some d => .ok d st | none => .no := rfl
@[simp] theorem oIx_scr : oIx (.scr ds) (.int i) st = match atI ds i with | some d => .ok d st | none => .no := rfl
theorem oIx_loc {k : Nat} {xs : List D} (h : st[k]? = some (.lst xs)) : oIx (.loc k) (.int i) st = match atI xs i with | some d => .ok d st | none => .no := by
  show (match (match st[k]? with | some (.lst xs) => some xs | _ => none) with | some xs => (match atI xs i with | some d => Res.ok d st | none => .no) | none => .no) = _
  rw [h]
@[simp] theorem runFn_ev {n : Nat} {body : StmD} : runFn n body ds st = (body (ds.map some ++ List.replicate (n - ds.length) none) st).fin := rfl
end
/-! nothing told -/
section
variable {env : Env} {s : Sto} {f g h : ExpD} {ga : ArgD} {d x y : D} {ds : List D} {op : D → D → Sto → Res D} {u : TstD} {sa sb : StmD}
@[simp] theorem k_cons1_no : k_cons1 ga env .no = .no := rfl
@[simp] theorem k_cons2_no : k_cons2 d .no = .no := rfl
@[simp] theorem k_op1_no : k_op1 op g env .no = .no := rfl
@[simp] theorem k_op2_no : k_op2 op x .no = .no := rfl
@[simp] theorem k_call_no {F : Sem} : k_call F .no = .no := rfl
@[simp] theorem k_test_no : k_test .no = .no := rfl
@[simp] theorem k_tru_no : k_tru .no = .no := rfl
@[simp] theorem k_if_no : k_if f g env .no = .no := rfl
@[simp] theorem k_seq_no : k_seq sb .no = .no := rfl
@[simp] theorem k_ret_no : k_ret env .no = .no := rfl
@[simp] theorem k_sif_no : k_sif sa sb env .no = .no := rfl
@[simp] theorem k_drop_no : k_drop env .no = .no := rfl
end
/-! sizes -/
def Sz (k : Nat) (i : Int) : Prop := i.natAbs < 2 ^ k
theorem Sz.mono {k l : Nat} {i : Int} (h : Sz k i) (e : k ≤ l) : Sz l i := Nat.lt_of_lt_of_le h (Nat.pow_le_pow_right (by decide) e)
theorem Sz.mul {k l : Nat} {i j : Int} (h : Sz k i) (g : Sz l j) : Sz (k + l) (i * j) := by
  unfold Sz at *
  rw [Int.natAbs_mul, Nat.pow_add]
  exact Nat.mul_lt_mul'' h g
theorem Sz.add {k l : Nat} {i j : Int} (h : Sz k i) (g : Sz l j) : Sz (k + l + 1) (i + j) := by
  unfold Sz at *
  have h1 := Int.natAbs_add_le i j
  have h2 : 2 ^ k ≤ 2 ^ (k + l) := Nat.pow_le_pow_right (by decide) (by omega)
  have h3 : 2 ^ l ≤ 2 ^ (k + l) := Nat.pow_le_pow_right (by decide) (by omega)
  rw [Nat.pow_succ]
  omega
theorem Sz.neg {k : Nat} {i : Int} (h : Sz k i) : Sz k (-i) := by
  unfold Sz at *
  rw [Int.natAbs_neg]
  exact h
theorem Sz.sub {k l : Nat} {i j : Int} (h : Sz k i) (g : Sz l j) : Sz (k + l + 1) (i - j) := Int.sub_eq_add_neg ▸ h.add g.neg
theorem Sz.ok {k l : Nat} {i j : Int} (h : Sz k i) (g : Sz l j) (e : k + l ≤ 1000000) : mulOk i j = true := by
  unfold mulOk
  have f : ∀ {k : Nat} {i : Int}, Sz k i → i.natAbs.log2 < k ∨ i.natAbs.log2 = 0 := fun {k i} h => by
    unfold Sz at h
    by_cases z : i.natAbs = 0
    · right
      rw [z]
      rfl
    · left
      exact (Nat.log2_lt z).mpr h
  rcases f h with a | a <;> rcases f g with b | b
  · have : i.natAbs.log2 + j.natAbs.log2 < 1000000 := by omega
    simp [this]
  · have : i.natAbs.log2 + j.natAbs.log2 < 1000000 := by omega
    simp [this]
  · have : i.natAbs.log2 + j.natAbs.log2 < 1000000 := by omega
    simp [this]
  · have : i.natAbs.log2 + j.natAbs.log2 < 1000000 := by omega
    simp [this]
theorem Sz.small {i : Int} (h : -(2 ^ 64) < i) (g : i < 2 ^ 64) : Sz 64 i := by
  unfold Sz
  omega
end Z

set_option maxHeartbeats 4000000
namespace Z
open PySem PySem.Spec PyProof.Rows L2

/-! ### the draws: _law_box, _law_take, _law_pick -/
structure Box where
  a : Int
  g : Bool
  c : Int
  n : Int
@[simp] def Box.o (b : Box) : Ob := .lst [.int b.a, .bl b.g, .int b.c, .int b.n]
structure Box.ok (b : Box) (C : Int) : Prop where
  a0 : 0 ≤ b.a
  c0 : 0 ≤ b.c
  c1 : b.c < 2147483648
  n0 : 0 ≤ b.n
  n1 : b.n ≤ C
theorem Box.ok.mono {b : Box} {C C' : Int} (h : b.ok C) (e : C ≤ C') : b.ok C' := ⟨h.a0, h.c0, h.c1, h.n0, by have := h.n1; omega⟩
def b_take (c1 c2 p1 m1 c3 p2 d : Int) : StmD := (sSeq (sIf (fAnd (fTru (fOp oIx (fVar 0) (fC (.int 1)))) (fTest (fOp (oCmp fun i j => decide (j < i)) (fOp oIx (fVar 0) (fC (.int 0))) (fC (.int 0))))) (sSeq (sAsg (fOp oMod (fCall oInt (fCons (fOp oIx (fVar 0) (fC (.int 0))) fNil)) (fVar 1)) (gN 2))
    (sSeq (sAsg (fOp oDiv (fCall oInt (fCons (fOp oIx (fVar 0) (fC (.int 0))) fNil)) (fVar 1)) (gIx (fVar 0) (fC (.int 0))))
    (sRet (fVar 2)))) sSkip)
    (sSeq (sAsg (fOp oAdd (fOp oIx (fVar 0) (fC (.int 3))) (fC (.int 1))) (gIx (fVar 0) (fC (.int 3))))
    (sSeq (sAsg (fOp oMod (fCall oInt (fCons (fOp oPow (fOp oAdd (fOp oAdd (fOp oIx (fVar 0) (fC (.int 2))) (fOp oMul (fC (.int c1)) (fOp oIx (fVar 0) (fC (.int 3))))) (fC (.int c2))) (fC (.int 5))) fNil)) (fC (.int p1))) (gN 3))
    (sRet (fOp oMod (fCall oInt (fCons (fOp oDiv (fOp oMod (fCall oInt (fCons (fOp oPow (fOp oAdd (fOp oMul (fVar 3) (fC (.int m1))) (fOp oMul (fC (.int c3)) (fOp oIx (fVar 0) (fC (.int 3))))) (fC (.int 3))) fNil)) (fC (.int p2))) (fC (.int d))) fNil)) (fVar 1))))))
def TakeC (c1 c2 p1 m1 c3 p2 d : Int) : Bool := decide (0 ≤ c1) && (decide (c1 < 1073741824) && (decide (0 ≤ c2) && (decide (c2 < 2147483648) && (decide (0 < p1) && (decide (p1 ≤ 2147483648) && (decide (0 ≤ m1) && (decide (m1 < 2147483648) && (decide (0 ≤ c3) && (decide (c3 < 2147483648) && (decide (0 < p2) && (decide (0 < d) && decide (d < 1000000))))))))))))
/-- what a take does -/
def TakeS (m : Sem) : Prop := ∀ (st : Sto) (n : Nat) (b : Box) (many C : Int), st[n]? = some b.o → b.ok C → C < 1000000000 → 0 < many → many.natAbs.log2 < 9000 →
  ∃ (r : Int) (b' : Box), m [.loc n, .int many] st = .ok (.int r) (st.set n b'.o) ∧ 0 ≤ r ∧ r < many ∧ b'.ok (C + 1)
theorem set_get {st : Sto} {n : Nat} {o o' : Ob} (h : st[n]? = some o) : (st.set n o')[n]? = some o' := List.getElem?_set_self (List.getElem?_eq_some_iff.mp h).1
theorem powOk_of {i j : Int} (h0 : 0 ≤ j) (h1 : j ≤ 1000000) (h2 : i.natAbs < 2 ^ 64) : powOk i j = true := by
  simp [powOk, h0, h1, h2]
theorem divOk_of {j : Int} (h0 : j ≠ 0) (h : j.natAbs.log2 < 9000) : divOk j = true := by
  simp [divOk, h0, h]
theorem mulOk_l {i j : Int} (h : i.natAbs < 2 ^ 64) : mulOk i j = true := by
  simp only [mulOk, h, decide_true, Bool.true_or]
theorem mulOk_r {i j : Int} (h : j.natAbs < 2 ^ 64) : mulOk i j = true := by
  simp only [mulOk, h, decide_true, Bool.true_or, Bool.or_true]
theorem fmod_lt' {a b : Int} (h : 0 < b) : 0 ≤ a.fmod b ∧ a.fmod b < b := ⟨Int.fmod_nonneg_of_pos a h, Int.fmod_lt_of_pos a h⟩
theorem take_ok {c1 c2 p1 m1 c3 p2 d : Int} (hc : TakeC c1 c2 p1 m1 c3 p2 d = true) : TakeS (runFn 4 (b_take c1 c2 p1 m1 c3 p2 d)) := by
  intro st n b many C hs ok hC hm hl
  unfold TakeC at hc
  simp only [Bool.and_eq_true, decide_eq_true_eq] at hc
  obtain ⟨k1, k2, k3, k4, k5, k6, k7, k8, k9, k10, k11, k12, k13⟩ := hc
  obtain ⟨a, g, c, q⟩ := b
  obtain ⟨a0, c0, c1', n0, n1⟩ := ok
  simp only at a0 c0 c1' n0 n1
  have hl2 := (List.getElem?_eq_some_iff.mp hs).1
  have hs' : st[n]? = some (.lst [.int a, .bl g, .int c, .int q]) := hs
  have hs2 : ∀ xs : List D, (st.set n (.lst xs))[n]? = some (.lst xs) := fun xs => set_get hs
  have hmz : many ≠ 0 := by omega
  have hdiv : divOk many = true := divOk_of hmz hl
  have hmm := fmod_lt' (a := a) hm
  by_cases hg : g = true ∧ 0 < a
  · obtain ⟨rfl, ha⟩ := hg
    refine ⟨a.fmod many, ⟨a.fdiv many, true, c, q⟩, ?_, hmm.1, hmm.2, ?_⟩
    · simp [b_take, oIx_loc hs', atI, ixN, ha, oMod_int hmz, oDiv_int hdiv, putI_at hs']
    · refine ⟨Int.fdiv_nonneg (by omega) (by omega), c0, c1', n0, by show q ≤ C + 1; omega⟩
  · have hq : (q + 1).natAbs < 2 ^ 64 := by omega
    have e1 : 0 ≤ c1 * (q + 1) := Int.mul_nonneg k1 (by omega)
    have e2 : c1 * (q + 1) ≤ 1073741824 * 1000000001 := Int.mul_le_mul (by omega) (by omega) (by omega) (by omega)
    have hp1 : powOk (c + c1 * (q + 1) + c2) 5 = true := powOk_of (by decide) (by decide) (by omega)
    have r1 := fmod_lt' (a := (c + c1 * (q + 1) + c2) ^ 5) k5
    generalize hx : ((c + c1 * (q + 1) + c2) ^ 5).fmod p1 = x at r1
    have e3 : 0 ≤ c3 * (q + 1) := Int.mul_nonneg k9 (by omega)
    have e4 : c3 * (q + 1) ≤ 2147483648 * 1000000001 := Int.mul_le_mul (by omega) (by omega) (by omega) (by omega)
    have e5 : 0 ≤ x * m1 := Int.mul_nonneg r1.1 k7
    have e6 : x * m1 ≤ 2147483648 * 2147483648 := Int.mul_le_mul (by omega) (by omega) (by omega) (by omega)
    have hp2 : powOk (x * m1 + c3 * (q + 1)) 3 = true := powOk_of (by decide) (by decide) (by omega)
    have hd : divOk d = true := divOk_of (by omega) (by
      have h1 : d.natAbs < 2 ^ 20 := by omega
      by_cases z : d.natAbs = 0
      · rw [z]; decide
      · have := (Nat.log2_lt z).mpr h1
        omega)
    have p1z : p1 ≠ 0 := by omega
    have p2z : p2 ≠ 0 := by omega
    have mo1 : mulOk c1 (q + 1) = true := mulOk_r hq
    have mo2 : mulOk x m1 = true := mulOk_r (by omega)
    have mo3 : mulOk c3 (q + 1) = true := mulOk_r hq
    have hmy := fmod_lt' (a := (((x * m1 + c3 * (q + 1)) ^ 3).fmod p2).fdiv d) hm
    refine ⟨((((x * m1 + c3 * (q + 1)) ^ 3).fmod p2).fdiv d).fmod many, ⟨a, g, c, q + 1⟩, ?_, hmy.1, hmy.2, ⟨a0, c0, c1', by show 0 ≤ q + 1; omega, by show q + 1 ≤ C + 1; omega⟩⟩
    cases g with
    | false => simp [b_take, oIx_loc hs', oIx_loc (hs2 _), atI, ixN, putI_at hs', oMul_int mo1, oPow_int hp1, oMod_int p1z, hx, oMul_int mo2, oMul_int mo3, oPow_int hp2, oMod_int p2z, oDiv_int hd, oMod_int hmz]
    | true =>
      have ha : ¬ 0 < a := fun z => hg ⟨rfl, z⟩
      simp [b_take, oIx_loc hs', oIx_loc (hs2 _), atI, ixN, putI_at hs', ha, oMul_int mo1, oPow_int hp1, oMod_int p1z, hx, oMul_int mo2, oMul_int mo3, oPow_int hp2, oMod_int p2z, oDiv_int hd, oMod_int hmz]
end Z

set_option maxHeartbeats 4000000
namespace Z
open PySem PySem.Spec PyProof.Rows L2

/-! ### comprehensions that change nothing -/
theorem lcD_pure {g : TgtD} {t : TstD} {e : ExpD} {env : Env} {e1 : D → Env} {b : D → Bool} {v : D → D} {st : Sto} : ∀ (xs acc : List D), (∀ x ∈ xs, g x env st = .ok (e1 x) st ∧ t (e1 x) st = .ok (b x) st ∧ (b x = true → e (e1 x) st = .ok (v x) st)) → acc.length + xs.length < LIM →
    lcD g t e env xs acc st = .ok (acc ++ (xs.filter b).map v) st
  | [], acc, _, _ => by
    show Res.ok acc st = _
    simp
  | x :: xs, acc, h, hl => by
    obtain ⟨h1, h2, h3⟩ := h x List.mem_cons_self
    have ih := fun acc' hl' => lcD_pure (b := b) xs acc' (fun y hy => h y (List.mem_cons_of_mem _ hy)) hl'
    rw [List.length_cons] at hl
    show (lcStep g t e env x acc st).bind (fun acc' s => lcD g t e env xs acc' s) = _
    cases hb : b x with
    | true =>
      have hs : lcStep g t e env x acc st = .ok (acc ++ [v x]) st := by
        have hd : decide (acc.length < LIM) = true := decide_eq_true (by omega)
        unfold lcStep
        rw [h1]
        simp only [Res.calm_ok, Res.bind_ok, h2, hb, h3 hb, hd]
      rw [hs, Res.bind_ok, ih _ (by rw [List.length_append, List.length_singleton]; omega), List.filter_cons_of_pos hb, List.map_cons, List.append_assoc]
      rfl
    | false =>
      have hs : lcStep g t e env x acc st = .ok acc st := by
        unfold lcStep
        rw [h1]
        simp only [Res.calm_ok, Res.bind_ok, h2, hb]
      rw [hs, Res.bind_ok, ih _ (by omega), List.filter_cons_of_neg (by rw [hb]; exact Bool.false_ne_true)]
theorem lc_pure {fi : ItrD} {g : TgtD} {t : TstD} {e : ExpD} {env : Env} {vs : List Nat} {e1 : D → Env} {b : D → Bool} {v : D → D} {st s : Sto} {xs : List D} (hi : fi env st = .ok (.fz xs) s)
    (h : ∀ x ∈ xs, g x (wipeE env vs) s = .ok (e1 x) s ∧ t (e1 x) s = .ok (b x) s ∧ (b x = true → e (e1 x) s = .ok (v x) s)) (hl : xs.length < LIM) : fLc fi g t e vs env st = .ok (.lst ((xs.filter b).map v)) s := by
  unfold fLc lcR
  rw [hi]
  simp only [Res.bind_ok]
  rw [lcD_pure xs [] h (by simpa using hl)]
  rfl
/-- .. that keeps nothing -/
theorem lc_none {fi : ItrD} {g : TgtD} {t : TstD} {e : ExpD} {env : Env} {vs : List Nat} {e1 : D → Env} {st s : Sto} {xs : List D} (hi : fi env st = .ok (.fz xs) s)
    (h : ∀ x ∈ xs, g x (wipeE env vs) s = .ok (e1 x) s ∧ t (e1 x) s = .ok false s) (hl : xs.length < LIM) : fLc fi g t e vs env st = .ok (.lst []) s := by
  have q := lc_pure (e := e) (v := fun x => x) (b := fun _ => false) hi (fun x hx => ⟨(h x hx).1, (h x hx).2, fun z => by cases z⟩) hl
  have e2 : xs.filter (fun _ => false) = [] := by simp
  rw [e2] at q
  exact q
theorem rgB_nat {n : Nat} (hn : n ≤ 1000000) : rgB (n : Int) = true := by
  unfold rgB
  rw [Bool.and_eq_true, decide_eq_true_eq, decide_eq_true_eq]
  exact ⟨Int.le_trans (by decide : -(2 ^ 62 : Int) ≤ 0) (Int.natCast_nonneg n), Int.lt_of_le_of_lt (Int.ofNat_le.mpr hn) (by decide)⟩
def k_rg1 : Res (List D) → Res SrcD | .ok [.int j] s => (match rgB j with | true => .ok (.fz (rgD 0 1 j.toNat)) s | false => .no) | .ex c f d s => .ex c f d s | _ => .no
theorem ev_rg1 {ga : ArgD} {env : Env} {st : Sto} : fRg1 ga env st = k_rg1 (ga env st) := by
  show (ga env st).bind _ = _
  cases ga env st with
  | ok ds s =>
    cases ds with
    | nil => rfl
    | cons x xs =>
      cases xs with
      | nil => cases x <;> rfl
      | cons y ys => cases x <;> rfl
  | _ => rfl
theorem k_rg1_ok {j : Int} {s : Sto} (h : rgB j = true) : k_rg1 (.ok [.int j] s) = .ok (.fz (rgD 0 1 j.toNat)) s := by
  unfold k_rg1
  simp only [h]
theorem rg1_ok {f : ExpD} {env : Env} {st : Sto} {n : Nat} (h : fCons f fNil env st = .ok [.int n] st) (hn : n ≤ 1000000) : fRg1 (fCons f fNil) env st = .ok (.fz (rgD 0 1 n)) st := by
  rw [ev_rg1, h, k_rg1_ok (rgB_nat hn), Int.toNat_natCast]
theorem rgD_mem {lo c : Int} {n : Nat} {x : D} (h : x ∈ rgD lo c n) : ∃ i : Nat, i < n ∧ x = .int (lo + (i : Int) * c) := by
  unfold rgD at h
  obtain ⟨i, hi, e⟩ := List.mem_map.mp h
  exact ⟨i, List.mem_range.mp hi, e.symm⟩
theorem rgD_len {lo c : Int} {n : Nat} : (rgD lo c n).length = n := by
  unfold rgD
  rw [List.length_map, List.length_range]

/-! ### _law_same -/
def b_same (m : Sem) : StmD := (sSeq (sIf (fOr (fTest (fOp oIsN (fVar 1) (fC .non))) (fTru (fIsi .bl (fVar 1)))) (sRet (fIf (fTest (fOp oIsN (fVar 1) (fC .non))) (fOp oIsN (fVar 0) (fC .non)) (fAndV (fIsi .bl (fVar 0)) (fOp oEq (fOp oIsB (fVar 0) (fC (.bl true))) (fOp oIsB (fVar 1) (fC (.bl true))))))) sSkip)
    (sSeq (sIf (fTru (fIsi .int (fVar 1))) (sRet (fAndV (fIsi .int (fVar 0)) (fAndV (fNotV (fIsi .bl (fVar 0))) (fOp oEq (fOp oSub (fCall oInt (fCons (fVar 0) fNil)) (fVar 1)) (fC (.int 0)))))) sSkip)
    (sSeq (sIf (fTru (fIsi .str (fVar 1))) (sRet (fAndV (fIsi .str (fVar 0)) (fAndV (fOp oEq (fCall oLen (fCons (fVar 0) fNil)) (fCall oLen (fCons (fVar 1) fNil))) (fOp oEq (fLc (fRg1 (fCons (fCall oLen (fCons (fVar 1) fNil)) fNil)) (gN 2) (fTest (fOp oNe (fSl (fVar 0) (fOSome (fVar 2)) (fOSome (fOp oAdd (fVar 2) (fC (.int 1))))) (fOp oIx (fVar 1) (fVar 2)))) (fVar 2) [2]) (fLst fNil))))) sSkip)
    (sSeq (sIf (fTru (fIsi .dct (fVar 1))) (sRet (fAndV (fIsi .dct (fVar 0)) (fAndV (fOp oEq (fCall oLen (fCons (fVar 0) fNil)) (fCall oLen (fCons (fVar 1) fNil))) (fOp oEq (fLcKeys 1 (gN 3) (fOr (fTest (fOp oDnin (fVar 3) (fVar 0))) (fNot (fTru (fCall m (fCons (fOp oDget (fVar 0) (fVar 3)) (fCons (fOp oDget (fVar 1) (fVar 3)) fNil)))))) (fVar 3) [3]) (fLst fNil))))) sSkip)
    (sSeq (sIf (fOr (fNot (fTru (fIsiT [.lst, .tup] (fVar 1)))) (fOr (fTest (fOp oNe (fIsi .lst (fVar 0)) (fIsi .lst (fVar 1)))) (fTest (fOp oNe (fIsi .tup (fVar 0)) (fIsi .tup (fVar 1)))))) (sRet (fC (.bl false))) sSkip)
    (sRet (fAndV (fOp oEq (fCall oLen (fCons (fVar 0) fNil)) (fCall oLen (fCons (fVar 1) fNil))) (fOp oEq (fLc (fRg1 (fCons (fCall oLen (fCons (fVar 1) fNil)) fNil)) (gN 2) (fNot (fTru (fCall m (fCons (fOp oIx (fVar 0) (fVar 2)) (fCons (fOp oIx (fVar 1) (fVar 2)) fNil))))) (fVar 2) [2]) (fLst fNil)))))))))
def m_same : Nat → Sem
  | 0 => fun _ _ => .no
  | n + 1 => runFn 4 (b_same (m_same n))
/-- plain values without objects, to the depth n -/
def flatD : Nat → D → Bool
  | _, .non => true
  | _, .bl _ => true
  | _, .int _ => true
  | _, .str x => decide (x.length < 1000000)
  | n + 1, .tup xs => decide (xs.length < 1000000) && xs.all (flatD n)
  | n + 1, .lst xs => decide (xs.length < 1000000) && xs.all (flatD n)
  | _, _ => false
/-- an object of plain values -/
def obV : Ob → Bool
  | .lst xs => decide (xs.length < 1000000) && xs.all (flatD 3)
  | .dK ks ds => decide (ks.length < 1000000) && (decide (ks.length = ds.length) && ds.all (flatD 3))
  | .lk _ _ => false
/-- plain values, to the depth n + 4; objects of the store hold plain values -/
def valD : Nat → Sto → D → Bool
  | _, _, .non => true
  | _, _, .bl _ => true
  | _, _, .int _ => true
  | _, _, .str x => decide (x.length < 1000000)
  | n + 1, st, .tup xs => decide (xs.length < 1000000) && xs.all (valD n st)
  | n + 1, st, .lst xs => decide (xs.length < 1000000) && xs.all (valD n st)
  | _, st, .loc k => match st[k]? with
    | some o => obV o
    | none => false
  | _, _, _ => false
theorem all_len {p : D → Bool} {xs : List D} (h : (decide (xs.length < 1000000) && xs.all p) = true) : xs.length < 1000000 ∧ ∀ x ∈ xs, p x = true := by
  obtain ⟨a, b⟩ := Bool.and_eq_true_iff.mp h
  exact ⟨of_decide_eq_true a, List.all_eq_true.mp b⟩
theorem len_all {p : D → Bool} {xs : List D} (h1 : xs.length < 1000000) (h2 : ∀ x ∈ xs, p x = true) : (decide (xs.length < 1000000) && xs.all p) = true := by
  rw [Bool.and_eq_true, List.all_eq_true]
  exact ⟨decide_eq_true h1, h2⟩
theorem flat_str {n : Nat} {z : Str} (h : flatD n (.str z) = true) : z.length < 1000000 := by
  cases n <;> (simp only [flatD, decide_eq_true_eq] at h; exact h)
theorem valD_str {n : Nat} {st : Sto} {z : Str} (h : valD n st (.str z) = true) : z.length < 1000000 := by
  cases n <;> (simp only [valD, decide_eq_true_eq] at h; exact h)
theorem flat_le : ∀ (n m : Nat) (d : D), flatD n d = true → n ≤ m → flatD m d = true := by
  intro n
  induction n with
  | zero =>
    intro m d h _
    cases d with
    | non => cases m <;> rfl
    | bl _ => cases m <;> rfl
    | int _ => cases m <;> rfl
    | str z => cases m <;> exact h
    | _ => cases h
  | succ n ih =>
    intro m d h hm
    cases m with
    | zero => omega
    | succ m =>
      cases d with
      | non => rfl
      | bl _ => rfl
      | int _ => rfl
      | str z => exact h
      | tup xs =>
        obtain ⟨h1, h2⟩ := all_len h
        exact len_all h1 fun x hx => ih m x (h2 x hx) (by omega)
      | lst xs =>
        obtain ⟨h1, h2⟩ := all_len h
        exact len_all h1 fun x hx => ih m x (h2 x hx) (by omega)
      | _ => cases h
theorem val_flat {st : Sto} : ∀ (n : Nat) (d : D), flatD n d = true → valD n st d = true := by
  intro n
  induction n with
  | zero =>
    intro d h
    cases d with
    | non => rfl
    | bl _ => rfl
    | int _ => rfl
    | str z => exact h
    | _ => cases h
  | succ n ih =>
    intro d h
    cases d with
    | non => rfl
    | bl _ => rfl
    | int _ => rfl
    | str z => exact h
    | tup xs =>
      obtain ⟨h1, h2⟩ := all_len h
      exact len_all h1 fun x hx => ih x (h2 x hx)
    | lst xs =>
      obtain ⟨h1, h2⟩ := all_len h
      exact len_all h1 fun x hx => ih x (h2 x hx)
    | _ => cases h
/-- what was a plain object is one still, of its kind -/
def tyO : Ob → PT | .lst _ => .lst | .dK _ _ => .dct | .lk _ _ => .dct
def SLe (st st' : Sto) : Prop := ∀ (k : Nat) (o : Ob), st[k]? = some o → ∃ o', st'[k]? = some o' ∧ (obV o = true → obV o' = true) ∧ tyO o' = tyO o
theorem SLe.refl {st : Sto} : SLe st st := fun k o h => ⟨o, h, id, rfl⟩
theorem SLe.trans {a b c : Sto} (x : SLe a b) (y : SLe b c) : SLe a c := fun k o h => by
  obtain ⟨o1, h1, p1, t1⟩ := x k o h
  obtain ⟨o2, h2, p2, t2⟩ := y k o1 h1
  exact ⟨o2, h2, p2 ∘ p1, t2.trans t1⟩
theorem SLe.app {a b : Sto} : SLe a (a ++ b) := fun k o h => ⟨o, by rw [List.getElem?_append_left (List.getElem?_eq_some_iff.mp h).1]; exact h, id, rfl⟩
theorem SLe.set {a : Sto} {n : Nat} {o o' : Ob} (h : a[n]? = some o) (hv : obV o = true → obV o' = true) (ht : tyO o' = tyO o) : SLe a (a.set n o') := fun k u hk => by
  by_cases e : n = k
  · subst e
    rw [h] at hk
    cases hk
    exact ⟨o', List.getElem?_set_self (List.getElem?_eq_some_iff.mp h).1, hv, ht⟩
  · exact ⟨u, by rw [List.getElem?_set_ne e]; exact hk, id, rfl⟩
theorem val_le {st st' : Sto} (x : SLe st st') : ∀ (n : Nat) (d : D), valD n st d = true → valD n st' d = true := by
  intro n
  have loc : ∀ k : Nat, (match st[k]? with | some o => obV o | none => false) = true → (match st'[k]? with | some o => obV o | none => false) = true := fun k h => by
    cases e : st[k]? with
    | none => rw [e] at h; cases h
    | some o =>
      rw [e] at h
      obtain ⟨o', h1, h2, _⟩ := x k o e
      rw [h1]
      exact h2 h
  induction n with
  | zero =>
    intro d h
    cases d with
    | non => rfl
    | bl _ => rfl
    | int _ => rfl
    | str z => exact h
    | loc k => exact loc k h
    | _ => cases h
  | succ n ih =>
    intro d h
    cases d with
    | non => rfl
    | bl _ => rfl
    | int _ => rfl
    | str z => exact h
    | loc k => exact loc k h
    | tup xs =>
      obtain ⟨h1, h2⟩ := all_len h
      exact len_all h1 fun x hx => ih x (h2 x hx)
    | lst xs =>
      obtain ⟨h1, h2⟩ := all_len h
      exact len_all h1 fun x hx => ih x (h2 x hx)
    | _ => cases h
theorem cut_one {z : Str} {k : Nat} (h : k < z.length) : ∃ c, z.cps.toList[k]? = some c ∧ cutS z (some (k : Int)) (some ((k : Int) + 1)) = ⟨#[c]⟩ := by
  have hk : k < z.cps.toList.length := by simpa [Str.length] using h
  refine ⟨z.cps.toList[k], List.getElem?_eq_getElem hk, ?_⟩
  unfold cutS
  have e1 : (k : Int) + 1 = ((k + 1 : Nat) : Int) := by omega
  rw [e1, HT.sIx_nat, HT.sIx_nat]
  have e2 : min k z.length = k := by omega
  have e3 : min (k + 1) z.length = k + 1 := by omega
  rw [e2, e3, Nat.add_sub_cancel_left]
  congr 1
  rw [List.drop_eq_getElem_cons hk]
  rfl
/-- a sequence told apart from itself -/
theorem same_seq {m : Sem} {env : Env} {st : Sto} {x x' : D} {xs : List D} (h0 : env[0]? = some (some x)) (h1 : env[1]? = some (some x')) (hlen : 2 < env.length) (hx : asSeq st x = some xs) (hx' : asSeq st x' = some xs) (hl : xs.length < 1000000) (hlen2 : oLen [x'] st = .ok (.int xs.length) st)
    (hm : ∀ y ∈ xs, m [y, y] st = .ok (.bl true) st) :
    fLc (fRg1 (fCons (fCall oLen (fCons (fVar 1) fNil)) fNil)) (gN 2) (fNot (fTru (fCall m (fCons (fOp oIx (fVar 0) (fVar 2)) (fCons (fOp oIx (fVar 1) (fVar 2)) fNil))))) (fVar 2) [2] env st = .ok (.lst []) st := by
  have hL : LIM = 10000000 := rfl
  refine lc_none (e1 := fun d => (wipeE env [2]).set 2 (some d)) (rg1_ok (n := xs.length) ?_ (by omega)) (fun y hy => ⟨rfl, ?_⟩) (by rw [rgD_len]; omega)
  · simp [h1, hlen2]
  · obtain ⟨i, hi, rfl⟩ := rgD_mem hy
    have e0 : ((wipeE env [2]).set 2 (some (D.int (0 + (i : Int) * 1))))[0]? = some (some x) := by
      simp [wipeE, h0]
    have e1 : ((wipeE env [2]).set 2 (some (D.int (0 + (i : Int) * 1))))[1]? = some (some x') := by
      simp [wipeE, h1]
    have e2 : ((wipeE env [2]).set 2 (some (D.int (0 + (i : Int) * 1))))[2]? = some (some (D.int (0 + (i : Int) * 1))) := by
      simp [wipeE, hlen]
    have hat : atI xs (0 + (i : Int) * 1) = some xs[i] := by
      have q : (0 + (i : Int) * 1) = i := by omega
      rw [q]
      unfold atI ixN
      simp [hi]
    have hix : oIx x (.int (0 + (i : Int) * 1)) st = .ok xs[i] st := oIx_seq hx hat
    have hix' : oIx x' (.int (0 + (i : Int) * 1)) st = .ok xs[i] st := oIx_seq hx' hat
    simp only [ev_not, ev_tru, ev_call, ev_cons, ev_op, ev_var, e0, e1, e2, k_op1_ok, k_op2_ok, hix, hix', k_cons1_ok, k_cons2_ok, ev_nil, k_call_ok, hm _ (List.getElem_mem hi), k_tru_bl, k_not_ok, Bool.not_true]
end Z

set_option maxHeartbeats 4000000
namespace Z
open PySem PySem.Spec PyProof.Rows L2

section
variable {env : Env} {st s : Sto} {f g h : ExpD} {d x y : D} {c fl : Str}
/-! slices -/
def k_oS : Res D → Res (Option Int) | .ok (.int i) s => .ok (some i) s | .ex c f d s => .ex c f d s | _ => .no
@[simp] theorem ev_oN : fONone env st = .ok none st := rfl
theorem ev_oS_at {i : Int} (hf : f env st = .ok (.int i) s) : fOSome f env st = .ok (some i) s := by
  show (f env st).bind _ = _
  rw [hf]
  rfl
theorem ev_sl_at {lo hi : Env → Sto → Res (Option Int)} {a b : Option Int} (hf : f env st = .ok x st) (ha : lo env st = .ok a st) (hb : hi env st = .ok b st) : fSl f lo hi env st = oSl x a b st := by
  show (f env st).bind _ = _
  rw [hf, Res.bind_ok, ha, Res.bind_ok, hb, Res.bind_ok]
end
theorem oSl_str {z : Str} {a b : Option Int} {st : Sto} (h : z.length < 1000000) : oSl (.str z) a b st = .ok (.str (cutS z a b)) st := by
  have h2 : decide (z.length ≤ LIM) = true := decide_eq_true (by have : LIM = 10000000 := rfl; omega)
  simp only [oSl, h2]
theorem oLen_str {z : Str} {st : Sto} (h : z.length < 1000000) : oLen [.str z] st = .ok (.int z.length) st := by
  have h2 : decide (z.length ≤ LIM) = true := decide_eq_true (by have : LIM = 10000000 := rfl; omega)
  simp only [oLen, one?, lenD, h2]
theorem oIx_str {z : Str} {i : Int} {c : Nat} {st : Sto} (h : z.length < 1000000) (ha : atI z.cps.toList i = some c) : oIx (.str z) (.int i) st = .ok (.str ⟨#[c]⟩) st := by
  have h2 : decide (z.length ≤ LIM) = true := decide_eq_true (by have : LIM = 10000000 := rfl; omega)
  simp only [oIx, h2, ha]
theorem oLen_loc {k : Nat} {xs : List D} {st : Sto} (h : st[k]? = some (.lst xs)) : oLen [.loc k] st = .ok (.int xs.length) st := by
  have e : lenD st (.loc k) = some xs.length := by
    have q : lenD st (.loc k) = (match st[k]? with | some (.lst xs) => some xs.length | some (.dK ks _) => some ks.length | some (.lk ks _) => some ks.length | none => none) := rfl
    rw [q, h]
  simp only [oLen, one?, e]
theorem oLen_dK {k : Nat} {ks : List Key} {ds : List D} {st : Sto} (h : st[k]? = some (.dK ks ds)) : oLen [.loc k] st = .ok (.int ks.length) st := by
  have e : lenD st (.loc k) = some ks.length := by
    have q : lenD st (.loc k) = (match st[k]? with | some (.lst xs) => some xs.length | some (.dK ks _) => some ks.length | some (.lk ks _) => some ks.length | none => none) := rfl
    rw [q, h]
  simp only [oLen, one?, e]
theorem atI_nat {α : Type} {xs : List α} {i : Nat} (h : i < xs.length) : atI xs (0 + (i : Int) * 1) = some xs[i] := by
  have q : (0 + (i : Int) * 1) = i := by omega
  rw [q]
  unfold atI ixN
  simp [h]
theorem same_str {env : Env} {st : Sto} {z : Str} (h0 : env[0]? = some (some (.str z))) (h1 : env[1]? = some (some (.str z))) (hlen : 2 < env.length) (hl : z.length < 1000000) :
    fLc (fRg1 (fCons (fCall oLen (fCons (fVar 1) fNil)) fNil)) (gN 2) (fTest (fOp oNe (fSl (fVar 0) (fOSome (fVar 2)) (fOSome (fOp oAdd (fVar 2) (fC (.int 1))))) (fOp oIx (fVar 1) (fVar 2)))) (fVar 2) [2] env st = .ok (.lst []) st := by
  have hL : LIM = 10000000 := rfl
  refine lc_none (e1 := fun d => (wipeE env [2]).set 2 (some d)) (rg1_ok (n := z.length) ?_ (by omega)) (fun y hy => ⟨rfl, ?_⟩) (by rw [rgD_len]; omega)
  · simp [h1, oLen_str hl]
  · obtain ⟨i, hi, rfl⟩ := rgD_mem hy
    have e0 : ((wipeE env [2]).set 2 (some (D.int (0 + (i : Int) * 1))))[0]? = some (some (.str z)) := by
      simp [wipeE, h0]
    have e1 : ((wipeE env [2]).set 2 (some (D.int (0 + (i : Int) * 1))))[1]? = some (some (.str z)) := by
      simp [wipeE, h1]
    have e2 : ((wipeE env [2]).set 2 (some (D.int (0 + (i : Int) * 1))))[2]? = some (some (D.int (0 + (i : Int) * 1))) := by
      simp [wipeE, hlen]
    generalize hE : (wipeE env [2]).set 2 (some (D.int (0 + (i : Int) * 1))) = E at e0 e1 e2
    have v0 : fVar 0 E st = .ok (.str z) st := by simp only [ev_var, e0]
    have v1 : fVar 1 E st = .ok (.str z) st := by simp only [ev_var, e1]
    have v2 : fVar 2 E st = .ok (.int (0 + (i : Int) * 1)) st := by simp only [ev_var, e2]
    obtain ⟨c, hc, hcut⟩ := cut_one hi
    have hq : (0 + (i : Int) * 1) = i := by omega
    have hi2 : i < z.cps.toList.length := by simpa [Str.length] using hi
    have a1 : fOp oAdd (fVar 2) (fC (.int 1)) E st = .ok (.int (0 + (i : Int) * 1 + 1)) st := by simp only [ev_op, v2, k_op1_ok, ev_c, k_op2_ok, oAdd_int]
    have sl : fSl (fVar 0) (fOSome (fVar 2)) (fOSome (fOp oAdd (fVar 2) (fC (.int 1)))) E st = .ok (.str ⟨#[c]⟩) st := by
      rw [ev_sl_at v0 (ev_oS_at v2) (ev_oS_at a1), oSl_str hl, hq, hcut]
    have ix : oIx (.str z) (.int (0 + (i : Int) * 1)) st = .ok (.str ⟨#[c]⟩) st := by
      refine oIx_str hl ?_
      rw [atI_nat hi2, ← hc, List.getElem?_eq_getElem hi2]
    show fTest _ E st = _
    simp only [ev_test, ev_op, sl, v1, v2, k_op1_ok, k_op2_ok, ix, oNe_str, k_test_ok, decide_true, Bool.not_true]

/-! the dict of a name, gone through -/
theorem keys_none {i n : Nat} {g : TgtD} {t : TstD} {e : ExpD} {env : Env} {vs : List Nat} {e1 : D → Env} {st : Sto} {ks : List Key} {ds : List D} (hi : env[i]? = some (some (.loc n))) (hs : st[n]? = some (.dK ks ds)) (hl : ks.length < LIM)
    (h : ∀ k ∈ ks, g (keyD k) (wipeE env vs) (st.set n (.lk ks ds)) = .ok (e1 (keyD k)) (st.set n (.lk ks ds)) ∧ t (e1 (keyD k)) (st.set n (.lk ks ds)) = .ok false (st.set n (.lk ks ds))) : fLcKeys i g t e vs env st = .ok (.lst []) st := by
  unfold fLcKeys
  simp only [hi, hs]
  rw [lcD_pure (b := fun _ => false) (v := fun x => x) (ks.map keyD) [] (fun x hx => by
    obtain ⟨k, hk, rfl⟩ := List.mem_map.mp hx
    exact ⟨(h k hk).1, (h k hk).2, fun z => by cases z⟩) (by simpa using hl)]
  have hn := (List.getElem?_eq_some_iff.mp hs).1
  have e0 : ((ks.map keyD).filter fun _ => false) = [] := by simp
  simp only [Res.bind_ok, e0, List.map_nil, List.append_nil, List.getElem?_set_self hn, List.set_set]
  have e2 : st.set n (.dK ks ds) = st := by
    have hn2 := (List.getElem?_eq_some_iff.mp hs).2
    rw [← hn2, List.set_getElem_self]
  rw [e2]
theorem lookD_mem : ∀ {ks : List Key} {ds : List D} {k : Key}, k ∈ ks → ks.length = ds.length → ∃ d, d ∈ ds ∧ lookD ks ds k = some d
  | [], _, _, h, _ => by cases h
  | k' :: ks, [], _, _, hl => by cases hl
  | k' :: ks, d :: ds, k, h, hl => by
    by_cases e : k' = k
    · exact ⟨d, List.mem_cons_self, by unfold lookD; rw [if_pos e]⟩
    · obtain ⟨d', hd, q⟩ := lookD_mem (ks := ks) (ds := ds) (k := k) ((List.mem_cons.mp h).resolve_left fun z => e z.symm) (by simpa using hl)
      exact ⟨d', List.mem_cons_of_mem _ hd, by unfold lookD; rw [if_neg e]; exact q⟩
theorem keyOf_keyD (k : Key) : keyOf (keyD k) = some k := by cases k <;> rfl
theorem oDget_lk {n : Nat} {ks : List Key} {ds : List D} {k : Key} {d : D} {st : Sto} (h : st[n]? = some (.lk ks ds)) (q : lookD ks ds k = some d) : oDget (.loc n) (keyD k) st = .ok d st := by
  have e : asDict st (.loc n) = some (ks, ds) := by
    have z : asDict st (.loc n) = (match st[n]? with | some (.dK ks ds) => some (ks, ds) | some (.lk ks ds) => some (ks, ds) | _ => none) := rfl
    rw [z, h]
  unfold oDget
  rw [e, keyOf_keyD]
  simp only [q]
theorem oDnin_lk {n : Nat} {ks : List Key} {ds : List D} {k : Key} {d : D} {st : Sto} (h : st[n]? = some (.lk ks ds)) (q : lookD ks ds k = some d) : oDnin (keyD k) (.loc n) st = .ok (.bl false) st := by
  have e : asDict st (.loc n) = some (ks, ds) := by
    have z : asDict st (.loc n) = (match st[n]? with | some (.dK ks ds) => some (ks, ds) | some (.lk ks ds) => some (ks, ds) | _ => none) := rfl
    rw [z, h]
  unfold oDnin
  rw [e, keyOf_keyD]
  simp only [q, Option.isSome_some, Bool.not_true]
  try rfl
theorem same_dct {m : Sem} {env : Env} {st : Sto} {n : Nat} {ks : List Key} {ds : List D} (h0 : env[0]? = some (some (.loc n))) (h1 : env[1]? = some (some (.loc n))) (hlen : 3 < env.length) (hs : st[n]? = some (.dK ks ds)) (hl : ks.length < 1000000) (hk : ks.length = ds.length)
    (hm : ∀ y ∈ ds, m [y, y] (st.set n (.lk ks ds)) = .ok (.bl true) (st.set n (.lk ks ds))) :
    fLcKeys 1 (gN 3) (fOr (fTest (fOp oDnin (fVar 3) (fVar 0))) (fNot (fTru (fCall m (fCons (fOp oDget (fVar 0) (fVar 3)) (fCons (fOp oDget (fVar 1) (fVar 3)) fNil)))))) (fVar 3) [3] env st = .ok (.lst []) st := by
  have hL : LIM = 10000000 := rfl
  refine keys_none (e1 := fun d => (wipeE env [3]).set 3 (some d)) h1 hs (by omega) fun k hkm => ⟨rfl, ?_⟩
  have e0 : ((wipeE env [3]).set 3 (some (keyD k)))[0]? = some (some (.loc n)) := by
    simp [wipeE, h0]
  have e1 : ((wipeE env [3]).set 3 (some (keyD k)))[1]? = some (some (.loc n)) := by
    simp [wipeE, h1]
  have e3 : ((wipeE env [3]).set 3 (some (keyD k)))[3]? = some (some (keyD k)) := by
    simp [wipeE, hlen]
  generalize hE : (wipeE env [3]).set 3 (some (keyD k)) = E at e0 e1 e3
  have hn := (List.getElem?_eq_some_iff.mp hs).1
  have hlk : (st.set n (.lk ks ds))[n]? = some (.lk ks ds) := List.getElem?_set_self hn
  have hm2 := hm
  generalize hS : st.set n (.lk ks ds) = S at hlk hm2
  obtain ⟨d, hd, q⟩ := lookD_mem hkm hk
  show fOr _ _ E S = _
  simp only [ev_or, ev_test, ev_op, ev_var, e0, e1, e3, k_op1_ok, k_op2_ok, oDnin_lk hlk q, k_test_ok, k_or_f, ev_not, ev_tru, ev_call, ev_cons, oDget_lk hlk q, k_cons1_ok, k_cons2_ok, ev_nil, k_call_ok, hm2 d hd, k_tru_bl, k_not_ok, Bool.not_true]
theorem isPT_self (t : PT) : isPT t t = true := by cases t <;> rfl
theorem tyD_loc {k : Nat} {o : Ob} {st : Sto} (h : st[k]? = some o) : tyD st (.loc k) = some (tyO o) := by
  have e : tyD st (.loc k) = (match st[k]? with | some (.lst _) => some PT.lst | some (.dK _ _) => some .dct | some (.lk _ _) => some .dct | none => none) := rfl
  rw [e, h]
  cases o <;> rfl
section
variable {m : Sem} {st : Sto}
theorem same_non : runFn 4 (b_same m) [.non, .non] st = .ok (.bl true) st := by
  simp [b_same, isPT]
theorem same_bl {b : Bool} : runFn 4 (b_same m) [.bl b, .bl b] st = .ok (.bl true) st := by
  cases b <;> simp [b_same, isPT]
theorem same_int {i : Int} : runFn 4 (b_same m) [.int i, .int i] st = .ok (.bl true) st := by
  simp [b_same, isPT]
theorem same_strR {z : Str} (hl : z.length < 1000000) : runFn 4 (b_same m) [.str z, .str z] st = .ok (.bl true) st := by
  simp [b_same, isPT, oLen_str hl, same_str (env := [some (.str z), some (.str z), none, none]) (st := st) rfl rfl (by simp) hl]
theorem same_seqQ {x x' : D} {xs : List D} {t : PT} (ht : tyD st x = some t) (ht' : tyD st x' = some t) (ht2 : t = .lst ∨ t = .tup) (hn : isNonD x' = false) (ha : asSeq st x = some xs) (ha' : asSeq st x' = some xs) (h1 : xs.length < 1000000) (hL : oLen [x] st = .ok (.int xs.length) st) (hL' : oLen [x'] st = .ok (.int xs.length) st) (hm : ∀ y ∈ xs, m [y, y] st = .ok (.bl true) st) : runFn 4 (b_same m) [x, x'] st = .ok (.bl true) st := by
  have q := same_seq (m := m) (env := [some x, some x', none, none]) (st := st) rfl rfl (by simp) ha ha' h1 hL' hm
  rcases ht2 with rfl | rfl <;> simp [b_same, isPT, hn, k_isi_ty ht, k_isi_ty ht', k_isiT_ty ht', q, hL, hL']
theorem same_seqR {x : D} {xs : List D} {t : PT} (ht : tyD st x = some t) (ht2 : t = .lst ∨ t = .tup) (hn : isNonD x = false) (ha : asSeq st x = some xs) (h1 : xs.length < 1000000) (hL : oLen [x] st = .ok (.int xs.length) st) (hm : ∀ y ∈ xs, m [y, y] st = .ok (.bl true) st) : runFn 4 (b_same m) [x, x] st = .ok (.bl true) st := same_seqQ ht ht ht2 hn ha ha h1 hL hL hm
theorem same_dctR {k : Nat} {ks : List Key} {ds : List D} (hs : st[k]? = some (.dK ks ds)) (h1 : ks.length < 1000000) (h2 : ks.length = ds.length) (hm : ∀ y ∈ ds, m [y, y] (st.set k (.lk ks ds)) = .ok (.bl true) (st.set k (.lk ks ds))) : runFn 4 (b_same m) [.loc k, .loc k] st = .ok (.bl true) st := by
  have q := same_dct (m := m) (env := [some (.loc k), some (.loc k), none, none]) (st := st) rfl rfl (by simp) hs h1 h2 hm
  simp [b_same, isPT, q, tyD_loc hs, tyO, oLen_dK hs]
end
theorem m_same_succ (n : Nat) : m_same (n + 1) = runFn 4 (b_same (m_same n)) := rfl
theorem same_loc {n : Nat} {k : Nat} {st : Sto} (ih : ∀ (d : D) (st : Sto), flatD 3 d = true → m_same n [d, d] st = .ok (.bl true) st) (h : (match st[k]? with | some o => obV o | none => false) = true) : m_same (n + 1) [.loc k, .loc k] st = .ok (.bl true) st := by
  rw [m_same_succ]
  cases hs : st[k]? with
  | none => rw [hs] at h; cases h
  | some o =>
    rw [hs] at h
    cases o with
    | lst xs =>
      obtain ⟨h1, h2⟩ := all_len h
      have ha : asSeq st (.loc k) = some xs := by
        have z : asSeq st (.loc k) = (match st[k]? with | some (.lst xs) => some xs | _ => none) := rfl
        rw [z, hs]
      exact same_seqR (t := .lst) (tyD_loc hs) (.inl rfl) rfl ha h1 (oLen_loc hs) fun y hy => ih y st (h2 y hy)
    | dK ks ds =>
      obtain ⟨h1, h2⟩ := Bool.and_eq_true_iff.mp h
      obtain ⟨h2, h3⟩ := Bool.and_eq_true_iff.mp h2
      exact same_dctR hs (of_decide_eq_true h1) (of_decide_eq_true h2) fun y hy => ih y _ (List.all_eq_true.mp h3 y hy)
    | lk _ _ => cases h
theorem same_flat : ∀ (n : Nat) (d : D) (st : Sto), flatD n d = true → ∀ k, n ≤ k → m_same (k + 1) [d, d] st = .ok (.bl true) st := by
  intro n
  induction n with
  | zero =>
    intro d st h k hk
    rw [m_same_succ]
    cases d with
    | non => exact same_non
    | bl b => exact same_bl
    | int i => exact same_int
    | str z => exact same_strR (flat_str h)
    | _ => cases h
  | succ n ih =>
    intro d st h k hk
    rw [m_same_succ]
    cases k with
    | zero => omega
    | succ k =>
      cases d with
      | non => exact same_non
      | bl b => exact same_bl
      | int i => exact same_int
      | str z => exact same_strR (flat_str h)
      | tup xs =>
        obtain ⟨h1, h2⟩ := all_len h
        exact same_seqR (t := .tup) rfl (.inr rfl) rfl rfl h1 rfl fun y hy => ih y st (h2 y hy) k (by omega)
      | lst xs =>
        obtain ⟨h1, h2⟩ := all_len h
        exact same_seqR (t := .lst) rfl (.inl rfl) rfl rfl h1 rfl fun y hy => ih y st (h2 y hy) k (by omega)
      | _ => cases h
/-- a plain value is the same as itself -/
theorem same_refl : ∀ (n : Nat) (d : D) (st : Sto), valD n st d = true → ∀ k, n + 5 ≤ k → m_same k [d, d] st = .ok (.bl true) st := by
  intro n
  induction n with
  | zero =>
    intro d st h k hk
    obtain ⟨k, rfl⟩ : ∃ j, k = j + 1 := ⟨k - 1, by omega⟩
    cases d with
    | non => exact same_non
    | bl b => exact same_bl
    | int i => exact same_int
    | str z => exact same_strR (valD_str h)
    | loc j => 
      obtain ⟨k, rfl⟩ : ∃ j, k = j + 1 := ⟨k - 1, by omega⟩
      exact same_loc (fun d st h => same_flat 3 d st h k (by omega)) h
    | _ => cases h
  | succ n ih =>
    intro d st h k hk
    obtain ⟨k, rfl⟩ : ∃ j, k = j + 1 := ⟨k - 1, by omega⟩
    cases d with
    | non => exact same_non
    | bl b => exact same_bl
    | int i => exact same_int
    | str z => exact same_strR (valD_str h)
    | loc j => 
      obtain ⟨k, rfl⟩ : ∃ j, k = j + 1 := ⟨k - 1, by omega⟩
      exact same_loc (fun d st h => same_flat 3 d st h k (by omega)) h
    | tup xs =>
      obtain ⟨h1, h2⟩ := all_len h
      exact same_seqR (t := .tup) rfl (.inr rfl) rfl rfl h1 rfl fun y hy => ih y st (h2 y hy) k (by omega)
    | lst xs =>
      obtain ⟨h1, h2⟩ := all_len h
      exact same_seqR (t := .lst) rfl (.inl rfl) rfl rfl h1 rfl fun y hy => ih y st (h2 y hy) k (by omega)
    | _ => cases h
end Z

set_option maxHeartbeats 4000000
namespace Z
open PySem PySem.Spec PyProof.Rows L2

/-! ### _law_copy -/
def b_copy (m : Sem) : StmD := (sSeq (sIf (fTru (fIsi .lst (fVar 0))) (sRet (fLcO (fIt (fVar 0)) (gN 1) fYes (fCall m (fCons (fVar 1) fNil)) [1])) sSkip)
    (sSeq (sIf (fTru (fIsi .dct (fVar 0))) (sRet (fCall oDict (fCons (fLcKeys 0 (gN 2) fYes (fTup (fCons (fVar 2) (fCons (fCall m (fCons (fOp oDget (fVar 0) (fVar 2)) fNil)) fNil))) [2]) fNil))) sSkip)
    (sRet (fIf (fTru (fIsi .tup (fVar 0))) (fCall oTuple (fCons (fLc (fIt (fVar 0)) (gN 1) fYes (fCall m (fCons (fVar 1) fNil)) [1]) fNil)) (fVar 0)))))
def m_copy : Nat → Sem
  | 0 => fun _ _ => .no
  | n + 1 => runFn 3 (b_copy (m_copy n))
theorem m_copy_succ (n : Nat) : m_copy (n + 1) = runFn 3 (b_copy (m_copy n)) := rfl
def k_it : Res D → Res SrcD | .ok d s => (match srcD s d with | some x => .ok x s | none => .no) | .ex c f d s => .ex c f d s | .no => .no
@[simp] theorem ev_it {f : ExpD} {env : Env} {st : Sto} : fIt f env st = k_it (f env st) := by
  show (f env st).bind _ = _
  cases f env st <;> rfl
@[simp] theorem k_it_tup {s : Sto} {ds : List D} : k_it (.ok (.tup ds) s) = .ok (.fz ds) s := rfl
@[simp] theorem k_it_lst {s : Sto} {ds : List D} : k_it (.ok (.lst ds) s) = .ok (.fz ds) s := rfl
@[simp] theorem k_it_scr {s : Sto} {ds : List D} : k_it (.ok (.scr ds) s) = .ok (.fz ds) s := rfl
theorem k_it_loc {s : Sto} {ds : List D} {k : Nat} (h : s[k]? = some (.lst ds)) : k_it (.ok (.loc k) s) = .ok (.lc k) s := by
  have e : srcD s (.loc k) = (match s[k]? with | some (.lst _) => some (SrcD.lc k) | _ => none) := rfl
  have e2 : srcD s (.loc k) = some (.lc k) := by rw [e, h]
  simp only [k_it, e2]
/-- trees of tuples -/
def ptD : Nat → D → Bool
  | _, .non => true
  | _, .bl _ => true
  | _, .int _ => true
  | _, .str x => decide (x.length < 1000000)
  | n + 1, .tup xs => decide (xs.length < 1000000) && xs.all (ptD n)
  | _, _ => false
theorem filter_yes {α : Type} (xs : List α) : (xs.filter fun _ => true) = xs := by simp
theorem lc_all {fi : ItrD} {g : TgtD} {e : ExpD} {env : Env} {vs : List Nat} {e1 : D → Env} {v : D → D} {st s : Sto} {xs : List D} (hi : fi env st = .ok (.fz xs) s)
    (h : ∀ x ∈ xs, g x (wipeE env vs) s = .ok (e1 x) s ∧ e (e1 x) s = .ok (v x) s) (hl : xs.length < LIM) : fLc fi g fYes e vs env st = .ok (.lst (xs.map v)) s := by
  have q := lc_pure (t := fYes) (b := fun _ => true) (v := v) hi (fun x hx => ⟨(h x hx).1, rfl, fun _ => (h x hx).2⟩) hl
  rw [filter_yes] at q
  exact q
theorem lcO_all {fi : ItrD} {g : TgtD} {e : ExpD} {env : Env} {vs : List Nat} {e1 : D → Env} {v : D → D} {st s : Sto} {xs : List D} (hi : fi env st = .ok (.fz xs) s)
    (h : ∀ x ∈ xs, g x (wipeE env vs) s = .ok (e1 x) s ∧ e (e1 x) s = .ok (v x) s) (hl : xs.length < LIM) : fLcO fi g fYes e vs env st = .ok (.loc s.length) (s ++ [.lst (xs.map v)]) := by
  unfold fLcO lcR
  rw [hi]
  simp only [Res.bind_ok]
  rw [lcD_pure (b := fun _ => true) (v := v) xs [] (fun x hx => ⟨(h x hx).1, rfl, fun _ => (h x hx).2⟩) (by simpa using hl), filter_yes]
  rfl
/-- an object gone through, nothing changed -/
theorem lcK_pure {g : TgtD} {t : TstD} {e : ExpD} {env : Env} {e1 : D → Env} {b : D → Bool} {v : D → D} {st : Sto} {k : Nat} {xs : List D} (hs : st[k]? = some (.lst xs)) (h : ∀ x ∈ xs, g x env st = .ok (e1 x) st ∧ t (e1 x) st = .ok (b x) st ∧ (b x = true → e (e1 x) st = .ok (v x) st)) :
    ∀ (m i : Nat) (acc : List D), i ≤ xs.length → m = xs.length + 1 - i → acc.length + (xs.length - i) < LIM → lcK g t e env k m i acc st = .ok (acc ++ ((xs.drop i).filter b).map v) st := by
  intro m
  induction m with
  | zero => intro i acc h1 h2 _; omega
  | succ m ih =>
    intro i acc h1 h2 hl
    unfold lcK
    simp only [hs]
    by_cases hlt : i < xs.length
    · have hx : xs[i]? = some xs[i] := List.getElem?_eq_getElem hlt
      obtain ⟨q1, q2, q3⟩ := h xs[i] (List.getElem_mem hlt)
      simp only [hx]
      rw [List.drop_eq_getElem_cons hlt]
      cases hb : b xs[i] with
      | true =>
        have hd : decide (acc.length < LIM) = true := decide_eq_true (by omega)
        have hstep : lcStep g t e env xs[i] acc st = .ok (acc ++ [v xs[i]]) st := by
          unfold lcStep
          rw [q1]
          simp only [Res.calm_ok, Res.bind_ok, q2, hb, q3 hb, hd]
        rw [hstep, Res.bind_ok, ih (i + 1) _ hlt (by omega) (by rw [List.length_append, List.length_singleton]; omega), List.filter_cons_of_pos hb, List.map_cons, List.append_assoc]
        rfl
      | false =>
        have hstep : lcStep g t e env xs[i] acc st = .ok acc st := by
          unfold lcStep
          rw [q1]
          simp only [Res.calm_ok, Res.bind_ok, q2, hb]
        rw [hstep, Res.bind_ok, ih (i + 1) _ hlt (by omega) (by omega), List.filter_cons_of_neg (by rw [hb]; exact Bool.false_ne_true)]
    · have hx : xs[i]? = none := List.getElem?_eq_none_iff.mpr (by omega)
      have hd : xs.drop i = [] := List.drop_eq_nil_iff.mpr (by omega)
      simp only [hx, hd, List.filter_nil, List.map_nil, List.append_nil]
theorem lcO_loc {fi : ItrD} {g : TgtD} {e : ExpD} {env : Env} {vs : List Nat} {e1 : D → Env} {v : D → D} {st s : Sto} {k : Nat} {xs : List D} (hi : fi env st = .ok (.lc k) s) (hs : s[k]? = some (.lst xs))
    (h : ∀ x ∈ xs, g x (wipeE env vs) s = .ok (e1 x) s ∧ e (e1 x) s = .ok (v x) s) (hl : xs.length < LIM) : fLcO fi g fYes e vs env st = .ok (.loc s.length) (s ++ [.lst (xs.map v)]) := by
  have hL : lenAt s k = xs.length := by
    unfold lenAt
    rw [hs]
  unfold fLcO lcR
  rw [hi]
  simp only [Res.bind_ok, hL]
  rw [lcK_pure (b := fun _ => true) (v := v) hs (fun x hx => ⟨(h x hx).1, rfl, fun _ => (h x hx).2⟩) _ 0 [] (Nat.zero_le _) (by omega) (by simpa using hl), filter_yes, List.drop_zero]
  rfl
theorem keys_all {i n : Nat} {g : TgtD} {e : ExpD} {env : Env} {vs : List Nat} {e1 : D → Env} {v : D → D} {st : Sto} {ks : List Key} {ds : List D} (hi : env[i]? = some (some (.loc n))) (hs : st[n]? = some (.dK ks ds)) (hl : ks.length < LIM)
    (h : ∀ k ∈ ks, g (keyD k) (wipeE env vs) (st.set n (.lk ks ds)) = .ok (e1 (keyD k)) (st.set n (.lk ks ds)) ∧ e (e1 (keyD k)) (st.set n (.lk ks ds)) = .ok (v (keyD k)) (st.set n (.lk ks ds))) : fLcKeys i g fYes e vs env st = .ok (.lst (ks.map fun k => v (keyD k))) st := by
  unfold fLcKeys
  simp only [hi, hs]
  rw [lcD_pure (b := fun _ => true) (v := v) (ks.map keyD) [] (fun x hx => by
    obtain ⟨k, hk, rfl⟩ := List.mem_map.mp hx
    exact ⟨(h k hk).1, rfl, fun _ => (h k hk).2⟩) (by simpa using hl)]
  have hn := (List.getElem?_eq_some_iff.mp hs).1
  simp only [Res.bind_ok, filter_yes, List.map_map, List.nil_append, List.getElem?_set_self hn, List.set_set]
  have e2 : st.set n (.dK ks ds) = st := by
    have hn2 := (List.getElem?_eq_some_iff.mp hs).2
    rw [← hn2, List.set_getElem_self]
  rw [e2]
  rfl
section
variable {m : Sem} {st : Sto}
theorem copy_sc {d : D} {t : PT} (ht : tyD st d = some t) (h1 : isPT t .lst = false) (h2 : isPT t .dct = false) (h3 : isPT t .tup = false) : runFn 3 (b_copy m) [d] st = .ok d st := by
  simp [b_copy, k_isi_ty ht, h1, h2, h3]
theorem copy_tup {xs : List D} {v : D → D} (hl : xs.length < 1000000) (h : ∀ x ∈ xs, m [x] st = .ok (v x) st) : runFn 3 (b_copy m) [.tup xs] st = .ok (.tup (xs.map v)) st := by
  have q := lc_all (fi := fIt (fVar 0)) (g := gN 1) (e := fCall m (fCons (fVar 1) fNil)) (env := [some (.tup xs), none, none]) (vs := [1]) (e1 := fun d => [some (.tup xs), some d, none]) (v := v) (st := st) (s := st) (xs := xs) (by simp) (fun x hx => ⟨rfl, by simp [h x hx]⟩) (by have : LIM = 10000000 := rfl; omega)
  simp [b_copy, isPT, q, oTuple, one?, asSeq]
theorem copy_lst {xs : List D} {v : D → D} (hl : xs.length < 1000000) (h : ∀ x ∈ xs, m [x] st = .ok (v x) st) : runFn 3 (b_copy m) [.lst xs] st = .ok (.loc st.length) (st ++ [.lst (xs.map v)]) := by
  have q := lcO_all (fi := fIt (fVar 0)) (g := gN 1) (e := fCall m (fCons (fVar 1) fNil)) (env := [some (.lst xs), none, none]) (vs := [1]) (e1 := fun d => [some (.lst xs), some d, none]) (v := v) (st := st) (s := st) (xs := xs) (by simp) (fun x hx => ⟨rfl, by simp [h x hx]⟩) (by have : LIM = 10000000 := rfl; omega)
  simp [b_copy, isPT, q]
theorem copy_locL {k : Nat} {xs : List D} {v : D → D} (hs : st[k]? = some (.lst xs)) (hl : xs.length < 1000000) (h : ∀ x ∈ xs, m [x] st = .ok (v x) st) : runFn 3 (b_copy m) [.loc k] st = .ok (.loc st.length) (st ++ [.lst (xs.map v)]) := by
  have q := lcO_loc (fi := fIt (fVar 0)) (g := gN 1) (e := fCall m (fCons (fVar 1) fNil)) (env := [some (.loc k), none, none]) (vs := [1]) (e1 := fun d => [some (.loc k), some d, none]) (v := v) (st := st) (s := st) (k := k) (xs := xs) (by simp [k_it_loc hs]) hs (fun x hx => ⟨rfl, by simp [h x hx]⟩) (by have : LIM = 10000000 := rfl; omega)
  simp [b_copy, isPT, k_isi_ty (tyD_loc hs), tyO, q]
theorem pairsOf_map : ∀ (ks : List Key) (w : Key → D), pairsOf (ks.map fun k => D.tup [keyD k, w k]) = some (ks.map fun k => (k, w k))
  | [], _ => rfl
  | k :: ks, w => by
    have e1 : pairOf (D.tup [keyD k, w k]) = some (k, w k) := by
      simp only [pairOf, keyOf_keyD, Option.map_some]
    have e2 := pairsOf_map ks w
    simp only [List.map_cons, pairsOf, e1, e2]
theorem copy_locD {n : Nat} {ks : List Key} {ds : List D} (hs : st[n]? = some (.dK ks ds)) (hl : ks.length < 1000000) (hk : ks.length = ds.length) (hd : distinct ks = true) (h : ∀ x ∈ ds, m [x] (st.set n (.lk ks ds)) = .ok x (st.set n (.lk ks ds))) :
    ∃ es, (∀ e ∈ es, e ∈ ds) ∧ ks.length = es.length ∧ runFn 3 (b_copy m) [.loc n] st = .ok (.loc st.length) (st ++ [.dK ks es]) := by
  have hn := (List.getElem?_eq_some_iff.mp hs).1
  have hlk : (st.set n (.lk ks ds))[n]? = some (.lk ks ds) := List.getElem?_set_self hn
  let w : Key → D := fun k => (lookD ks ds k).getD .non
  have q := keys_all (i := 0) (n := n) (g := gN 2) (e := fTup (fCons (fVar 2) (fCons (fCall m (fCons (fOp oDget (fVar 0) (fVar 2)) fNil)) fNil))) (env := [some (.loc n), none, none]) (vs := [2]) (e1 := fun d => [some (.loc n), none, some d]) (v := fun d => .tup [d, match keyOf d with | some k => w k | none => .non]) rfl hs (by have : LIM = 10000000 := rfl; omega) fun k hkm => ⟨rfl, by
    obtain ⟨d, hdm, e⟩ := lookD_mem hkm hk
    have ew : w k = d := by
      show (lookD ks ds k).getD .non = d
      rw [e]
      rfl
    have hm := h d hdm
    generalize hS : st.set n (.lk ks ds) = S at hlk hm
    simp [oDget_lk hlk e, hm, keyOf_keyD, ew]⟩
  refine ⟨ks.map w, fun e he => ?_, by simp, ?_⟩
  · obtain ⟨k, hkm, rfl⟩ := List.mem_map.mp he
    obtain ⟨d, hdm, e⟩ := lookD_mem hkm hk
    show (lookD ks ds k).getD .non ∈ ds
    rw [e]
    exact hdm
  · have e3 : (ks.map fun k => D.tup [keyD k, match keyOf (keyD k) with | some k => w k | none => .non]) = ks.map fun k => D.tup [keyD k, w k] := by
      refine List.map_congr_left fun k _ => ?_
      rw [keyOf_keyD]
    rw [e3] at q
    have e4 : oDict [.lst (ks.map fun k => D.tup [keyD k, w k])] st = .ok (.loc st.length) (st ++ [.dK ks (ks.map w)]) := by
      have a : (ks.map fun k => (k, w k)).map (·.1) = ks := by simp [Function.comp_def]
      have b : (ks.map fun k => (k, w k)).map (·.2) = ks.map w := by simp [Function.comp_def]
      simp only [oDict, one?, asLR, pairsOf_map, a, b, hd]
    simp [b_copy, isPT, k_isi_ty (tyD_loc hs), tyO, q, e4]
end
theorem copy_pt : ∀ (n : Nat) (d : D) (st : Sto) (k : Nat), ptD n d = true → n ≤ k → m_copy (k + 1) [d] st = .ok d st := by
  intro n
  induction n with
  | zero =>
    intro d st k h _
    rw [m_copy_succ]
    cases d with
    | non => exact copy_sc (t := .non) rfl rfl rfl rfl
    | bl _ => exact copy_sc (t := .bl) rfl rfl rfl rfl
    | int _ => exact copy_sc (t := .int) rfl rfl rfl rfl
    | str _ => exact copy_sc (t := .str) rfl rfl rfl rfl
    | _ => cases h
  | succ n ih =>
    intro d st k h hk
    rw [m_copy_succ]
    cases d with
    | non => exact copy_sc (t := .non) rfl rfl rfl rfl
    | bl _ => exact copy_sc (t := .bl) rfl rfl rfl rfl
    | int _ => exact copy_sc (t := .int) rfl rfl rfl rfl
    | str _ => exact copy_sc (t := .str) rfl rfl rfl rfl
    | tup xs =>
      obtain ⟨h1, h2⟩ := all_len h
      obtain ⟨k, rfl⟩ : ∃ j, k = j + 1 := ⟨k - 1, by omega⟩
      have q := copy_tup (m := m_copy (k + 1)) (st := st) (v := fun x => x) h1 fun x hx => ih x st k (h2 x hx) (by omega)
      rw [List.map_id'] at q
      exact q
    | _ => cases h
end Z

set_option maxHeartbeats 4000000
namespace Z
open PySem PySem.Spec PyProof.Rows L2

/-! ### _law_very -/
def b_very (m : Sem) : StmD := (sSeq (sIf (fNot (fTru (fCall m (fCons (fVar 0) (fCons (fVar 1) fNil))))) (sRet (fC (.bl false))) sSkip)
    (sSeq (sIf (fTru (fIsi .lst (fVar 1))) (sDrop (fMeth1 oAppend (fVar 1) (fC (.str "more")))) sSkip)
    (sSeq (sIf (fTru (fIsi .dct (fVar 1))) (sDput (fVar 1) (fOp oAdd (fC (.str "more")) (fCall oStr (fCons (fCall oLen (fCons (fVar 1) fNil)) fNil))) (fC (.int 1))) sSkip)
    (sRet (fCall m (fCons (fVar 0) (fCons (fVar 1) fNil)))))))
def obN : Ob → Nat
  | .lst xs => xs.length
  | .dK ks _ => ks.length
  | .lk ks _ => ks.length
def topD : D → Bool
  | .lst _ => false
  | .scr _ => false
  | .dct _ _ => false
  | _ => true
theorem oAppend_at {k : Nat} {xs : List D} {d : D} {st : Sto} (h : st[k]? = some (.lst xs)) (hl : xs.length < 1000) : oAppend (.loc k) d st = .ok .non (st.set k (.lst (xs ++ [d]))) := by
  have h2 : decide (xs.length < LIM) = true := decide_eq_true (by have : LIM = 10000000 := rfl; omega)
  simp only [oAppend, h, h2]
theorem isLoc_at {k : Nat} {xs : List D} {st : Sto} (h : st[k]? = some (.lst xs)) : isLoc (.loc k) st = true := by
  simp only [isLoc, h]
theorem oStr_nat {n : Nat} {st : Sto} (h : n < 1000) : oStr [.int n] st = .ok (.str (toString (n : Int))) st := by
  have h2 : decide ((n : Int).natAbs.log2 < 1920) = true := decide_eq_true (by
    rw [Int.natAbs_natCast]
    by_cases z : n = 0
    · rw [z]; decide
    · have := (Nat.log2_lt (k := 10) z).mpr (by omega)
      omega)
  simp only [oStr, int1?, h2]
theorem oAdd_str {a b : Str} {st : Sto} (h : a.length + b.length ≤ 10000000) : oAdd (.str a) (.str b) st = .ok (.str (a ++ b)) st := by
  have h2 : decide (a.length + b.length ≤ LIM) = true := decide_eq_true h
  simp only [oAdd, h2]
theorem more_len : ∀ n : Nat, n < 1000 → Str.length "more" + Str.length (toString (n : Int) : String) ≤ 10000000 := by decide +kernel
def k_dput (k : Key) (n : Nat) (ks : List Key) (ds : List D) (d : D) : Ob := .dK (putKs ks k) (putD ks ds k d)
theorem putDs_flat {k : Key} {x : D} (hx : flatD 3 x = true) : ∀ (ks : List Key) (ds : List D), ds.all (flatD 3) = true → (putDs ks ds k x).all (flatD 3) = true
  | [], ds, _ => by unfold putDs; cases ds <;> rfl
  | _ :: _, [], _ => by unfold putDs; rfl
  | k' :: ks, d :: ds, h => by
    have h1 := Bool.and_eq_true_iff.mp (show (flatD 3 d && ds.all (flatD 3)) = true from h)
    show (flatD 3 (if k' = k then x else d) && (putDs ks ds k x).all (flatD 3)) = true
    rw [putDs_flat hx ks ds h1.2, Bool.and_true]
    by_cases e : k' = k
    · rw [if_pos e]; exact hx
    · rw [if_neg e]; exact h1.1
theorem putDs_len {k : Key} {x : D} : ∀ (ks : List Key) (ds : List D), ks.length = ds.length → (putDs ks ds k x).length = ks.length
  | [], ds, _ => by unfold putDs; cases ds <;> rfl
  | _ :: _, [], h => by cases h
  | k' :: ks, d :: ds, h => by
    show (putDs ks ds k x).length + 1 = ks.length + 1
    rw [putDs_len ks ds (by simpa using h)]
theorem put_obV {ks : List Key} {ds : List D} {k : Key} {x : D} (hx : flatD 3 x = true) (hl : ks.length < 1000) (hk : ks.length = ds.length) (hf : ds.all (flatD 3) = true) : obV (.dK (putKs ks k) (putD ks ds k x)) = true := by
  unfold putKs putD
  by_cases e : (ks.any fun k' => decide (k' = k)) = true
  · rw [if_pos e, if_pos e]
    show (decide (ks.length < 1000000) && (decide (ks.length = (putDs ks ds k x).length) && (putDs ks ds k x).all (flatD 3))) = true
    rw [putDs_len ks ds hk, putDs_flat hx ks ds hf, decide_eq_true (show ks.length < 1000000 by omega), decide_eq_true rfl] <;> rfl
  · rw [if_neg e, if_neg e]
    show (decide ((ks ++ [k]).length < 1000000) && (decide ((ks ++ [k]).length = (ds ++ [x]).length) && (ds ++ [x]).all (flatD 3))) = true
    rw [List.length_append, List.length_append, List.length_singleton, List.length_singleton, hk, List.all_append, hf, decide_eq_true (show ds.length + 1 < 1000000 by omega), decide_eq_true rfl]
    show (true && (true && (true && (flatD 3 x && true)))) = true
    rw [hx] <;> rfl
/-- value is told to be itself, changed or not -/
theorem very_ok {n : Nat} {d : D} {st : Sto} (hv : valD n st d = true) (hn : n + 5 ≤ 12) (ht : topD d = true) (hs : ∀ k, d = .loc k → ∀ o, st[k]? = some o → obN o < 1000) :
    ∃ st', runFn 2 (b_very (m_same 12)) [d, d] st = .ok (.bl true) st' ∧ SLe st st' ∧ (∀ j, d ≠ .loc j → st'[j]? = st[j]?) ∧ st'.length = st.length := by
  have s1 := same_refl n d st hv 12 hn
  have plain : ∀ t, tyD st d = some t → isPT t .lst = false → isPT t .dct = false → runFn 2 (b_very (m_same 12)) [d, d] st = .ok (.bl true) st := fun t ht h1 h2 => by
    generalize m_same 12 = m at s1
    simp [b_very, s1, k_isi_ty ht, h1, h2]
  cases d with
  | non => exact ⟨st, plain .non rfl rfl rfl, SLe.refl, fun _ _ => rfl, rfl⟩
  | bl _ => exact ⟨st, plain .bl rfl rfl rfl, SLe.refl, fun _ _ => rfl, rfl⟩
  | int _ => exact ⟨st, plain .int rfl rfl rfl, SLe.refl, fun _ _ => rfl, rfl⟩
  | str _ => exact ⟨st, plain .str rfl rfl rfl, SLe.refl, fun _ _ => rfl, rfl⟩
  | tup _ => exact ⟨st, plain .tup rfl rfl rfl, SLe.refl, fun _ _ => rfl, rfl⟩
  | lst _ => cases ht
  | scr _ => cases ht
  | dct _ _ => cases ht
  | loc k =>
    have hv2 : (match st[k]? with | some o => obV o | none => false) = true := by cases n <;> exact hv
    cases e : st[k]? with
    | none => rw [e] at hv2; cases hv2
    | some o =>
      rw [e] at hv2
      have hs := hs k rfl o e
      cases o with
      | lk _ _ => cases hv2
      | lst xs =>
        obtain ⟨h1, h2⟩ := all_len hv2
        have hl : xs.length < 1000 := hs
        have ho : obV (.lst (xs ++ [.str "more"])) = true := by
          refine len_all (by rw [List.length_append, List.length_singleton]; omega) fun x hx => ?_
          rcases List.mem_append.mp hx with q | q
          · exact h2 x q
          · rw [List.mem_singleton.mp q]
            decide +kernel
        have le : SLe st (st.set k (.lst (xs ++ [.str "more"]))) := SLe.set e (fun _ => ho) rfl
        have hlt := (List.getElem?_eq_some_iff.mp e).1
        have e2 : (st.set k (.lst (xs ++ [.str "more"])))[k]? = some (.lst (xs ++ [.str "more"])) := List.getElem?_set_self hlt
        have s2 := same_refl n (.loc k) _ (val_le le n _ hv) 12 hn
        refine ⟨st.set k (.lst (xs ++ [.str "more"])), ?_, le, fun j hj => List.getElem?_set_ne (fun z => hj (by rw [z])), List.length_set⟩
        generalize m_same 12 = m at s1 s2
        simp [b_very, s1, isPT, k_isi_ty (tyD_loc e), k_isi_ty (tyD_loc e2), tyO, k_m1_ok (isLoc_at e), oAppend_at e hl, s2]
      | dK ks ds =>
        have hl : ks.length < 1000 := hs
        obtain ⟨h1, h2⟩ := Bool.and_eq_true_iff.mp hv2
        obtain ⟨h2, h3⟩ := Bool.and_eq_true_iff.mp h2
        have h2 := of_decide_eq_true h2
        let key : Key := .inr ((("more" : Str)) ++ ((toString (ks.length : Int) : String) : Str))
        have ho : obV (.dK (putKs ks key) (putD ks ds key (.int 1))) = true := put_obV rfl hl h2 h3
        have le : SLe st (st.set k (.dK (putKs ks key) (putD ks ds key (.int 1)))) := SLe.set e (fun _ => ho) rfl
        have s2 := same_refl n (.loc k) _ (val_le le n _ hv) 12 hn
        refine ⟨st.set k (.dK (putKs ks key) (putD ks ds key (.int 1))), ?_, le, fun j hj => List.getElem?_set_ne (fun z => hj (by rw [z])), List.length_set⟩
        have put : sDput (fVar 1) (fOp oAdd (fC (.str "more")) (fCall oStr (fCons (fCall oLen (fCons (fVar 1) fNil)) fNil))) (fC (.int 1)) [some (.loc k), some (.loc k)] st = .nx [some (.loc k), some (.loc k)] (st.set k (.dK (putKs ks key) (putD ks ds key (.int 1)))) := by
          have a1 : fOp oAdd (fC (.str "more")) (fCall oStr (fCons (fCall oLen (fCons (fVar 1) fNil)) fNil)) [some (.loc k), some (.loc k)] st = .ok (.str ((("more" : Str)) ++ ((toString (ks.length : Int) : String) : Str))) st := by
            simp only [ev_op, ev_c, k_op1_ok, ev_call, ev_cons, ev_var, List.getElem?_cons_succ, List.getElem?_cons_zero, k_cons1_ok, ev_nil, k_cons2_ok, k_call_ok, oLen_dK e, oStr_nat hl, k_op2_ok]
            exact oAdd_str (more_len _ hl)
          unfold sDput
          have v1 : fVar 1 [some (.loc k), some (.loc k)] st = .ok (.loc k) st := rfl
          have hd : decide (ks.length < LIM) = true := decide_eq_true (by have : LIM = 10000000 := rfl; omega)
          simp only [ev_c, Res.thn_ok, v1, a1, keyOf, e, hd]
          rfl
        generalize m_same 12 = m at s1 s2
        simp [b_very, s1, isPT, k_isi_ty (tyD_loc e), tyO, put, s2]

/-! ### _law_pick, _law_box, _law_cell -/
def b_pick (m : Sem) : StmD := (sRet (fOp oIx (fVar 1) (fCall m (fCons (fVar 0) (fCons (fCall oLen (fCons (fVar 1) fNil)) fNil)))))
def PickS (m : Sem) : Prop := ∀ (st : Sto) (n : Nat) (b : Box) (xs : List D) (d : D) (C : Int), (d = .lst xs ∨ d = .tup xs) → st[n]? = some b.o → b.ok C → C < 1000000000 → xs ≠ [] → xs.length < 1000000 →
  ∃ x ∈ xs, ∃ b' : Box, m [.loc n, d] st = .ok x (st.set n b'.o) ∧ b'.ok (C + 1)
theorem log2_small {n : Nat} (h : n < 1000000) : n.log2 < 9000 := by
  by_cases z : n = 0
  · rw [z]; decide
  · have := (Nat.log2_lt (k := 20) z).mpr (by omega)
    omega
theorem pick_ok {m : Sem} (hm : TakeS m) : PickS (runFn 2 (b_pick m)) := by
  intro st n b xs d C hd hs ok hC hx hl
  have hp : 0 < xs.length := List.length_pos_iff.mpr hx
  obtain ⟨r, b', e, r0, r1, ok'⟩ := hm st n b xs.length C hs ok hC (by omega) (by rw [Int.natAbs_natCast]; exact log2_small hl)
  have hr : r.toNat < xs.length := by omega
  have hat : atI xs r = some xs[r.toNat] := by
    unfold atI ixN
    rw [if_pos r0, if_pos r1]
    exact List.getElem?_eq_getElem hr
  refine ⟨xs[r.toNat], List.getElem_mem hr, b', ?_, ok'⟩
  rcases hd with rfl | rfl <;> simp [b_pick, e, hat]
def b_box (p : Int) : StmD := (sRet (fLstO (fCons (fOp oAdd (fOp oMul (fOp oMod (fCall oInt (fCons (fCall (oInt1 fun i => .int (if i < 0 then -i else i)) (fCons (fVar 0) fNil)) fNil)) (fOp oPow (fC (.int 10)) (fC (.int 60)))) (fOp oPow (fC (.int 10)) (fC (.int 40)))) (fOp oMod (fCall oInt (fCons (fCall (oInt1 fun i => .int (if i < 0 then -i else i)) (fCons (fVar 0) fNil)) fNil)) (fOp oPow (fC (.int 10)) (fC (.int 40))))) (fCons (fOp (oCmp fun i j => decide (j ≤ i)) (fCall (oInt1 fun i => .int (if i < 0 then -i else i)) (fCons (fVar 0) fNil)) (fOp oPow (fC (.int 10)) (fC (.int 18)))) (fCons (fOp oMod (fCall oInt (fCons (fCall (oInt1 fun i => .int (if i < 0 then -i else i)) (fCons (fVar 0) fNil)) fNil)) (fC (.int p))) (fCons (fC (.int 0)) fNil))))))
theorem box_ok {p : Int} (h0 : 0 < p) (h1 : p ≤ 2147483648) (g : Int) (st : Sto) : ∃ b : Box, runFn 1 (b_box p) [.int g] st = .ok (.loc st.length) (st ++ [b.o]) ∧ b.ok 0 := by
  generalize hg : (if g < 0 then -g else g) = a
  have p1 : powOk 10 60 = true := by decide
  have p2 : powOk 10 40 = true := by decide
  have p3 : powOk 10 18 = true := by decide
  have n1 : (10 : Int) ^ (60 : Int).toNat ≠ 0 := by decide
  have n2 : (10 : Int) ^ (40 : Int).toNat ≠ 0 := by decide
  have n3 : p ≠ 0 := by omega
  have q1 : 0 ≤ a.fmod (10 ^ (60 : Int).toNat) ∧ a.fmod (10 ^ (60 : Int).toNat) < 10 ^ (60 : Int).toNat := fmod_lt' (by decide)
  have q2 : 0 ≤ a.fmod (10 ^ (40 : Int).toNat) ∧ a.fmod (10 ^ (40 : Int).toNat) < 10 ^ (40 : Int).toNat := fmod_lt' (by decide)
  have q3 := fmod_lt' (a := a) h0
  have s1 : Sz 200 (a.fmod (10 ^ (60 : Int).toNat)) := by
    unfold Sz
    have : (10 : Int) ^ (60 : Int).toNat < 2 ^ 200 := by decide
    omega
  have mo : mulOk (a.fmod (10 ^ (60 : Int).toNat)) (10 ^ (40 : Int).toNat) = true := s1.ok (l := 200) (by unfold Sz; decide) (by decide)
  refine ⟨⟨a.fmod (10 ^ (60 : Int).toNat) * 10 ^ (40 : Int).toNat + a.fmod (10 ^ (40 : Int).toNat), decide (10 ^ (18 : Int).toNat ≤ a), a.fmod p, 0⟩, ?_, ⟨Int.add_nonneg (Int.mul_nonneg q1.1 (by decide)) q2.1, q3.1, by show a.fmod p < 2147483648; omega, Int.le_refl _, Int.le_refl _⟩⟩
  simp only [b_box, runFn_ev, List.map_cons, List.map_nil, List.length_cons, List.length_nil, ev_ret, ev_lstO, ev_cons, ev_op, ev_call, ev_var, ev_c, ev_nil, k_op1_ok, k_op2_ok, k_call_ok, k_cons1_ok, k_cons2_ok, oInt1_int, hg, oInt_int, oPow_int p1, oPow_int p2, oPow_int p3, oMod_int n1, oMod_int n2, oMod_int n3, oMul_int mo, oAdd_int, oCmp_int, k_lstO_ok, k_ret_ok, Ctl.fin_rt, Box.o, List.cons_append, List.getElem?_cons_zero]
def b_cell (c q : Int) : StmD := (sRet (fIf (fTest (fOp (oCmp fun i j => decide (i < j)) (fVar 1) (fCall oLen (fCons (fVar 0) fNil)))) (fOp oIx (fVar 0) (fVar 1)) (fOp oAdd (fOp oMul (fC (.int c)) (fVar 1)) (fOp oMod (fCall oInt (fCons (fCall (oInts fun is => .int is.sum) (fCons (fSl (fVar 0) fONone (fOSome (fC (.int 1)))) fNil)) fNil)) (fC (.int q))))))
theorem ints_map (ns : List Int) : ints? (ns.map D.int) = some ns := by
  induction ns with
  | nil => rfl
  | cons n ns ih => simp only [List.map_cons, ints?, ih, Option.map_some]
theorem cell_ok {c q : Int} (hc : c.natAbs < 2 ^ 64) (hq : q ≠ 0) (ns : List Int) (k : Nat) (st : Sto) : ∃ v : Int, runFn 2 (b_cell c q) [.scr (ns.map D.int), .int k] st = .ok (.int v) st := by
  by_cases h : k < ns.length
  · have hat : atI (ns.map D.int) (k : Int) = some (.int ns[k]) := by
      unfold atI ixN
      simp [h]
    exact ⟨ns[k], by simp [b_cell, h, hat]⟩
  · have sl : fSl (fVar 0) fONone (fOSome (fC (.int 1))) [some (.scr (ns.map D.int)), some (.int k)] st = .ok (.lst ((ns.take 1).map D.int)) st := by
      rw [ev_sl_at (x := .scr (ns.map D.int)) (a := none) (b := some 1) rfl rfl (ev_oS_at rfl)]
      have e : cutD (ns.map D.int) none (some 1) = (ns.take 1).map D.int := by
        unfold cutD
        rw [HT.sIx_none, show HT.sIx (ns.map D.int).length (ns.map D.int).length (some 1) = min 1 (ns.map D.int).length from HT.sIx_nat _ _ 1, List.drop_zero, Nat.sub_zero, List.map_take]
        cases ns <;> simp
      simp only [oSl, asLR, e]
    have sm : oInts (fun is => .int is.sum) [.lst ((ns.take 1).map D.int)] st = .ok (.int (ns.take 1).sum) st := by
      simp only [oInts, one?, asLR, Option.bind_some, ints_map]
    have hm : mulOk c k = true := mulOk_l hc
    generalize (ns.take 1).map D.int = L at sl sm
    exact ⟨c * k + (ns.take 1).sum.fmod q, by simp [b_cell, h, sl, sm, oMul_int hm, oMod_int hq]⟩
end Z

set_option maxHeartbeats 4000000
namespace Z
open PySem PySem.Spec PyProof.Rows L2

/-! ### a list of numbers, [] or not; two numbers, equal or not -/
theorem toPyL_ints : ∀ ys : List D, (∀ x ∈ ys, ∃ k : Int, x = .int k) → ∃ is : List Int, toPyL ys = some (is.map PyData.int) ∧ is.length = ys.length
  | [], _ => ⟨[], rfl, rfl⟩
  | y :: ys, h => by
    obtain ⟨k, rfl⟩ := h y List.mem_cons_self
    obtain ⟨is, e, hl⟩ := toPyL_ints ys fun x hx => h x (List.mem_cons_of_mem _ hx)
    exact ⟨k :: is, by simp only [toPyL, toPy, e, List.map_cons], by simp [hl]⟩
theorem lay_ints (is : List Int) : PyData.canLayAll0 (is.map PyData.int) = true ∧ PyData.depthAll (is.map PyData.int) = 0 := by
  induction is with
  | nil => exact ⟨by simp only [List.map_nil, PyData.canLayAll0], by simp only [List.map_nil, PyData.depthAll]⟩
  | cons i is ih => exact ⟨by simp only [List.map_cons, PyData.canLayAll0, PyData.canLay0, ih.1, Bool.and_self], by simp only [List.map_cons, PyData.depthAll, PyData.depth, ih.2, Nat.max_self]⟩
theorem shaped_ints (is : List Int) : SeqAt.shaped (.list (is.map PyData.int)) = true ∧ SeqAt.shaped (.tuple (is.map PyData.int)) = true := by
  obtain ⟨a, b⟩ := lay_ints is
  constructor <;> (unfold SeqAt.shaped; simp only [PyData.canLay0, PyData.depth, a, b, Bool.true_and]; decide)
theorem oEq_ints_nil {ys : List D} {st : Sto} (h : ∀ x ∈ ys, ∃ k : Int, x = .int k) : oEq (.lst ys) (.lst []) st = .ok (.bl ys.isEmpty) st := by
  obtain ⟨is, e, hl⟩ := toPyL_ints ys h
  have e1 : toPyS st (.lst ys) = some (.list (is.map PyData.int)) := by
    show (toPyL ys).map PyData.list = _
    rw [e] <;> rfl
  have e2 : toPyS st (.lst []) = some (.list []) := rfl
  have s2 : SeqAt.shaped (.list []) = true := (shaped_ints []).1
  have e3 : oEqB (.lst ys) (.lst []) st = some (PyData.eqv (.list (is.map PyData.int)) (.list [])) := by
    unfold oEqB
    simp only [scalD, e1, e2, (shaped_ints is).1, s2, Bool.and_self]
  have e4 : PyData.eqv (.list (is.map PyData.int)) (.list []) = ys.isEmpty := by
    cases is with
    | nil =>
      cases ys with
      | nil => simp only [List.map_nil, PyData.eqv, PyData.eqvAll, List.isEmpty_nil]
      | cons y ys => cases hl
    | cons i is =>
      cases ys with
      | nil => cases hl
      | cons y ys => simp only [List.map_cons, PyData.eqv, PyData.eqvAll, List.isEmpty_cons]
  unfold oEq
  rw [e3, e4]
theorem oNe_two {a b c d : Int} {st : Sto} : oNe (.tup [.int a, .int b]) (.tup [.int c, .int d]) st = .ok (.bl (!(decide (a = c) && decide (b = d)))) st := by
  have e1 : ∀ x y : Int, toPyS st (.tup [.int x, .int y]) = some (.tuple ([x, y].map PyData.int)) := fun x y => rfl
  have e3 : oEqB (.tup [.int a, .int b]) (.tup [.int c, .int d]) st = some (decide (a = c) && decide (b = d)) := by
    unfold oEqB
    simp only [scalD, e1, (shaped_ints _).2, Bool.and_self]
    simp only [List.map_cons, List.map_nil, PyData.eqv, PyData.eqvAll, Bool.and_true]
    congr 1
  unfold oNe
  rw [e3]
theorem filter_empty_all {α : Type} (p q : α → Bool) : ∀ xs : List α, (∀ x ∈ xs, q x = !p x) → (xs.filter p).isEmpty = xs.all q
  | [], _ => rfl
  | x :: xs, h => by
    have ih := filter_empty_all p q xs fun y hy => h y (List.mem_cons_of_mem _ hy)
    have hx := h x List.mem_cons_self
    rw [List.all_cons, hx, ← ih]
    cases hp : p x with
    | true => rw [List.filter_cons_of_pos hp]; rfl
    | false => rw [List.filter_cons_of_neg (by rw [hp]; exact Bool.false_ne_true)]; rfl
/-! ### for -/
section
variable {env e : Env} {st s : Sto} {fi : ItrD} {g : TgtD} {body : StmD} {x d : D} {xs : List D} {c fl : Str}
def k_for (g : TgtD) (body : StmD) (env : Env) : Res SrcD → Ctl | .ok (.fz xs) s => forD g body xs env s | .ok (.lc k) s => forK g body k (lenAt s k + 1) 0 env s | .ex c f d s => .ex c f d env s | .no => .no
@[simp] theorem ev_for : sFor fi g body env st = k_for g body env (fi env st) := rfl
@[simp] theorem k_for_fz : k_for g body env (.ok (.fz xs) s) = forD g body xs env s := rfl
def k_f2 (g : TgtD) (body : StmD) (xs : List D) : Ctl → Ctl | .nx e s => forD g body xs e s | .ct e s => forD g body xs e s | .bk e s => .nx e s | r => r
def k_f1 (g : TgtD) (body : StmD) (xs : List D) (env : Env) : Res Env → Ctl | .ok e1 s1 => k_f2 g body xs (body e1 s1) | .ex c f d s => .ex c f d env s | .no => .no
@[simp] theorem forD_nil : forD g body [] env st = .nx env st := rfl
@[simp] theorem forD_cons : forD g body (x :: xs) env st = k_f1 g body xs env (g x env st) := rfl
@[simp] theorem k_f1_ok : k_f1 g body xs env (.ok e s) = k_f2 g body xs (body e s) := rfl
@[simp] theorem k_f2_nx : k_f2 g body xs (.nx e s) = forD g body xs e s := rfl
@[simp] theorem k_f2_ct : k_f2 g body xs (.ct e s) = forD g body xs e s := rfl
@[simp] theorem k_f2_bk : k_f2 g body xs (.bk e s) = .nx e s := rfl
@[simp] theorem k_f2_rt : k_f2 g body xs (.rt d s) = .rt d s := rfl
/-- a loop that keeps P -/
theorem forD_inv {P : Nat → Env → Sto → Prop} : ∀ (xs : List D) (i : Nat) (env : Env) (st : Sto), P i env st →
    (∀ (j : Nat) (x : D) (env : Env) (st : Sto), xs[j]? = some x → P (i + j) env st → ∃ e1 s1 e2 s2, g x env st = .ok e1 s1 ∧ (body e1 s1 = .nx e2 s2 ∨ body e1 s1 = .ct e2 s2) ∧ P (i + j + 1) e2 s2) → ∃ e s, forD g body xs env st = .nx e s ∧ P (i + xs.length) e s
  | [], i, env, st, h, _ => ⟨env, st, rfl, h⟩
  | x :: xs, i, env, st, h, step => by
    obtain ⟨e1, s1, e2, s2, h1, h2, h3⟩ := step 0 x env st rfl h
    obtain ⟨e, s, h4, h5⟩ := forD_inv (P := P) xs (i + 1) e2 s2 h3 fun j y en s' hy hp => by
      have q := step (j + 1) y en s' (by simpa using hy) (by rw [show i + (j + 1) = i + 1 + j by omega]; exact hp)
      rw [show i + (j + 1) + 1 = i + 1 + j + 1 by omega] at q
      exact q
    refine ⟨e, s, ?_, by rw [List.length_cons, show i + (xs.length + 1) = i + 1 + xs.length by omega]; exact h5⟩
    rcases h2 with h2 | h2 <;> simp [h1, h2, h4]
end
/-- what a def leaves behind: its own objects go -/
def Cl (st : Sto) : Prop := st.all (Ob.lt st.length) = true
theorem gcT_ok {F : Sem} {ds : List D} {st s : Sto} {d : D} (h : F ds st = .ok d s) (hd : d.lt st.length = true) (hs : (s.take st.length).all (Ob.lt st.length) = true) : gcT F ds st = .ok d (s.take st.length) := by
  unfold gcT
  rw [h]
  simp only [hd, hs, Bool.and_self]
end Z

set_option maxHeartbeats 4000000
namespace L
open PySem PySem.Spec PyProof.Rows L2 Z
abbrev PW : Program := PySem.Challenge.pw_manyfactorings_k40_ring_numbers
abbrev RWo : PySem.W.OpenLaw := PySem.Challenge.rw_manyfactorings_k40_ring_numbers
def top (i : Nat) : Stmt := PW.main.body.getD i (.Pass ⟨0, 0, 0, 0⟩)
abbrev st_is_integer : Stmt := top 5
abbrev st_is_between : Stmt := top 6
abbrev st_is_tuple_of : Stmt := top 7
abbrev st_are_integers : Stmt := top 8
abbrev st_is_ring : Stmt := top 12
abbrev st_check_ring : Stmt := top 13
abbrev st_is_number : Stmt := top 14
abbrev st_check_number : Stmt := top 15
abbrev st_check_one : Stmt := top 16
abbrev st_check_two : Stmt := top 17
abbrev st_trace_of : Stmt := top 18
abbrev st_last_in : Stmt := top 19
abbrev st_plus_in : Stmt := top 20
abbrev st_times_in : Stmt := top 21
abbrev st_mirror_in : Stmt := top 22
abbrev st_norm_in : Stmt := top 23
abbrev st_plus : Stmt := top 24
abbrev st_product : Stmt := top 25
abbrev st_mirror : Stmt := top 26
abbrev st_norm : Stmt := top 27
abbrev st__law_cell : Stmt := top 29
abbrev st__law_box : Stmt := top 30
abbrev st__law_take : Stmt := top 31
abbrev st__law_pick : Stmt := top 32
abbrev st__law_same : Stmt := top 33
abbrev st__law_copy : Stmt := top 34
abbrev st__law_very : Stmt := top 35
abbrev st__law_roots : Stmt := top 36
abbrev st__law_trace : Stmt := top 37
abbrev st__law_ring_times : Stmt := top 38
abbrev st__law_mirror : Stmt := top 39
abbrev st__law_norm : Stmt := top 40
abbrev st__law_is_root : Stmt := top 41
abbrev st__law_ring_root : Stmt := top 42
abbrev st__law_some_number : Stmt := top 43
abbrev st__law_odd_number : Stmt := top 44
abbrev st__law_odd_ring : Stmt := top 45
abbrev st__law_told : Stmt := top 46
abbrev st__law_met : Stmt := top 47
abbrev st__law_sum_of : Stmt := top 48
abbrev st__law_two_right : Stmt := top 49
abbrev st__law_three_right : Stmt := top 50
abbrev st__law_w_right : Stmt := top 51
abbrev st__law_roots_right : Stmt := top 52
abbrev st__law_refused_right : Stmt := top 53
abbrev st_law : Stmt := top 54
abbrev st_InvalidNumber_init : Stmt := inClass (top 2) 0
abbrev st_InvalidRing_init : Stmt := inClass (top 3) 0
abbrev N_is_integer : List Str := ["value"]
abbrev P_is_integer : List Str := ["value"]
theorem sc_is_integer : FnScope N_is_integer P_is_integer (defScope st_is_integer) := ⟨rfl, rfl, rfl, by decide +kernel, rfl, by decide +kernel, by decide +kernel⟩
theorem bd_is_integer : Bnd "is_integer" st_is_integer P_is_integer := fun _ _ _ _ _ _ us hl => match us, hl with | [_], _ => rfl
abbrev N_is_between : List Str := ["value", "low", "high"]
abbrev P_is_between : List Str := ["value", "low", "high"]
theorem sc_is_between : FnScope N_is_between P_is_between (defScope st_is_between) := ⟨rfl, rfl, rfl, by decide +kernel, rfl, by decide +kernel, by decide +kernel⟩
theorem bd_is_between : Bnd "is_between" st_is_between P_is_between := fun _ _ _ _ _ _ us hl => match us, hl with | [_, _, _], _ => rfl
abbrev N_is_tuple_of : List Str := ["value", "size"]
abbrev P_is_tuple_of : List Str := ["value", "size"]
theorem sc_is_tuple_of : FnScope N_is_tuple_of P_is_tuple_of (defScope st_is_tuple_of) := ⟨rfl, rfl, rfl, by decide +kernel, rfl, by decide +kernel, by decide +kernel⟩
theorem bd_is_tuple_of : Bnd "is_tuple_of" st_is_tuple_of P_is_tuple_of := fun _ _ _ _ _ _ us hl => match us, hl with | [_, _], _ => rfl
abbrev N_are_integers : List Str := ["value", "size", "item"]
abbrev P_are_integers : List Str := ["value", "size"]
theorem sc_are_integers : FnScope N_are_integers P_are_integers (defScope st_are_integers) := ⟨rfl, rfl, rfl, by decide +kernel, rfl, by decide +kernel, by decide +kernel⟩
theorem bd_are_integers : Bnd "are_integers" st_are_integers P_are_integers := fun _ _ _ _ _ _ us hl => match us, hl with | [_, _], _ => rfl
abbrev N_is_ring : List Str := ["value", "side"]
abbrev P_is_ring : List Str := ["value"]
theorem sc_is_ring : FnScope N_is_ring P_is_ring (defScope st_is_ring) := ⟨rfl, rfl, rfl, by decide +kernel, rfl, by decide +kernel, by decide +kernel⟩
theorem bd_is_ring : Bnd "is_ring" st_is_ring P_is_ring := fun _ _ _ _ _ _ us hl => match us, hl with | [_], _ => rfl
abbrev N_check_ring : List Str := ["ring"]
abbrev P_check_ring : List Str := ["ring"]
theorem sc_check_ring : FnScope N_check_ring P_check_ring (defScope st_check_ring) := ⟨rfl, rfl, rfl, by decide +kernel, rfl, by decide +kernel, by decide +kernel⟩
theorem bd_check_ring : Bnd "check_ring" st_check_ring P_check_ring := fun _ _ _ _ _ _ us hl => match us, hl with | [_], _ => rfl
abbrev N_is_number : List Str := ["value"]
abbrev P_is_number : List Str := ["value"]
theorem sc_is_number : FnScope N_is_number P_is_number (defScope st_is_number) := ⟨rfl, rfl, rfl, by decide +kernel, rfl, by decide +kernel, by decide +kernel⟩
theorem bd_is_number : Bnd "is_number" st_is_number P_is_number := fun _ _ _ _ _ _ us hl => match us, hl with | [_], _ => rfl
abbrev N_check_number : List Str := ["number"]
abbrev P_check_number : List Str := ["number"]
theorem sc_check_number : FnScope N_check_number P_check_number (defScope st_check_number) := ⟨rfl, rfl, rfl, by decide +kernel, rfl, by decide +kernel, by decide +kernel⟩
theorem bd_check_number : Bnd "check_number" st_check_number P_check_number := fun _ _ _ _ _ _ us hl => match us, hl with | [_], _ => rfl
abbrev N_check_one : List Str := ["ring", "number"]
abbrev P_check_one : List Str := ["ring", "number"]
theorem sc_check_one : FnScope N_check_one P_check_one (defScope st_check_one) := ⟨rfl, rfl, rfl, by decide +kernel, rfl, by decide +kernel, by decide +kernel⟩
theorem bd_check_one : Bnd "check_one" st_check_one P_check_one := fun _ _ _ _ _ _ us hl => match us, hl with | [_, _], _ => rfl
abbrev N_check_two : List Str := ["ring", "one", "other"]
abbrev P_check_two : List Str := ["ring", "one", "other"]
theorem sc_check_two : FnScope N_check_two P_check_two (defScope st_check_two) := ⟨rfl, rfl, rfl, by decide +kernel, rfl, by decide +kernel, by decide +kernel⟩
theorem bd_check_two : Bnd "check_two" st_check_two P_check_two := fun _ _ _ _ _ _ us hl => match us, hl with | [_, _, _], _ => rfl
abbrev N_trace_of : List Str := ["ring"]
abbrev P_trace_of : List Str := ["ring"]
theorem sc_trace_of : FnScope N_trace_of P_trace_of (defScope st_trace_of) := ⟨rfl, rfl, rfl, by decide +kernel, rfl, by decide +kernel, by decide +kernel⟩
theorem bd_trace_of : Bnd "trace_of" st_trace_of P_trace_of := fun _ _ _ _ _ _ us hl => match us, hl with | [_], _ => rfl
abbrev N_last_in : List Str := ["ring"]
abbrev P_last_in : List Str := ["ring"]
theorem sc_last_in : FnScope N_last_in P_last_in (defScope st_last_in) := ⟨rfl, rfl, rfl, by decide +kernel, rfl, by decide +kernel, by decide +kernel⟩
theorem bd_last_in : Bnd "last_in" st_last_in P_last_in := fun _ _ _ _ _ _ us hl => match us, hl with | [_], _ => rfl
abbrev N_plus_in : List Str := ["one", "other"]
abbrev P_plus_in : List Str := ["one", "other"]
theorem sc_plus_in : FnScope N_plus_in P_plus_in (defScope st_plus_in) := ⟨rfl, rfl, rfl, by decide +kernel, rfl, by decide +kernel, by decide +kernel⟩
theorem bd_plus_in : Bnd "plus_in" st_plus_in P_plus_in := fun _ _ _ _ _ _ us hl => match us, hl with | [_, _], _ => rfl
abbrev N_times_in : List Str := ["ring", "one", "other", "both", "mixed"]
abbrev P_times_in : List Str := ["ring", "one", "other"]
theorem sc_times_in : FnScope N_times_in P_times_in (defScope st_times_in) := ⟨rfl, rfl, rfl, by decide +kernel, rfl, by decide +kernel, by decide +kernel⟩
theorem bd_times_in : Bnd "times_in" st_times_in P_times_in := fun _ _ _ _ _ _ us hl => match us, hl with | [_, _, _], _ => rfl
abbrev N_mirror_in : List Str := ["ring", "number"]
abbrev P_mirror_in : List Str := ["ring", "number"]
theorem sc_mirror_in : FnScope N_mirror_in P_mirror_in (defScope st_mirror_in) := ⟨rfl, rfl, rfl, by decide +kernel, rfl, by decide +kernel, by decide +kernel⟩
theorem bd_mirror_in : Bnd "mirror_in" st_mirror_in P_mirror_in := fun _ _ _ _ _ _ us hl => match us, hl with | [_, _], _ => rfl
abbrev N_norm_in : List Str := ["ring", "number", "first", "second"]
abbrev P_norm_in : List Str := ["ring", "number"]
theorem sc_norm_in : FnScope N_norm_in P_norm_in (defScope st_norm_in) := ⟨rfl, rfl, rfl, by decide +kernel, rfl, by decide +kernel, by decide +kernel⟩
theorem bd_norm_in : Bnd "norm_in" st_norm_in P_norm_in := fun _ _ _ _ _ _ us hl => match us, hl with | [_, _], _ => rfl
abbrev N_plus : List Str := ["ring", "one", "other"]
abbrev P_plus : List Str := ["ring", "one", "other"]
theorem sc_plus : FnScope N_plus P_plus (defScope st_plus) := ⟨rfl, rfl, rfl, by decide +kernel, rfl, by decide +kernel, by decide +kernel⟩
theorem bd_plus : Bnd "plus" st_plus P_plus := fun _ _ _ _ _ _ us hl => match us, hl with | [_, _, _], _ => rfl
abbrev N_product : List Str := ["ring", "one", "other"]
abbrev P_product : List Str := ["ring", "one", "other"]
theorem sc_product : FnScope N_product P_product (defScope st_product) := ⟨rfl, rfl, rfl, by decide +kernel, rfl, by decide +kernel, by decide +kernel⟩
theorem bd_product : Bnd "product" st_product P_product := fun _ _ _ _ _ _ us hl => match us, hl with | [_, _, _], _ => rfl
abbrev N_mirror : List Str := ["ring", "number"]
abbrev P_mirror : List Str := ["ring", "number"]
theorem sc_mirror : FnScope N_mirror P_mirror (defScope st_mirror) := ⟨rfl, rfl, rfl, by decide +kernel, rfl, by decide +kernel, by decide +kernel⟩
theorem bd_mirror : Bnd "mirror" st_mirror P_mirror := fun _ _ _ _ _ _ us hl => match us, hl with | [_, _], _ => rfl
abbrev N_norm : List Str := ["ring", "number"]
abbrev P_norm : List Str := ["ring", "number"]
theorem sc_norm : FnScope N_norm P_norm (defScope st_norm) := ⟨rfl, rfl, rfl, by decide +kernel, rfl, by decide +kernel, by decide +kernel⟩
theorem bd_norm : Bnd "norm" st_norm P_norm := fun _ _ _ _ _ _ us hl => match us, hl with | [_, _], _ => rfl
abbrev N__law_cell : List Str := ["script", "k"]
abbrev P__law_cell : List Str := ["script", "k"]
theorem sc__law_cell : FnScope N__law_cell P__law_cell (defScope st__law_cell) := ⟨rfl, rfl, rfl, by decide +kernel, rfl, by decide +kernel, by decide +kernel⟩
theorem bd__law_cell : Bnd "_law_cell" st__law_cell P__law_cell := fun _ _ _ _ _ _ us hl => match us, hl with | [_, _], _ => rfl
abbrev N__law_box : List Str := ["great"]
abbrev P__law_box : List Str := ["great"]
theorem sc__law_box : FnScope N__law_box P__law_box (defScope st__law_box) := ⟨rfl, rfl, rfl, by decide +kernel, rfl, by decide +kernel, by decide +kernel⟩
theorem bd__law_box : Bnd "_law_box" st__law_box P__law_box := fun _ _ _ _ _ _ us hl => match us, hl with | [_], _ => rfl
abbrev N__law_take : List Str := ["box", "many", "digit", "mixed"]
abbrev P__law_take : List Str := ["box", "many"]
theorem sc__law_take : FnScope N__law_take P__law_take (defScope st__law_take) := ⟨rfl, rfl, rfl, by decide +kernel, rfl, by decide +kernel, by decide +kernel⟩
theorem bd__law_take : Bnd "_law_take" st__law_take P__law_take := fun _ _ _ _ _ _ us hl => match us, hl with | [_, _], _ => rfl
abbrev N__law_pick : List Str := ["box", "items"]
abbrev P__law_pick : List Str := ["box", "items"]
theorem sc__law_pick : FnScope N__law_pick P__law_pick (defScope st__law_pick) := ⟨rfl, rfl, rfl, by decide +kernel, rfl, by decide +kernel, by decide +kernel⟩
theorem bd__law_pick : Bnd "_law_pick" st__law_pick P__law_pick := fun _ _ _ _ _ _ us hl => match us, hl with | [_, _], _ => rfl
abbrev N__law_same : List Str := ["shown", "due", "k", "key"]
abbrev P__law_same : List Str := ["shown", "due"]
theorem sc__law_same : FnScope N__law_same P__law_same (defScope st__law_same) := ⟨rfl, rfl, rfl, by decide +kernel, rfl, by decide +kernel, by decide +kernel⟩
theorem bd__law_same : Bnd "_law_same" st__law_same P__law_same := fun _ _ _ _ _ _ us hl => match us, hl with | [_, _], _ => rfl
abbrev N__law_copy : List Str := ["value", "one", "key"]
abbrev P__law_copy : List Str := ["value"]
theorem sc__law_copy : FnScope N__law_copy P__law_copy (defScope st__law_copy) := ⟨rfl, rfl, rfl, by decide +kernel, rfl, by decide +kernel, by decide +kernel⟩
theorem bd__law_copy : Bnd "_law_copy" st__law_copy P__law_copy := fun _ _ _ _ _ _ us hl => match us, hl with | [_], _ => rfl
abbrev N__law_very : List Str := ["given", "value"]
abbrev P__law_very : List Str := ["given", "value"]
theorem sc__law_very : FnScope N__law_very P__law_very (defScope st__law_very) := ⟨rfl, rfl, rfl, by decide +kernel, rfl, by decide +kernel, by decide +kernel⟩
theorem bd__law_very : Bnd "_law_very" st__law_very P__law_very := fun _ _ _ _ _ _ us hl => match us, hl with | [_, _], _ => rfl
abbrev N__law_roots : List Str := []
abbrev P__law_roots : List Str := []
theorem sc__law_roots : FnScope N__law_roots P__law_roots (defScope st__law_roots) := ⟨rfl, rfl, rfl, by decide +kernel, rfl, by decide +kernel, by decide +kernel⟩
theorem bd__law_roots : Bnd "_law_roots" st__law_roots P__law_roots := fun _ _ _ _ _ _ us hl => match us, hl with | [], _ => rfl
abbrev N__law_trace : List Str := ["d"]
abbrev P__law_trace : List Str := ["d"]
theorem sc__law_trace : FnScope N__law_trace P__law_trace (defScope st__law_trace) := ⟨rfl, rfl, rfl, by decide +kernel, rfl, by decide +kernel, by decide +kernel⟩
theorem bd__law_trace : Bnd "_law_trace" st__law_trace P__law_trace := fun _ _ _ _ _ _ us hl => match us, hl with | [_], _ => rfl
abbrev N__law_ring_times : List Str := ["d", "one", "other", "t", "n", "a", "b", "c", "e"]
abbrev P__law_ring_times : List Str := ["d", "one", "other"]
theorem sc__law_ring_times : FnScope N__law_ring_times P__law_ring_times (defScope st__law_ring_times) := ⟨rfl, rfl, rfl, by decide +kernel, rfl, by decide +kernel, by decide +kernel⟩
theorem bd__law_ring_times : Bnd "_law_ring_times" st__law_ring_times P__law_ring_times := fun _ _ _ _ _ _ us hl => match us, hl with | [_, _, _], _ => rfl
abbrev N__law_mirror : List Str := ["d", "one"]
abbrev P__law_mirror : List Str := ["d", "one"]
theorem sc__law_mirror : FnScope N__law_mirror P__law_mirror (defScope st__law_mirror) := ⟨rfl, rfl, rfl, by decide +kernel, rfl, by decide +kernel, by decide +kernel⟩
theorem bd__law_mirror : Bnd "_law_mirror" st__law_mirror P__law_mirror := fun _ _ _ _ _ _ us hl => match us, hl with | [_, _], _ => rfl
abbrev N__law_norm : List Str := ["d", "one"]
abbrev P__law_norm : List Str := ["d", "one"]
theorem sc__law_norm : FnScope N__law_norm P__law_norm (defScope st__law_norm) := ⟨rfl, rfl, rfl, by decide +kernel, rfl, by decide +kernel, by decide +kernel⟩
theorem bd__law_norm : Bnd "_law_norm" st__law_norm P__law_norm := fun _ _ _ _ _ _ us hl => match us, hl with | [_, _], _ => rfl
abbrev N__law_is_root : List Str := ["value", "k"]
abbrev P__law_is_root : List Str := ["value"]
theorem sc__law_is_root : FnScope N__law_is_root P__law_is_root (defScope st__law_is_root) := ⟨rfl, rfl, rfl, by decide +kernel, rfl, by decide +kernel, by decide +kernel⟩
theorem bd__law_is_root : Bnd "_law_is_root" st__law_is_root P__law_is_root := fun _ _ _ _ _ _ us hl => match us, hl with | [_], _ => rfl
abbrev N__law_ring_root : List Str := ["box", "way", "first", "d"]
abbrev P__law_ring_root : List Str := ["box"]
theorem sc__law_ring_root : FnScope N__law_ring_root P__law_ring_root (defScope st__law_ring_root) := ⟨rfl, rfl, rfl, by decide +kernel, rfl, by decide +kernel, by decide +kernel⟩
theorem bd__law_ring_root : Bnd "_law_ring_root" st__law_ring_root P__law_ring_root := fun _ _ _ _ _ _ us hl => match us, hl with | [_], _ => rfl
abbrev N__law_some_number : List Str := ["box", "figures", "way", "great", "turn", "sign", "other"]
abbrev P__law_some_number : List Str := ["box", "figures"]
theorem sc__law_some_number : FnScope N__law_some_number P__law_some_number (defScope st__law_some_number) := ⟨rfl, rfl, rfl, by decide +kernel, rfl, by decide +kernel, by decide +kernel⟩
theorem bd__law_some_number : Bnd "_law_some_number" st__law_some_number P__law_some_number := fun _ _ _ _ _ _ us hl => match us, hl with | [_, _], _ => rfl
abbrev N__law_odd_number : List Str := ["box"]
abbrev P__law_odd_number : List Str := ["box"]
theorem sc__law_odd_number : FnScope N__law_odd_number P__law_odd_number (defScope st__law_odd_number) := ⟨rfl, rfl, rfl, by decide +kernel, rfl, by decide +kernel, by decide +kernel⟩
theorem bd__law_odd_number : Bnd "_law_odd_number" st__law_odd_number P__law_odd_number := fun _ _ _ _ _ _ us hl => match us, hl with | [_], _ => rfl
abbrev N__law_odd_ring : List Str := ["box"]
abbrev P__law_odd_ring : List Str := ["box"]
theorem sc__law_odd_ring : FnScope N__law_odd_ring P__law_odd_ring (defScope st__law_odd_ring) := ⟨rfl, rfl, rfl, by decide +kernel, rfl, by decide +kernel, by decide +kernel⟩
theorem bd__law_odd_ring : Bnd "_law_odd_ring" st__law_odd_ring P__law_odd_ring := fun _ _ _ _ _ _ us hl => match us, hl with | [_], _ => rfl
abbrev N__law_told : List Str := ["which", "ring", "one", "other", "named"]
abbrev P__law_told : List Str := ["which", "ring", "one", "other", "named"]
theorem sc__law_told : FnScope N__law_told P__law_told (defScope st__law_told) := ⟨rfl, rfl, rfl, by decide +kernel, rfl, by decide +kernel, by decide +kernel⟩
theorem bd__law_told : Bnd "_law_told" st__law_told P__law_told := fun _ _ _ _ _ _ us hl => match us, hl with | [_, _, _, _, _], _ => rfl
abbrev N__law_met : List Str := ["which", "ring", "one", "other", "named", "error"]
abbrev P__law_met : List Str := ["which", "ring", "one", "other", "named"]
theorem sc__law_met : FnScope N__law_met P__law_met (defScope st__law_met) := ⟨rfl, rfl, rfl, by decide +kernel, rfl, by decide +kernel, by decide +kernel⟩
theorem bd__law_met : Bnd "_law_met" st__law_met P__law_met := fun _ _ _ _ _ _ us hl => match us, hl with | [_, _, _, _, _], _ => rfl
abbrev N__law_sum_of : List Str := ["one", "other"]
abbrev P__law_sum_of : List Str := ["one", "other"]
theorem sc__law_sum_of : FnScope N__law_sum_of P__law_sum_of (defScope st__law_sum_of) := ⟨rfl, rfl, rfl, by decide +kernel, rfl, by decide +kernel, by decide +kernel⟩
theorem bd__law_sum_of : Bnd "_law_sum_of" st__law_sum_of P__law_sum_of := fun _ _ _ _ _ _ us hl => match us, hl with | [_, _], _ => rfl
abbrev N__law_two_right : List Str := ["d", "one", "other", "named", "sums", "made", "dues", "which", "first", "second", "due", "told", "given", "back"]
abbrev P__law_two_right : List Str := ["d", "one", "other", "named"]
theorem sc__law_two_right : FnScope N__law_two_right P__law_two_right (defScope st__law_two_right) := ⟨rfl, rfl, rfl, by decide +kernel, rfl, by decide +kernel, by decide +kernel⟩
theorem bd__law_two_right : Bnd "_law_two_right" st__law_two_right P__law_two_right := fun _ _ _ _ _ _ us hl => match us, hl with | [_, _, _, _], _ => rfl
abbrev N__law_three_right : List Str := ["d", "one", "two", "three", "named", "made", "sums", "given", "due"]
abbrev P__law_three_right : List Str := ["d", "one", "two", "three", "named"]
theorem sc__law_three_right : FnScope N__law_three_right P__law_three_right (defScope st__law_three_right) := ⟨rfl, rfl, rfl, by decide +kernel, rfl, by decide +kernel, by decide +kernel⟩
theorem bd__law_three_right : Bnd "_law_three_right" st__law_three_right P__law_three_right := fun _ _ _ _ _ _ us hl => match us, hl with | [_, _, _, _, _], _ => rfl
abbrev N__law_w_right : List Str := ["d", "named", "short", "square", "given"]
abbrev P__law_w_right : List Str := ["d", "named"]
theorem sc__law_w_right : FnScope N__law_w_right P__law_w_right (defScope st__law_w_right) := ⟨rfl, rfl, rfl, by decide +kernel, rfl, by decide +kernel, by decide +kernel⟩
theorem bd__law_w_right : Bnd "_law_w_right" st__law_w_right P__law_w_right := fun _ _ _ _ _ _ us hl => match us, hl with | [_, _], _ => rfl
abbrev N__law_roots_right : List Str := ["box", "named", "first", "value"]
abbrev P__law_roots_right : List Str := ["box", "named"]
theorem sc__law_roots_right : FnScope N__law_roots_right P__law_roots_right (defScope st__law_roots_right) := ⟨rfl, rfl, rfl, by decide +kernel, rfl, by decide +kernel, by decide +kernel⟩
theorem bd__law_roots_right : Bnd "_law_roots_right" st__law_roots_right P__law_roots_right := fun _ _ _ _ _ _ us hl => match us, hl with | [_, _], _ => rfl
abbrev N__law_refused_right : List Str := ["box", "d", "number", "named", "which", "root", "bad", "last", "told"]
abbrev P__law_refused_right : List Str := ["box", "d", "number", "named"]
theorem sc__law_refused_right : FnScope N__law_refused_right P__law_refused_right (defScope st__law_refused_right) := ⟨rfl, rfl, rfl, by decide +kernel, rfl, by decide +kernel, by decide +kernel⟩
theorem bd__law_refused_right : Bnd "_law_refused_right" st__law_refused_right P__law_refused_right := fun _ _ _ _ _ _ us hl => match us, hl with | [_, _, _, _], _ => rfl
abbrev N_law : List Str := ["script", "k", "box", "named", "rings", "turn", "d", "one", "other", "way"]
abbrev P_law : List Str := ["script"]
theorem sc_law : FnScope N_law P_law (defScope st_law) := ⟨rfl, rfl, rfl, by decide +kernel, rfl, by decide +kernel, by decide +kernel⟩
theorem bd_law : Bnd "law" st_law P_law := fun _ _ _ _ _ _ us hl => match us, hl with | [_], _ => rfl
theorem kb_is_ring_value : KBnd "is_ring" st_is_ring P_is_ring ["value"] [0] := fun _ _ _ _ _ _ us hl => match us, hl with | [_], _ => rfl
theorem kb_is_ring_value_len (ds : List D) (hl : ds.length = [("value" : Str)].length) : (perm [0] ds).length = P_is_ring.length := match ds, hl with | [_], _ => rfl
theorem kb_mirror_number_ring : KBnd "mirror" st_mirror P_mirror ["number", "ring"] [1, 0] := fun _ _ _ _ _ _ us hl => match us, hl with | [_, _], _ => rfl
theorem kb_mirror_number_ring_len (ds : List D) (hl : ds.length = [("number" : Str), ("ring" : Str)].length) : (perm [1, 0] ds).length = P_mirror.length := match ds, hl with | [_, _], _ => rfl
theorem kb_norm_number_ring : KBnd "norm" st_norm P_norm ["number", "ring"] [1, 0] := fun _ _ _ _ _ _ us hl => match us, hl with | [_, _], _ => rfl
theorem kb_norm_number_ring_len (ds : List D) (hl : ds.length = [("number" : Str), ("ring" : Str)].length) : (perm [1, 0] ds).length = P_norm.length := match ds, hl with | [_, _], _ => rfl
theorem kb_plus_other_one_ring : KBnd "plus" st_plus P_plus ["other", "one", "ring"] [2, 1, 0] := fun _ _ _ _ _ _ us hl => match us, hl with | [_, _, _], _ => rfl
theorem kb_plus_other_one_ring_len (ds : List D) (hl : ds.length = [("other" : Str), ("one" : Str), ("ring" : Str)].length) : (perm [2, 1, 0] ds).length = P_plus.length := match ds, hl with | [_, _, _], _ => rfl
theorem kb_product_other_one_ring : KBnd "product" st_product P_product ["other", "one", "ring"] [2, 1, 0] := fun _ _ _ _ _ _ us hl => match us, hl with | [_, _, _], _ => rfl
theorem kb_product_other_one_ring_len (ds : List D) (hl : ds.length = [("other" : Str), ("one" : Str), ("ring" : Str)].length) : (perm [2, 1, 0] ds).length = P_product.length := match ds, hl with | [_, _, _], _ => rfl
def subTab : List ((Str × Str) × Bool) := [(("InvalidNumber", "FactoringError"), true), (("InvalidNumber", "InvalidNumber"), true), (("InvalidNumber", "InvalidRing"), false), (("InvalidRing", "FactoringError"), true), (("InvalidRing", "InvalidNumber"), false), (("InvalidRing", "InvalidRing"), true)]
def subs : Str → Str → Option Bool := subT subTab
structure Txt (P : Program) (w : World) (K : PySem.W.Frag) (mg : Str → Option Value) (base : Heap) (cm : Str → Addr) : Prop where
  a_is_integer : At K mg "is_integer" st_is_integer
  a_is_between : At K mg "is_between" st_is_between
  a_is_tuple_of : At K mg "is_tuple_of" st_is_tuple_of
  a_are_integers : At K mg "are_integers" st_are_integers
  a_is_ring : At K mg "is_ring" st_is_ring
  a_check_ring : At K mg "check_ring" st_check_ring
  a_is_number : At K mg "is_number" st_is_number
  a_check_number : At K mg "check_number" st_check_number
  a_check_one : At K mg "check_one" st_check_one
  a_check_two : At K mg "check_two" st_check_two
  a_trace_of : At K mg "trace_of" st_trace_of
  a_last_in : At K mg "last_in" st_last_in
  a_plus_in : At K mg "plus_in" st_plus_in
  a_times_in : At K mg "times_in" st_times_in
  a_mirror_in : At K mg "mirror_in" st_mirror_in
  a_norm_in : At K mg "norm_in" st_norm_in
  a_plus : At K mg "plus" st_plus
  a_product : At K mg "product" st_product
  a_mirror : At K mg "mirror" st_mirror
  a_norm : At K mg "norm" st_norm
  a__law_cell : At K mg "_law_cell" st__law_cell
  a__law_box : At K mg "_law_box" st__law_box
  a__law_take : At K mg "_law_take" st__law_take
  a__law_pick : At K mg "_law_pick" st__law_pick
  a__law_same : At K mg "_law_same" st__law_same
  a__law_copy : At K mg "_law_copy" st__law_copy
  a__law_very : At K mg "_law_very" st__law_very
  a__law_roots : At K mg "_law_roots" st__law_roots
  a__law_trace : At K mg "_law_trace" st__law_trace
  a__law_ring_times : At K mg "_law_ring_times" st__law_ring_times
  a__law_mirror : At K mg "_law_mirror" st__law_mirror
  a__law_norm : At K mg "_law_norm" st__law_norm
  a__law_is_root : At K mg "_law_is_root" st__law_is_root
  a__law_ring_root : At K mg "_law_ring_root" st__law_ring_root
  a__law_some_number : At K mg "_law_some_number" st__law_some_number
  a__law_odd_number : At K mg "_law_odd_number" st__law_odd_number
  a__law_odd_ring : At K mg "_law_odd_ring" st__law_odd_ring
  a__law_told : At K mg "_law_told" st__law_told
  a__law_met : At K mg "_law_met" st__law_met
  a__law_sum_of : At K mg "_law_sum_of" st__law_sum_of
  a__law_two_right : At K mg "_law_two_right" st__law_two_right
  a__law_three_right : At K mg "_law_three_right" st__law_three_right
  a__law_w_right : At K mg "_law_w_right" st__law_w_right
  a__law_roots_right : At K mg "_law_roots_right" st__law_roots_right
  a__law_refused_right : At K mg "_law_refused_right" st__law_refused_right
  a_law : At K mg "law" st_law
  f_ValueError : mg "ValueError" = none
  f_abs : mg "abs" = none
  f_all : mg "all" = none
  f_bool : mg "bool" = none
  f_dict : mg "dict" = none
  f_int : mg "int" = none
  f_isinstance : mg "isinstance" = none
  f_len : mg "len" = none
  f_list : mg "list" = none
  f_max : mg "max" = none
  f_min : mg "min" = none
  f_range : mg "range" = none
  f_str : mg "str" = none
  f_sum : mg "sum" = none
  f_tuple : mg "tuple" = none
  c_MOST_ROOT : ∃ t, mg "MOST_ROOT" = some (.int 300 t)
  c_MOST_SIDE : ∃ t, mg "MOST_SIDE" = some (.int 17 t)
  e_InvalidNumber : ErrD P w K mg base "InvalidNumber" "given" (cm "InvalidNumber")
  e_InvalidRing : ErrD P w K mg base "InvalidRing" "given" (cm "InvalidRing")
  n_FactoringError : mg "FactoringError" = some (.ref (cm "FactoringError"))
  n_InvalidNumber : mg "InvalidNumber" = some (.ref (cm "InvalidNumber"))
  n_InvalidRing : mg "InvalidRing" = some (.ref (cm "InvalidRing"))
  sub : SubOk K cm subs
variable {P : Program} {w : World} {K : PySem.W.Frag} {mg : Str → Option Value} {base : Heap} {cm : Str → Addr}
theorem all__law_met_InvalidNumber_given (T : Txt P w K mg base cm) : ∀ c ∈ (["InvalidNumber"] : List Str), XfC K (cm c) ∧ PySem.W.findIn K (.ref (cm c)) "given" = some none := by
  intro c hc
  simp only [List.mem_cons, List.not_mem_nil, or_false] at hc
  subst hc
  exact ⟨T.e_InvalidNumber.X, T.e_InvalidNumber.no⟩
theorem all__law_met_InvalidRing_given (T : Txt P w K mg base cm) : ∀ c ∈ (["InvalidRing"] : List Str), XfC K (cm c) ∧ PySem.W.findIn K (.ref (cm c)) "given" = some none := by
  intro c hc
  simp only [List.mem_cons, List.not_mem_nil, or_false] at hc
  subst hc
  exact ⟨T.e_InvalidRing.X, T.e_InvalidRing.no⟩
def b_is_integer : StmD := (sRet (fAndV (fIsi .int (fVar 0)) (fNotV (fIsi .bl (fVar 0)))))
def m_is_integer : Sem := runFn 1 b_is_integer
theorem ok_is_integer (T : Txt P w K mg base cm) : FdI P w K mg base cm 1 "is_integer" st_is_integer P_is_integer m_is_integer := fd_mk (k := 0) T.a_is_integer sc_is_integer bd_is_integer fun f cdv A outer s H EE hr => (dss_one (ds_ret (de_and (de_isi T.f_isinstance (de_var 0) (tyn .int T.f_int)) (de_one (de_not (de_isi T.f_isinstance (de_var 0) (tyn .bl T.f_bool)))))))
def b_is_between : StmD := (sRet (fAndV (fCall m_is_integer (fCons (fVar 0) fNil)) (fChain (oCmp fun i j => decide (i ≤ j)) (oCmp fun i j => decide (i ≤ j)) (fVar 1) (fVar 0) (fVar 2))))
def m_is_between : Sem := runFn 3 b_is_between
theorem ok_is_between (T : Txt P w K mg base cm) : FdI P w K mg base cm 2 "is_between" st_is_between P_is_between m_is_between := fd_mk (k := 1) T.a_is_between sc_is_between bd_is_between fun f cdv A outer s H EE hr => (dss_one (ds_ret (de_and (de_call ((ok_is_integer T).mono (by decide)) hr (takes_of rfl rfl rfl rfl) (by rfl) (da_cons (de_var 0) da_nil) (al_cons al_nil)) (de_one (de_chain op_le re_cmp op_le re_cmp (de_var 1) (de_var 0) (de_var 2))))))
def b_is_tuple_of : StmD := (sRet (fAndV (fIsi .tup (fVar 0)) (fOrV (fOp oIsN (fVar 1) (fC .non)) (fOp oEq (fCall oLen (fCons (fVar 0) fNil)) (fVar 1)))))
def m_is_tuple_of : Sem := runFn 2 b_is_tuple_of
theorem ok_is_tuple_of (T : Txt P w K mg base cm) : FdI P w K mg base cm 1 "is_tuple_of" st_is_tuple_of P_is_tuple_of m_is_tuple_of := fd_mk (k := 0) T.a_is_tuple_of sc_is_tuple_of bd_is_tuple_of fun f cdv A outer s H EE hr => (dss_one (ds_ret (de_and (de_isi T.f_isinstance (de_var 0) (tyn .tup T.f_tuple)) (de_one (de_or (de_cmp op_isN re_isN (de_var 1) de_non (by rfl)) (de_one (de_cmp (op_eqA hr.units) re_eq (de_len T.f_len (da_cons (de_var 0) da_nil)) (de_var 1) (by rfl))))))))
def b_are_integers : StmD := (sRet (fAndV (fCall m_is_tuple_of (fCons (fVar 0) (fCons (fVar 1) fNil))) (fCall (oBools fun is => .bl (is.all id)) (fCons (fLc (fIt (fVar 0)) (gN 2) fYes (fCall m_is_integer (fCons (fVar 2) fNil)) [2]) fNil))))
def m_are_integers : Sem := runFn 3 b_are_integers
theorem ok_are_integers (T : Txt P w K mg base cm) : FdI P w K mg base cm 2 "are_integers" st_are_integers P_are_integers m_are_integers := fd_mk (k := 1) T.a_are_integers sc_are_integers bd_are_integers fun f cdv A outer s H EE hr => (dss_one (ds_ret (de_and (de_call ((ok_is_tuple_of T).mono (by decide)) hr (takes_of rfl rfl rfl rfl) (by rfl) (da_cons (de_var 0) (da_cons (de_var 1) da_nil)) (al_cons (al_cons al_nil))) (de_one (de_all rfl T.f_all (da_cons (de_lc (own := [("item", 2)]) rfl sc_are_integers.nd (di_seq (de_var 0)) (blkOk_by (by kernel_rfl)) (fun s H C cl fp => (dgw_name 2 sc_are_integers.nd)) (fun s H C cl fp => dts_nil) (fun s H C cl fp => (de_call ((ok_is_integer T).mono (by decide)) hr takes0 (by rfl) (da_cons (de_var 2) da_nil) (al_cons al_nil)))) da_nil))))))
def b_is_ring : StmD := (sSeq (sIf (fNot (fTru (fCall m_is_between (fCons (fVar 0) (fCons (fC (.int 1)) (fCons (fC (.int 300)) fNil)))))) (sRet (fC (.bl false))) sSkip)
    (sRet (fCall (oBools fun is => .bl (is.all id)) (fCons (fLc (fRg2' (fCons (fC (.int 2)) (fCons (fOp oAdd (fC (.int 17)) (fC (.int 1))) fNil))) (gN 1) fYes (fOp oNe (fOp oMod (fVar 0) (fOp oMul (fVar 1) (fVar 1))) (fC (.int 0))) [1]) fNil))))
def m_is_ring : Sem := runFn 2 b_is_ring
theorem ok_is_ring (T : Txt P w K mg base cm) : FdI P w K mg base cm 3 "is_ring" st_is_ring P_is_ring m_is_ring := fd_mk (k := 2) T.a_is_ring sc_is_ring bd_is_ring fun f cdv A outer s H EE hr => (dss_cons (ds_if (dt_not (dt_tru (de_call ((ok_is_between T).mono (by decide)) hr (takes_of rfl rfl rfl rfl) (by rfl) (da_cons (de_var 0) (da_cons de_int (da_cons (de_gint (by rfl) T.c_MOST_ROOT) da_nil))) (al_cons (al_cons (al_cons al_nil)))))) (dss_one (ds_ret de_bl)) dss_nil)
    (dss_one (ds_ret (de_all rfl T.f_all (da_cons (de_lc (own := [("side", 1)]) rfl sc_is_ring.nd (di_rg2 (by rfl) T.f_range (da_cons de_int (da_cons (de_op op_addD re_add (de_gint (by rfl) T.c_MOST_SIDE) de_int) da_nil))) (blkOk_by (by kernel_rfl)) (fun s H C cl fp => (dgw_name 1 sc_is_ring.nd)) (fun s H C cl fp => dts_nil) (fun s H C cl fp => (de_cmp (op_neA hr.units) re_ne (de_op op_modN re_mod (de_var 0) (de_op op_mulD re_mul (de_var 1) (de_var 1))) de_int (by rfl)))) da_nil)))))
def b_check_ring : StmD := (sIf (fNot (fTru (fCall m_is_ring (fCons (fVar 0) fNil)))) (sRaise "InvalidRing" "given" (fVar 0)) sSkip)
def m_check_ring : Sem := runFn 1 b_check_ring
theorem ok_check_ring (T : Txt P w K mg base cm) : FdI P w K mg base cm 4 "check_ring" st_check_ring P_check_ring m_check_ring := fd_mk (k := 3) T.a_check_ring sc_check_ring bd_check_ring fun f cdv A outer s H EE hr => (dss_one (ds_if (dt_not (dt_tru (de_call ((ok_is_ring T).mono (by decide)) hr (takes_of rfl rfl rfl rfl) (by rfl) (da_cons (de_var 0) da_nil) (al_cons al_nil)))) (dss_one (ds_raise T.e_InvalidRing (by rfl) hr (takes_of rfl rfl rfl rfl) (de_var 0) (by rfl))) dss_nil))
def b_is_number : StmD := (sRet (fCall m_are_integers (fCons (fVar 0) (fCons (fC (.int 2)) fNil))))
def m_is_number : Sem := runFn 1 b_is_number
theorem ok_is_number (T : Txt P w K mg base cm) : FdI P w K mg base cm 3 "is_number" st_is_number P_is_number m_is_number := fd_mk (k := 2) T.a_is_number sc_is_number bd_is_number fun f cdv A outer s H EE hr => (dss_one (ds_ret (de_call ((ok_are_integers T).mono (by decide)) hr (takes_of rfl rfl rfl rfl) (by rfl) (da_cons (de_var 0) (da_cons de_int da_nil)) (al_cons (al_cons al_nil)))))
def b_check_number : StmD := (sIf (fNot (fTru (fCall m_is_number (fCons (fVar 0) fNil)))) (sRaise "InvalidNumber" "given" (fVar 0)) sSkip)
def m_check_number : Sem := runFn 1 b_check_number
theorem ok_check_number (T : Txt P w K mg base cm) : FdI P w K mg base cm 4 "check_number" st_check_number P_check_number m_check_number := fd_mk (k := 3) T.a_check_number sc_check_number bd_check_number fun f cdv A outer s H EE hr => (dss_one (ds_if (dt_not (dt_tru (de_call ((ok_is_number T).mono (by decide)) hr (takes_of rfl rfl rfl rfl) (by rfl) (da_cons (de_var 0) da_nil) (al_cons al_nil)))) (dss_one (ds_raise T.e_InvalidNumber (by rfl) hr (takes_of rfl rfl rfl rfl) (de_var 0) (by rfl))) dss_nil))
def b_check_one : StmD := (sSeq (sDrop (fCall m_check_ring (fCons (fVar 0) fNil)))
    (sDrop (fCall m_check_number (fCons (fVar 1) fNil))))
def m_check_one : Sem := runFn 2 b_check_one
theorem ok_check_one (T : Txt P w K mg base cm) : FdI P w K mg base cm 5 "check_one" st_check_one P_check_one m_check_one := fd_mk (k := 4) T.a_check_one sc_check_one bd_check_one fun f cdv A outer s H EE hr => (dss_cons (ds_drop (de_call ((ok_check_ring T).mono (by decide)) hr (takes_of rfl rfl rfl rfl) (by rfl) (da_cons (de_var 0) da_nil) (al_cons al_nil)))
    (dss_one (ds_drop (de_call ((ok_check_number T).mono (by decide)) hr (takes_of rfl rfl rfl rfl) (by rfl) (da_cons (de_var 1) da_nil) (al_cons al_nil)))))
def b_check_two : StmD := (sSeq (sDrop (fCall m_check_ring (fCons (fVar 0) fNil)))
    (sSeq (sDrop (fCall m_check_number (fCons (fVar 1) fNil)))
    (sDrop (fCall m_check_number (fCons (fVar 2) fNil)))))
def m_check_two : Sem := runFn 3 b_check_two
theorem ok_check_two (T : Txt P w K mg base cm) : FdI P w K mg base cm 5 "check_two" st_check_two P_check_two m_check_two := fd_mk (k := 4) T.a_check_two sc_check_two bd_check_two fun f cdv A outer s H EE hr => (dss_cons (ds_drop (de_call ((ok_check_ring T).mono (by decide)) hr (takes_of rfl rfl rfl rfl) (by rfl) (da_cons (de_var 0) da_nil) (al_cons al_nil)))
    (dss_cons (ds_drop (de_call ((ok_check_number T).mono (by decide)) hr (takes_of rfl rfl rfl rfl) (by rfl) (da_cons (de_var 1) da_nil) (al_cons al_nil)))
    (dss_one (ds_drop (de_call ((ok_check_number T).mono (by decide)) hr (takes_of rfl rfl rfl rfl) (by rfl) (da_cons (de_var 2) da_nil) (al_cons al_nil))))))
def b_trace_of : StmD := (sRet (fIf (fTest (fOp oEq (fOp oMod (fOp oAdd (fVar 0) (fC (.int 1))) (fC (.int 4))) (fC (.int 0)))) (fC (.int 1)) (fC (.int 0))))
def m_trace_of : Sem := runFn 1 b_trace_of
theorem ok_trace_of (T : Txt P w K mg base cm) : FdI P w K mg base cm 1 "trace_of" st_trace_of P_trace_of m_trace_of := fd_mk (k := 0) T.a_trace_of sc_trace_of bd_trace_of fun f cdv A outer s H EE hr => (dss_one (ds_ret (de_if (dt_cmp (op_eqA hr.units) re_eq (de_op op_modN re_mod (de_op op_addD re_add (de_var 0) de_int) de_int) de_int (by rfl)) de_int de_int)))
def b_last_in : StmD := (sRet (fIf (fTest (fOp oEq (fCall m_trace_of (fCons (fVar 0) fNil)) (fC (.int 1)))) (fOp oDiv (fOp oAdd (fVar 0) (fC (.int 1))) (fC (.int 4))) (fVar 0)))
def m_last_in : Sem := runFn 1 b_last_in
theorem ok_last_in (T : Txt P w K mg base cm) : FdI P w K mg base cm 2 "last_in" st_last_in P_last_in m_last_in := fd_mk (k := 1) T.a_last_in sc_last_in bd_last_in fun f cdv A outer s H EE hr => (dss_one (ds_ret (de_if (dt_cmp (op_eqA hr.units) re_eq (de_call ((ok_trace_of T).mono (by decide)) hr (takes_of rfl rfl rfl rfl) (by rfl) (da_cons (de_var 0) da_nil) (al_cons al_nil)) de_int (by rfl)) (de_op op_fdivD re_div (de_op op_addD re_add (de_var 0) de_int) de_int) (de_var 0))))
def b_plus_in : StmD := (sRet (fTup (fCons (fOp oAdd (fOp oIx (fVar 0) (fC (.int 0))) (fOp oIx (fVar 1) (fC (.int 0)))) (fCons (fOp oAdd (fOp oIx (fVar 0) (fC (.int 1))) (fOp oIx (fVar 1) (fC (.int 1)))) fNil))))
def m_plus_in : Sem := runFn 2 b_plus_in
theorem ok_plus_in (T : Txt P w K mg base cm) : FdI P w K mg base cm 1 "plus_in" st_plus_in P_plus_in m_plus_in := fd_mk (k := 0) T.a_plus_in sc_plus_in bd_plus_in fun f cdv A outer s H EE hr => (dss_one (ds_ret (de_tup (da_cons (de_op op_addD re_add (de_ix (de_var 0) de_int) (de_ix (de_var 1) de_int)) (da_cons (de_op op_addD re_add (de_ix (de_var 0) de_int) (de_ix (de_var 1) de_int)) da_nil)) (al_cons (al_cons al_nil)))))
def b_times_in : StmD := (sSeq (sAsg (fOp oMul (fOp oIx (fVar 1) (fC (.int 1))) (fOp oIx (fVar 2) (fC (.int 1)))) (gN 3))
    (sSeq (sAsg (fOp oAdd (fOp oMul (fOp oIx (fVar 1) (fC (.int 0))) (fOp oIx (fVar 2) (fC (.int 1)))) (fOp oMul (fOp oIx (fVar 1) (fC (.int 1))) (fOp oIx (fVar 2) (fC (.int 0))))) (gN 4))
    (sRet (fTup (fCons (fOp oSub (fOp oMul (fOp oIx (fVar 1) (fC (.int 0))) (fOp oIx (fVar 2) (fC (.int 0)))) (fOp oMul (fCall m_last_in (fCons (fVar 0) fNil)) (fVar 3))) (fCons (fOp oAdd (fVar 4) (fOp oMul (fCall m_trace_of (fCons (fVar 0) fNil)) (fVar 3))) fNil))))))
def m_times_in : Sem := runFn 5 b_times_in
theorem ok_times_in (T : Txt P w K mg base cm) : FdI P w K mg base cm 3 "times_in" st_times_in P_times_in m_times_in := fd_mk (k := 2) T.a_times_in sc_times_in bd_times_in fun f cdv A outer s H EE hr => (dss_cons (ds_set 3 sc_times_in.nd (de_op op_mulD re_mul (de_ix (de_var 1) de_int) (de_ix (de_var 2) de_int)))
    (dss_cons (ds_set 4 sc_times_in.nd (de_op op_addD re_add (de_op op_mulD re_mul (de_ix (de_var 1) de_int) (de_ix (de_var 2) de_int)) (de_op op_mulD re_mul (de_ix (de_var 1) de_int) (de_ix (de_var 2) de_int))))
    (dss_one (ds_ret (de_tup (da_cons (de_op op_sub re_sub (de_op op_mulD re_mul (de_ix (de_var 1) de_int) (de_ix (de_var 2) de_int)) (de_op op_mulD re_mul (de_call ((ok_last_in T).mono (by decide)) hr (takes_of rfl rfl rfl rfl) (by rfl) (da_cons (de_var 0) da_nil) (al_cons al_nil)) (de_var 3))) (da_cons (de_op op_addD re_add (de_var 4) (de_op op_mulD re_mul (de_call ((ok_trace_of T).mono (by decide)) hr (takes_of rfl rfl rfl rfl) (by rfl) (da_cons (de_var 0) da_nil) (al_cons al_nil)) (de_var 3))) da_nil)) (al_cons (al_cons al_nil)))))))
def b_mirror_in : StmD := (sRet (fTup (fCons (fOp oAdd (fOp oIx (fVar 1) (fC (.int 0))) (fOp oMul (fCall m_trace_of (fCons (fVar 0) fNil)) (fOp oIx (fVar 1) (fC (.int 1))))) (fCons (fUn oNeg (fOp oIx (fVar 1) (fC (.int 1)))) fNil))))
def m_mirror_in : Sem := runFn 2 b_mirror_in
theorem ok_mirror_in (T : Txt P w K mg base cm) : FdI P w K mg base cm 2 "mirror_in" st_mirror_in P_mirror_in m_mirror_in := fd_mk (k := 1) T.a_mirror_in sc_mirror_in bd_mirror_in fun f cdv A outer s H EE hr => (dss_one (ds_ret (de_tup (da_cons (de_op op_addD re_add (de_ix (de_var 1) de_int) (de_op op_mulD re_mul (de_call ((ok_trace_of T).mono (by decide)) hr (takes_of rfl rfl rfl rfl) (by rfl) (da_cons (de_var 0) da_nil) (al_cons al_nil)) (de_ix (de_var 1) de_int))) (da_cons (de_un un_neg re_neg (de_ix (de_var 1) de_int)) da_nil)) (al_cons (al_cons al_nil)))))
def b_norm_in : StmD := (sSeq (sAsg (fVar 1) (gT 2 (gsCons (gN 2) (gsCons (gN 3) gsNil))))
    (sRet (fOp oAdd (fOp oAdd (fOp oMul (fVar 2) (fVar 2)) (fOp oMul (fOp oMul (fCall m_trace_of (fCons (fVar 0) fNil)) (fVar 2)) (fVar 3))) (fOp oMul (fOp oMul (fCall m_last_in (fCons (fVar 0) fNil)) (fVar 3)) (fVar 3)))))
def m_norm_in : Sem := runFn 4 b_norm_in
theorem ok_norm_in (T : Txt P w K mg base cm) : FdI P w K mg base cm 3 "norm_in" st_norm_in P_norm_in m_norm_in := fd_mk (k := 2) T.a_norm_in sc_norm_in bd_norm_in fun f cdv A outer s H EE hr => (dss_cons (ds_asg (de_var 1) (dg_tup rfl (dgs_cons (dg_name 2 sc_norm_in.nd) (dgs_cons (dg_name 3 sc_norm_in.nd) dgs_nil))))
    (dss_one (ds_ret (de_op op_addD re_add (de_op op_addD re_add (de_op op_mulD re_mul (de_var 2) (de_var 2)) (de_op op_mulD re_mul (de_op op_mulD re_mul (de_call ((ok_trace_of T).mono (by decide)) hr (takes_of rfl rfl rfl rfl) (by rfl) (da_cons (de_var 0) da_nil) (al_cons al_nil)) (de_var 2)) (de_var 3))) (de_op op_mulD re_mul (de_op op_mulD re_mul (de_call ((ok_last_in T).mono (by decide)) hr (takes_of rfl rfl rfl rfl) (by rfl) (da_cons (de_var 0) da_nil) (al_cons al_nil)) (de_var 3)) (de_var 3))))))
def b_plus : StmD := (sSeq (sDrop (fCall m_check_two (fCons (fVar 0) (fCons (fVar 1) (fCons (fVar 2) fNil)))))
    (sRet (fCall m_plus_in (fCons (fVar 1) (fCons (fVar 2) fNil)))))
def m_plus : Sem := runFn 3 b_plus
theorem ok_plus (T : Txt P w K mg base cm) : FdI P w K mg base cm 6 "plus" st_plus P_plus m_plus := fd_mk (k := 5) T.a_plus sc_plus bd_plus fun f cdv A outer s H EE hr => (dss_cons (ds_drop (de_call ((ok_check_two T).mono (by decide)) hr (takes_of rfl rfl rfl rfl) (by rfl) (da_cons (de_var 0) (da_cons (de_var 1) (da_cons (de_var 2) da_nil))) (al_cons (al_cons (al_cons al_nil)))))
    (dss_one (ds_ret (de_call ((ok_plus_in T).mono (by decide)) hr (takes_of rfl rfl rfl rfl) (by rfl) (da_cons (de_var 1) (da_cons (de_var 2) da_nil)) (al_cons (al_cons al_nil))))))
def b_product : StmD := (sSeq (sDrop (fCall m_check_two (fCons (fVar 0) (fCons (fVar 1) (fCons (fVar 2) fNil)))))
    (sRet (fCall m_times_in (fCons (fVar 0) (fCons (fVar 1) (fCons (fVar 2) fNil))))))
def m_product : Sem := runFn 3 b_product
theorem ok_product (T : Txt P w K mg base cm) : FdI P w K mg base cm 6 "product" st_product P_product m_product := fd_mk (k := 5) T.a_product sc_product bd_product fun f cdv A outer s H EE hr => (dss_cons (ds_drop (de_call ((ok_check_two T).mono (by decide)) hr (takes_of rfl rfl rfl rfl) (by rfl) (da_cons (de_var 0) (da_cons (de_var 1) (da_cons (de_var 2) da_nil))) (al_cons (al_cons (al_cons al_nil)))))
    (dss_one (ds_ret (de_call ((ok_times_in T).mono (by decide)) hr (takes_of rfl rfl rfl rfl) (by rfl) (da_cons (de_var 0) (da_cons (de_var 1) (da_cons (de_var 2) da_nil))) (al_cons (al_cons (al_cons al_nil)))))))
def b_mirror : StmD := (sSeq (sDrop (fCall m_check_one (fCons (fVar 0) (fCons (fVar 1) fNil))))
    (sRet (fCall m_mirror_in (fCons (fVar 0) (fCons (fVar 1) fNil)))))
def m_mirror : Sem := runFn 2 b_mirror
theorem ok_mirror (T : Txt P w K mg base cm) : FdI P w K mg base cm 6 "mirror" st_mirror P_mirror m_mirror := fd_mk (k := 5) T.a_mirror sc_mirror bd_mirror fun f cdv A outer s H EE hr => (dss_cons (ds_drop (de_call ((ok_check_one T).mono (by decide)) hr (takes_of rfl rfl rfl rfl) (by rfl) (da_cons (de_var 0) (da_cons (de_var 1) da_nil)) (al_cons (al_cons al_nil))))
    (dss_one (ds_ret (de_call ((ok_mirror_in T).mono (by decide)) hr (takes_of rfl rfl rfl rfl) (by rfl) (da_cons (de_var 0) (da_cons (de_var 1) da_nil)) (al_cons (al_cons al_nil))))))
def b_norm : StmD := (sSeq (sDrop (fCall m_check_one (fCons (fVar 0) (fCons (fVar 1) fNil))))
    (sRet (fCall m_norm_in (fCons (fVar 0) (fCons (fVar 1) fNil)))))
def m_norm : Sem := runFn 2 b_norm
theorem ok_norm (T : Txt P w K mg base cm) : FdI P w K mg base cm 6 "norm" st_norm P_norm m_norm := fd_mk (k := 5) T.a_norm sc_norm bd_norm fun f cdv A outer s H EE hr => (dss_cons (ds_drop (de_call ((ok_check_one T).mono (by decide)) hr (takes_of rfl rfl rfl rfl) (by rfl) (da_cons (de_var 0) (da_cons (de_var 1) da_nil)) (al_cons (al_cons al_nil))))
    (dss_one (ds_ret (de_call ((ok_norm_in T).mono (by decide)) hr (takes_of rfl rfl rfl rfl) (by rfl) (da_cons (de_var 0) (da_cons (de_var 1) da_nil)) (al_cons (al_cons al_nil))))))
def b__law_cell : StmD := (sRet (fIf (fTest (fOp (oCmp fun i j => decide (i < j)) (fVar 1) (fCall oLen (fCons (fVar 0) fNil)))) (fOp oIx (fVar 0) (fVar 1)) (fOp oAdd (fOp oMul (fC (.int 9981)) (fVar 1)) (fOp oMod (fCall oInt (fCons (fCall (oInts fun is => .int is.sum) (fCons (fSl (fVar 0) fONone (fOSome (fC (.int 1)))) fNil)) fNil)) (fC (.int 1000003))))))
def m__law_cell : Sem := runFn 2 b__law_cell
theorem ok__law_cell (T : Txt P w K mg base cm) : FdI P w K mg base cm 1 "_law_cell" st__law_cell P__law_cell m__law_cell := fd_mk (k := 0) T.a__law_cell sc__law_cell bd__law_cell fun f cdv A outer s H EE hr => (dss_one (ds_ret (de_if (dt_cmp op_lt re_cmp (de_var 1) (de_len T.f_len (da_cons (de_var 0) da_nil)) (by rfl)) (de_ix (de_var 0) (de_var 1)) (de_op op_addD re_add (de_op op_mulD re_mul de_int (de_var 1)) (de_op op_modN re_mod (de_intc T.f_int (da_cons (de_sum rfl T.f_sum (da_cons (de_sl (de_var 0) do_none (do_some de_int)) da_nil)) da_nil)) de_int)))))
def b__law_box : StmD := (sRet (fLstO (fCons (fOp oAdd (fOp oMul (fOp oMod (fCall oInt (fCons (fCall (oInt1 fun i => .int (if i < 0 then -i else i)) (fCons (fVar 0) fNil)) fNil)) (fOp oPow (fC (.int 10)) (fC (.int 60)))) (fOp oPow (fC (.int 10)) (fC (.int 40)))) (fOp oMod (fCall oInt (fCons (fCall (oInt1 fun i => .int (if i < 0 then -i else i)) (fCons (fVar 0) fNil)) fNil)) (fOp oPow (fC (.int 10)) (fC (.int 40))))) (fCons (fOp (oCmp fun i j => decide (j ≤ i)) (fCall (oInt1 fun i => .int (if i < 0 then -i else i)) (fCons (fVar 0) fNil)) (fOp oPow (fC (.int 10)) (fC (.int 18)))) (fCons (fOp oMod (fCall oInt (fCons (fCall (oInt1 fun i => .int (if i < 0 then -i else i)) (fCons (fVar 0) fNil)) fNil)) (fC (.int 2147483629))) (fCons (fC (.int 0)) fNil))))))
def m__law_box : Sem := runFn 1 b__law_box
theorem ok__law_box (T : Txt P w K mg base cm) : FdI P w K mg base cm 1 "_law_box" st__law_box P__law_box m__law_box := fd_mk (k := 0) T.a__law_box sc__law_box bd__law_box fun f cdv A outer s H EE hr => (dss_one (ds_ret (de_lstO (da_cons (de_op op_addD re_add (de_op op_mulD re_mul (de_op op_modN re_mod (de_intc T.f_int (da_cons (de_abs T.f_abs (da_cons (de_var 0) da_nil)) da_nil)) (de_op op_powD re_pow de_int de_int)) (de_op op_powD re_pow de_int de_int)) (de_op op_modN re_mod (de_intc T.f_int (da_cons (de_abs T.f_abs (da_cons (de_var 0) da_nil)) da_nil)) (de_op op_powD re_pow de_int de_int))) (da_cons (de_cmp op_ge re_cmp (de_abs T.f_abs (da_cons (de_var 0) da_nil)) (de_op op_powD re_pow de_int de_int) (by rfl)) (da_cons (de_op op_modN re_mod (de_intc T.f_int (da_cons (de_abs T.f_abs (da_cons (de_var 0) da_nil)) da_nil)) de_int) (da_cons de_int da_nil)))) (al_cons (al_cons (al_cons (al_cons al_nil)))))))
def b__law_take : StmD := (sSeq (sIf (fAnd (fTru (fOp oIx (fVar 0) (fC (.int 1)))) (fTest (fOp (oCmp fun i j => decide (j < i)) (fOp oIx (fVar 0) (fC (.int 0))) (fC (.int 0))))) (sSeq (sAsg (fOp oMod (fCall oInt (fCons (fOp oIx (fVar 0) (fC (.int 0))) fNil)) (fVar 1)) (gN 2))
    (sSeq (sAsg (fOp oDiv (fCall oInt (fCons (fOp oIx (fVar 0) (fC (.int 0))) fNil)) (fVar 1)) (gIx (fVar 0) (fC (.int 0))))
    (sRet (fVar 2)))) sSkip)
    (sSeq (sAsg (fOp oAdd (fOp oIx (fVar 0) (fC (.int 3))) (fC (.int 1))) (gIx (fVar 0) (fC (.int 3))))
    (sSeq (sAsg (fOp oMod (fCall oInt (fCons (fOp oPow (fOp oAdd (fOp oAdd (fOp oIx (fVar 0) (fC (.int 2))) (fOp oMul (fC (.int 15495081)) (fOp oIx (fVar 0) (fC (.int 3))))) (fC (.int 179435081))) (fC (.int 5))) fNil)) (fC (.int 2147483647))) (gN 3))
    (sRet (fOp oMod (fCall oInt (fCons (fOp oDiv (fOp oMod (fCall oInt (fCons (fOp oPow (fOp oAdd (fOp oMul (fVar 3) (fC (.int 48271))) (fOp oMul (fC (.int 104881)) (fOp oIx (fVar 0) (fC (.int 3))))) (fC (.int 3))) fNil)) (fC (.int 2147483587))) (fC (.int 64))) fNil)) (fVar 1))))))
def m__law_take : Sem := runFn 4 b__law_take
theorem ok__law_take (T : Txt P w K mg base cm) : FdI P w K mg base cm 1 "_law_take" st__law_take P__law_take m__law_take := fd_mk (k := 0) T.a__law_take sc__law_take bd__law_take fun f cdv A outer s H EE hr => (dss_cons (ds_if (dw_and (dt_tru (de_ix (de_var 0) de_int)) (dw_and1 (dt_cmp op_gt re_cmp (de_ix (de_var 0) de_int) de_int (by rfl)))).t (dss_cons (ds_set 2 sc__law_take.nd (de_op op_modN re_mod (de_intc T.f_int (da_cons (de_ix (de_var 0) de_int) da_nil)) (de_var 1)))
    (dss_cons (ds_asg (de_op op_fdivD re_div (de_intc T.f_int (da_cons (de_ix (de_var 0) de_int) da_nil)) (de_var 1)) (dg_ix (de_var 0) de_int))
    (dss_one (ds_ret (de_var 2))))) dss_nil)
    (dss_cons (ds_asg (de_op op_addD re_add (de_ix (de_var 0) de_int) de_int) (dg_ix (de_var 0) de_int))
    (dss_cons (ds_set 3 sc__law_take.nd (de_op op_modN re_mod (de_intc T.f_int (da_cons (de_op op_powD re_pow (de_op op_addD re_add (de_op op_addD re_add (de_ix (de_var 0) de_int) (de_op op_mulD re_mul de_int (de_ix (de_var 0) de_int))) de_int) de_int) da_nil)) de_int))
    (dss_one (ds_ret (de_op op_modN re_mod (de_intc T.f_int (da_cons (de_op op_fdivD re_div (de_op op_modN re_mod (de_intc T.f_int (da_cons (de_op op_powD re_pow (de_op op_addD re_add (de_op op_mulD re_mul (de_var 3) de_int) (de_op op_mulD re_mul de_int (de_ix (de_var 0) de_int))) de_int) da_nil)) de_int) de_int) da_nil)) (de_var 1)))))))
def b__law_pick : StmD := (sRet (fOp oIx (fVar 1) (fCall m__law_take (fCons (fVar 0) (fCons (fCall oLen (fCons (fVar 1) fNil)) fNil)))))
def m__law_pick : Sem := runFn 2 b__law_pick
theorem ok__law_pick (T : Txt P w K mg base cm) : FdI P w K mg base cm 2 "_law_pick" st__law_pick P__law_pick m__law_pick := fd_mk (k := 1) T.a__law_pick sc__law_pick bd__law_pick fun f cdv A outer s H EE hr => (dss_one (ds_ret (de_ix (de_var 1) (de_call ((ok__law_take T).mono (by decide)) hr (takes_of rfl rfl rfl rfl) (by rfl) (da_cons (de_var 0) (da_cons (de_len T.f_len (da_cons (de_var 1) da_nil)) da_nil)) (al_cons (al_cons al_nil))))))
def b__law_same (m : Sem) : StmD := (sSeq (sIf (fOr (fTest (fOp oIsN (fVar 1) (fC .non))) (fTru (fIsi .bl (fVar 1)))) (sRet (fIf (fTest (fOp oIsN (fVar 1) (fC .non))) (fOp oIsN (fVar 0) (fC .non)) (fAndV (fIsi .bl (fVar 0)) (fOp oEq (fOp oIsB (fVar 0) (fC (.bl true))) (fOp oIsB (fVar 1) (fC (.bl true))))))) sSkip)
    (sSeq (sIf (fTru (fIsi .int (fVar 1))) (sRet (fAndV (fIsi .int (fVar 0)) (fAndV (fNotV (fIsi .bl (fVar 0))) (fOp oEq (fOp oSub (fCall oInt (fCons (fVar 0) fNil)) (fVar 1)) (fC (.int 0)))))) sSkip)
    (sSeq (sIf (fTru (fIsi .str (fVar 1))) (sRet (fAndV (fIsi .str (fVar 0)) (fAndV (fOp oEq (fCall oLen (fCons (fVar 0) fNil)) (fCall oLen (fCons (fVar 1) fNil))) (fOp oEq (fLc (fRg1 (fCons (fCall oLen (fCons (fVar 1) fNil)) fNil)) (gN 2) (fTest (fOp oNe (fSl (fVar 0) (fOSome (fVar 2)) (fOSome (fOp oAdd (fVar 2) (fC (.int 1))))) (fOp oIx (fVar 1) (fVar 2)))) (fVar 2) [2]) (fLst fNil))))) sSkip)
    (sSeq (sIf (fTru (fIsi .dct (fVar 1))) (sRet (fAndV (fIsi .dct (fVar 0)) (fAndV (fOp oEq (fCall oLen (fCons (fVar 0) fNil)) (fCall oLen (fCons (fVar 1) fNil))) (fOp oEq (fLcKeys 1 (gN 3) (fOr (fTest (fOp oDnin (fVar 3) (fVar 0))) (fNot (fTru (fCall m (fCons (fOp oDget (fVar 0) (fVar 3)) (fCons (fOp oDget (fVar 1) (fVar 3)) fNil)))))) (fVar 3) [3]) (fLst fNil))))) sSkip)
    (sSeq (sIf (fOr (fNot (fTru (fIsiT [.lst, .tup] (fVar 1)))) (fOr (fTest (fOp oNe (fIsi .lst (fVar 0)) (fIsi .lst (fVar 1)))) (fTest (fOp oNe (fIsi .tup (fVar 0)) (fIsi .tup (fVar 1)))))) (sRet (fC (.bl false))) sSkip)
    (sRet (fAndV (fOp oEq (fCall oLen (fCons (fVar 0) fNil)) (fCall oLen (fCons (fVar 1) fNil))) (fOp oEq (fLc (fRg1 (fCons (fCall oLen (fCons (fVar 1) fNil)) fNil)) (gN 2) (fNot (fTru (fCall m (fCons (fOp oIx (fVar 0) (fVar 2)) (fCons (fOp oIx (fVar 1) (fVar 2)) fNil))))) (fVar 2) [2]) (fLst fNil)))))))))
def m__law_same : Nat → Sem
  | 0 => fun _ _ => .no
  | n + 1 => runFn 4 (b__law_same (m__law_same n))
theorem ok__law_same_at (T : Txt P w K mg base cm) : ∀ n, FdI P w K mg base cm n "_law_same" st__law_same P__law_same (m__law_same n)
  | 0 => fd_zero T.a__law_same bd__law_same
  | n + 1 => by
    have G__law_same := ok__law_same_at T n
    exact fd_mk T.a__law_same sc__law_same bd__law_same fun f cdv A outer s H EE hr => (dss_cons (ds_if (dw_or (dt_cmp op_isN re_isN (de_var 1) de_non (by rfl)) (dw_or1 (dt_tru (de_isi T.f_isinstance (de_var 1) (tyn .bl T.f_bool))))).t (dss_one (ds_ret (de_if (dt_cmp op_isN re_isN (de_var 1) de_non (by rfl)) (de_cmp op_isN re_isN (de_var 0) de_non (by rfl)) (de_and (de_isi T.f_isinstance (de_var 0) (tyn .bl T.f_bool)) (de_one (de_cmp (op_eqA hr.units) re_eq (de_cmp op_isBl re_isB (de_var 0) de_bl (by rfl)) (de_cmp op_isBl re_isB (de_var 1) de_bl (by rfl)) (by rfl))))))) dss_nil)
    (dss_cons (ds_if (dt_tru (de_isi T.f_isinstance (de_var 1) (tyn .int T.f_int))) (dss_one (ds_ret (de_and (de_isi T.f_isinstance (de_var 0) (tyn .int T.f_int)) (de_and (de_not (de_isi T.f_isinstance (de_var 0) (tyn .bl T.f_bool))) (de_one (de_cmp (op_eqA hr.units) re_eq (de_op op_sub re_sub (de_intc T.f_int (da_cons (de_var 0) da_nil)) (de_var 1)) de_int (by rfl))))))) dss_nil)
    (dss_cons (ds_if (dt_tru (de_isi T.f_isinstance (de_var 1) (tyn .str T.f_str))) (dss_one (ds_ret (de_and (de_isi T.f_isinstance (de_var 0) (tyn .str T.f_str)) (de_and (de_cmp (op_eqA hr.units) re_eq (de_len T.f_len (da_cons (de_var 0) da_nil)) (de_len T.f_len (da_cons (de_var 1) da_nil)) (by rfl)) (de_one (de_cmp (op_eqA hr.units) re_eq (de_lc (own := [("k", 2)]) rfl sc__law_same.nd (di_rg1 (by rfl) T.f_range (da_cons (de_len T.f_len (da_cons (de_var 1) da_nil)) da_nil)) (blkOk_by (by kernel_rfl)) (fun s H C cl fp => (dgw_name 2 sc__law_same.nd)) (fun s H C cl fp => (dts_one (dt_cmp (op_neA hr.units) re_ne (de_sl (de_var 0) (do_some (de_var 2)) (do_some (de_op op_addD re_add (de_var 2) de_int))) (de_ix (de_var 1) (de_var 2)) (by rfl)))) (fun s H C cl fp => (de_var 2))) (de_lst da_nil al_nil) (by rfl))))))) dss_nil)
    (dss_cons (ds_if (dt_tru (de_isi T.f_isinstance (de_var 1) (tyn .dct T.f_dict))) (dss_one (ds_ret (de_and (de_isi T.f_isinstance (de_var 0) (tyn .dct T.f_dict)) (de_and (de_cmp (op_eqA hr.units) re_eq (de_len T.f_len (da_cons (de_var 0) da_nil)) (de_len T.f_len (da_cons (de_var 1) da_nil)) (by rfl)) (de_one (de_cmp (op_eqA hr.units) re_eq (de_lcKeys (own := [("key", 3)]) 1 rfl sc__law_same.nd (blkOk_by (by kernel_rfl)) (fun s H C cl fp => (dgw_name 3 sc__law_same.nd)) (fun s H C cl fp => (dts_one (dw_or (dt_dnin hr (de_var 3) (de_var 0)) (dw_or1 (dt_not (dt_tru (de_call (G__law_same) hr takes0 (by rfl) (da_cons (de_dget hr (de_var 0) (de_var 3)) (da_cons (de_dget hr (de_var 1) (de_var 3)) da_nil)) (al_cons (al_cons al_nil))))))).t)) (fun s H C cl fp => (de_var 3))) (de_lst da_nil al_nil) (by rfl))))))) dss_nil)
    (dss_cons (ds_if (dw_or (dt_not (dt_tru (de_isiT T.f_isinstance (de_var 1) (.cons (tyn .lst T.f_list) (.cons (tyn .tup T.f_tuple) .nil))))) (dw_or (dt_cmp (op_neA hr.units) re_ne (de_isi T.f_isinstance (de_var 0) (tyn .lst T.f_list)) (de_isi T.f_isinstance (de_var 1) (tyn .lst T.f_list)) (by rfl)) (dw_or1 (dt_cmp (op_neA hr.units) re_ne (de_isi T.f_isinstance (de_var 0) (tyn .tup T.f_tuple)) (de_isi T.f_isinstance (de_var 1) (tyn .tup T.f_tuple)) (by rfl))))).t (dss_one (ds_ret de_bl)) dss_nil)
    (dss_one (ds_ret (de_and (de_cmp (op_eqA hr.units) re_eq (de_len T.f_len (da_cons (de_var 0) da_nil)) (de_len T.f_len (da_cons (de_var 1) da_nil)) (by rfl)) (de_one (de_cmp (op_eqA hr.units) re_eq (de_lc (own := [("k", 2)]) rfl sc__law_same.nd (di_rg1 (by rfl) T.f_range (da_cons (de_len T.f_len (da_cons (de_var 1) da_nil)) da_nil)) (blkOk_by (by kernel_rfl)) (fun s H C cl fp => (dgw_name 2 sc__law_same.nd)) (fun s H C cl fp => (dts_one (dt_not (dt_tru (de_call (G__law_same) hr takes0 (by rfl) (da_cons (de_ix (de_var 0) (de_var 2)) (da_cons (de_ix (de_var 1) (de_var 2)) da_nil)) (al_cons (al_cons al_nil))))))) (fun s H C cl fp => (de_var 2))) (de_lst da_nil al_nil) (by rfl)))))))))))
theorem ok__law_same (T : Txt P w K mg base cm) : FdI P w K mg base cm 12 "_law_same" st__law_same P__law_same (m__law_same 12) := ok__law_same_at T 12
def b__law_copy (m : Sem) : StmD := (sSeq (sIf (fTru (fIsi .lst (fVar 0))) (sRet (fLcO (fIt (fVar 0)) (gN 1) fYes (fCall m (fCons (fVar 1) fNil)) [1])) sSkip)
    (sSeq (sIf (fTru (fIsi .dct (fVar 0))) (sRet (fCall oDict (fCons (fLcKeys 0 (gN 2) fYes (fTup (fCons (fVar 2) (fCons (fCall m (fCons (fOp oDget (fVar 0) (fVar 2)) fNil)) fNil))) [2]) fNil))) sSkip)
    (sRet (fIf (fTru (fIsi .tup (fVar 0))) (fCall oTuple (fCons (fLc (fIt (fVar 0)) (gN 1) fYes (fCall m (fCons (fVar 1) fNil)) [1]) fNil)) (fVar 0)))))
def m__law_copy : Nat → Sem
  | 0 => fun _ _ => .no
  | n + 1 => runFn 3 (b__law_copy (m__law_copy n))
theorem ok__law_copy_at (T : Txt P w K mg base cm) : ∀ n, FdI P w K mg base cm n "_law_copy" st__law_copy P__law_copy (m__law_copy n)
  | 0 => fd_zero T.a__law_copy bd__law_copy
  | n + 1 => by
    have G__law_copy := ok__law_copy_at T n
    exact fd_mk T.a__law_copy sc__law_copy bd__law_copy fun f cdv A outer s H EE hr => (dss_cons (ds_if (dt_tru (de_isi T.f_isinstance (de_var 0) (tyn .lst T.f_list))) (dss_one (ds_ret (de_lcO (own := [("one", 1)]) rfl sc__law_copy.nd (di_seq (de_var 0)) (blkOk_by (by kernel_rfl)) (fun s H C cl fp => (dgw_name 1 sc__law_copy.nd)) (fun s H C cl fp => dts_nil) (fun s H C cl fp => (de_call (G__law_copy) hr takes0 (by rfl) (da_cons (de_var 1) da_nil) (al_cons al_nil)))))) dss_nil)
    (dss_cons (ds_if (dt_tru (de_isi T.f_isinstance (de_var 0) (tyn .dct T.f_dict))) (dss_one (ds_ret (de_dict rfl T.f_dict (da_cons (de_lcKeys (own := [("key", 2)]) 0 rfl sc__law_copy.nd (blkOk_by (by kernel_rfl)) (fun s H C cl fp => (dgw_name 2 sc__law_copy.nd)) (fun s H C cl fp => dts_nil) (fun s H C cl fp => (de_tup (da_cons (de_var 2) (da_cons (de_call (G__law_copy) hr takes0 (by rfl) (da_cons (de_dget hr (de_var 0) (de_var 2)) da_nil) (al_cons al_nil)) da_nil)) (al_cons (al_cons al_nil))))) da_nil)))) dss_nil)
    (dss_one (ds_ret (de_if (dt_tru (de_isi T.f_isinstance (de_var 0) (tyn .tup T.f_tuple))) (de_tuple T.f_tuple (da_cons (de_lc (own := [("one", 1)]) rfl sc__law_copy.nd (di_seq (de_var 0)) (blkOk_by (by kernel_rfl)) (fun s H C cl fp => (dgw_name 1 sc__law_copy.nd)) (fun s H C cl fp => dts_nil) (fun s H C cl fp => (de_call (G__law_copy) hr takes0 (by rfl) (da_cons (de_var 1) da_nil) (al_cons al_nil)))) da_nil)) (de_var 0))))))
theorem ok__law_copy (T : Txt P w K mg base cm) : FdI P w K mg base cm 12 "_law_copy" st__law_copy P__law_copy (m__law_copy 12) := ok__law_copy_at T 12
def b__law_very : StmD := (sSeq (sIf (fNot (fTru (fCall (m__law_same 12) (fCons (fVar 0) (fCons (fVar 1) fNil))))) (sRet (fC (.bl false))) sSkip)
    (sSeq (sIf (fTru (fIsi .lst (fVar 1))) (sDrop (fMeth1 oAppend (fVar 1) (fC (.str "more")))) sSkip)
    (sSeq (sIf (fTru (fIsi .dct (fVar 1))) (sDput (fVar 1) (fOp oAdd (fC (.str "more")) (fCall oStr (fCons (fCall oLen (fCons (fVar 1) fNil)) fNil))) (fC (.int 1))) sSkip)
    (sRet (fCall (m__law_same 12) (fCons (fVar 0) (fCons (fVar 1) fNil)))))))
def m__law_very : Sem := runFn 2 b__law_very
theorem ok__law_very (T : Txt P w K mg base cm) : FdI P w K mg base cm 13 "_law_very" st__law_very P__law_very m__law_very := fd_mk (k := 12) T.a__law_very sc__law_very bd__law_very fun f cdv A outer s H EE hr => (dss_cons (ds_if (dt_not (dt_tru (de_call ((ok__law_same T).mono (by decide)) hr (takes_of rfl rfl rfl rfl) (by rfl) (da_cons (de_var 0) (da_cons (de_var 1) da_nil)) (al_cons (al_cons al_nil))))) (dss_one (ds_ret de_bl)) dss_nil)
    (dss_cons (ds_if (dt_tru (de_isi T.f_isinstance (de_var 1) (tyn .lst T.f_list))) (dss_one (ds_drop (de_append (de_var 1) de_str))) dss_nil)
    (dss_cons (ds_if (dt_tru (de_isi T.f_isinstance (de_var 1) (tyn .dct T.f_dict))) (dss_one (ds_dput hr (de_var 1) (de_op op_addD re_add de_str (de_strc T.f_str (da_cons (de_len T.f_len (da_cons (de_var 1) da_nil)) da_nil))) de_int)) dss_nil)
    (dss_one (ds_ret (de_call ((ok__law_same T).mono (by decide)) hr (takes_of rfl rfl rfl rfl) (by rfl) (da_cons (de_var 0) (da_cons (de_var 1) da_nil)) (al_cons (al_cons al_nil))))))))
def b__law_roots : StmD := (sRet (fLst (fCons (fC (.int 5)) (fCons (fC (.int 14)) (fCons (fC (.int 23)) (fCons (fC (.int 6)) (fCons (fC (.int 21)) (fCons (fC (.int 1)) (fCons (fC (.int 2)) (fCons (fC (.int 3)) (fCons (fC (.int 15)) (fCons (fC (.int 30)) (fCons (fC (.int 31)) (fCons (fC (.int 33)) (fCons (fC (.int 42)) (fCons (fC (.int 47)) (fCons (fC (.int 65)) (fCons (fC (.int 71)) (fCons (fC (.int 105)) (fCons (fC (.int 210)) (fCons (fC (.int 239)) (fCons (fC (.int 290)) (fCons (fC (.int 7)) (fCons (fC (.int 11)) (fCons (fC (.int 10)) (fCons (fC (.int 13)) fNil))))))))))))))))))))))))))
def m__law_roots : Sem := runFn 0 b__law_roots
theorem ok__law_roots (T : Txt P w K mg base cm) : FdI P w K mg base cm 1 "_law_roots" st__law_roots P__law_roots m__law_roots := fd_mk (k := 0) T.a__law_roots sc__law_roots bd__law_roots fun f cdv A outer s H EE hr => (dss_one (ds_ret (de_lst (da_cons de_int (da_cons de_int (da_cons de_int (da_cons de_int (da_cons de_int (da_cons de_int (da_cons de_int (da_cons de_int (da_cons de_int (da_cons de_int (da_cons de_int (da_cons de_int (da_cons de_int (da_cons de_int (da_cons de_int (da_cons de_int (da_cons de_int (da_cons de_int (da_cons de_int (da_cons de_int (da_cons de_int (da_cons de_int (da_cons de_int (da_cons de_int da_nil)))))))))))))))))))))))) (al_cons (al_cons (al_cons (al_cons (al_cons (al_cons (al_cons (al_cons (al_cons (al_cons (al_cons (al_cons (al_cons (al_cons (al_cons (al_cons (al_cons (al_cons (al_cons (al_cons (al_cons (al_cons (al_cons (al_cons al_nil)))))))))))))))))))))))))))
def b__law_trace : StmD := (sRet (fIf (fTest (fOp oEq (fOp oMod (fCall oInt (fCons (fVar 0) fNil)) (fC (.int 4))) (fC (.int 3)))) (fTup (fCons (fC (.int 1)) (fCons (fOp oDiv (fOp oAdd (fVar 0) (fC (.int 1))) (fC (.int 4))) fNil))) (fTup (fCons (fC (.int 0)) (fCons (fVar 0) fNil)))))
def m__law_trace : Sem := runFn 1 b__law_trace
theorem ok__law_trace (T : Txt P w K mg base cm) : FdI P w K mg base cm 1 "_law_trace" st__law_trace P__law_trace m__law_trace := fd_mk (k := 0) T.a__law_trace sc__law_trace bd__law_trace fun f cdv A outer s H EE hr => (dss_one (ds_ret (de_if (dt_cmp (op_eqA hr.units) re_eq (de_op op_modN re_mod (de_intc T.f_int (da_cons (de_var 0) da_nil)) de_int) de_int (by rfl)) (de_tup (da_cons de_int (da_cons (de_op op_fdivD re_div (de_op op_addD re_add (de_var 0) de_int) de_int) da_nil)) (al_cons (al_cons al_nil))) (de_tup (da_cons de_int (da_cons (de_var 0) da_nil)) (al_cons (al_cons al_nil))))))
def b__law_ring_times : StmD := (sSeq (sAsg (fCall m__law_trace (fCons (fVar 0) fNil)) (gT 2 (gsCons (gN 3) (gsCons (gN 4) gsNil))))
    (sSeq (sAsg (fTup (fCons (fVar 1) (fCons (fVar 2) fNil))) (gT 2 (gsCons (gT 2 (gsCons (gN 5) (gsCons (gN 6) gsNil))) (gsCons (gT 2 (gsCons (gN 7) (gsCons (gN 8) gsNil))) gsNil))))
    (sRet (fTup (fCons (fOp oSub (fOp oMul (fVar 5) (fVar 7)) (fOp oMul (fOp oMul (fVar 4) (fVar 6)) (fVar 8))) (fCons (fOp oAdd (fOp oAdd (fOp oMul (fVar 5) (fVar 8)) (fOp oMul (fVar 6) (fVar 7))) (fOp oMul (fOp oMul (fVar 3) (fVar 6)) (fVar 8))) fNil))))))
def m__law_ring_times : Sem := runFn 9 b__law_ring_times
theorem ok__law_ring_times (T : Txt P w K mg base cm) : FdI P w K mg base cm 2 "_law_ring_times" st__law_ring_times P__law_ring_times m__law_ring_times := fd_mk (k := 1) T.a__law_ring_times sc__law_ring_times bd__law_ring_times fun f cdv A outer s H EE hr => (dss_cons (ds_asg (de_call ((ok__law_trace T).mono (by decide)) hr (takes_of rfl rfl rfl rfl) (by rfl) (da_cons (de_var 0) da_nil) (al_cons al_nil)) (dg_tup rfl (dgs_cons (dg_name 3 sc__law_ring_times.nd) (dgs_cons (dg_name 4 sc__law_ring_times.nd) dgs_nil))))
    (dss_cons (ds_asg (de_tup (da_cons (de_var 1) (da_cons (de_var 2) da_nil)) (al_cons (al_cons al_nil))) (dg_tup rfl (dgs_cons (dg_tup rfl (dgs_cons (dg_name 5 sc__law_ring_times.nd) (dgs_cons (dg_name 6 sc__law_ring_times.nd) dgs_nil))) (dgs_cons (dg_tup rfl (dgs_cons (dg_name 7 sc__law_ring_times.nd) (dgs_cons (dg_name 8 sc__law_ring_times.nd) dgs_nil))) dgs_nil))))
    (dss_one (ds_ret (de_tup (da_cons (de_op op_sub re_sub (de_op op_mulD re_mul (de_var 5) (de_var 7)) (de_op op_mulD re_mul (de_op op_mulD re_mul (de_var 4) (de_var 6)) (de_var 8))) (da_cons (de_op op_addD re_add (de_op op_addD re_add (de_op op_mulD re_mul (de_var 5) (de_var 8)) (de_op op_mulD re_mul (de_var 6) (de_var 7))) (de_op op_mulD re_mul (de_op op_mulD re_mul (de_var 3) (de_var 6)) (de_var 8))) da_nil)) (al_cons (al_cons al_nil)))))))
def b__law_mirror : StmD := (sRet (fTup (fCons (fOp oAdd (fOp oIx (fVar 1) (fC (.int 0))) (fOp oMul (fOp oIx (fCall m__law_trace (fCons (fVar 0) fNil)) (fC (.int 0))) (fOp oIx (fVar 1) (fC (.int 1))))) (fCons (fOp oSub (fC (.int 0)) (fOp oIx (fVar 1) (fC (.int 1)))) fNil))))
def m__law_mirror : Sem := runFn 2 b__law_mirror
theorem ok__law_mirror (T : Txt P w K mg base cm) : FdI P w K mg base cm 2 "_law_mirror" st__law_mirror P__law_mirror m__law_mirror := fd_mk (k := 1) T.a__law_mirror sc__law_mirror bd__law_mirror fun f cdv A outer s H EE hr => (dss_one (ds_ret (de_tup (da_cons (de_op op_addD re_add (de_ix (de_var 1) de_int) (de_op op_mulD re_mul (de_ix (de_call ((ok__law_trace T).mono (by decide)) hr (takes_of rfl rfl rfl rfl) (by rfl) (da_cons (de_var 0) da_nil) (al_cons al_nil)) de_int) (de_ix (de_var 1) de_int))) (da_cons (de_op op_sub re_sub de_int (de_ix (de_var 1) de_int)) da_nil)) (al_cons (al_cons al_nil)))))
def b__law_norm : StmD := (sRet (fOp oIx (fCall m__law_ring_times (fCons (fVar 0) (fCons (fVar 1) (fCons (fCall m__law_mirror (fCons (fVar 0) (fCons (fVar 1) fNil))) fNil)))) (fC (.int 0))))
def m__law_norm : Sem := runFn 2 b__law_norm
theorem ok__law_norm (T : Txt P w K mg base cm) : FdI P w K mg base cm 3 "_law_norm" st__law_norm P__law_norm m__law_norm := fd_mk (k := 2) T.a__law_norm sc__law_norm bd__law_norm fun f cdv A outer s H EE hr => (dss_one (ds_ret (de_ix (de_call ((ok__law_ring_times T).mono (by decide)) hr (takes_of rfl rfl rfl rfl) (by rfl) (da_cons (de_var 0) (da_cons (de_var 1) (da_cons (de_call ((ok__law_mirror T).mono (by decide)) hr (takes_of rfl rfl rfl rfl) (by rfl) (da_cons (de_var 0) (da_cons (de_var 1) da_nil)) (al_cons (al_cons al_nil))) da_nil))) (al_cons (al_cons (al_cons al_nil)))) de_int)))
def b__law_is_root : StmD := (sSeq (sIf (fOr (fTru (fIsi .bl (fVar 0))) (fOr (fNot (fTru (fIsi .int (fVar 0)))) (fNot (fTest (fChain (oCmp fun i j => decide (i ≤ j)) (oCmp fun i j => decide (i ≤ j)) (fC (.int 1)) (fVar 0) (fC (.int 300))))))) (sRet (fC (.bl false))) sSkip)
    (sRet (fOp oEq (fLc (fRg2' (fCons (fC (.int 2)) (fCons (fC (.int 18)) fNil))) (gN 1) (fTest (fOp oEq (fOp oMod (fCall oInt (fCons (fVar 0) fNil)) (fOp oMul (fVar 1) (fVar 1))) (fC (.int 0)))) (fVar 1) [1]) (fLst fNil))))
def m__law_is_root : Sem := runFn 2 b__law_is_root
theorem ok__law_is_root (T : Txt P w K mg base cm) : FdI P w K mg base cm 1 "_law_is_root" st__law_is_root P__law_is_root m__law_is_root := fd_mk (k := 0) T.a__law_is_root sc__law_is_root bd__law_is_root fun f cdv A outer s H EE hr => (dss_cons (ds_if (dw_or (dt_tru (de_isi T.f_isinstance (de_var 0) (tyn .bl T.f_bool))) (dw_or (dt_not (dt_tru (de_isi T.f_isinstance (de_var 0) (tyn .int T.f_int)))) (dw_or1 (dt_not (dt_chain op_le re_cmp op_le re_cmp de_int (de_var 0) de_int))))).t (dss_one (ds_ret de_bl)) dss_nil)
    (dss_one (ds_ret (de_cmp (op_eqA hr.units) re_eq (de_lc (own := [("k", 1)]) rfl sc__law_is_root.nd (di_rg2 (by rfl) T.f_range (da_cons de_int (da_cons de_int da_nil))) (blkOk_by (by kernel_rfl)) (fun s H C cl fp => (dgw_name 1 sc__law_is_root.nd)) (fun s H C cl fp => (dts_one (dt_cmp (op_eqA hr.units) re_eq (de_op op_modN re_mod (de_intc T.f_int (da_cons (de_var 0) da_nil)) (de_op op_mulD re_mul (de_var 1) (de_var 1))) de_int (by rfl)))) (fun s H C cl fp => (de_var 1))) (de_lst da_nil al_nil) (by rfl)))))
def b__law_ring_root : StmD := (sSeq (sAsg (fCall m__law_take (fCons (fVar 0) (fCons (fC (.int 4)) fNil))) (gN 1))
    (sSeq (sIf (fTest (fOp (oCmp fun i j => decide (i < j)) (fVar 1) (fC (.int 2)))) (sRet (fCall m__law_pick (fCons (fVar 0) (fCons (fCall m__law_roots fNil) fNil)))) sSkip)
    (sSeq (sAsg (fIf (fTest (fOp oEq (fVar 1) (fC (.int 2)))) (fOp oAdd (fC (.int 1)) (fCall m__law_take (fCons (fVar 0) (fCons (fC (.int 300)) fNil)))) (fC (.int 300))) (gN 2))
    (sSeq (sFor (fRg3 (fCons (fVar 2) (fCons (fC (.int 0)) (fCons (fUn oNeg (fC (.int 1))) fNil)))) (gN 3) (sIf (fTru (fCall m__law_is_root (fCons (fVar 3) fNil))) (sRet (fVar 3)) sSkip))
    (sRet (fC (.int 1)))))))
def m__law_ring_root : Sem := runFn 4 b__law_ring_root
theorem ok__law_ring_root (T : Txt P w K mg base cm) : FdI P w K mg base cm 3 "_law_ring_root" st__law_ring_root P__law_ring_root m__law_ring_root := fd_mk (k := 2) T.a__law_ring_root sc__law_ring_root bd__law_ring_root fun f cdv A outer s H EE hr => (dss_cons (ds_set 1 sc__law_ring_root.nd (de_call ((ok__law_take T).mono (by decide)) hr (takes_of rfl rfl rfl rfl) (by rfl) (da_cons (de_var 0) (da_cons de_int da_nil)) (al_cons (al_cons al_nil))))
    (dss_cons (ds_if (dt_cmp op_lt re_cmp (de_var 1) de_int (by rfl)) (dss_one (ds_ret (de_call ((ok__law_pick T).mono (by decide)) hr (takes_of rfl rfl rfl rfl) (by rfl) (da_cons (de_var 0) (da_cons (de_call0 ((ok__law_roots T).mono (by decide)) hr (takes_of rfl rfl rfl rfl) (by rfl)) da_nil)) (al_cons (al_cons al_nil))))) dss_nil)
    (dss_cons (ds_set 2 sc__law_ring_root.nd (de_if (dt_cmp (op_eqA hr.units) re_eq (de_var 1) de_int (by rfl)) (de_op op_addD re_add de_int (de_call ((ok__law_take T).mono (by decide)) hr (takes_of rfl rfl rfl rfl) (by rfl) (da_cons (de_var 0) (da_cons de_int da_nil)) (al_cons (al_cons al_nil)))) de_int))
    (dss_cons (ds_for (passes_of rfl) rfl (di_rg3 (by rfl) T.f_range (da_cons (de_var 2) (da_cons de_int (da_cons (de_un un_neg re_neg de_int) da_nil)))) (dg_name 3 sc__law_ring_root.nd) (dss_one (ds_if (dt_tru (de_call ((ok__law_is_root T).mono (by decide)) hr (takes_of rfl rfl rfl rfl) (by rfl) (da_cons (de_var 3) da_nil) (al_cons al_nil))) (dss_one (ds_ret (de_var 3))) dss_nil)))
    (dss_one (ds_ret de_int))))))
def b__law_some_number : StmD := (sSeq (sPar 2 3 (fCons (fCall m__law_take (fCons (fVar 0) (fCons (fC (.int 7)) fNil))) (fCons (fC (.int 1)) fNil)))
    (sSeq (sFor (fRg1 (fCons (fOp oSub (fVar 1) (fC (.int 1))) fNil)) (gN 4) (sAsg (fOp oMul (fVar 3) (fC (.int 10))) (gN 3)))
    (sSeq (sPar 5 6 (fCons (fOp oIx (fLst (fCons (fC (.int 1)) (fCons (fUn oNeg (fC (.int 1))) fNil))) (fCall m__law_take (fCons (fVar 0) (fCons (fC (.int 2)) fNil)))) (fCons (fOp oIx (fLst (fCons (fC (.int 1)) (fCons (fUn oNeg (fC (.int 1))) fNil))) (fCall m__law_take (fCons (fVar 0) (fCons (fC (.int 2)) fNil)))) fNil)))
    (sSeq (sIf (fTest (fOp (oCmp fun i j => decide (i < j)) (fVar 2) (fC (.int 3)))) (sRet (fTup (fCons (fOp oSub (fCall m__law_take (fCons (fVar 0) (fCons (fC (.int 19)) fNil))) (fC (.int 9))) (fCons (fOp oSub (fCall m__law_take (fCons (fVar 0) (fCons (fC (.int 19)) fNil))) (fC (.int 9))) fNil)))) sSkip)
    (sSeq (sIf (fTest (fOp oEq (fVar 2) (fC (.int 3)))) (sRet (fIf (fTest (fOp oEq (fVar 6) (fC (.int 1)))) (fTup (fCons (fOp oMul (fVar 5) (fCall m__law_take (fCons (fVar 0) (fCons (fC (.int 30)) fNil)))) (fCons (fC (.int 0)) fNil))) (fTup (fCons (fC (.int 0)) (fCons (fOp oMul (fVar 5) (fCall m__law_take (fCons (fVar 0) (fCons (fC (.int 30)) fNil)))) fNil))))) sSkip)
    (sSeq (sIf (fTest (fOp oEq (fVar 2) (fC (.int 4)))) (sRet (fCall m__law_pick (fCons (fVar 0) (fCons (fLst (fCons (fTup (fCons (fC (.int 0)) (fCons (fC (.int 0)) fNil))) (fCons (fTup (fCons (fC (.int 1)) (fCons (fC (.int 0)) fNil))) (fCons (fTup (fCons (fC (.int 0)) (fCons (fC (.int 1)) fNil))) (fCons (fTup (fCons (fUn oNeg (fC (.int 1))) (fCons (fC (.int 0)) fNil))) (fCons (fTup (fCons (fC (.int 0)) (fCons (fUn oNeg (fC (.int 1))) fNil))) (fCons (fTup (fCons (fC (.int 1)) (fCons (fC (.int 1)) fNil))) (fCons (fTup (fCons (fC (.int 1)) (fCons (fUn oNeg (fC (.int 1))) fNil))) fNil)))))))) fNil)))) sSkip)
    (sRet (fTup (fCons (fOp oMul (fVar 5) (fOp oAdd (fVar 3) (fCall m__law_take (fCons (fVar 0) (fCons (fOp oMul (fC (.int 9)) (fVar 3)) fNil))))) (fCons (fOp oMul (fVar 6) (fIf (fTest (fOp oEq (fVar 2) (fC (.int 5)))) (fOp oAdd (fVar 3) (fCall m__law_take (fCons (fVar 0) (fCons (fOp oMul (fC (.int 9)) (fVar 3)) fNil)))) (fCall m__law_take (fCons (fVar 0) (fCons (fC (.int 9)) fNil))))) fNil))))))))))
def m__law_some_number : Sem := runFn 7 b__law_some_number
theorem ok__law_some_number (T : Txt P w K mg base cm) : FdI P w K mg base cm 3 "_law_some_number" st__law_some_number P__law_some_number m__law_some_number := fd_mk (k := 2) T.a__law_some_number sc__law_some_number bd__law_some_number fun f cdv A outer s H EE hr => (dss_cons (ds_par 2 3 rfl sc__law_some_number.nd (da_cons (de_call ((ok__law_take T).mono (by decide)) hr (takes_of rfl rfl rfl rfl) (by rfl) (da_cons (de_var 0) (da_cons de_int da_nil)) (al_cons (al_cons al_nil))) (da_cons de_int da_nil)))
    (dss_cons (ds_for (passes_of rfl) rfl (di_rg1 (by rfl) T.f_range (da_cons (de_op op_sub re_sub (de_var 1) de_int) da_nil)) (dg_name 4 sc__law_some_number.nd) (dss_one (ds_set 3 sc__law_some_number.nd (de_op op_mulD re_mul (de_var 3) de_int))))
    (dss_cons (ds_par 5 6 rfl sc__law_some_number.nd (da_cons (de_ix (de_lst (da_cons de_int (da_cons (de_un un_neg re_neg de_int) da_nil)) (al_cons (al_cons al_nil))) (de_call ((ok__law_take T).mono (by decide)) hr (takes_of rfl rfl rfl rfl) (by rfl) (da_cons (de_var 0) (da_cons de_int da_nil)) (al_cons (al_cons al_nil)))) (da_cons (de_ix (de_lst (da_cons de_int (da_cons (de_un un_neg re_neg de_int) da_nil)) (al_cons (al_cons al_nil))) (de_call ((ok__law_take T).mono (by decide)) hr (takes_of rfl rfl rfl rfl) (by rfl) (da_cons (de_var 0) (da_cons de_int da_nil)) (al_cons (al_cons al_nil)))) da_nil)))
    (dss_cons (ds_if (dt_cmp op_lt re_cmp (de_var 2) de_int (by rfl)) (dss_one (ds_ret (de_tup (da_cons (de_op op_sub re_sub (de_call ((ok__law_take T).mono (by decide)) hr (takes_of rfl rfl rfl rfl) (by rfl) (da_cons (de_var 0) (da_cons de_int da_nil)) (al_cons (al_cons al_nil))) de_int) (da_cons (de_op op_sub re_sub (de_call ((ok__law_take T).mono (by decide)) hr (takes_of rfl rfl rfl rfl) (by rfl) (da_cons (de_var 0) (da_cons de_int da_nil)) (al_cons (al_cons al_nil))) de_int) da_nil)) (al_cons (al_cons al_nil))))) dss_nil)
    (dss_cons (ds_if (dt_cmp (op_eqA hr.units) re_eq (de_var 2) de_int (by rfl)) (dss_one (ds_ret (de_if (dt_cmp (op_eqA hr.units) re_eq (de_var 6) de_int (by rfl)) (de_tup (da_cons (de_op op_mulD re_mul (de_var 5) (de_call ((ok__law_take T).mono (by decide)) hr (takes_of rfl rfl rfl rfl) (by rfl) (da_cons (de_var 0) (da_cons de_int da_nil)) (al_cons (al_cons al_nil)))) (da_cons de_int da_nil)) (al_cons (al_cons al_nil))) (de_tup (da_cons de_int (da_cons (de_op op_mulD re_mul (de_var 5) (de_call ((ok__law_take T).mono (by decide)) hr (takes_of rfl rfl rfl rfl) (by rfl) (da_cons (de_var 0) (da_cons de_int da_nil)) (al_cons (al_cons al_nil)))) da_nil)) (al_cons (al_cons al_nil)))))) dss_nil)
    (dss_cons (ds_if (dt_cmp (op_eqA hr.units) re_eq (de_var 2) de_int (by rfl)) (dss_one (ds_ret (de_call ((ok__law_pick T).mono (by decide)) hr (takes_of rfl rfl rfl rfl) (by rfl) (da_cons (de_var 0) (da_cons (de_lst (da_cons (de_tup (da_cons de_int (da_cons de_int da_nil)) (al_cons (al_cons al_nil))) (da_cons (de_tup (da_cons de_int (da_cons de_int da_nil)) (al_cons (al_cons al_nil))) (da_cons (de_tup (da_cons de_int (da_cons de_int da_nil)) (al_cons (al_cons al_nil))) (da_cons (de_tup (da_cons (de_un un_neg re_neg de_int) (da_cons de_int da_nil)) (al_cons (al_cons al_nil))) (da_cons (de_tup (da_cons de_int (da_cons (de_un un_neg re_neg de_int) da_nil)) (al_cons (al_cons al_nil))) (da_cons (de_tup (da_cons de_int (da_cons de_int da_nil)) (al_cons (al_cons al_nil))) (da_cons (de_tup (da_cons de_int (da_cons (de_un un_neg re_neg de_int) da_nil)) (al_cons (al_cons al_nil))) da_nil))))))) (al_cons (al_cons (al_cons (al_cons (al_cons (al_cons (al_cons al_nil)))))))) da_nil)) (al_cons (al_cons al_nil))))) dss_nil)
    (dss_one (ds_ret (de_tup (da_cons (de_op op_mulD re_mul (de_var 5) (de_op op_addD re_add (de_var 3) (de_call ((ok__law_take T).mono (by decide)) hr (takes_of rfl rfl rfl rfl) (by rfl) (da_cons (de_var 0) (da_cons (de_op op_mulD re_mul de_int (de_var 3)) da_nil)) (al_cons (al_cons al_nil))))) (da_cons (de_op op_mulD re_mul (de_var 6) (de_if (dt_cmp (op_eqA hr.units) re_eq (de_var 2) de_int (by rfl)) (de_op op_addD re_add (de_var 3) (de_call ((ok__law_take T).mono (by decide)) hr (takes_of rfl rfl rfl rfl) (by rfl) (da_cons (de_var 0) (da_cons (de_op op_mulD re_mul de_int (de_var 3)) da_nil)) (al_cons (al_cons al_nil)))) (de_call ((ok__law_take T).mono (by decide)) hr (takes_of rfl rfl rfl rfl) (by rfl) (da_cons (de_var 0) (da_cons de_int da_nil)) (al_cons (al_cons al_nil))))) da_nil)) (al_cons (al_cons al_nil)))))))))))
def b__law_odd_number : StmD := (sRet (fCall (m__law_copy 12) (fCons (fCall m__law_pick (fCons (fVar 0) (fCons (fLst (fCons (fC .non) (fCons (fC (.bl true)) (fCons (fC (.int 5)) (fCons (fC (.str "w")) (fCons (fC (.str "1+w")) (fCons (fTup (fCons (fC (.int 1)) fNil)) (fCons (fTup (fCons (fC (.int 1)) (fCons (fC (.int 2)) (fCons (fC (.int 3)) fNil)))) (fCons (fLst (fCons (fC (.int 1)) (fCons (fC (.int 2)) fNil))) (fCons (fTup (fCons (fC (.bl true)) (fCons (fC (.int 0)) fNil))) (fCons (fTup (fCons (fC (.int 0)) (fCons (fC (.bl false)) fNil))) (fCons (fTup (fCons (fC .non) (fCons (fC (.int 1)) fNil))) (fCons (fTup (fCons (fC (.str "1")) (fCons (fC (.int 0)) fNil))) (fCons fDct0 (fCons (fTup fNil) (fCons (fTup (fCons (fTup (fCons (fC (.int 1)) (fCons (fC (.int 2)) fNil))) fNil)) (fCons (fTup (fCons (fLst (fCons (fC (.int 1)) fNil)) (fCons (fC (.int 2)) fNil))) (fCons (fDctO [((fC (.str "a")), (fC (.int 1)))]) fNil)))))))))))))))))) fNil))) fNil)))
def m__law_odd_number : Sem := runFn 1 b__law_odd_number
theorem ok__law_odd_number (T : Txt P w K mg base cm) : FdI P w K mg base cm 13 "_law_odd_number" st__law_odd_number P__law_odd_number m__law_odd_number := fd_mk (k := 12) T.a__law_odd_number sc__law_odd_number bd__law_odd_number fun f cdv A outer s H EE hr => (dss_one (ds_ret (de_call ((ok__law_copy T).mono (by decide)) hr (takes_of rfl rfl rfl rfl) (by rfl) (da_cons (de_call ((ok__law_pick T).mono (by decide)) hr (takes_of rfl rfl rfl rfl) (by rfl) (da_cons (de_var 0) (da_cons (de_lst (da_cons de_non (da_cons de_bl (da_cons de_int (da_cons de_str (da_cons de_str (da_cons (de_tup (da_cons de_int da_nil) (al_cons al_nil)) (da_cons (de_tup (da_cons de_int (da_cons de_int (da_cons de_int da_nil))) (al_cons (al_cons (al_cons al_nil)))) (da_cons (de_lst (da_cons de_int (da_cons de_int da_nil)) (al_cons (al_cons al_nil))) (da_cons (de_tup (da_cons de_bl (da_cons de_int da_nil)) (al_cons (al_cons al_nil))) (da_cons (de_tup (da_cons de_int (da_cons de_bl da_nil)) (al_cons (al_cons al_nil))) (da_cons (de_tup (da_cons de_non (da_cons de_int da_nil)) (al_cons (al_cons al_nil))) (da_cons (de_tup (da_cons de_str (da_cons de_int da_nil)) (al_cons (al_cons al_nil))) (da_cons de_dct0 (da_cons (de_tup da_nil al_nil) (da_cons (de_tup (da_cons (de_tup (da_cons de_int (da_cons de_int da_nil)) (al_cons (al_cons al_nil))) da_nil) (al_cons al_nil)) (da_cons (de_tup (da_cons (de_lst (da_cons de_int da_nil) (al_cons al_nil)) (da_cons de_int da_nil)) (al_cons (al_cons al_nil))) (da_cons (de_dctO (.cons de_str de_int .nil)) da_nil))))))))))))))))) (al_cons (al_cons (al_cons (al_cons (al_cons (al_cons (al_cons (al_cons (al_cons (al_cons (al_cons (al_cons (al_cons (al_cons (al_cons (al_cons (al_cons al_nil)))))))))))))))))) da_nil)) (al_cons (al_cons al_nil))) da_nil) (al_cons al_nil))))
def b__law_odd_ring : StmD := (sRet (fCall (m__law_copy 12) (fCons (fCall m__law_pick (fCons (fVar 0) (fCons (fLst (fCons (fC (.int 0)) (fCons (fUn oNeg (fC (.int 5))) (fCons (fC (.int 4)) (fCons (fC (.int 8)) (fCons (fC (.int 9)) (fCons (fC (.int 12)) (fCons (fC (.int 300)) (fCons (fC (.int 301)) (fCons (fC (.int 18)) (fCons (fC (.int 50)) (fCons (fC (.int 289)) (fCons (fOp oPow (fC (.int 10)) (fC (.int 29))) (fCons (fC (.bl true)) (fCons (fC .non) (fCons (fC (.str "5")) (fCons (fTup (fCons (fC (.int 5)) fNil)) (fCons (fLst (fCons (fC (.int 5)) fNil)) (fCons fDct0 fNil))))))))))))))))))) fNil))) fNil)))
def m__law_odd_ring : Sem := runFn 1 b__law_odd_ring
theorem ok__law_odd_ring (T : Txt P w K mg base cm) : FdI P w K mg base cm 13 "_law_odd_ring" st__law_odd_ring P__law_odd_ring m__law_odd_ring := fd_mk (k := 12) T.a__law_odd_ring sc__law_odd_ring bd__law_odd_ring fun f cdv A outer s H EE hr => (dss_one (ds_ret (de_call ((ok__law_copy T).mono (by decide)) hr (takes_of rfl rfl rfl rfl) (by rfl) (da_cons (de_call ((ok__law_pick T).mono (by decide)) hr (takes_of rfl rfl rfl rfl) (by rfl) (da_cons (de_var 0) (da_cons (de_lst (da_cons de_int (da_cons (de_un un_neg re_neg de_int) (da_cons de_int (da_cons de_int (da_cons de_int (da_cons de_int (da_cons de_int (da_cons de_int (da_cons de_int (da_cons de_int (da_cons de_int (da_cons (de_op op_powD re_pow de_int de_int) (da_cons de_bl (da_cons de_non (da_cons de_str (da_cons (de_tup (da_cons de_int da_nil) (al_cons al_nil)) (da_cons (de_lst (da_cons de_int da_nil) (al_cons al_nil)) (da_cons de_dct0 da_nil)))))))))))))))))) (al_cons (al_cons (al_cons (al_cons (al_cons (al_cons (al_cons (al_cons (al_cons (al_cons (al_cons (al_cons (al_cons (al_cons (al_cons (al_cons (al_cons (al_cons al_nil))))))))))))))))))) da_nil)) (al_cons (al_cons al_nil))) da_nil) (al_cons al_nil))))
def b__law_told : StmD := (sSeq (sIf (fTest (fOp oEq (fVar 0) (fC (.int 0)))) (sRet (fIf (fTru (fVar 4)) (fCallK m_plus [2, 1, 0] (fCons (fVar 3) (fCons (fVar 2) (fCons (fVar 1) fNil)))) (fCall m_plus (fCons (fVar 1) (fCons (fVar 2) (fCons (fVar 3) fNil)))))) sSkip)
    (sSeq (sIf (fTest (fOp oEq (fVar 0) (fC (.int 1)))) (sRet (fIf (fTru (fVar 4)) (fCallK m_product [2, 1, 0] (fCons (fVar 3) (fCons (fVar 2) (fCons (fVar 1) fNil)))) (fCall m_product (fCons (fVar 1) (fCons (fVar 2) (fCons (fVar 3) fNil)))))) sSkip)
    (sSeq (sIf (fTest (fOp oEq (fVar 0) (fC (.int 2)))) (sRet (fIf (fTru (fVar 4)) (fCallK m_mirror [1, 0] (fCons (fVar 2) (fCons (fVar 1) fNil))) (fCall m_mirror (fCons (fVar 1) (fCons (fVar 2) fNil))))) sSkip)
    (sRet (fIf (fTru (fVar 4)) (fCallK m_norm [1, 0] (fCons (fVar 2) (fCons (fVar 1) fNil))) (fCall m_norm (fCons (fVar 1) (fCons (fVar 2) fNil))))))))
def m__law_told : Sem := runFn 5 b__law_told
theorem ok__law_told (T : Txt P w K mg base cm) : FdI P w K mg base cm 7 "_law_told" st__law_told P__law_told m__law_told := fd_mk (k := 6) T.a__law_told sc__law_told bd__law_told fun f cdv A outer s H EE hr => (dss_cons (ds_if (dt_cmp (op_eqA hr.units) re_eq (de_var 0) de_int (by rfl)) (dss_one (ds_ret (de_if (dt_tru (de_var 4)) (de_callK (ks := ["other", "one", "ring"]) (pm := [2, 1, 0]) ((ok_plus T).mono (by decide)) hr (takes_of rfl rfl rfl rfl) (by rfl) (dk_cons (de_var 3) (dk_cons (de_var 2) (dk_cons (de_var 1) dk_nil))) (al_cons (al_cons (al_cons al_nil))) kb_plus_other_one_ring kb_plus_other_one_ring_len) (de_call ((ok_plus T).mono (by decide)) hr (takes_of rfl rfl rfl rfl) (by rfl) (da_cons (de_var 1) (da_cons (de_var 2) (da_cons (de_var 3) da_nil))) (al_cons (al_cons (al_cons al_nil))))))) dss_nil)
    (dss_cons (ds_if (dt_cmp (op_eqA hr.units) re_eq (de_var 0) de_int (by rfl)) (dss_one (ds_ret (de_if (dt_tru (de_var 4)) (de_callK (ks := ["other", "one", "ring"]) (pm := [2, 1, 0]) ((ok_product T).mono (by decide)) hr (takes_of rfl rfl rfl rfl) (by rfl) (dk_cons (de_var 3) (dk_cons (de_var 2) (dk_cons (de_var 1) dk_nil))) (al_cons (al_cons (al_cons al_nil))) kb_product_other_one_ring kb_product_other_one_ring_len) (de_call ((ok_product T).mono (by decide)) hr (takes_of rfl rfl rfl rfl) (by rfl) (da_cons (de_var 1) (da_cons (de_var 2) (da_cons (de_var 3) da_nil))) (al_cons (al_cons (al_cons al_nil))))))) dss_nil)
    (dss_cons (ds_if (dt_cmp (op_eqA hr.units) re_eq (de_var 0) de_int (by rfl)) (dss_one (ds_ret (de_if (dt_tru (de_var 4)) (de_callK (ks := ["number", "ring"]) (pm := [1, 0]) ((ok_mirror T).mono (by decide)) hr (takes_of rfl rfl rfl rfl) (by rfl) (dk_cons (de_var 2) (dk_cons (de_var 1) dk_nil)) (al_cons (al_cons al_nil)) kb_mirror_number_ring kb_mirror_number_ring_len) (de_call ((ok_mirror T).mono (by decide)) hr (takes_of rfl rfl rfl rfl) (by rfl) (da_cons (de_var 1) (da_cons (de_var 2) da_nil)) (al_cons (al_cons al_nil)))))) dss_nil)
    (dss_one (ds_ret (de_if (dt_tru (de_var 4)) (de_callK (ks := ["number", "ring"]) (pm := [1, 0]) ((ok_norm T).mono (by decide)) hr (takes_of rfl rfl rfl rfl) (by rfl) (dk_cons (de_var 2) (dk_cons (de_var 1) dk_nil)) (al_cons (al_cons al_nil)) kb_norm_number_ring kb_norm_number_ring_len) (de_call ((ok_norm T).mono (by decide)) hr (takes_of rfl rfl rfl rfl) (by rfl) (da_cons (de_var 1) (da_cons (de_var 2) da_nil)) (al_cons (al_cons al_nil)))))))))
def b__law_met : StmD := (sTry subs (sRet (fLst (fCons (fC (.str "told")) (fCons (fCall m__law_told (fCons (fVar 0) (fCons (fVar 1) (fCons (fVar 2) (fCons (fVar 3) (fCons (fVar 4) fNil)))))) fNil)))) [("InvalidRing", some 5, (hR (gxK (gxC (.str "ring")) (gxK (gxF ["InvalidRing"] "given") gxN)))), ("InvalidNumber", some 5, (hR (gxK (gxC (.str "number")) (gxK (gxF ["InvalidNumber"] "given") gxN)))), ("FactoringError", none, (hR (gxK (gxC (.str "other")) (gxK (gxC .non) gxN))))])
def m__law_met : Sem := runFn 6 b__law_met
theorem ok__law_met (T : Txt P w K mg base cm) : FdI P w K mg base cm 8 "_law_met" st__law_met P__law_met m__law_met := fd_mk (k := 7) T.a__law_met sc__law_met bd__law_met fun f cdv A outer s H EE hr => (dss_one (ds_try T.sub rfl rfl sc__law_met.nd (takes_of rfl rfl rfl rfl) (fun V pn xe tk2 po => (dss_one (ds_ret (de_lst (da_cons de_str (da_cons (de_call ((ok__law_told T).mono (by decide)) hr tk2 (by rfl) (da_cons (de_var 0) (da_cons (de_var 1) (da_cons (de_var 2) (da_cons (de_var 3) (da_cons (de_var 4) da_nil))))) (al_cons (al_cons (al_cons (al_cons (al_cons al_nil)))))) da_nil)) (al_cons (al_cons al_nil)))))) (.named ⟨rfl, by decide, .inl T.n_InvalidRing⟩ (i := 5) rfl rfl (su_ret (dxs_cons dx_str (dxs_cons (dx_f (cs := ["InvalidRing"]) (i := 5) (all__law_met_InvalidRing_given T)) dxs_nil)) (gxl_cons (gxl_cons gxl_nil))) (.named ⟨rfl, by decide, .inl T.n_InvalidNumber⟩ (i := 5) rfl rfl (su_ret (dxs_cons dx_str (dxs_cons (dx_f (cs := ["InvalidNumber"]) (i := 5) (all__law_met_InvalidNumber_given T)) dxs_nil)) (gxl_cons (gxl_cons gxl_nil))) (.plain ⟨rfl, by decide, .inl T.n_FactoringError⟩ (su_ret (dxs_cons dx_str (dxs_cons dx_non dxs_nil)) (gxl_cons (gxl_cons gxl_nil))) .nil)))))
def b__law_sum_of : StmD := (sRet (fTup (fCons (fOp oAdd (fOp oIx (fVar 0) (fC (.int 0))) (fOp oIx (fVar 1) (fC (.int 0)))) (fCons (fOp oAdd (fOp oIx (fVar 0) (fC (.int 1))) (fOp oIx (fVar 1) (fC (.int 1)))) fNil))))
def m__law_sum_of : Sem := runFn 2 b__law_sum_of
theorem ok__law_sum_of (T : Txt P w K mg base cm) : FdI P w K mg base cm 1 "_law_sum_of" st__law_sum_of P__law_sum_of m__law_sum_of := fd_mk (k := 0) T.a__law_sum_of sc__law_sum_of bd__law_sum_of fun f cdv A outer s H EE hr => (dss_one (ds_ret (de_tup (da_cons (de_op op_addD re_add (de_ix (de_var 0) de_int) (de_ix (de_var 1) de_int)) (da_cons (de_op op_addD re_add (de_ix (de_var 0) de_int) (de_ix (de_var 1) de_int)) da_nil)) (al_cons (al_cons al_nil)))))
def b__law_two_right : StmD := (sSeq (sPar 4 5 (fCons (fCall m__law_sum_of (fCons (fVar 1) (fCons (fVar 2) fNil))) (fCons (fCall m__law_ring_times (fCons (fVar 0) (fCons (fVar 1) (fCons (fVar 2) fNil)))) fNil)))
    (sSeq (sAsg (fLst (fCons (fTup (fCons (fC (.int 0)) (fCons (fVar 1) (fCons (fVar 2) (fCons (fVar 4) fNil))))) (fCons (fTup (fCons (fC (.int 0)) (fCons (fVar 2) (fCons (fVar 1) (fCons (fVar 4) fNil))))) (fCons (fTup (fCons (fC (.int 1)) (fCons (fVar 1) (fCons (fVar 2) (fCons (fVar 5) fNil))))) (fCons (fTup (fCons (fC (.int 1)) (fCons (fVar 2) (fCons (fVar 1) (fCons (fVar 5) fNil))))) (fCons (fTup (fCons (fC (.int 2)) (fCons (fVar 1) (fCons (fC .non) (fCons (fCall m__law_mirror (fCons (fVar 0) (fCons (fVar 1) fNil))) fNil))))) (fCons (fTup (fCons (fC (.int 3)) (fCons (fVar 1) (fCons (fC .non) (fCons (fCall m__law_norm (fCons (fVar 0) (fCons (fVar 1) fNil))) fNil))))) fNil))))))) (gN 6))
    (sSeq (sFor (fIt (fVar 6)) (gT 4 (gsCons (gN 7) (gsCons (gN 8) (gsCons (gN 9) (gsCons (gN 10) gsNil))))) (sSeq (sIf (fNot (fTru (fCall (m__law_same 12) (fCons (fCall m__law_told (fCons (fVar 7) (fCons (fVar 0) (fCons (fVar 8) (fCons (fVar 9) (fCons (fVar 3) fNil)))))) (fCons (fVar 10) fNil))))) (sRet (fC (.bl false))) sSkip)
    (sAsg (fNotV (fVar 3)) (gN 3))))
    (sSeq (sAsg (fCall m__law_told (fCons (fC (.int 3)) (fCons (fVar 0) (fCons (fVar 1) (fCons (fC .non) (fCons (fVar 3) fNil)))))) (gN 11))
    (sSeq (sIf (fOr (fNot (fTru (fCall (m__law_same 12) (fCons (fCall m__law_told (fCons (fC (.int 1)) (fCons (fVar 0) (fCons (fVar 1) (fCons (fCall m__law_told (fCons (fC (.int 2)) (fCons (fVar 0) (fCons (fVar 1) (fCons (fC .non) (fCons (fVar 3) fNil)))))) (fCons (fNotV (fVar 3)) fNil)))))) (fCons (fTup (fCons (fVar 11) (fCons (fC (.int 0)) fNil))) fNil))))) (fTest (fOp oNe (fOp (oCmp fun i j => decide (j < i)) (fVar 11) (fC (.int 0))) (fOp oNe (fVar 1) (fTup (fCons (fC (.int 0)) (fCons (fC (.int 0)) fNil))))))) (sRet (fC (.bl false))) sSkip)
    (sSeq (sAsg (fLst (fCons (fCall m__law_told (fCons (fC (.int 3)) (fCons (fVar 0) (fCons (fCall m__law_told (fCons (fC (.int 1)) (fCons (fVar 0) (fCons (fVar 1) (fCons (fVar 2) (fCons (fVar 3) fNil)))))) (fCons (fC .non) (fCons (fNotV (fVar 3)) fNil)))))) (fCons (fCall m__law_told (fCons (fC (.int 3)) (fCons (fVar 0) (fCons (fCall m__law_told (fCons (fC (.int 2)) (fCons (fVar 0) (fCons (fVar 2) (fCons (fC .non) (fCons (fVar 3) fNil)))))) (fCons (fC .non) (fCons (fVar 3) fNil)))))) fNil))) (gN 12))
    (sSeq (sIf (fNot (fTru (fCall (m__law_same 12) (fCons (fVar 12) (fCons (fLst (fCons (fOp oMul (fVar 11) (fCall m__law_norm (fCons (fVar 0) (fCons (fVar 2) fNil)))) (fCons (fCall m__law_norm (fCons (fVar 0) (fCons (fVar 2) fNil))) fNil))) fNil))))) (sRet (fC (.bl false))) sSkip)
    (sSeq (sAsg (fLstO (fCons (fCall m__law_told (fCons (fC (.int 2)) (fCons (fVar 0) (fCons (fCall m__law_told (fCons (fC (.int 2)) (fCons (fVar 0) (fCons (fVar 1) (fCons (fC .non) (fCons (fVar 3) fNil)))))) (fCons (fC .non) (fCons (fVar 3) fNil)))))) (fCons (fCall m__law_told (fCons (fC (.int 2)) (fCons (fVar 0) (fCons (fCall m__law_told (fCons (fC (.int 1)) (fCons (fVar 0) (fCons (fVar 1) (fCons (fVar 2) (fCons (fVar 3) fNil)))))) (fCons (fC .non) (fCons (fVar 3) fNil)))))) fNil))) (gN 13))
    (sSeq (sDrop (fMeth1 oAppend (fVar 13) (fCall m__law_told (fCons (fC (.int 2)) (fCons (fVar 0) (fCons (fCall m__law_told (fCons (fC (.int 0)) (fCons (fVar 0) (fCons (fVar 1) (fCons (fVar 2) (fCons (fVar 3) fNil)))))) (fCons (fC .non) (fCons (fVar 3) fNil))))))))
    (sRet (fCall (m__law_same 12) (fCons (fVar 13) (fCons (fLst (fCons (fVar 1) (fCons (fCall m__law_ring_times (fCons (fVar 0) (fCons (fCall m__law_mirror (fCons (fVar 0) (fCons (fVar 1) fNil))) (fCons (fCall m__law_mirror (fCons (fVar 0) (fCons (fVar 2) fNil))) fNil)))) (fCons (fCall m__law_sum_of (fCons (fCall m__law_mirror (fCons (fVar 0) (fCons (fVar 1) fNil))) (fCons (fCall m__law_mirror (fCons (fVar 0) (fCons (fVar 2) fNil))) fNil))) fNil)))) fNil)))))))))))))
def m__law_two_right : Sem := gcT (runFn 14 b__law_two_right)
theorem ok__law_two_right (T : Txt P w K mg base cm) : FdI P w K mg base cm 13 "_law_two_right" st__law_two_right P__law_two_right m__law_two_right := fd_gcT (fd_mk (k := 12) T.a__law_two_right sc__law_two_right bd__law_two_right fun f cdv A outer s H EE hr => (dss_cons (ds_par 4 5 rfl sc__law_two_right.nd (da_cons (de_call ((ok__law_sum_of T).mono (by decide)) hr (takes_of rfl rfl rfl rfl) (by rfl) (da_cons (de_var 1) (da_cons (de_var 2) da_nil)) (al_cons (al_cons al_nil))) (da_cons (de_call ((ok__law_ring_times T).mono (by decide)) hr (takes_of rfl rfl rfl rfl) (by rfl) (da_cons (de_var 0) (da_cons (de_var 1) (da_cons (de_var 2) da_nil))) (al_cons (al_cons (al_cons al_nil)))) da_nil)))
    (dss_cons (ds_set 6 sc__law_two_right.nd (de_lst (da_cons (de_tup (da_cons de_int (da_cons (de_var 1) (da_cons (de_var 2) (da_cons (de_var 4) da_nil)))) (al_cons (al_cons (al_cons (al_cons al_nil))))) (da_cons (de_tup (da_cons de_int (da_cons (de_var 2) (da_cons (de_var 1) (da_cons (de_var 4) da_nil)))) (al_cons (al_cons (al_cons (al_cons al_nil))))) (da_cons (de_tup (da_cons de_int (da_cons (de_var 1) (da_cons (de_var 2) (da_cons (de_var 5) da_nil)))) (al_cons (al_cons (al_cons (al_cons al_nil))))) (da_cons (de_tup (da_cons de_int (da_cons (de_var 2) (da_cons (de_var 1) (da_cons (de_var 5) da_nil)))) (al_cons (al_cons (al_cons (al_cons al_nil))))) (da_cons (de_tup (da_cons de_int (da_cons (de_var 1) (da_cons de_non (da_cons (de_call ((ok__law_mirror T).mono (by decide)) hr (takes_of rfl rfl rfl rfl) (by rfl) (da_cons (de_var 0) (da_cons (de_var 1) da_nil)) (al_cons (al_cons al_nil))) da_nil)))) (al_cons (al_cons (al_cons (al_cons al_nil))))) (da_cons (de_tup (da_cons de_int (da_cons (de_var 1) (da_cons de_non (da_cons (de_call ((ok__law_norm T).mono (by decide)) hr (takes_of rfl rfl rfl rfl) (by rfl) (da_cons (de_var 0) (da_cons (de_var 1) da_nil)) (al_cons (al_cons al_nil))) da_nil)))) (al_cons (al_cons (al_cons (al_cons al_nil))))) da_nil)))))) (al_cons (al_cons (al_cons (al_cons (al_cons (al_cons al_nil))))))))
    (dss_cons (ds_for (passes_of rfl) rfl (di_seq (de_var 6)) (dg_tup rfl (dgs_cons (dg_name 7 sc__law_two_right.nd) (dgs_cons (dg_name 8 sc__law_two_right.nd) (dgs_cons (dg_name 9 sc__law_two_right.nd) (dgs_cons (dg_name 10 sc__law_two_right.nd) dgs_nil))))) (dss_cons (ds_if (dt_not (dt_tru (de_call ((ok__law_same T).mono (by decide)) hr (takes_of rfl rfl rfl rfl) (by rfl) (da_cons (de_call ((ok__law_told T).mono (by decide)) hr (takes_of rfl rfl rfl rfl) (by rfl) (da_cons (de_var 7) (da_cons (de_var 0) (da_cons (de_var 8) (da_cons (de_var 9) (da_cons (de_var 3) da_nil))))) (al_cons (al_cons (al_cons (al_cons (al_cons al_nil)))))) (da_cons (de_var 10) da_nil)) (al_cons (al_cons al_nil))))) (dss_one (ds_ret de_bl)) dss_nil)
    (dss_one (ds_set 3 sc__law_two_right.nd (de_not (de_var 3))))))
    (dss_cons (ds_set 11 sc__law_two_right.nd (de_call ((ok__law_told T).mono (by decide)) hr (takes_of rfl rfl rfl rfl) (by rfl) (da_cons de_int (da_cons (de_var 0) (da_cons (de_var 1) (da_cons de_non (da_cons (de_var 3) da_nil))))) (al_cons (al_cons (al_cons (al_cons (al_cons al_nil)))))))
    (dss_cons (ds_if (dw_or (dt_not (dt_tru (de_call ((ok__law_same T).mono (by decide)) hr (takes_of rfl rfl rfl rfl) (by rfl) (da_cons (de_call ((ok__law_told T).mono (by decide)) hr (takes_of rfl rfl rfl rfl) (by rfl) (da_cons de_int (da_cons (de_var 0) (da_cons (de_var 1) (da_cons (de_call ((ok__law_told T).mono (by decide)) hr (takes_of rfl rfl rfl rfl) (by rfl) (da_cons de_int (da_cons (de_var 0) (da_cons (de_var 1) (da_cons de_non (da_cons (de_var 3) da_nil))))) (al_cons (al_cons (al_cons (al_cons (al_cons al_nil)))))) (da_cons (de_not (de_var 3)) da_nil))))) (al_cons (al_cons (al_cons (al_cons (al_cons al_nil)))))) (da_cons (de_tup (da_cons (de_var 11) (da_cons de_int da_nil)) (al_cons (al_cons al_nil))) da_nil)) (al_cons (al_cons al_nil))))) (dw_or1 (dt_cmp (op_neA hr.units) re_ne (de_cmp op_gt re_cmp (de_var 11) de_int (by rfl)) (de_cmp (op_neA hr.units) re_ne (de_var 1) (de_tup (da_cons de_int (da_cons de_int da_nil)) (al_cons (al_cons al_nil))) (by rfl)) (by rfl)))).t (dss_one (ds_ret de_bl)) dss_nil)
    (dss_cons (ds_set 12 sc__law_two_right.nd (de_lst (da_cons (de_call ((ok__law_told T).mono (by decide)) hr (takes_of rfl rfl rfl rfl) (by rfl) (da_cons de_int (da_cons (de_var 0) (da_cons (de_call ((ok__law_told T).mono (by decide)) hr (takes_of rfl rfl rfl rfl) (by rfl) (da_cons de_int (da_cons (de_var 0) (da_cons (de_var 1) (da_cons (de_var 2) (da_cons (de_var 3) da_nil))))) (al_cons (al_cons (al_cons (al_cons (al_cons al_nil)))))) (da_cons de_non (da_cons (de_not (de_var 3)) da_nil))))) (al_cons (al_cons (al_cons (al_cons (al_cons al_nil)))))) (da_cons (de_call ((ok__law_told T).mono (by decide)) hr (takes_of rfl rfl rfl rfl) (by rfl) (da_cons de_int (da_cons (de_var 0) (da_cons (de_call ((ok__law_told T).mono (by decide)) hr (takes_of rfl rfl rfl rfl) (by rfl) (da_cons de_int (da_cons (de_var 0) (da_cons (de_var 2) (da_cons de_non (da_cons (de_var 3) da_nil))))) (al_cons (al_cons (al_cons (al_cons (al_cons al_nil)))))) (da_cons de_non (da_cons (de_var 3) da_nil))))) (al_cons (al_cons (al_cons (al_cons (al_cons al_nil)))))) da_nil)) (al_cons (al_cons al_nil))))
    (dss_cons (ds_if (dt_not (dt_tru (de_call ((ok__law_same T).mono (by decide)) hr (takes_of rfl rfl rfl rfl) (by rfl) (da_cons (de_var 12) (da_cons (de_lst (da_cons (de_op op_mulD re_mul (de_var 11) (de_call ((ok__law_norm T).mono (by decide)) hr (takes_of rfl rfl rfl rfl) (by rfl) (da_cons (de_var 0) (da_cons (de_var 2) da_nil)) (al_cons (al_cons al_nil)))) (da_cons (de_call ((ok__law_norm T).mono (by decide)) hr (takes_of rfl rfl rfl rfl) (by rfl) (da_cons (de_var 0) (da_cons (de_var 2) da_nil)) (al_cons (al_cons al_nil))) da_nil)) (al_cons (al_cons al_nil))) da_nil)) (al_cons (al_cons al_nil))))) (dss_one (ds_ret de_bl)) dss_nil)
    (dss_cons (ds_set 13 sc__law_two_right.nd (de_lstO (da_cons (de_call ((ok__law_told T).mono (by decide)) hr (takes_of rfl rfl rfl rfl) (by rfl) (da_cons de_int (da_cons (de_var 0) (da_cons (de_call ((ok__law_told T).mono (by decide)) hr (takes_of rfl rfl rfl rfl) (by rfl) (da_cons de_int (da_cons (de_var 0) (da_cons (de_var 1) (da_cons de_non (da_cons (de_var 3) da_nil))))) (al_cons (al_cons (al_cons (al_cons (al_cons al_nil)))))) (da_cons de_non (da_cons (de_var 3) da_nil))))) (al_cons (al_cons (al_cons (al_cons (al_cons al_nil)))))) (da_cons (de_call ((ok__law_told T).mono (by decide)) hr (takes_of rfl rfl rfl rfl) (by rfl) (da_cons de_int (da_cons (de_var 0) (da_cons (de_call ((ok__law_told T).mono (by decide)) hr (takes_of rfl rfl rfl rfl) (by rfl) (da_cons de_int (da_cons (de_var 0) (da_cons (de_var 1) (da_cons (de_var 2) (da_cons (de_var 3) da_nil))))) (al_cons (al_cons (al_cons (al_cons (al_cons al_nil)))))) (da_cons de_non (da_cons (de_var 3) da_nil))))) (al_cons (al_cons (al_cons (al_cons (al_cons al_nil)))))) da_nil)) (al_cons (al_cons al_nil))))
    (dss_cons (ds_drop (de_append (de_var 13) (de_call ((ok__law_told T).mono (by decide)) hr (takes_of rfl rfl rfl rfl) (by rfl) (da_cons de_int (da_cons (de_var 0) (da_cons (de_call ((ok__law_told T).mono (by decide)) hr (takes_of rfl rfl rfl rfl) (by rfl) (da_cons de_int (da_cons (de_var 0) (da_cons (de_var 1) (da_cons (de_var 2) (da_cons (de_var 3) da_nil))))) (al_cons (al_cons (al_cons (al_cons (al_cons al_nil)))))) (da_cons de_non (da_cons (de_var 3) da_nil))))) (al_cons (al_cons (al_cons (al_cons (al_cons al_nil))))))))
    (dss_one (ds_ret (de_call ((ok__law_same T).mono (by decide)) hr (takes_of rfl rfl rfl rfl) (by rfl) (da_cons (de_var 13) (da_cons (de_lst (da_cons (de_var 1) (da_cons (de_call ((ok__law_ring_times T).mono (by decide)) hr (takes_of rfl rfl rfl rfl) (by rfl) (da_cons (de_var 0) (da_cons (de_call ((ok__law_mirror T).mono (by decide)) hr (takes_of rfl rfl rfl rfl) (by rfl) (da_cons (de_var 0) (da_cons (de_var 1) da_nil)) (al_cons (al_cons al_nil))) (da_cons (de_call ((ok__law_mirror T).mono (by decide)) hr (takes_of rfl rfl rfl rfl) (by rfl) (da_cons (de_var 0) (da_cons (de_var 2) da_nil)) (al_cons (al_cons al_nil))) da_nil))) (al_cons (al_cons (al_cons al_nil)))) (da_cons (de_call ((ok__law_sum_of T).mono (by decide)) hr (takes_of rfl rfl rfl rfl) (by rfl) (da_cons (de_call ((ok__law_mirror T).mono (by decide)) hr (takes_of rfl rfl rfl rfl) (by rfl) (da_cons (de_var 0) (da_cons (de_var 1) da_nil)) (al_cons (al_cons al_nil))) (da_cons (de_call ((ok__law_mirror T).mono (by decide)) hr (takes_of rfl rfl rfl rfl) (by rfl) (da_cons (de_var 0) (da_cons (de_var 2) da_nil)) (al_cons (al_cons al_nil))) da_nil)) (al_cons (al_cons al_nil))) da_nil))) (al_cons (al_cons (al_cons al_nil)))) da_nil)) (al_cons (al_cons al_nil)))))))))))))))
def b__law_three_right : StmD := (sSeq (sPar 5 6 (fCons (fCall m__law_ring_times (fCons (fVar 0) (fCons (fCall m__law_ring_times (fCons (fVar 0) (fCons (fVar 1) (fCons (fVar 2) fNil)))) (fCons (fVar 3) fNil)))) (fCons (fCall m__law_sum_of (fCons (fCall m__law_sum_of (fCons (fVar 1) (fCons (fVar 2) fNil))) (fCons (fVar 3) fNil))) fNil)))
    (sSeq (sAsg (fLst (fCons (fCall m__law_told (fCons (fC (.int 1)) (fCons (fVar 0) (fCons (fCall m__law_told (fCons (fC (.int 1)) (fCons (fVar 0) (fCons (fVar 1) (fCons (fVar 2) (fCons (fVar 4) fNil)))))) (fCons (fVar 3) (fCons (fVar 4) fNil)))))) (fCons (fCall m__law_told (fCons (fC (.int 1)) (fCons (fVar 0) (fCons (fVar 1) (fCons (fCall m__law_told (fCons (fC (.int 1)) (fCons (fVar 0) (fCons (fVar 2) (fCons (fVar 3) (fCons (fVar 4) fNil)))))) (fCons (fNotV (fVar 4)) fNil)))))) fNil))) (gN 7))
    (sSeq (sAsg (fOp oAdd (fVar 7) (fLst (fCons (fCall m__law_told (fCons (fC (.int 0)) (fCons (fVar 0) (fCons (fCall m__law_told (fCons (fC (.int 0)) (fCons (fVar 0) (fCons (fVar 1) (fCons (fVar 2) (fCons (fVar 4) fNil)))))) (fCons (fVar 3) (fCons (fVar 4) fNil)))))) (fCons (fCall m__law_told (fCons (fC (.int 0)) (fCons (fVar 0) (fCons (fVar 1) (fCons (fCall m__law_told (fCons (fC (.int 0)) (fCons (fVar 0) (fCons (fVar 2) (fCons (fVar 3) (fCons (fVar 4) fNil)))))) (fCons (fNotV (fVar 4)) fNil)))))) fNil)))) (gN 7))
    (sSeq (sIf (fNot (fTru (fCall (m__law_same 12) (fCons (fVar 7) (fCons (fLst (fCons (fVar 5) (fCons (fVar 5) (fCons (fVar 6) (fCons (fVar 6) fNil))))) fNil))))) (sRet (fC (.bl false))) sSkip)
    (sSeq (sAsg (fCall m__law_ring_times (fCons (fVar 0) (fCons (fVar 1) (fCons (fCall m__law_sum_of (fCons (fVar 2) (fCons (fVar 3) fNil))) fNil)))) (gN 8))
    (sSeq (sAsg (fLst (fCons (fCall m__law_told (fCons (fC (.int 1)) (fCons (fVar 0) (fCons (fVar 1) (fCons (fCall m__law_told (fCons (fC (.int 0)) (fCons (fVar 0) (fCons (fVar 2) (fCons (fVar 3) (fCons (fVar 4) fNil)))))) (fCons (fVar 4) fNil)))))) (fCons (fCall m__law_told (fCons (fC (.int 0)) (fCons (fVar 0) (fCons (fCall m__law_told (fCons (fC (.int 1)) (fCons (fVar 0) (fCons (fVar 1) (fCons (fVar 2) (fCons (fVar 4) fNil)))))) (fCons (fCall m__law_told (fCons (fC (.int 1)) (fCons (fVar 0) (fCons (fVar 1) (fCons (fVar 3) (fCons (fVar 4) fNil)))))) (fCons (fNotV (fVar 4)) fNil)))))) fNil))) (gN 7))
    (sRet (fCall (m__law_same 12) (fCons (fVar 7) (fCons (fLst (fCons (fVar 8) (fCons (fVar 8) fNil))) fNil))))))))))
def m__law_three_right : Sem := runFn 9 b__law_three_right
theorem ok__law_three_right (T : Txt P w K mg base cm) : FdI P w K mg base cm 13 "_law_three_right" st__law_three_right P__law_three_right m__law_three_right := fd_mk (k := 12) T.a__law_three_right sc__law_three_right bd__law_three_right fun f cdv A outer s H EE hr => (dss_cons (ds_par 5 6 rfl sc__law_three_right.nd (da_cons (de_call ((ok__law_ring_times T).mono (by decide)) hr (takes_of rfl rfl rfl rfl) (by rfl) (da_cons (de_var 0) (da_cons (de_call ((ok__law_ring_times T).mono (by decide)) hr (takes_of rfl rfl rfl rfl) (by rfl) (da_cons (de_var 0) (da_cons (de_var 1) (da_cons (de_var 2) da_nil))) (al_cons (al_cons (al_cons al_nil)))) (da_cons (de_var 3) da_nil))) (al_cons (al_cons (al_cons al_nil)))) (da_cons (de_call ((ok__law_sum_of T).mono (by decide)) hr (takes_of rfl rfl rfl rfl) (by rfl) (da_cons (de_call ((ok__law_sum_of T).mono (by decide)) hr (takes_of rfl rfl rfl rfl) (by rfl) (da_cons (de_var 1) (da_cons (de_var 2) da_nil)) (al_cons (al_cons al_nil))) (da_cons (de_var 3) da_nil)) (al_cons (al_cons al_nil))) da_nil)))
    (dss_cons (ds_set 7 sc__law_three_right.nd (de_lst (da_cons (de_call ((ok__law_told T).mono (by decide)) hr (takes_of rfl rfl rfl rfl) (by rfl) (da_cons de_int (da_cons (de_var 0) (da_cons (de_call ((ok__law_told T).mono (by decide)) hr (takes_of rfl rfl rfl rfl) (by rfl) (da_cons de_int (da_cons (de_var 0) (da_cons (de_var 1) (da_cons (de_var 2) (da_cons (de_var 4) da_nil))))) (al_cons (al_cons (al_cons (al_cons (al_cons al_nil)))))) (da_cons (de_var 3) (da_cons (de_var 4) da_nil))))) (al_cons (al_cons (al_cons (al_cons (al_cons al_nil)))))) (da_cons (de_call ((ok__law_told T).mono (by decide)) hr (takes_of rfl rfl rfl rfl) (by rfl) (da_cons de_int (da_cons (de_var 0) (da_cons (de_var 1) (da_cons (de_call ((ok__law_told T).mono (by decide)) hr (takes_of rfl rfl rfl rfl) (by rfl) (da_cons de_int (da_cons (de_var 0) (da_cons (de_var 2) (da_cons (de_var 3) (da_cons (de_var 4) da_nil))))) (al_cons (al_cons (al_cons (al_cons (al_cons al_nil)))))) (da_cons (de_not (de_var 4)) da_nil))))) (al_cons (al_cons (al_cons (al_cons (al_cons al_nil)))))) da_nil)) (al_cons (al_cons al_nil))))
    (dss_cons (ds_set 7 sc__law_three_right.nd (de_op op_addD re_add (de_var 7) (de_lst (da_cons (de_call ((ok__law_told T).mono (by decide)) hr (takes_of rfl rfl rfl rfl) (by rfl) (da_cons de_int (da_cons (de_var 0) (da_cons (de_call ((ok__law_told T).mono (by decide)) hr (takes_of rfl rfl rfl rfl) (by rfl) (da_cons de_int (da_cons (de_var 0) (da_cons (de_var 1) (da_cons (de_var 2) (da_cons (de_var 4) da_nil))))) (al_cons (al_cons (al_cons (al_cons (al_cons al_nil)))))) (da_cons (de_var 3) (da_cons (de_var 4) da_nil))))) (al_cons (al_cons (al_cons (al_cons (al_cons al_nil)))))) (da_cons (de_call ((ok__law_told T).mono (by decide)) hr (takes_of rfl rfl rfl rfl) (by rfl) (da_cons de_int (da_cons (de_var 0) (da_cons (de_var 1) (da_cons (de_call ((ok__law_told T).mono (by decide)) hr (takes_of rfl rfl rfl rfl) (by rfl) (da_cons de_int (da_cons (de_var 0) (da_cons (de_var 2) (da_cons (de_var 3) (da_cons (de_var 4) da_nil))))) (al_cons (al_cons (al_cons (al_cons (al_cons al_nil)))))) (da_cons (de_not (de_var 4)) da_nil))))) (al_cons (al_cons (al_cons (al_cons (al_cons al_nil)))))) da_nil)) (al_cons (al_cons al_nil)))))
    (dss_cons (ds_if (dt_not (dt_tru (de_call ((ok__law_same T).mono (by decide)) hr (takes_of rfl rfl rfl rfl) (by rfl) (da_cons (de_var 7) (da_cons (de_lst (da_cons (de_var 5) (da_cons (de_var 5) (da_cons (de_var 6) (da_cons (de_var 6) da_nil)))) (al_cons (al_cons (al_cons (al_cons al_nil))))) da_nil)) (al_cons (al_cons al_nil))))) (dss_one (ds_ret de_bl)) dss_nil)
    (dss_cons (ds_set 8 sc__law_three_right.nd (de_call ((ok__law_ring_times T).mono (by decide)) hr (takes_of rfl rfl rfl rfl) (by rfl) (da_cons (de_var 0) (da_cons (de_var 1) (da_cons (de_call ((ok__law_sum_of T).mono (by decide)) hr (takes_of rfl rfl rfl rfl) (by rfl) (da_cons (de_var 2) (da_cons (de_var 3) da_nil)) (al_cons (al_cons al_nil))) da_nil))) (al_cons (al_cons (al_cons al_nil)))))
    (dss_cons (ds_set 7 sc__law_three_right.nd (de_lst (da_cons (de_call ((ok__law_told T).mono (by decide)) hr (takes_of rfl rfl rfl rfl) (by rfl) (da_cons de_int (da_cons (de_var 0) (da_cons (de_var 1) (da_cons (de_call ((ok__law_told T).mono (by decide)) hr (takes_of rfl rfl rfl rfl) (by rfl) (da_cons de_int (da_cons (de_var 0) (da_cons (de_var 2) (da_cons (de_var 3) (da_cons (de_var 4) da_nil))))) (al_cons (al_cons (al_cons (al_cons (al_cons al_nil)))))) (da_cons (de_var 4) da_nil))))) (al_cons (al_cons (al_cons (al_cons (al_cons al_nil)))))) (da_cons (de_call ((ok__law_told T).mono (by decide)) hr (takes_of rfl rfl rfl rfl) (by rfl) (da_cons de_int (da_cons (de_var 0) (da_cons (de_call ((ok__law_told T).mono (by decide)) hr (takes_of rfl rfl rfl rfl) (by rfl) (da_cons de_int (da_cons (de_var 0) (da_cons (de_var 1) (da_cons (de_var 2) (da_cons (de_var 4) da_nil))))) (al_cons (al_cons (al_cons (al_cons (al_cons al_nil)))))) (da_cons (de_call ((ok__law_told T).mono (by decide)) hr (takes_of rfl rfl rfl rfl) (by rfl) (da_cons de_int (da_cons (de_var 0) (da_cons (de_var 1) (da_cons (de_var 3) (da_cons (de_var 4) da_nil))))) (al_cons (al_cons (al_cons (al_cons (al_cons al_nil)))))) (da_cons (de_not (de_var 4)) da_nil))))) (al_cons (al_cons (al_cons (al_cons (al_cons al_nil)))))) da_nil)) (al_cons (al_cons al_nil))))
    (dss_one (ds_ret (de_call ((ok__law_same T).mono (by decide)) hr (takes_of rfl rfl rfl rfl) (by rfl) (da_cons (de_var 7) (da_cons (de_lst (da_cons (de_var 8) (da_cons (de_var 8) da_nil)) (al_cons (al_cons al_nil))) da_nil)) (al_cons (al_cons al_nil)))))))))))
def b__law_w_right : StmD := (sSeq (sAsg (fOp oEq (fOp oMod (fCall oInt (fCons (fOp oAdd (fVar 0) (fC (.int 1))) fNil)) (fC (.int 4))) (fC (.int 0))) (gN 2))
    (sSeq (sAsg (fIf (fTru (fVar 2)) (fTup (fCons (fOp oSub (fC (.int 0)) (fOp oDiv (fOp oAdd (fVar 0) (fC (.int 1))) (fC (.int 4)))) (fCons (fC (.int 1)) fNil))) (fTup (fCons (fOp oSub (fC (.int 0)) (fVar 0)) (fCons (fC (.int 0)) fNil)))) (gN 3))
    (sSeq (sAsg (fLst (fCons (fCall m__law_told (fCons (fC (.int 1)) (fCons (fVar 0) (fCons (fTup (fCons (fC (.int 0)) (fCons (fC (.int 1)) fNil))) (fCons (fTup (fCons (fC (.int 0)) (fCons (fC (.int 1)) fNil))) (fCons (fVar 1) fNil)))))) (fCons (fCall m__law_told (fCons (fC (.int 2)) (fCons (fVar 0) (fCons (fTup (fCons (fC (.int 0)) (fCons (fC (.int 1)) fNil))) (fCons (fC .non) (fCons (fNotV (fVar 1)) fNil)))))) (fCons (fCall m__law_told (fCons (fC (.int 3)) (fCons (fVar 0) (fCons (fTup (fCons (fC (.int 0)) (fCons (fC (.int 1)) fNil))) (fCons (fC .non) (fCons (fVar 1) fNil)))))) fNil)))) (gN 4))
    (sSeq (sAsg (fOp oAdd (fVar 4) (fLst (fCons (fCall m__law_told (fCons (fC (.int 0)) (fCons (fVar 0) (fCons (fTup (fCons (fC (.int 0)) (fCons (fC (.int 1)) fNil))) (fCons (fTup (fCons (fC (.int 0)) (fCons (fUn oNeg (fC (.int 1))) fNil))) (fCons (fVar 1) fNil)))))) (fCons (fCall m__law_told (fCons (fC (.int 1)) (fCons (fVar 0) (fCons (fTup (fCons (fC (.int 1)) (fCons (fC (.int 0)) fNil))) (fCons (fTup (fCons (fC (.int 0)) (fCons (fC (.int 1)) fNil))) (fCons (fVar 1) fNil)))))) fNil)))) (gN 4))
    (sRet (fCall (m__law_same 12) (fCons (fVar 4) (fCons (fLst (fCons (fVar 3) (fCons (fIf (fTru (fVar 2)) (fTup (fCons (fC (.int 1)) (fCons (fUn oNeg (fC (.int 1))) fNil))) (fTup (fCons (fC (.int 0)) (fCons (fUn oNeg (fC (.int 1))) fNil)))) (fCons (fIf (fTru (fVar 2)) (fOp oDiv (fOp oAdd (fVar 0) (fC (.int 1))) (fC (.int 4))) (fVar 0)) (fCons (fTup (fCons (fC (.int 0)) (fCons (fC (.int 0)) fNil))) (fCons (fTup (fCons (fC (.int 0)) (fCons (fC (.int 1)) fNil))) fNil)))))) fNil))))))))
def m__law_w_right : Sem := runFn 5 b__law_w_right
theorem ok__law_w_right (T : Txt P w K mg base cm) : FdI P w K mg base cm 13 "_law_w_right" st__law_w_right P__law_w_right m__law_w_right := fd_mk (k := 12) T.a__law_w_right sc__law_w_right bd__law_w_right fun f cdv A outer s H EE hr => (dss_cons (ds_set 2 sc__law_w_right.nd (de_cmp (op_eqA hr.units) re_eq (de_op op_modN re_mod (de_intc T.f_int (da_cons (de_op op_addD re_add (de_var 0) de_int) da_nil)) de_int) de_int (by rfl)))
    (dss_cons (ds_set 3 sc__law_w_right.nd (de_if (dt_tru (de_var 2)) (de_tup (da_cons (de_op op_sub re_sub de_int (de_op op_fdivD re_div (de_op op_addD re_add (de_var 0) de_int) de_int)) (da_cons de_int da_nil)) (al_cons (al_cons al_nil))) (de_tup (da_cons (de_op op_sub re_sub de_int (de_var 0)) (da_cons de_int da_nil)) (al_cons (al_cons al_nil)))))
    (dss_cons (ds_set 4 sc__law_w_right.nd (de_lst (da_cons (de_call ((ok__law_told T).mono (by decide)) hr (takes_of rfl rfl rfl rfl) (by rfl) (da_cons de_int (da_cons (de_var 0) (da_cons (de_tup (da_cons de_int (da_cons de_int da_nil)) (al_cons (al_cons al_nil))) (da_cons (de_tup (da_cons de_int (da_cons de_int da_nil)) (al_cons (al_cons al_nil))) (da_cons (de_var 1) da_nil))))) (al_cons (al_cons (al_cons (al_cons (al_cons al_nil)))))) (da_cons (de_call ((ok__law_told T).mono (by decide)) hr (takes_of rfl rfl rfl rfl) (by rfl) (da_cons de_int (da_cons (de_var 0) (da_cons (de_tup (da_cons de_int (da_cons de_int da_nil)) (al_cons (al_cons al_nil))) (da_cons de_non (da_cons (de_not (de_var 1)) da_nil))))) (al_cons (al_cons (al_cons (al_cons (al_cons al_nil)))))) (da_cons (de_call ((ok__law_told T).mono (by decide)) hr (takes_of rfl rfl rfl rfl) (by rfl) (da_cons de_int (da_cons (de_var 0) (da_cons (de_tup (da_cons de_int (da_cons de_int da_nil)) (al_cons (al_cons al_nil))) (da_cons de_non (da_cons (de_var 1) da_nil))))) (al_cons (al_cons (al_cons (al_cons (al_cons al_nil)))))) da_nil))) (al_cons (al_cons (al_cons al_nil)))))
    (dss_cons (ds_set 4 sc__law_w_right.nd (de_op op_addD re_add (de_var 4) (de_lst (da_cons (de_call ((ok__law_told T).mono (by decide)) hr (takes_of rfl rfl rfl rfl) (by rfl) (da_cons de_int (da_cons (de_var 0) (da_cons (de_tup (da_cons de_int (da_cons de_int da_nil)) (al_cons (al_cons al_nil))) (da_cons (de_tup (da_cons de_int (da_cons (de_un un_neg re_neg de_int) da_nil)) (al_cons (al_cons al_nil))) (da_cons (de_var 1) da_nil))))) (al_cons (al_cons (al_cons (al_cons (al_cons al_nil)))))) (da_cons (de_call ((ok__law_told T).mono (by decide)) hr (takes_of rfl rfl rfl rfl) (by rfl) (da_cons de_int (da_cons (de_var 0) (da_cons (de_tup (da_cons de_int (da_cons de_int da_nil)) (al_cons (al_cons al_nil))) (da_cons (de_tup (da_cons de_int (da_cons de_int da_nil)) (al_cons (al_cons al_nil))) (da_cons (de_var 1) da_nil))))) (al_cons (al_cons (al_cons (al_cons (al_cons al_nil)))))) da_nil)) (al_cons (al_cons al_nil)))))
    (dss_one (ds_ret (de_call ((ok__law_same T).mono (by decide)) hr (takes_of rfl rfl rfl rfl) (by rfl) (da_cons (de_var 4) (da_cons (de_lst (da_cons (de_var 3) (da_cons (de_if (dt_tru (de_var 2)) (de_tup (da_cons de_int (da_cons (de_un un_neg re_neg de_int) da_nil)) (al_cons (al_cons al_nil))) (de_tup (da_cons de_int (da_cons (de_un un_neg re_neg de_int) da_nil)) (al_cons (al_cons al_nil)))) (da_cons (de_if (dt_tru (de_var 2)) (de_op op_fdivD re_div (de_op op_addD re_add (de_var 0) de_int) de_int) (de_var 0)) (da_cons (de_tup (da_cons de_int (da_cons de_int da_nil)) (al_cons (al_cons al_nil))) (da_cons (de_tup (da_cons de_int (da_cons de_int da_nil)) (al_cons (al_cons al_nil))) da_nil))))) (al_cons (al_cons (al_cons (al_cons (al_cons al_nil)))))) da_nil)) (al_cons (al_cons al_nil)))))))))
def b__law_roots_right : StmD := (sSeq (sAsg (fCall m__law_take (fCons (fVar 0) (fCons (fC (.int 4)) fNil))) (gN 2))
    (sSeq (sFor (fRg3 (fCons (fVar 2) (fCons (fC (.int 302)) (fCons (fC (.int 4)) fNil)))) (gN 3) (sSeq (sIf (fNot (fTru (fCall (m__law_same 12) (fCons (fIf (fTru (fVar 1)) (fCallK m_is_ring [0] (fCons (fVar 3) fNil)) (fCall m_is_ring (fCons (fVar 3) fNil))) (fCons (fCall m__law_is_root (fCons (fVar 3) fNil)) fNil))))) (sRet (fC (.bl false))) sSkip)
    (sAsg (fNotV (fVar 1)) (gN 1))))
    (sSeq (sFor (fIt (fTup (fCons (fC .non) (fCons (fC (.bl true)) (fCons (fC (.bl false)) (fCons (fC (.str "5")) (fCons (fTup (fCons (fC (.int 5)) fNil)) (fCons (fLst (fCons (fC (.int 5)) fNil)) (fCons fDct0 (fCons (fUn oNeg (fC (.int 1))) (fCons (fUn oNeg (fC (.int 5))) (fCons (fOp oPow (fC (.int 10)) (fC (.int 29))) (fCons (fOp oMul (fC (.int 5)) (fOp oPow (fC (.int 10)) (fC (.int 28)))) (fCons (fC (.int 293)) (fCons (fC (.int 299)) (fCons (fC (.int 294)) (fCons (fC (.int 295)) (fCons (fC (.int 289)) (fCons (fC (.int 242)) (fCons (fC (.int 245)) (fCons (fC (.int 1)) (fCons (fC (.int 2)) (fCons (fC (.int 4)) fNil))))))))))))))))))))))) (gN 3) (sSeq (sIf (fNot (fTru (fCall (m__law_same 12) (fCons (fIf (fTru (fVar 1)) (fCall m_is_ring (fCons (fVar 3) fNil)) (fCallK m_is_ring [0] (fCons (fCall (m__law_copy 12) (fCons (fVar 3) fNil)) fNil))) (fCons (fCall m__law_is_root (fCons (fVar 3) fNil)) fNil))))) (sRet (fC (.bl false))) sSkip)
    (sAsg (fNotV (fVar 1)) (gN 1))))
    (sRet (fC (.bl true))))))
def m__law_roots_right : Sem := gcT (runFn 4 b__law_roots_right)
theorem ok__law_roots_right (T : Txt P w K mg base cm) : FdI P w K mg base cm 13 "_law_roots_right" st__law_roots_right P__law_roots_right m__law_roots_right := fd_gcT (fd_mk (k := 12) T.a__law_roots_right sc__law_roots_right bd__law_roots_right fun f cdv A outer s H EE hr => (dss_cons (ds_set 2 sc__law_roots_right.nd (de_call ((ok__law_take T).mono (by decide)) hr (takes_of rfl rfl rfl rfl) (by rfl) (da_cons (de_var 0) (da_cons de_int da_nil)) (al_cons (al_cons al_nil))))
    (dss_cons (ds_for (passes_of rfl) rfl (di_rg3 (by rfl) T.f_range (da_cons (de_var 2) (da_cons de_int (da_cons de_int da_nil)))) (dg_name 3 sc__law_roots_right.nd) (dss_cons (ds_if (dt_not (dt_tru (de_call ((ok__law_same T).mono (by decide)) hr (takes_of rfl rfl rfl rfl) (by rfl) (da_cons (de_if (dt_tru (de_var 1)) (de_callK (ks := ["value"]) (pm := [0]) ((ok_is_ring T).mono (by decide)) hr (takes_of rfl rfl rfl rfl) (by rfl) (dk_cons (de_var 3) dk_nil) (al_cons al_nil) kb_is_ring_value kb_is_ring_value_len) (de_call ((ok_is_ring T).mono (by decide)) hr (takes_of rfl rfl rfl rfl) (by rfl) (da_cons (de_var 3) da_nil) (al_cons al_nil))) (da_cons (de_call ((ok__law_is_root T).mono (by decide)) hr (takes_of rfl rfl rfl rfl) (by rfl) (da_cons (de_var 3) da_nil) (al_cons al_nil)) da_nil)) (al_cons (al_cons al_nil))))) (dss_one (ds_ret de_bl)) dss_nil)
    (dss_one (ds_set 1 sc__law_roots_right.nd (de_not (de_var 1))))))
    (dss_cons (ds_for (passes_of rfl) rfl (di_seq (de_tup (da_cons de_non (da_cons de_bl (da_cons de_bl (da_cons de_str (da_cons (de_tup (da_cons de_int da_nil) (al_cons al_nil)) (da_cons (de_lst (da_cons de_int da_nil) (al_cons al_nil)) (da_cons de_dct0 (da_cons (de_un un_neg re_neg de_int) (da_cons (de_un un_neg re_neg de_int) (da_cons (de_op op_powD re_pow de_int de_int) (da_cons (de_op op_mulD re_mul de_int (de_op op_powD re_pow de_int de_int)) (da_cons de_int (da_cons de_int (da_cons de_int (da_cons de_int (da_cons de_int (da_cons de_int (da_cons de_int (da_cons de_int (da_cons de_int (da_cons de_int da_nil))))))))))))))))))))) (al_cons (al_cons (al_cons (al_cons (al_cons (al_cons (al_cons (al_cons (al_cons (al_cons (al_cons (al_cons (al_cons (al_cons (al_cons (al_cons (al_cons (al_cons (al_cons (al_cons (al_cons al_nil))))))))))))))))))))))) (dg_name 3 sc__law_roots_right.nd) (dss_cons (ds_if (dt_not (dt_tru (de_call ((ok__law_same T).mono (by decide)) hr (takes_of rfl rfl rfl rfl) (by rfl) (da_cons (de_if (dt_tru (de_var 1)) (de_call ((ok_is_ring T).mono (by decide)) hr (takes_of rfl rfl rfl rfl) (by rfl) (da_cons (de_var 3) da_nil) (al_cons al_nil)) (de_callK (ks := ["value"]) (pm := [0]) ((ok_is_ring T).mono (by decide)) hr (takes_of rfl rfl rfl rfl) (by rfl) (dk_cons (de_call ((ok__law_copy T).mono (by decide)) hr (takes_of rfl rfl rfl rfl) (by rfl) (da_cons (de_var 3) da_nil) (al_cons al_nil)) dk_nil) (al_cons al_nil) kb_is_ring_value kb_is_ring_value_len)) (da_cons (de_call ((ok__law_is_root T).mono (by decide)) hr (takes_of rfl rfl rfl rfl) (by rfl) (da_cons (de_var 3) da_nil) (al_cons al_nil)) da_nil)) (al_cons (al_cons al_nil))))) (dss_one (ds_ret de_bl)) dss_nil)
    (dss_one (ds_set 1 sc__law_roots_right.nd (de_not (de_var 1))))))
    (dss_one (ds_ret de_bl))))))
def b__law_refused_right : StmD := (sSeq (sFor (fRg1 (fCons (fC (.int 4)) fNil)) (gN 4) (sSeq (sPar3 5 6 7 (fCons (fCall m__law_odd_ring (fCons (fVar 0) fNil)) (fCons (fCall m__law_odd_number (fCons (fVar 0) fNil)) (fCons (fCall m__law_odd_number (fCons (fVar 0) fNil)) fNil))))
    (sSeq (sAsg (fCall m__law_met (fCons (fVar 4) (fCons (fVar 5) (fCons (fVar 6) (fCons (fVar 7) (fCons (fVar 3) fNil)))))) (gN 8))
    (sSeq (sIf (fOr (fTest (fOp oNe (fOp oIx (fVar 8) (fC (.int 0))) (fC (.str "ring")))) (fNot (fTru (fCall m__law_very (fCons (fOp oIx (fVar 8) (fC (.int 1))) (fCons (fVar 5) fNil)))))) (sRet (fC (.bl false))) sSkip)
    (sSeq (sAsg (fCall m__law_met (fCons (fVar 4) (fCons (fVar 1) (fCons (fVar 6) (fCons (fCall m__law_pick (fCons (fVar 0) (fCons (fLst (fCons (fVar 7) (fCons (fVar 2) fNil))) fNil))) (fCons (fNotV (fVar 3)) fNil)))))) (gN 8))
    (sSeq (sIf (fOr (fTest (fOp oNe (fOp oIx (fVar 8) (fC (.int 0))) (fC (.str "number")))) (fNot (fTru (fCall m__law_very (fCons (fOp oIx (fVar 8) (fC (.int 1))) (fCons (fVar 6) fNil)))))) (sRet (fC (.bl false))) sSkip)
    (sSeq (sIf (fTest (fOp (oCmp fun i j => decide (i < j)) (fVar 4) (fC (.int 2)))) (sSeq (sAsg (fCall m__law_met (fCons (fVar 4) (fCons (fVar 1) (fCons (fVar 2) (fCons (fVar 7) (fCons (fVar 3) fNil)))))) (gN 8))
    (sIf (fOr (fTest (fOp oNe (fOp oIx (fVar 8) (fC (.int 0))) (fC (.str "number")))) (fNot (fTru (fCall m__law_very (fCons (fOp oIx (fVar 8) (fC (.int 1))) (fCons (fVar 7) fNil)))))) (sRet (fC (.bl false))) sSkip)) sSkip)
    (sAsg (fNotV (fVar 3)) (gN 3)))))))))
    (sRet (fC (.bl true))))
def m__law_refused_right : Sem := gcT (runFn 9 b__law_refused_right)
theorem ok__law_refused_right (T : Txt P w K mg base cm) : FdI P w K mg base cm 14 "_law_refused_right" st__law_refused_right P__law_refused_right m__law_refused_right := fd_gcT (fd_mk (k := 13) T.a__law_refused_right sc__law_refused_right bd__law_refused_right fun f cdv A outer s H EE hr => (dss_cons (ds_for (passes_of rfl) rfl (di_rg1 (by rfl) T.f_range (da_cons de_int da_nil)) (dg_name 4 sc__law_refused_right.nd) (dss_cons (ds_par3 5 6 7 rfl sc__law_refused_right.nd (da_cons (de_call ((ok__law_odd_ring T).mono (by decide)) hr (takes_of rfl rfl rfl rfl) (by rfl) (da_cons (de_var 0) da_nil) (al_cons al_nil)) (da_cons (de_call ((ok__law_odd_number T).mono (by decide)) hr (takes_of rfl rfl rfl rfl) (by rfl) (da_cons (de_var 0) da_nil) (al_cons al_nil)) (da_cons (de_call ((ok__law_odd_number T).mono (by decide)) hr (takes_of rfl rfl rfl rfl) (by rfl) (da_cons (de_var 0) da_nil) (al_cons al_nil)) da_nil))))
    (dss_cons (ds_set 8 sc__law_refused_right.nd (de_call ((ok__law_met T).mono (by decide)) hr (takes_of rfl rfl rfl rfl) (by rfl) (da_cons (de_var 4) (da_cons (de_var 5) (da_cons (de_var 6) (da_cons (de_var 7) (da_cons (de_var 3) da_nil))))) (al_cons (al_cons (al_cons (al_cons (al_cons al_nil)))))))
    (dss_cons (ds_if (dw_or (dt_cmp (op_neA hr.units) re_ne (de_ix (de_var 8) de_int) de_str (by rfl)) (dw_or1 (dt_not (dt_tru (de_call ((ok__law_very T).mono (by decide)) hr (takes_of rfl rfl rfl rfl) (by rfl) (da_cons (de_ix (de_var 8) de_int) (da_cons (de_var 5) da_nil)) (al_cons (al_cons al_nil))))))).t (dss_one (ds_ret de_bl)) dss_nil)
    (dss_cons (ds_set 8 sc__law_refused_right.nd (de_call ((ok__law_met T).mono (by decide)) hr (takes_of rfl rfl rfl rfl) (by rfl) (da_cons (de_var 4) (da_cons (de_var 1) (da_cons (de_var 6) (da_cons (de_call ((ok__law_pick T).mono (by decide)) hr (takes_of rfl rfl rfl rfl) (by rfl) (da_cons (de_var 0) (da_cons (de_lst (da_cons (de_var 7) (da_cons (de_var 2) da_nil)) (al_cons (al_cons al_nil))) da_nil)) (al_cons (al_cons al_nil))) (da_cons (de_not (de_var 3)) da_nil))))) (al_cons (al_cons (al_cons (al_cons (al_cons al_nil)))))))
    (dss_cons (ds_if (dw_or (dt_cmp (op_neA hr.units) re_ne (de_ix (de_var 8) de_int) de_str (by rfl)) (dw_or1 (dt_not (dt_tru (de_call ((ok__law_very T).mono (by decide)) hr (takes_of rfl rfl rfl rfl) (by rfl) (da_cons (de_ix (de_var 8) de_int) (da_cons (de_var 6) da_nil)) (al_cons (al_cons al_nil))))))).t (dss_one (ds_ret de_bl)) dss_nil)
    (dss_cons (ds_if (dt_cmp op_lt re_cmp (de_var 4) de_int (by rfl)) (dss_cons (ds_set 8 sc__law_refused_right.nd (de_call ((ok__law_met T).mono (by decide)) hr (takes_of rfl rfl rfl rfl) (by rfl) (da_cons (de_var 4) (da_cons (de_var 1) (da_cons (de_var 2) (da_cons (de_var 7) (da_cons (de_var 3) da_nil))))) (al_cons (al_cons (al_cons (al_cons (al_cons al_nil)))))))
    (dss_one (ds_if (dw_or (dt_cmp (op_neA hr.units) re_ne (de_ix (de_var 8) de_int) de_str (by rfl)) (dw_or1 (dt_not (dt_tru (de_call ((ok__law_very T).mono (by decide)) hr (takes_of rfl rfl rfl rfl) (by rfl) (da_cons (de_ix (de_var 8) de_int) (da_cons (de_var 7) da_nil)) (al_cons (al_cons al_nil))))))).t (dss_one (ds_ret de_bl)) dss_nil))) dss_nil)
    (dss_one (ds_set 3 sc__law_refused_right.nd (de_not (de_var 3)))))))))))
    (dss_one (ds_ret de_bl))))
def b_law : StmD := (sSeq (sFor (fRg1 (fCons (fCall (oInt2 fun i j => .int (if j > i then j else i)) (fCons (fC (.int 2)) (fCons (fCall (oInt2 fun i j => .int (if j < i then j else i)) (fCons (fC (.int 3)) (fCons (fCall oLen (fCons (fVar 0) fNil)) fNil))) fNil))) fNil)) (gN 1) (sSeq (sAsg (fCall m__law_box (fCons (fCall m__law_cell (fCons (fVar 0) (fCons (fVar 1) fNil))) fNil)) (gN 2))
    (sSeq (sPar 3 4 (fCons (fOp oEq (fCall m__law_take (fCons (fVar 2) (fCons (fC (.int 2)) fNil))) (fC (.int 0))) (fCons (fLst (fCons (fCall m__law_ring_root (fCons (fVar 2) fNil)) (fCons (fCall m__law_ring_root (fCons (fVar 2) fNil)) fNil))) fNil)))
    (sSeq (sIf (fNot (fTru (fCall m__law_roots_right (fCons (fVar 2) (fCons (fVar 3) fNil))))) (sRet (fC (.bl false))) sSkip)
    (sSeq (sFor (fRg1 (fCons (fC (.int 6)) fNil)) (gN 5) (sSeq (sPar3 6 7 8 (fCons (fOp oIx (fVar 4) (fOp oMod (fCall oInt (fCons (fVar 5) fNil)) (fC (.int 2)))) (fCons (fCall m__law_some_number (fCons (fVar 2) (fCons (fCall m__law_pick (fCons (fVar 2) (fCons (fLst (fCons (fC (.int 30)) (fCons (fC (.int 12)) (fCons (fC (.int 30)) fNil)))) fNil))) fNil))) (fCons (fCall m__law_some_number (fCons (fVar 2) (fCons (fC (.int 30)) fNil))) fNil))))
    (sSeq (sAsg (fCall m__law_take (fCons (fVar 2) (fCons (fC (.int 6)) fNil))) (gN 9))
    (sSeq (sIf (fTest (fOp (oCmp fun i j => decide (i < j)) (fVar 9) (fC (.int 3)))) (sAsg (fOp oIx (fLst (fCons (fVar 7) (fCons (fTup (fCons (fOp oSub (fC (.int 0)) (fOp oIx (fVar 7) (fC (.int 0)))) (fCons (fOp oSub (fC (.int 0)) (fOp oIx (fVar 7) (fC (.int 1)))) fNil))) (fCons (fTup (fCons (fOp oIx (fVar 7) (fC (.int 1))) (fCons (fOp oIx (fVar 7) (fC (.int 0))) fNil))) fNil)))) (fVar 9)) (gN 8)) sSkip)
    (sSeq (sIf (fOr (fNot (fTru (fCall m__law_two_right (fCons (fVar 6) (fCons (fVar 7) (fCons (fVar 8) (fCons (fVar 3) fNil))))))) (fOr (fNot (fTru (fCall m__law_three_right (fCons (fVar 6) (fCons (fVar 7) (fCons (fVar 8) (fCons (fCall m__law_some_number (fCons (fVar 2) (fCons (fC (.int 9)) fNil))) (fCons (fNotV (fVar 3)) fNil)))))))) (fNot (fTru (fCall m__law_w_right (fCons (fVar 6) (fCons (fVar 3) fNil))))))) (sRet (fC (.bl false))) sSkip)
    (sAsg (fNotV (fVar 3)) (gN 3)))))))
    (sIf (fNot (fTru (fCall m__law_refused_right (fCons (fVar 2) (fCons (fOp oIx (fVar 4) (fC (.int 0))) (fCons (fVar 7) (fCons (fVar 3) fNil))))))) (sRet (fC (.bl false))) sSkip))))))
    (sRet (fC (.bl true))))
def m_law : Sem := gcT (runFn 10 b_law)
theorem ok_law (T : Txt P w K mg base cm) : FdI P w K mg base cm 15 "law" st_law P_law m_law := fd_gcT (fd_mk (k := 14) T.a_law sc_law bd_law fun f cdv A outer s H EE hr => (dss_cons (ds_for (passes_of rfl) rfl (di_rg1 (by rfl) T.f_range (da_cons (de_max2 rfl T.f_max (da_cons de_int (da_cons (de_min2 rfl T.f_min (da_cons de_int (da_cons (de_len T.f_len (da_cons (de_var 0) da_nil)) da_nil))) da_nil))) da_nil)) (dg_name 1 sc_law.nd) (dss_cons (ds_set 2 sc_law.nd (de_call ((ok__law_box T).mono (by decide)) hr (takes_of rfl rfl rfl rfl) (by rfl) (da_cons (de_call ((ok__law_cell T).mono (by decide)) hr (takes_of rfl rfl rfl rfl) (by rfl) (da_cons (de_var 0) (da_cons (de_var 1) da_nil)) (al_cons (al_cons al_nil))) da_nil) (al_cons al_nil)))
    (dss_cons (ds_par 3 4 rfl sc_law.nd (da_cons (de_cmp (op_eqA hr.units) re_eq (de_call ((ok__law_take T).mono (by decide)) hr (takes_of rfl rfl rfl rfl) (by rfl) (da_cons (de_var 2) (da_cons de_int da_nil)) (al_cons (al_cons al_nil))) de_int (by rfl)) (da_cons (de_lst (da_cons (de_call ((ok__law_ring_root T).mono (by decide)) hr (takes_of rfl rfl rfl rfl) (by rfl) (da_cons (de_var 2) da_nil) (al_cons al_nil)) (da_cons (de_call ((ok__law_ring_root T).mono (by decide)) hr (takes_of rfl rfl rfl rfl) (by rfl) (da_cons (de_var 2) da_nil) (al_cons al_nil)) da_nil)) (al_cons (al_cons al_nil))) da_nil)))
    (dss_cons (ds_if (dt_not (dt_tru (de_call ((ok__law_roots_right T).mono (by decide)) hr (takes_of rfl rfl rfl rfl) (by rfl) (da_cons (de_var 2) (da_cons (de_var 3) da_nil)) (al_cons (al_cons al_nil))))) (dss_one (ds_ret de_bl)) dss_nil)
    (dss_cons (ds_for (passes_of rfl) rfl (di_rg1 (by rfl) T.f_range (da_cons de_int da_nil)) (dg_name 5 sc_law.nd) (dss_cons (ds_par3 6 7 8 rfl sc_law.nd (da_cons (de_ix (de_var 4) (de_op op_modN re_mod (de_intc T.f_int (da_cons (de_var 5) da_nil)) de_int)) (da_cons (de_call ((ok__law_some_number T).mono (by decide)) hr (takes_of rfl rfl rfl rfl) (by rfl) (da_cons (de_var 2) (da_cons (de_call ((ok__law_pick T).mono (by decide)) hr (takes_of rfl rfl rfl rfl) (by rfl) (da_cons (de_var 2) (da_cons (de_lst (da_cons de_int (da_cons de_int (da_cons de_int da_nil))) (al_cons (al_cons (al_cons al_nil)))) da_nil)) (al_cons (al_cons al_nil))) da_nil)) (al_cons (al_cons al_nil))) (da_cons (de_call ((ok__law_some_number T).mono (by decide)) hr (takes_of rfl rfl rfl rfl) (by rfl) (da_cons (de_var 2) (da_cons de_int da_nil)) (al_cons (al_cons al_nil))) da_nil))))
    (dss_cons (ds_set 9 sc_law.nd (de_call ((ok__law_take T).mono (by decide)) hr (takes_of rfl rfl rfl rfl) (by rfl) (da_cons (de_var 2) (da_cons de_int da_nil)) (al_cons (al_cons al_nil))))
    (dss_cons (ds_if (dt_cmp op_lt re_cmp (de_var 9) de_int (by rfl)) (dss_one (ds_set 8 sc_law.nd (de_ix (de_lst (da_cons (de_var 7) (da_cons (de_tup (da_cons (de_op op_sub re_sub de_int (de_ix (de_var 7) de_int)) (da_cons (de_op op_sub re_sub de_int (de_ix (de_var 7) de_int)) da_nil)) (al_cons (al_cons al_nil))) (da_cons (de_tup (da_cons (de_ix (de_var 7) de_int) (da_cons (de_ix (de_var 7) de_int) da_nil)) (al_cons (al_cons al_nil))) da_nil))) (al_cons (al_cons (al_cons al_nil)))) (de_var 9)))) dss_nil)
    (dss_cons (ds_if (dw_or (dt_not (dt_tru (de_call ((ok__law_two_right T).mono (by decide)) hr (takes_of rfl rfl rfl rfl) (by rfl) (da_cons (de_var 6) (da_cons (de_var 7) (da_cons (de_var 8) (da_cons (de_var 3) da_nil)))) (al_cons (al_cons (al_cons (al_cons al_nil))))))) (dw_or (dt_not (dt_tru (de_call ((ok__law_three_right T).mono (by decide)) hr (takes_of rfl rfl rfl rfl) (by rfl) (da_cons (de_var 6) (da_cons (de_var 7) (da_cons (de_var 8) (da_cons (de_call ((ok__law_some_number T).mono (by decide)) hr (takes_of rfl rfl rfl rfl) (by rfl) (da_cons (de_var 2) (da_cons de_int da_nil)) (al_cons (al_cons al_nil))) (da_cons (de_not (de_var 3)) da_nil))))) (al_cons (al_cons (al_cons (al_cons (al_cons al_nil)))))))) (dw_or1 (dt_not (dt_tru (de_call ((ok__law_w_right T).mono (by decide)) hr (takes_of rfl rfl rfl rfl) (by rfl) (da_cons (de_var 6) (da_cons (de_var 3) da_nil)) (al_cons (al_cons al_nil)))))))).t (dss_one (ds_ret de_bl)) dss_nil)
    (dss_one (ds_set 3 sc_law.nd (de_not (de_var 3)))))))))
    (dss_one (ds_if (dt_not (dt_tru (de_call ((ok__law_refused_right T).mono (by decide)) hr (takes_of rfl rfl rfl rfl) (by rfl) (da_cons (de_var 2) (da_cons (de_ix (de_var 4) de_int) (da_cons (de_var 7) (da_cons (de_var 3) da_nil)))) (al_cons (al_cons (al_cons (al_cons al_nil))))))) (dss_one (ds_ret de_bl)) dss_nil)))))))
    (dss_one (ds_ret de_bl))))
end L

set_option maxHeartbeats 4000000
namespace L
open PySem PySem.Spec PyProof.Rows L2 Z

/-! ### the helpers are the common ones -/
theorem e_take : m__law_take = runFn 4 (b_take 15495081 179435081 2147483647 48271 104881 2147483587 64) := rfl
theorem e_pick : m__law_pick = runFn 2 (b_pick m__law_take) := rfl
theorem e_box : m__law_box = runFn 1 (b_box 2147483629) := rfl
theorem e_cell : m__law_cell = runFn 2 (b_cell 9981 1000003) := rfl
theorem e_same : ∀ n, m__law_same n = m_same n
  | 0 => rfl
  | n + 1 => by
    show runFn 4 (b__law_same (m__law_same n)) = runFn 4 (b_same (m_same n))
    rw [e_same n]
    rfl
theorem e_copy : ∀ n, m__law_copy n = m_copy n
  | 0 => rfl
  | n + 1 => by
    show runFn 3 (b__law_copy (m__law_copy n)) = runFn 3 (b_copy (m_copy n))
    rw [e_copy n]
    rfl
theorem e_very : m__law_very = runFn 2 (b_very (m_same 12)) := by
  show runFn 2 (b_very (m__law_same 12)) = _
  rw [e_same]
theorem takeS : TakeS m__law_take := e_take ▸ take_ok (by decide)
theorem pickS : PickS m__law_pick := e_pick ▸ pick_ok takeS

/-! ### the checks -/
section
variable {st : Sto} {d x y : D}
theorem s_is_integer {t : PT} (h : tyD st d = some t) : m_is_integer [d] st = .ok (.bl (decide (t = .int))) st := by
  cases t <;> simp [m_is_integer, b_is_integer, k_isi_ty h, isPT]
theorem s_is_tuple_of {t : PT} (h : tyD st d = some t) (ht : t ≠ .tup) : m_is_tuple_of [d, .int 2] st = .ok (.bl false) st := by
  cases t <;> first | exact absurd rfl ht | simp [m_is_tuple_of, b_is_tuple_of, k_isi_ty h, isPT]
theorem s_is_tuple_tup {xs : List D} : m_is_tuple_of [.tup xs, .int 2] st = .ok (.bl (decide ((xs.length : Int) = 2))) st := by
  simp [m_is_tuple_of, b_is_tuple_of, isPT]
theorem s_number_no {t : PT} (h : tyD st d = some t) (ht : t ≠ .tup) : m_is_number [d] st = .ok (.bl false) st := by
  simp [m_is_number, b_is_number, m_are_integers, b_are_integers, s_is_tuple_of h ht]
theorem s_number_len {xs : List D} (h : (xs.length : Int) ≠ 2) : m_is_number [.tup xs] st = .ok (.bl false) st := by
  simp [m_is_number, b_is_number, m_are_integers, b_are_integers, s_is_tuple_tup, h]
theorem s_number_two {t u : PT} (h1 : tyD st x = some t) (h2 : tyD st y = some u) : m_is_number [.tup [x, y]] st = .ok (.bl (decide (t = .int) && decide (u = .int))) st := by
  have q := lc_all (fi := fIt (fVar 0)) (g := gN 2) (e := fCall m_is_integer (fCons (fVar 2) fNil)) (env := [some (.tup [x, y]), some (.int 2), none]) (vs := [2]) (e1 := fun d => [some (.tup [x, y]), some (.int 2), some d])
    (v := fun d => .bl (match tyD st d with | some t => decide (t = .int) | none => false)) (st := st) (s := st) (xs := [x, y]) (by simp) (fun z hz => ⟨rfl, by
      have : ∃ t, tyD st z = some t := by
        rcases List.mem_cons.mp hz with rfl | hz
        · exact ⟨_, h1⟩
        · rw [List.mem_singleton.mp hz]; exact ⟨_, h2⟩
      obtain ⟨t', e⟩ := this
      simp [s_is_integer e, e]⟩) (by have : LIM = 10000000 := rfl; simp; omega)
  have e : oBools (fun is => .bl (is.all id)) [.lst [.bl (decide (t = .int)), .bl (decide (u = .int))]] st = .ok (.bl (decide (t = .int) && decide (u = .int))) st := by
    simp [oBools, one?, asLR, bools?]
  simp only [List.map_cons, List.map_nil, h1, h2] at q
  simp [m_is_number, b_is_number, m_are_integers, b_are_integers, s_is_tuple_tup, q, e]
/-- the right roots -/
def ringB (v : Int) : Bool := decide (1 ≤ v) && (decide (v ≤ 300) && (rgD 2 1 16).all fun d => match d with | .int k => v.fmod (k * k) != 0 | _ => true)
theorem s_between {v : Int} : m_is_between [.int v, .int 1, .int 300] st = .ok (.bl (decide (1 ≤ v) && decide (v ≤ 300))) st := by
  have e : m_is_integer [.int v] st = .ok (.bl true) st := s_is_integer (t := .int) rfl
  by_cases h : 1 ≤ v <;> simp [m_is_between, b_is_between, e, fChain, h]
theorem s_between_no {t : PT} (h : tyD st d = some t) (ht : t ≠ .int) : m_is_between [d, .int 1, .int 300] st = .ok (.bl false) st := by
  have e : m_is_integer [d] st = .ok (.bl false) st := by rw [s_is_integer h, decide_eq_false ht]
  simp [m_is_between, b_is_between, e]
theorem s_ring_no {t : PT} (h : tyD st d = some t) (ht : t ≠ .int) : m_is_ring [d] st = .ok (.bl false) st := by
  simp [m_is_ring, b_is_ring, s_between_no h ht]
theorem rg2_ok {ga : ArgD} {env : Z.Env} {i j : Int} (h : ga env st = .ok [.int i, .int j] st) (h1 : rgB i = true) (h2 : rgB j = true) : fRg2' ga env st = .ok (.fz (rgD i 1 (j - i).toNat)) st := by
  have e : (rgB i && rgB j) = true := by rw [h1, h2] <;> rfl
  unfold fRg2'
  rw [h, Res.bind_ok]
  simp only [two?, e]
theorem sq_small {k : Int} (h : k ∈ [(2 : Int), 3, 4, 5, 6, 7, 8, 9, 10, 11, 12, 13, 14, 15, 16, 17]) : mulOk k k = true ∧ k * k ≠ 0 := by
  simp only [List.mem_cons, List.not_mem_nil, or_false] at h
  rcases h with rfl | rfl | rfl | rfl | rfl | rfl | rfl | rfl | rfl | rfl | rfl | rfl | rfl | rfl | rfl | rfl <;> decide
theorem rg16 {x : D} (h : x ∈ rgD 2 1 16) : ∃ k : Int, x = .int k ∧ mulOk k k = true ∧ k * k ≠ 0 := by
  obtain ⟨i, hi, rfl⟩ := rgD_mem h
  refine ⟨_, rfl, sq_small ?_⟩
  have : i = 0 ∨ i = 1 ∨ i = 2 ∨ i = 3 ∨ i = 4 ∨ i = 5 ∨ i = 6 ∨ i = 7 ∨ i = 8 ∨ i = 9 ∨ i = 10 ∨ i = 11 ∨ i = 12 ∨ i = 13 ∨ i = 14 ∨ i = 15 := by omega
  rcases this with rfl | rfl | rfl | rfl | rfl | rfl | rfl | rfl | rfl | rfl | rfl | rfl | rfl | rfl | rfl | rfl <;> decide
theorem bools_map (f : D → Bool) : ∀ xs : List D, bools? (xs.map fun d => .bl (f d)) = some (xs.map f)
  | [] => rfl
  | x :: xs => by simp only [List.map_cons, bools?, bools_map f xs, Option.map_some]
theorem s_ring {v : Int} : m_is_ring [.int v] st = .ok (.bl (ringB v)) st := by
  have r2 : rgB 2 = true := by decide
  have r18 : rgB 18 = true := by decide
  have q := lc_all (fi := fRg2' (fCons (fC (.int 2)) (fCons (fOp oAdd (fC (.int 17)) (fC (.int 1))) fNil))) (g := gN 1) (e := fOp oNe (fOp oMod (fVar 0) (fOp oMul (fVar 1) (fVar 1))) (fC (.int 0))) (env := [some (.int v), none]) (vs := [1]) (e1 := fun d => [some (.int v), some d])
    (v := fun d => .bl (match d with | .int k => v.fmod (k * k) != 0 | _ => true)) (st := st) (s := st) (xs := rgD 2 1 16) (rg2_ok (i := 2) (j := 18) (by simp) r2 r18) (fun z hz => ⟨rfl, by
      obtain ⟨k, rfl, h1, h2⟩ := rg16 hz
      simp only [ev_op, ev_var, List.getElem?_cons_zero, List.getElem?_cons_succ, k_op1_ok, k_op2_ok, oMul_int h1, oMod_int h2, ev_c, oNe_int]
      congr 3⟩) (by rw [rgD_len]; decide)
  have e : oBools (fun is => .bl (is.all id)) [.lst ((rgD 2 1 16).map fun d => .bl (match d with | .int k => v.fmod (k * k) != 0 | _ => true))] st = .ok (.bl ((rgD 2 1 16).all fun d => match d with | .int k => v.fmod (k * k) != 0 | _ => true)) st := by
    simp only [oBools, one?, asLR, Option.bind_some, bools_map, List.all_map, Function.comp_def, id]
  generalize hL : (rgD 2 1 16).map (fun d => D.bl (match d with | .int k => v.fmod (k * k) != 0 | _ => true)) = L at q e
  unfold ringB
  generalize hA : ((rgD 2 1 16).all fun d => match d with | .int k => v.fmod (k * k) != 0 | _ => true) = A at e
  by_cases h1 : 1 ≤ v <;> by_cases h2 : v ≤ 300 <;> simp [m_is_ring, b_is_ring, s_between, h1, h2, q, e]
end
end L

set_option maxHeartbeats 4000000
namespace L
open PySem PySem.Spec PyProof.Rows L2 Z

/-! ### the ring of a root -/
def tr (r : Int) : Int := if (r + 1).fmod 4 = 0 then 1 else 0
def la (r : Int) : Int := if (r + 1).fmod 4 = 0 then (r + 1).fdiv 4 else r
abbrev Nu := Int × Int
@[simp] def nu (p : Nu) : D := .tup [.int p.1, .int p.2]
def pls (p q : Nu) : Nu := (p.1 + q.1, p.2 + q.2)
def tms (r : Int) (p q : Nu) : Nu := (p.1 * q.1 - la r * (p.2 * q.2), p.1 * q.2 + p.2 * q.1 + tr r * (p.2 * q.2))
def mir (r : Int) (p : Nu) : Nu := (p.1 + tr r * p.2, -p.2)
def nrm (r : Int) (p : Nu) : Int := p.1 * p.1 + tr r * p.1 * p.2 + la r * p.2 * p.2
theorem ring_rng {r : Int} (h : ringB r = true) : 1 ≤ r ∧ r ≤ 300 := by
  obtain ⟨h1, h2⟩ := Bool.and_eq_true_iff.mp h
  obtain ⟨h2, h3⟩ := Bool.and_eq_true_iff.mp h2
  exact ⟨of_decide_eq_true h1, of_decide_eq_true h2⟩
theorem tr_01 (r : Int) : tr r = 0 ∨ tr r = 1 := by
  unfold tr
  split
  · exact .inr rfl
  · exact .inl rfl
theorem la_rng {r : Int} (h : ringB r = true) : 1 ≤ la r ∧ la r ≤ 300 := by
  obtain ⟨h1, h2⟩ := ring_rng h
  unfold la
  split
  · rename_i e
    rw [Int.fmod_eq_emod_of_nonneg _ (by decide)] at e
    rw [Int.fdiv_eq_ediv_of_nonneg _ (by decide)]
    omega
  · exact ⟨h1, h2⟩
theorem sz_of {i : Int} {n : Nat} (h : i.natAbs < 2 ^ n) : Sz n i := h
theorem sz_la {r : Int} (h : ringB r = true) : Sz 9 (la r) := by
  have := la_rng h
  unfold Sz
  omega
theorem sz_tr (r : Int) : Sz 1 (tr r) := by
  unfold Sz
  rcases tr_01 r with h | h <;> rw [h] <;> decide
def Sz2 (n : Nat) (p : Nu) : Prop := Sz n p.1 ∧ Sz n p.2
theorem Sz2.pls {n : Nat} {p q : Nu} (a : Sz2 n p) (b : Sz2 n q) : Sz2 (n + n + 1) (pls p q) := ⟨a.1.add b.1, a.2.add b.2⟩
theorem Sz2.tms {n : Nat} {r : Int} {p q : Nu} (h : ringB r = true) (a : Sz2 n p) (b : Sz2 n q) : Sz2 (6 * n + 20) (tms r p q) :=
  ⟨((a.1.mul b.1).sub ((sz_la h).mul (a.2.mul b.2))).mono (by omega), (((a.1.mul b.2).add (a.2.mul b.1)).add ((sz_tr r).mul (a.2.mul b.2))).mono (by omega)⟩
theorem Sz2.mir {n : Nat} {r : Int} {p : Nu} (a : Sz2 n p) : Sz2 (6 * n + 20) (mir r p) :=
  ⟨(a.1.add ((sz_tr r).mul a.2)).mono (by omega), a.2.neg.mono (by omega)⟩
theorem Sz2.mono {n m : Nat} {p : Nu} (a : Sz2 n p) (h : n ≤ m) : Sz2 m p := ⟨a.1.mono h, a.2.mono h⟩
section
variable {st : Sto} {r : Int} {p q : Nu} {n : Nat}
theorem s_trace_of : m_trace_of [.int r] st = .ok (.int (tr r)) st := by
  have h4 : (4 : Int) ≠ 0 := by decide
  unfold tr
  by_cases h : (r + 1).fmod 4 = 0 <;> simp [m_trace_of, b_trace_of, oMod_int h4, h]
theorem s_last_in : m_last_in [.int r] st = .ok (.int (la r)) st := by
  have h4 : divOk 4 = true := by decide
  unfold la
  by_cases h : (r + 1).fmod 4 = 0
  · have e : tr r = 1 := if_pos h
    simp [m_last_in, b_last_in, s_trace_of, e, oDiv_int h4, h]
  · have e : tr r = 0 := if_neg h
    simp [m_last_in, b_last_in, s_trace_of, e, h]
theorem s_plus_in : m_plus_in [nu p, nu q] st = .ok (nu (pls p q)) st := by
  simp [m_plus_in, b_plus_in, atI, ixN, pls]
theorem s_times_in (h : ringB r = true) (a : Sz2 n p) (b : Sz2 n q) (hn : n ≤ 100000) : m_times_in [.int r, nu p, nu q] st = .ok (nu (tms r p q)) st := by
  have o1 := a.2.ok b.2 (by omega)
  have o2 := a.1.ok b.2 (by omega)
  have o3 := a.2.ok b.1 (by omega)
  have o4 := a.1.ok b.1 (by omega)
  have o5 := (sz_la h).ok (a.2.mul b.2) (by omega)
  have o6 := (sz_tr r).ok (a.2.mul b.2) (by omega)
  simp [m_times_in, b_times_in, atI, ixN, tms, oMul_int o1, oMul_int o2, oMul_int o3, oMul_int o4, s_last_in, s_trace_of, oMul_int o5, oMul_int o6]
theorem s_mirror_in (a : Sz2 n p) (hn : n ≤ 100000) : m_mirror_in [.int r, nu p] st = .ok (nu (mir r p)) st := by
  have o1 := (sz_tr r).ok a.2 (by omega)
  simp [m_mirror_in, b_mirror_in, atI, ixN, mir, s_trace_of, oMul_int o1]
theorem s_norm_in (h : ringB r = true) (a : Sz2 n p) (hn : n ≤ 100000) : m_norm_in [.int r, nu p] st = .ok (.int (nrm r p)) st := by
  have o1 := a.1.ok a.1 (by omega)
  have o2 := (sz_tr r).ok a.1 (by omega)
  have o3 := ((sz_tr r).mul a.1).ok a.2 (by omega)
  have o4 := (sz_la h).ok a.2 (by omega)
  have o5 := ((sz_la h).mul a.2).ok a.2 (by omega)
  simp [m_norm_in, b_norm_in, nrm, s_trace_of, s_last_in, oMul_int o1, oMul_int o2, oMul_int o3, oMul_int o4, oMul_int o5]
/-! the law's own -/
theorem s_trace (r : Int) : m__law_trace [.int r] st = .ok (nu (tr r, la r)) st := by
  have h4 : (4 : Int) ≠ 0 := by decide
  have h5 : divOk 4 = true := by decide
  have e : r.fmod 4 = 3 ↔ (r + 1).fmod 4 = 0 := by
    rw [Int.fmod_eq_emod_of_nonneg _ (by decide), Int.fmod_eq_emod_of_nonneg _ (by decide)]
    omega
  unfold tr la
  by_cases h : (r + 1).fmod 4 = 0
  · simp [m__law_trace, b__law_trace, oMod_int h4, e.mpr h, oDiv_int h5, h]
  · simp [m__law_trace, b__law_trace, oMod_int h4, mt e.mp h, h]
theorem s_ring_times (h : ringB r = true) (a : Sz2 n p) (b : Sz2 n q) (hn : n ≤ 100000) : m__law_ring_times [.int r, nu p, nu q] st = .ok (nu (tms r p q)) st := by
  have o2 := a.1.ok b.2 (by omega)
  have o3 := a.2.ok b.1 (by omega)
  have o4 := a.1.ok b.1 (by omega)
  have o5 := (sz_la h).ok a.2 (by omega)
  have o6 := ((sz_la h).mul a.2).ok b.2 (by omega)
  have o7 := (sz_tr r).ok a.2 (by omega)
  have o8 := ((sz_tr r).mul a.2).ok b.2 (by omega)
  have e := s_trace (st := st) r
  simp only [nu] at e
  simp [m__law_ring_times, b__law_ring_times, e, tms, oMul_int o2, oMul_int o3, oMul_int o4, oMul_int o5, oMul_int o6, oMul_int o7, oMul_int o8, Int.mul_assoc]
theorem s_mirror (a : Sz2 n p) (hn : n ≤ 100000) : m__law_mirror [.int r, nu p] st = .ok (nu (mir r p)) st := by
  have o1 := (sz_tr r).ok a.2 (by omega)
  have e := s_trace (st := st) r
  simp only [nu] at e
  simp [m__law_mirror, b__law_mirror, e, atI, ixN, mir, oMul_int o1]
theorem norm_eq (r : Int) (p : Nu) : (tms r p (mir r p)).1 = nrm r p := by
  unfold tms mir nrm
  grind
theorem s_norm (h : ringB r = true) (a : Sz2 n p) (hn : n ≤ 10000) : m__law_norm [.int r, nu p] st = .ok (.int (nrm r p)) st := by
  have e1 := s_mirror (st := st) (r := r) a (by omega)
  have e2 := s_ring_times (st := st) h (a.mono (by omega)) (a.mir (r := r)) (by omega)
  have e3 := norm_eq r p
  simp only [nu] at e1 e2
  simp [m__law_norm, b__law_norm, e1, e2, atI, ixN, e3]
theorem s_sum_of : m__law_sum_of [nu p, nu q] st = .ok (nu (pls p q)) st := by
  simp [m__law_sum_of, b__law_sum_of, atI, ixN, pls]
theorem s_num (p : Nu) : m_is_number [nu p] st = .ok (.bl true) st := s_number_two (t := .int) (u := .int) rfl rfl
theorem s_is_root {v : Int} : m__law_is_root [.int v] st = .ok (.bl (ringB v)) st := by
  have r2 : rgB 2 = true := by decide
  have r18 : rgB 18 = true := by decide
  have q := lc_pure (fi := fRg2' (fCons (fC (.int 2)) (fCons (fC (.int 18)) fNil))) (g := gN 1) (t := fTest (fOp oEq (fOp oMod (fCall oInt (fCons (fVar 0) fNil)) (fOp oMul (fVar 1) (fVar 1))) (fC (.int 0)))) (e := fVar 1) (env := [some (.int v), none]) (vs := [1]) (e1 := fun d => [some (.int v), some d])
    (b := fun d => match d with | .int k => decide (v.fmod (k * k) = 0) | _ => false) (v := fun d => d) (st := st) (s := st) (xs := rgD 2 1 16) (rg2_ok (i := 2) (j := 18) (by simp) r2 r18) (fun z hz => ⟨rfl, by
      obtain ⟨k, rfl, h1, h2⟩ := rg16 hz
      simp [oMul_int h1, oMod_int h2], fun _ => rfl⟩) (by rw [rgD_len]; decide)
  have e : oEq (.lst (((rgD 2 1 16).filter fun d => match d with | .int k => decide (v.fmod (k * k) = 0) | _ => false).map fun d => d)) (.lst []) st = .ok (.bl ((rgD 2 1 16).all fun d => match d with | .int k => v.fmod (k * k) != 0 | _ => true)) st := by
    have f : ∀ xs : List D, (∀ x ∈ xs, ∃ k, x = .int k) → oEq (.lst ((xs.filter fun d => match d with | .int k => decide (v.fmod (k * k) = 0) | _ => false).map fun d => d)) (.lst []) st = .ok (.bl (xs.all fun d => match d with | .int k => v.fmod (k * k) != 0 | _ => true)) st := by
      intro xs hx
      rw [List.map_id', oEq_ints_nil fun x h => hx x ((List.mem_filter.mp h).1), filter_empty_all _ (fun d => match d with | .int k => v.fmod (k * k) != 0 | _ => true)]
      intro x h
      obtain ⟨k, rfl⟩ := hx x h
      rfl
    exact f _ fun x hx => by
      obtain ⟨k, rfl, _⟩ := rg16 hx
      exact ⟨k, rfl⟩
  generalize hL : ((rgD 2 1 16).filter fun d => match d with | .int k => decide (v.fmod (k * k) = 0) | _ => false).map (fun d => d) = M at q e
  unfold ringB
  generalize hA : ((rgD 2 1 16).all fun d => match d with | .int k => v.fmod (k * k) != 0 | _ => true) = A at e
  by_cases h1 : 1 ≤ v <;> by_cases h2 : v ≤ 300 <;> simp [m__law_is_root, b__law_is_root, isPT, fChain, h1, h2, q, e]
theorem s_is_root_no {d : D} {t : PT} (h : tyD st d = some t) (ht : t ≠ .int) : m__law_is_root [d] st = .ok (.bl false) st := by
  cases t <;> first | exact absurd rfl ht | simp [m__law_is_root, b__law_is_root, k_isi_ty h, isPT]
end
end L

set_option maxHeartbeats 4000000
namespace L
open PySem PySem.Spec PyProof.Rows L2 Z

section
variable {st : Sto} {r : Int} {p q : Nu} {n : Nat} {d x y z : D} {b : Bool}
theorem s_check_ring {k : Bool} (h : m_is_ring [d] st = .ok (.bl k) st) : m_check_ring [d] st = if k = true then .ok .non st else .ex "InvalidRing" "given" d st := by
  cases k <;> simp [m_check_ring, b_check_ring, h]
theorem s_check_number {k : Bool} (h : m_is_number [d] st = .ok (.bl k) st) : m_check_number [d] st = if k = true then .ok .non st else .ex "InvalidNumber" "given" d st := by
  cases k <;> simp [m_check_number, b_check_number, h]
theorem s_check_one {i j : Bool} (h : m_is_ring [x] st = .ok (.bl i) st) (g : m_is_number [y] st = .ok (.bl j) st) : m_check_one [x, y] st = if i = true then (if j = true then .ok .non st else .ex "InvalidNumber" "given" y st) else .ex "InvalidRing" "given" x st := by
  cases i <;> cases j <;> simp [m_check_one, b_check_one, s_check_ring h, s_check_number g]
theorem s_check_two {i j k : Bool} (h : m_is_ring [x] st = .ok (.bl i) st) (g : m_is_number [y] st = .ok (.bl j) st) (l : m_is_number [z] st = .ok (.bl k) st) :
    m_check_two [x, y, z] st = if i = true then (if j = true then (if k = true then .ok .non st else .ex "InvalidNumber" "given" z st) else .ex "InvalidNumber" "given" y st) else .ex "InvalidRing" "given" x st := by
  cases i <;> cases j <;> cases k <;> simp [m_check_two, b_check_two, s_check_ring h, s_check_number g, s_check_number l]
/-! told: by place or by name -/
theorem told0 : m__law_told [.int 0, x, y, z, .bl b] st = m_plus [x, y, z] st := by
  cases b <;> (simp [m__law_told, b__law_told, perm]; cases m_plus [x, y, z] st <;> simp [Ctl.fin])
theorem told1 : m__law_told [.int 1, x, y, z, .bl b] st = m_product [x, y, z] st := by
  cases b <;> (simp [m__law_told, b__law_told, perm]; cases m_product [x, y, z] st <;> simp [Ctl.fin])
theorem told2 : m__law_told [.int 2, x, y, z, .bl b] st = m_mirror [x, y] st := by
  cases b <;> (simp [m__law_told, b__law_told, perm]; cases m_mirror [x, y] st <;> simp [Ctl.fin])
theorem told3 : m__law_told [.int 3, x, y, z, .bl b] st = m_norm [x, y] st := by
  cases b <;> (simp [m__law_told, b__law_told, perm]; cases m_norm [x, y] st <;> simp [Ctl.fin])
theorem ring_true (h : ringB r = true) : m_is_ring [.int r] st = .ok (.bl true) st := by rw [s_ring, h]
theorem t_plus (h : ringB r = true) : m__law_told [.int 0, .int r, nu p, nu q, .bl b] st = .ok (nu (pls p q)) st := by
  have c := s_check_two (ring_true (st := st) h) (s_num p) (s_num q)
  rw [told0]
  simp only [if_true] at c
  have e := s_plus_in (st := st) (p := p) (q := q)
  simp only [nu] at c e
  simp [m_plus, b_plus, c, e]
theorem t_times (h : ringB r = true) (a : Sz2 n p) (c : Sz2 n q) (hn : n ≤ 100000) : m__law_told [.int 1, .int r, nu p, nu q, .bl b] st = .ok (nu (tms r p q)) st := by
  have k := s_check_two (ring_true (st := st) h) (s_num p) (s_num q)
  rw [told1]
  simp only [if_true] at k
  have e := s_times_in (st := st) h a c hn
  simp only [nu] at k e
  simp [m_product, b_product, k, e]
theorem t_mirror (h : ringB r = true) (a : Sz2 n p) (hn : n ≤ 100000) : m__law_told [.int 2, .int r, nu p, x, .bl b] st = .ok (nu (mir r p)) st := by
  have k := s_check_one (ring_true (st := st) h) (s_num p)
  rw [told2]
  simp only [if_true] at k
  have e := s_mirror_in (st := st) (r := r) a hn
  simp only [nu] at k e
  simp [m_mirror, b_mirror, k, e]
theorem t_norm (h : ringB r = true) (a : Sz2 n p) (hn : n ≤ 100000) : m__law_told [.int 3, .int r, nu p, x, .bl b] st = .ok (.int (nrm r p)) st := by
  have k := s_check_one (ring_true (st := st) h) (s_num p)
  rw [told3]
  simp only [if_true] at k
  have e := s_norm_in (st := st) h a hn
  simp only [nu] at k e
  simp [m_norm, b_norm, k, e]
/-! refused -/
theorem ref_ring {w : Int} (hw : 0 ≤ w ∧ w < 4) {j k : Bool} (h : m_is_ring [x] st = .ok (.bl false) st) (g : m_is_number [y] st = .ok (.bl j) st) (l : m_is_number [z] st = .ok (.bl k) st) : m__law_told [.int w, x, y, z, .bl b] st = .ex "InvalidRing" "given" x st := by
  have c1 := s_check_one h g
  have c2 := s_check_two h g l
  have : w = 0 ∨ w = 1 ∨ w = 2 ∨ w = 3 := by omega
  rcases this with rfl | rfl | rfl | rfl
  · rw [told0]; simp [m_plus, b_plus, c2]
  · rw [told1]; simp [m_product, b_product, c2]
  · rw [told2]; simp [m_mirror, b_mirror, c1]
  · rw [told3]; simp [m_norm, b_norm, c1]
theorem ref_one {w : Int} (hw : 0 ≤ w ∧ w < 4) {k : Bool} (h : m_is_ring [x] st = .ok (.bl true) st) (g : m_is_number [y] st = .ok (.bl false) st) (l : m_is_number [z] st = .ok (.bl k) st) : m__law_told [.int w, x, y, z, .bl b] st = .ex "InvalidNumber" "given" y st := by
  have c1 := s_check_one h g
  have c2 := s_check_two h g l
  have : w = 0 ∨ w = 1 ∨ w = 2 ∨ w = 3 := by omega
  rcases this with rfl | rfl | rfl | rfl
  · rw [told0]; simp [m_plus, b_plus, c2]
  · rw [told1]; simp [m_product, b_product, c2]
  · rw [told2]; simp [m_mirror, b_mirror, c1]
  · rw [told3]; simp [m_norm, b_norm, c1]
theorem ref_two {w : Int} (hw : 0 ≤ w ∧ w < 2) (h : m_is_ring [x] st = .ok (.bl true) st) (g : m_is_number [y] st = .ok (.bl true) st) (l : m_is_number [z] st = .ok (.bl false) st) : m__law_told [.int w, x, y, z, .bl b] st = .ex "InvalidNumber" "given" z st := by
  have c2 := s_check_two h g l
  have : w = 0 ∨ w = 1 := by omega
  rcases this with rfl | rfl
  · rw [told0]; simp [m_plus, b_plus, c2]
  · rw [told1]; simp [m_product, b_product, c2]
theorem met_ring {w : D} (h : m__law_told [w, x, y, z, .bl b] st = .ex "InvalidRing" "given" d st) : m__law_met [w, x, y, z, .bl b] st = .ok (.lst [.str "ring", d]) st := by
  have e : (subs "InvalidRing" "InvalidRing") = some true := by decide +kernel
  simp [m__law_met, b__law_met, sTry, h, hdD, e, hasN, setN, hR, gxK, gxC, gxF, gxN, Ctl.unN]
theorem met_number {w : D} (h : m__law_told [w, x, y, z, .bl b] st = .ex "InvalidNumber" "given" d st) : m__law_met [w, x, y, z, .bl b] st = .ok (.lst [.str "number", d]) st := by
  have e1 : (subs "InvalidNumber" "InvalidRing") = some false := by decide +kernel
  have e2 : (subs "InvalidNumber" "InvalidNumber") = some true := by decide +kernel
  simp [m__law_met, b__law_met, sTry, h, hdD, e1, e2, hasN, setN, hR, gxK, gxC, gxF, gxN, Ctl.unN]
end
end L

set_option maxHeartbeats 4000000
namespace L
open PySem PySem.Spec PyProof.Rows L2 Z

/-! ### the ring's laws -/
theorem pls_comm (p q : Nu) : pls q p = pls p q := by unfold pls; rw [Int.add_comm, Int.add_comm q.2]
theorem tms_comm (r : Int) (p q : Nu) : tms r q p = tms r p q := by unfold tms; ext <;> grind
theorem tms_mir (r : Int) (p : Nu) : tms r p (mir r p) = (nrm r p, 0) := by unfold tms mir nrm; ext <;> grind
theorem nrm_tms (r : Int) (p q : Nu) : nrm r (tms r p q) = nrm r p * nrm r q := by unfold tms nrm; rcases tr_01 r with h | h <;> rw [h] <;> grind
theorem nrm_mir (r : Int) (p : Nu) : nrm r (mir r p) = nrm r p := by unfold mir nrm; rcases tr_01 r with h | h <;> rw [h] <;> grind
theorem mir_mir (r : Int) (p : Nu) : mir r (mir r p) = p := by unfold mir; ext <;> grind
theorem mir_tms (r : Int) (p q : Nu) : mir r (tms r p q) = tms r (mir r p) (mir r q) := by unfold mir tms; rcases tr_01 r with h | h <;> rw [h] <;> ext <;> grind
theorem mir_pls (r : Int) (p q : Nu) : mir r (pls p q) = pls (mir r p) (mir r q) := by unfold mir pls; ext <;> grind
theorem tms_assoc (r : Int) (p q s : Nu) : tms r p (tms r q s) = tms r (tms r p q) s := by unfold tms; ext <;> grind
theorem pls_assoc (p q s : Nu) : pls p (pls q s) = pls (pls p q) s := by unfold pls; ext <;> grind
theorem tms_pls (r : Int) (p q s : Nu) : tms r p (pls q s) = pls (tms r p q) (tms r p s) := by unfold tms pls; ext <;> grind
theorem nrm_pos {r : Int} (h : ringB r = true) (p : Nu) : decide (0 < nrm r p) = !(decide (p.1 = 0) && decide (p.2 = 0)) := by
  obtain ⟨a, b⟩ := p
  have hl := la_rng h
  by_cases hz : a = 0 ∧ b = 0
  · obtain ⟨rfl, rfl⟩ := hz
    simp [nrm]
  · have e : (!(decide (a = 0) && decide (b = 0))) = true := by
      by_cases h1 : a = 0
      · have h2 : b ≠ 0 := fun q => hz ⟨h1, q⟩
        simp [h2]
      · simp [h1]
    show decide (0 < nrm r (a, b)) = !(decide (a = 0) && decide (b = 0))
    rw [e]
    refine decide_eq_true ?_
    have sq : ∀ x : Int, x ≠ 0 → 0 < x * x := fun x hx => by
      rcases Int.lt_or_gt_of_ne hx with q | q
      · exact Int.mul_pos_of_neg_of_neg q q
      · exact Int.mul_pos q q
    have sq0 : ∀ x : Int, 0 ≤ x * x := fun x => by
      by_cases hx : x = 0
      · rw [hx]; decide
      · exact Int.le_of_lt (sq x hx)
    have hlb : 0 ≤ la r * (b * b) := Int.mul_nonneg (by omega) (sq0 b)
    have hlb2 : b ≠ 0 → b * b ≤ la r * (b * b) := fun hb => by
      have := Int.mul_le_mul_of_nonneg_right (show 1 ≤ la r by omega) (sq0 b)
      omega
    unfold nrm
    rcases tr_01 r with ht | ht
    · rw [ht]
      show 0 < a * a + 0 * a * b + la r * b * b
      rw [Int.mul_assoc (la r)]
      have z : (0 : Int) * a * b = 0 := by rw [Int.zero_mul, Int.zero_mul]
      rw [z]
      by_cases hb : b = 0
      · have ha : a ≠ 0 := fun q => hz ⟨q, hb⟩
        have := sq a ha
        omega
      · have := sq b hb
        have := hlb2 hb
        have := sq0 a
        omega
    · rw [ht]
      show 0 < a * a + 1 * a * b + la r * b * b
      rw [Int.mul_assoc (la r), Int.one_mul]
      by_cases hb : b = 0
      · have ha : a ≠ 0 := fun q => hz ⟨q, hb⟩
        have := sq a ha
        rw [hb]
        simp only [Int.mul_zero, Int.add_zero]
        exact this
      · have h1 := sq b hb
        have h2 := hlb2 hb
        have h3 := sq0 (2 * a + b)
        have h4 : (2 * a + b) * (2 * a + b) = 4 * (a * a) + 4 * (a * b) + b * b := by grind
        omega
end L

set_option maxHeartbeats 4000000
namespace L
open PySem PySem.Spec PyProof.Rows L2 Z

theorem nu_mk (a b : Int) : D.tup [.int a, .int b] = nu (a, b) := rfl
theorem flat_nu (p : Nu) : flatD 1 (nu p) = true := rfl
section
variable {st : Sto} {r : Int} {p q s : Nu} {n : Nat}
theorem same_of {d : D} (h : flatD 5 d = true) : m__law_same 12 [d, d] st = .ok (.bl true) st := by
  rw [e_same]
  exact same_flat 5 d st h 11 (by decide)
theorem same_nu : m__law_same 12 [nu p, nu p] st = .ok (.bl true) st := same_of rfl
theorem same_i {i : Int} : m__law_same 12 [.int i, .int i] st = .ok (.bl true) st := same_of rfl
theorem sz_nrm (h : ringB r = true) (a : Sz2 n p) : Sz (6 * n + 20) (nrm r p) :=
  (((a.1.mul a.1).add (((sz_tr r).mul a.1).mul a.2)).add (((sz_la h).mul a.2).mul a.2)).mono (by omega)
theorem two_right (h : ringB r = true) (a : Sz2 110 p) (c : Sz2 110 q) (named : Bool) (hs : Cl st) : m__law_two_right [.int r, nu p, nu q, .bl named] st = .ok (.bl true) st := by
  have key : ∃ xs, runFn 14 b__law_two_right [.int r, nu p, nu q, .bl named] st = .ok (.bl true) (st ++ [.lst xs]) := by
    have pc := pls_comm p q
    have tc := tms_comm r p q
    have atm := a.tms h c
    have mo := ((sz_nrm h a).ok (sz_nrm h c) (by omega))
    have l3 : m__law_same 12 [.lst [.int (nrm r p * nrm r q), .int (nrm r q)], .lst [.int (nrm r p * nrm r q), .int (nrm r q)]] st = .ok (.bl true) st := same_of rfl
    have l2 : m__law_same 12 [nu (nrm r p, 0), D.tup [.int (nrm r p), .int 0]] st = .ok (.bl true) st := same_nu
    have hb : m__law_same 12 [.loc st.length, .lst [nu p, nu (tms r (mir r p) (mir r q)), nu (pls (mir r p) (mir r q))]] (st ++ [.lst [nu p, nu (tms r (mir r p) (mir r q)), nu (pls (mir r p) (mir r q))]]) = .ok (.bl true) (st ++ [.lst [nu p, nu (tms r (mir r p) (mir r q)), nu (pls (mir r p) (mir r q))]]) := by
      generalize hX : [nu p, nu (tms r (mir r p) (mir r q)), nu (pls (mir r p) (mir r q))] = X
      have e : (st ++ [Ob.lst X])[st.length]? = some (.lst X) := by rw [List.getElem?_append_right (Nat.le_refl _), Nat.sub_self] <;> rfl
      have ha : asSeq (st ++ [Ob.lst X]) (.loc st.length) = some X := by
        have z : asSeq (st ++ [Ob.lst X]) (.loc st.length) = (match (st ++ [Ob.lst X])[st.length]? with | some (.lst xs) => some xs | _ => none) := rfl
        rw [z, e]
      have hL : X.length = 3 := by rw [← hX] <;> rfl
      rw [e_same]
      refine same_seqQ (t := .lst) (tyD_loc e) rfl (.inl rfl) rfl ha rfl (by omega) (oLen_loc e) rfl fun y hy => ?_
      rw [← hX] at hy
      have : ∃ k : Nu, y = nu k := by
        simp only [List.mem_cons, List.not_mem_nil, or_false] at hy
        rcases hy with rfl | rfl | rfl <;> exact ⟨_, rfl⟩
      obtain ⟨k, rfl⟩ := this
      exact same_flat 5 (nu k) _ rfl 10 (by decide)
    refine ⟨[nu p, nu (tms r (mir r p) (mir r q)), nu (pls (mir r p) (mir r q))], ?_⟩
    have e1 : isLoc (.loc st.length) (st ++ [Ob.lst [nu p, nu (tms r (mir r p) (mir r q))]]) = true := isLoc_at (by rw [List.getElem?_append_right (Nat.le_refl _), Nat.sub_self] <;> rfl)
    have e2 : oAppend (.loc st.length) (nu (pls (mir r p) (mir r q))) (st ++ [Ob.lst [nu p, nu (tms r (mir r p) (mir r q))]]) = .ok .non (st ++ [.lst [nu p, nu (tms r (mir r p) (mir r q)), nu (pls (mir r p) (mir r q))]]) := by
      rw [oAppend_at (xs := [nu p, nu (tms r (mir r p) (mir r q))]) (by rw [List.getElem?_append_right (Nat.le_refl _), Nat.sub_self] <;> rfl) (by simp)]
      simp
    have ne : oNe (nu p) (D.tup [.int 0, .int 0]) st = .ok (.bl (decide (0 < nrm r p))) st := by
      rw [nrm_pos h p]
      exact oNe_two
    simp [-nu, b__law_two_right, s_sum_of, s_ring_times h a c (by decide), s_mirror a (by decide), s_mirror c (by decide), s_norm h a (by decide), s_norm h c (by decide), t_plus h, t_times h a c (by decide), t_times h c a (by decide), t_mirror h a (by decide), t_mirror h c (by decide), t_norm h a (by decide), pc, tc, same_nu, same_i,
      t_times h (a.mono (by decide : 110 ≤ 6 * 110 + 20)) a.mir (by decide), tms_mir, l2, t_norm h atm (by decide), t_norm h c.mir (by decide), nrm_tms, nrm_mir, oMul_int mo, l3, ne, t_mirror h (a.mir (r := r)) (by decide), mir_mir, t_mirror h atm (by decide), mir_tms, t_mirror h (a.pls c) (by decide), mir_pls, s_ring_times h (a.mir (r := r)) (c.mir (r := r)) (by decide), k_m1_ok e1, e2, hb]
  obtain ⟨xs, e⟩ := key
  have g := gcT_ok (F := runFn 14 b__law_two_right) e rfl (by rw [List.take_append_of_le_length (Nat.le_refl _), List.take_length]; exact hs)
  rw [List.take_append_of_le_length (Nat.le_refl _), List.take_length] at g
  exact g
end
end L

set_option maxHeartbeats 4000000
namespace L
open PySem PySem.Spec PyProof.Rows L2 Z
section
variable {st : Sto} {r : Int} {p q s : Nu} {n : Nat}
theorem oAdd_lst {xs ys : List D} (h : xs.length + ys.length ≤ 1000000) : oAdd (.lst xs) (.lst ys) st = .ok (.lst (xs ++ ys)) st := by
  have h2 : decide (xs.length + ys.length ≤ LIM) = true := decide_eq_true (by have : LIM = 10000000 := rfl; omega)
  simp only [oAdd, asL, h2]
theorem three_right (h : ringB r = true) (a : Sz2 110 p) (b : Sz2 110 q) (c : Sz2 110 s) (named : Bool) : m__law_three_right [.int r, nu p, nu q, nu s, .bl named] st = .ok (.bl true) st := by
  have pq := a.tms (q := q) h b
  have qs := b.tms (q := s) h c
  have a2 := a.mono (by decide : 110 ≤ 6 * 110 + 20)
  have c2 := c.mono (by decide : 110 ≤ 6 * 110 + 20)
  have ps := (b.pls c).mono (by decide : 110 + 110 + 1 ≤ 6 * 110 + 20)
  have t1 : m__law_told [.int 1, .int r, nu p, nu (tms r q s), .bl !named] st = .ok (nu (tms r (tms r p q) s)) st := by rw [t_times h a2 qs (by decide), tms_assoc]
  have t2 : m__law_told [.int 0, .int r, nu p, nu (pls q s), .bl !named] st = .ok (nu (pls (pls p q) s)) st := by rw [t_plus h, pls_assoc]
  have t3 : m__law_told [.int 1, .int r, nu p, nu (pls q s), .bl named] st = .ok (nu (tms r p (pls q s))) st := t_times h a2 ps (by decide)
  have t4 : m__law_told [.int 0, .int r, nu (tms r p q), nu (tms r p s), .bl !named] st = .ok (nu (tms r p (pls q s))) st := by rw [t_plus h, tms_pls]
  have t5 : m__law_told [.int 1, .int r, nu (tms r p q), nu s, .bl named] st = .ok (nu (tms r (tms r p q) s)) st := t_times h pq c2 (by decide)
  have l1 : m__law_same 12 [.lst [nu (tms r (tms r p q) s), nu (tms r (tms r p q) s), nu (pls (pls p q) s), nu (pls (pls p q) s)], .lst [nu (tms r (tms r p q) s), nu (tms r (tms r p q) s), nu (pls (pls p q) s), nu (pls (pls p q) s)]] st = .ok (.bl true) st := same_of rfl
  have l2 : m__law_same 12 [.lst [nu (tms r p (pls q s)), nu (tms r p (pls q s))], .lst [nu (tms r p (pls q s)), nu (tms r p (pls q s))]] st = .ok (.bl true) st := same_of rfl
  have ad : oAdd (.lst [nu (tms r (tms r p q) s), nu (tms r (tms r p q) s)]) (.lst [nu (pls (pls p q) s), nu (pls (pls p q) s)]) st = .ok (.lst [nu (tms r (tms r p q) s), nu (tms r (tms r p q) s), nu (pls (pls p q) s), nu (pls (pls p q) s)]) st := oAdd_lst (by simp)
  have r1 : m__law_ring_times [.int r, nu (tms r p q), nu s] st = .ok (nu (tms r (tms r p q) s)) st := s_ring_times h pq c2 (by decide)
  have r2 : m__law_ring_times [.int r, nu p, nu (pls q s)] st = .ok (nu (tms r p (pls q s))) st := s_ring_times h a2 ps (by decide)
  simp [-nu, b__law_three_right, m__law_three_right, s_ring_times h a b (by decide), r1, r2, s_sum_of, t_times h a b (by decide), t_times h b c (by decide), t_times h a c (by decide), t1, t2, t3, t4, t5, t_plus h, l1, l2, ad]
theorem w_right (h : ringB r = true) (named : Bool) : m__law_w_right [.int r, .bl named] st = .ok (.bl true) st := by
  have h4 : (4 : Int) ≠ 0 := by decide
  have d4 : divOk 4 = true := by decide
  have zo : Sz2 110 (0, 1) := ⟨by unfold Sz; decide, by unfold Sz; decide⟩
  have oz : Sz2 110 (1, 0) := ⟨by unfold Sz; decide, by unfold Sz; decide⟩
  have sq : tms r (0, 1) (0, 1) = (-la r, tr r) := by unfold tms; ext <;> grind
  have mi : mir r (0, 1) = (tr r, -1) := by unfold mir; ext <;> grind
  have no : nrm r (0, 1) = la r := by unfold nrm; grind
  have su : pls (0, 1) (0, -1) = (0, 0) := rfl
  have on : tms r (1, 0) (0, 1) = (0, 1) := by unfold tms; ext <;> grind
  have t1 : ∀ b, m__law_told [.int 1, .int r, nu (0, 1), nu (0, 1), .bl b] st = .ok (nu (-la r, tr r)) st := fun b => by rw [t_times h zo zo (by decide), sq]
  have t2 : ∀ b, m__law_told [.int 2, .int r, nu (0, 1), .non, .bl b] st = .ok (nu (tr r, -1)) st := fun b => by rw [t_mirror h zo (by decide), mi]
  have t3 : ∀ b, m__law_told [.int 3, .int r, nu (0, 1), .non, .bl b] st = .ok (.int (la r)) st := fun b => by rw [t_norm h zo (by decide), no]
  have t4 : ∀ b, m__law_told [.int 0, .int r, nu (0, 1), nu (0, -1), .bl b] st = .ok (nu (0, 0)) st := fun b => by rw [t_plus h, su]
  have t5 : ∀ b, m__law_told [.int 1, .int r, nu (1, 0), nu (0, 1), .bl b] st = .ok (nu (0, 1)) st := fun b => by rw [t_times h oz zo (by decide), on]
  have ad : oAdd (.lst [nu (-la r, tr r), nu (tr r, -1), .int (la r)]) (.lst [nu (0, 0), nu (0, 1)]) st = .ok (.lst [nu (-la r, tr r), nu (tr r, -1), .int (la r), nu (0, 0), nu (0, 1)]) st := oAdd_lst (by simp)
  have l1 : m__law_same 12 [.lst [nu (-la r, tr r), nu (tr r, -1), .int (la r), nu (0, 0), nu (0, 1)], .lst [nu (-la r, tr r), nu (tr r, -1), .int (la r), nu (0, 0), nu (0, 1)]] st = .ok (.bl true) st := same_of rfl
  by_cases hz : (r + 1).fmod 4 = 0
  · have e1 : la r = (r + 1).fdiv 4 := if_pos hz
    have e2 : tr r = 1 := if_pos hz
    rw [e1, e2] at t1 l1 ad
    rw [e2] at t2
    rw [e1] at t3
    simp only [nu] at t1 t2 t3 t4 t5 ad l1
    simp [m__law_w_right, b__law_w_right, oMod_int h4, oDiv_int d4, hz, t1, t2, t3, t4, t5, ad, l1]
  · have e1 : la r = r := if_neg hz
    have e2 : tr r = 0 := if_neg hz
    rw [e1, e2] at t1 l1 ad
    rw [e2] at t2
    rw [e1] at t3
    simp only [nu] at t1 t2 t3 t4 t5 ad l1
    simp [m__law_w_right, b__law_w_right, oMod_int h4, oDiv_int d4, hz, t1, t2, t3, t4, t5, ad, l1]
end
end L

set_option maxHeartbeats 4000000
namespace L
open PySem PySem.Spec PyProof.Rows L2 Z

/-! ### odd values -/
theorem box_obV (b : Box) : obV b.o = true := by
  show (decide (4 < 1000000) && (flatD 3 (.int b.a) && (flatD 3 (.bl b.g) && (flatD 3 (.int b.c) && (flatD 3 (.int b.n) && true))))) = true
  simp only [flatD, Bool.and_self, Bool.and_true, decide_eq_true_eq]
  decide
theorem sle_box {st : Sto} {n : Nat} {b b' : Box} (h : st[n]? = some b.o) : SLe st (st.set n b'.o) := SLe.set h (fun _ => box_obV b') rfl
/-- what a call leaves: the box aside, all elder objects -/
structure Kp (n : Nat) (st st' : Sto) : Prop where
  le : SLe st st'
  len : st.length ≤ st'.length
  eq : ∀ j, j < st.length → j ≠ n → st'[j]? = st[j]?
theorem Kp.refl {n : Nat} {st : Sto} : Kp n st st := ⟨SLe.refl, Nat.le_refl _, fun _ _ _ => rfl⟩
theorem Kp.trans {n : Nat} {a b c : Sto} (x : Kp n a b) (y : Kp n b c) : Kp n a c := ⟨x.le.trans y.le, Nat.le_trans x.len y.len, fun j h1 h2 => by rw [y.eq j (by have := x.len; omega) h2, x.eq j h1 h2]⟩
theorem Kp.box {n : Nat} {st : Sto} {b b' : Box} (h : st[n]? = some b.o) : Kp n st (st.set n b'.o) := ⟨sle_box h, by rw [List.length_set]; exact Nat.le_refl _, fun j _ hj => List.getElem?_set_ne fun z => hj z.symm⟩
theorem Kp.app {n : Nat} {st more : Sto} : Kp n st (st ++ more) := ⟨SLe.app, by rw [List.length_append]; omega, fun j hj _ => List.getElem?_append_left hj⟩
structure Odd (P : Sto → D → Prop) (base : Nat) (st : Sto) (d : D) : Prop where
  val : valD 4 st d = true
  top : topD d = true
  loc : ∀ k, d = .loc k → base ≤ k ∧ ∃ o, st[k]? = some o ∧ obN o < 1000
  p : ∀ st2, SLe st st2 → P st2 d
theorem snoc_get {s : Sto} {o : Ob} : (s ++ [o])[s.length]? = some o := by rw [List.getElem?_append_right (Nat.le_refl _), Nat.sub_self] <;> rfl
theorem ty_le {s s2 : Sto} {k : Nat} {o : Ob} (h : s[k]? = some o) (x : SLe s s2) : tyD s2 (.loc k) = some (tyO o) := by
  obtain ⟨o', h1, _, h3⟩ := x k o h
  rw [tyD_loc h1, h3]
def CopyR (P : Sto → D → Prop) (s : Sto) (x : D) : Prop := ∃ d more, m__law_copy 12 [x] s = .ok d (s ++ more) ∧ Odd P s.length (s ++ more) d
theorem copy_1 {P : Sto → D → Prop} {s : Sto} {x : D} (h : ptD 3 x = true) (hf : flatD 4 x = true) (ht : topD x = true) (hl : ∀ k, x ≠ .loc k) (hp : ∀ s2, P s2 x) : CopyR P s x :=
  ⟨x, [], by rw [e_copy, copy_pt 3 x s 11 h (by decide), List.append_nil], val_flat 4 x hf, ht, fun k e => absurd e (hl k), fun s2 _ => hp s2⟩
theorem copy_2 {P : Sto → D → Prop} {s : Sto} {xs : List D} (h : ∀ x ∈ xs, ptD 3 x = true) (hf : xs.all (flatD 3) = true) (hl : xs.length < 1000) (hp : ∀ s2 k, tyD s2 (.loc k) = some .lst → P s2 (.loc k)) : CopyR P s (.lst xs) := by
  have q := copy_lst (m := m_copy 11) (st := s) (v := fun x => x) (by omega : xs.length < 1000000) fun x hx => copy_pt 3 x s 10 (h x hx) (by decide)
  rw [List.map_id'] at q
  refine ⟨.loc s.length, [.lst xs], by rw [e_copy]; exact q, ?_, rfl, fun k e => ?_, fun s2 x => hp s2 _ (ty_le snoc_get x)⟩
  · simp only [valD, snoc_get]
    exact len_all (by omega) (List.all_eq_true.mp hf)
  · cases e
    exact ⟨Nat.le_refl _, _, snoc_get, hl⟩
theorem copy_3 {P : Sto → D → Prop} {s : Sto} {n : Nat} {ks : List Key} {ds : List D} (hs : s[n]? = some (.dK ks ds)) (hl : ks.length < 1000) (hk : ks.length = ds.length) (hd : distinct ks = true) (h : ∀ x ∈ ds, ptD 3 x = true) (hf : ∀ x ∈ ds, flatD 3 x = true)
    (hp : ∀ s2 k, tyD s2 (.loc k) = some .dct → P s2 (.loc k)) : CopyR P s (.loc n) := by
  obtain ⟨es, h1, h2, q⟩ := copy_locD (m := m_copy 11) (st := s) hs (by omega) hk hd fun x hx => copy_pt 3 x _ 10 (h x hx) (by decide)
  refine ⟨.loc s.length, [.dK ks es], by rw [e_copy]; exact q, ?_, rfl, fun k e => ?_, fun s2 x => hp s2 _ (ty_le snoc_get x)⟩
  · simp only [valD, snoc_get, obV, Bool.and_eq_true, decide_eq_true_eq, List.all_eq_true]
    exact ⟨by omega, h2, fun x hx => hf x (h1 x hx)⟩
  · cases e
    exact ⟨Nat.le_refl _, _, snoc_get, hl⟩
theorem copy_4 {P : Sto → D → Prop} {s : Sto} (hp : ∀ s2 k, tyD s2 (.loc k) = some .lst → P s2 (.tup [.loc k, .int 2])) : CopyR P s (.tup [.lst [.int 1], .int 2]) := by
  have c1 : m_copy 11 [.lst [.int 1]] s = .ok (.loc s.length) (s ++ [.lst [.int 1]]) := by
    have q := copy_lst (m := m_copy 10) (st := s) (v := fun x => x) (xs := [.int 1]) (by decide) fun x hx => by
      rw [List.mem_singleton.mp hx]
      exact copy_pt 3 (.int 1) s 9 rfl (by decide)
    rw [List.map_id'] at q
    exact q
  have c2 : m_copy 11 [.int 2] (s ++ [.lst [.int 1]]) = .ok (.int 2) (s ++ [.lst [.int 1]]) := copy_pt 3 (.int 2) _ 10 rfl (by decide)
  have hd : ∀ n, n ≤ 5 → decide (n < LIM) = true := fun n hn => decide_eq_true (by have : LIM = 10000000 := rfl; omega)
  have q : m_copy 12 [.tup [.lst [.int 1], .int 2]] s = .ok (.tup [.loc s.length, .int 2]) (s ++ [.lst [.int 1]]) := by
    rw [m_copy_succ]
    have lc : fLc (fIt (fVar 0)) (gN 1) fYes (fCall (m_copy 11) (fCons (fVar 1) fNil)) [1] [some (.tup [.lst [.int 1], .int 2]), none, none] s = .ok (.lst [.loc s.length, .int 2]) (s ++ [.lst [.int 1]]) := by
      unfold fLc lcR
      have e : fIt (fVar 0) [some (.tup [.lst [.int 1], .int 2]), none, none] s = .ok (.fz [.lst [.int 1], .int 2]) s := by simp
      rw [e]
      have s1 : lcStep (gN 1) fYes (fCall (m_copy 11) (fCons (fVar 1) fNil)) (wipeE [some (.tup [.lst [.int 1], .int 2]), none, none] [1]) (.lst [.int 1]) [] s = .ok [.loc s.length] (s ++ [.lst [.int 1]]) := by
        have e2 : fCall (m_copy 11) (fCons (fVar 1) fNil) [some (.tup [.lst [.int 1], .int 2]), some (.lst [.int 1]), none] s = .ok (.loc s.length) (s ++ [.lst [.int 1]]) := by simp [c1]
        show ((fCall (m_copy 11) (fCons (fVar 1) fNil) [some (.tup [.lst [.int 1], .int 2]), some (.lst [.int 1]), none] s).calm.bind fun d s3 => (match decide (([] : List D).length < LIM) with | true => Res.ok ([] ++ [d]) s3 | false => .no)) = _
        rw [e2]
        simp only [Res.calm_ok, Res.bind_ok, hd _ (show ([] : List D).length ≤ 5 by decide)]
        rfl
      have s2 : lcStep (gN 1) fYes (fCall (m_copy 11) (fCons (fVar 1) fNil)) (wipeE [some (.tup [.lst [.int 1], .int 2]), none, none] [1]) (.int 2) [.loc s.length] (s ++ [.lst [.int 1]]) = .ok [.loc s.length, .int 2] (s ++ [.lst [.int 1]]) := by
        have e2 : fCall (m_copy 11) (fCons (fVar 1) fNil) [some (.tup [.lst [.int 1], .int 2]), some (.int 2), none] (s ++ [.lst [.int 1]]) = .ok (.int 2) (s ++ [.lst [.int 1]]) := by simp [c2]
        show ((fCall (m_copy 11) (fCons (fVar 1) fNil) [some (.tup [.lst [.int 1], .int 2]), some (.int 2), none] (s ++ [.lst [.int 1]])).calm.bind fun d s3 => (match decide (([D.loc s.length] : List D).length < LIM) with | true => Res.ok ([D.loc s.length] ++ [d]) s3 | false => .no)) = _
        rw [e2]
        simp only [Res.calm_ok, Res.bind_ok, hd _ (show ([D.loc s.length] : List D).length ≤ 5 by simp)]
        rfl
      simp only [Res.bind_ok, lcD, s1, s2]
    simp [b_copy, isPT, lc, oTuple, one?, asSeq]
  refine ⟨.tup [.loc s.length, .int 2], [.lst [.int 1]], by rw [e_copy]; exact q, ?_, rfl, fun k e => (nomatch e), fun s2 x => hp s2 _ (ty_le snoc_get x)⟩
  simp only [valD, snoc_get, obV, flatD, List.all_cons, List.all_nil, Bool.and_true, Bool.and_self, decide_eq_true_eq, Bool.and_eq_true, List.length_cons, List.length_nil]
  decide
abbrev NN (s : Sto) (d : D) : Prop := m_is_number [d] s = .ok (.bl false) s
abbrev NR (s : Sto) (d : D) : Prop := m_is_ring [d] s = .ok (.bl false) s
end L
namespace L
open PySem PySem.Spec PyProof.Rows L2 Z
theorem nn_sc {s : Sto} {d : D} {t : PT} (h : tyD s d = some t) (ht : t ≠ .tup) : NN s d := s_number_no h ht
theorem odd_number {st : Sto} {n : Nat} {b : Box} {C : Int} (hs : st[n]? = some b.o) (ok : b.ok C) (hC : C < 1000000000) :
    ∃ d st' b', m__law_odd_number [.loc n] st = .ok d st' ∧ st'[n]? = some (Box.o b') ∧ b'.ok (C + 1) ∧ Kp n st st' ∧ Odd NN st.length st' d := by
  have hn := (List.getElem?_eq_some_iff.mp hs).1
  let s1 : Sto := (st ++ [.dK [] []]) ++ [.dK [.inr "a"] [.int 1]]
  have hs1 : s1[n]? = some b.o := by
    show ((st ++ [Ob.dK [] []]) ++ [Ob.dK [.inr "a"] [.int 1]])[n]? = _
    rw [List.append_assoc, List.getElem?_append_left hn, hs]
  let xs : List D := [.non, .bl true, .int 5, .str "w", .str "1+w", .tup [.int 1], .tup [.int 1, .int 2, .int 3], .lst [.int 1, .int 2], .tup [.bl true, .int 0], .tup [.int 0, .bl false], .tup [.non, .int 1], .tup [.str "1", .int 0], .loc st.length, .tup [], .tup [.tup [.int 1, .int 2]], .tup [.lst [.int 1], .int 2], .loc (st.length + 1)]
  obtain ⟨x, hx, b', e1, ok'⟩ := pickS s1 n b xs (.lst xs) C (.inl rfl) hs1 ok hC (by simp [xs]) (by simp [xs])
  have kp1 : Kp n st s1 := Kp.trans Kp.app Kp.app
  have kp2 : Kp n s1 (s1.set n b'.o) := Kp.box hs1
  have hn1 : n < s1.length := (List.getElem?_eq_some_iff.mp hs1).1
  have c : CopyR NN (s1.set n b'.o) x := by
    have g1 : (s1.set n b'.o)[st.length]? = some (.dK [] []) := by
      rw [List.getElem?_set_ne (by omega)]
      show ((st ++ [Ob.dK [] []]) ++ [Ob.dK [.inr "a"] [.int 1]])[st.length]? = _
      rw [List.append_assoc, List.getElem?_append_right (Nat.le_refl _), Nat.sub_self] <;> rfl
    have g2 : (s1.set n b'.o)[st.length + 1]? = some (.dK [.inr "a"] [.int 1]) := by
      rw [List.getElem?_set_ne (by omega)]
      show ((st ++ [Ob.dK [] []]) ++ [Ob.dK [.inr "a"] [.int 1]])[st.length + 1]? = _
      rw [List.append_assoc, List.getElem?_append_right (by omega), show st.length + 1 - st.length = 1 by omega] <;> rfl
    simp only [xs, List.mem_cons, List.not_mem_nil, or_false] at hx
    rcases hx with rfl | rfl | rfl | rfl | rfl | rfl | rfl | rfl | rfl | rfl | rfl | rfl | rfl | rfl | rfl | rfl | rfl
    · exact copy_1 (by decide +kernel) (by decide +kernel) rfl (fun _ => nofun) fun s2 => nn_sc (t := .non) rfl (by decide)
    · exact copy_1 (by decide +kernel) (by decide +kernel) rfl (fun _ => nofun) fun s2 => nn_sc (t := .bl) rfl (by decide)
    · exact copy_1 (by decide +kernel) (by decide +kernel) rfl (fun _ => nofun) fun s2 => nn_sc (t := .int) rfl (by decide)
    · exact copy_1 (by decide +kernel) (by decide +kernel) rfl (fun _ => nofun) fun s2 => nn_sc (t := .str) rfl (by decide)
    · exact copy_1 (by decide +kernel) (by decide +kernel) rfl (fun _ => nofun) fun s2 => nn_sc (t := .str) rfl (by decide)
    · exact copy_1 (by decide +kernel) (by decide +kernel) rfl (fun _ => nofun) fun s2 => s_number_len (by decide)
    · exact copy_1 (by decide +kernel) (by decide +kernel) rfl (fun _ => nofun) fun s2 => s_number_len (by decide)
    · exact copy_2 (fun x hx => by
        simp only [List.mem_cons, List.not_mem_nil, or_false] at hx
        rcases hx with rfl | rfl <;> rfl) (by decide +kernel) (by decide) fun s2 k h => nn_sc h (by decide)
    · exact copy_1 (by decide +kernel) (by decide +kernel) rfl (fun _ => nofun) fun s2 => s_number_two (t := .bl) (u := .int) rfl rfl
    · exact copy_1 (by decide +kernel) (by decide +kernel) rfl (fun _ => nofun) fun s2 => s_number_two (t := .int) (u := .bl) rfl rfl
    · exact copy_1 (by decide +kernel) (by decide +kernel) rfl (fun _ => nofun) fun s2 => s_number_two (t := .non) (u := .int) rfl rfl
    · exact copy_1 (by decide +kernel) (by decide +kernel) rfl (fun _ => nofun) fun s2 => s_number_two (t := .str) (u := .int) rfl rfl
    · exact copy_3 g1 (by decide) rfl rfl (fun x hx => by cases hx) (fun x hx => by cases hx) fun s2 k h => nn_sc h (by decide)
    · exact copy_1 (by decide +kernel) (by decide +kernel) rfl (fun _ => nofun) fun s2 => s_number_len (by decide)
    · exact copy_1 (by decide +kernel) (by decide +kernel) rfl (fun _ => nofun) fun s2 => s_number_len (by decide)
    · exact copy_4 fun s2 k h => s_number_two (t := .lst) (u := .int) h rfl
    · exact copy_3 g2 (by decide) rfl rfl (fun x hx => by rw [List.mem_singleton.mp hx]; rfl) (fun x hx => by rw [List.mem_singleton.mp hx]; rfl) fun s2 k h => nn_sc h (by decide)
  obtain ⟨d, more, e2, od⟩ := c
  have kp3 : Kp n (s1.set n b'.o) (s1.set n b'.o ++ more) := Kp.app
  have kp := (kp1.trans kp2).trans kp3
  refine ⟨d, s1.set n b'.o ++ more, b', ?_, ?_, ok', kp, ⟨od.val, od.top, fun k e => ?_, od.p⟩⟩
  · have dis : fLst (fCons (fC .non) (fCons (fC (.bl true)) (fCons (fC (.int 5)) (fCons (fC (.str "w")) (fCons (fC (.str "1+w")) (fCons (fTup (fCons (fC (.int 1)) fNil)) (fCons (fTup (fCons (fC (.int 1)) (fCons (fC (.int 2)) (fCons (fC (.int 3)) fNil)))) (fCons (fLst (fCons (fC (.int 1)) (fCons (fC (.int 2)) fNil))) (fCons (fTup (fCons (fC (.bl true)) (fCons (fC (.int 0)) fNil))) (fCons (fTup (fCons (fC (.int 0)) (fCons (fC (.bl false)) fNil))) (fCons (fTup (fCons (fC .non) (fCons (fC (.int 1)) fNil))) (fCons (fTup (fCons (fC (.str "1")) (fCons (fC (.int 0)) fNil))) (fCons fDct0 (fCons (fTup fNil) (fCons (fTup (fCons (fTup (fCons (fC (.int 1)) (fCons (fC (.int 2)) fNil))) fNil)) (fCons (fTup (fCons (fLst (fCons (fC (.int 1)) fNil)) (fCons (fC (.int 2)) fNil))) (fCons (fDctO [((fC (.str "a")), (fC (.int 1)))]) fNil))))))))))))))))) [some (.loc n)] st = .ok (.lst xs) s1 := by
      have d0 : ∀ (en : Z.Env) (s : Sto), fDct0 en s = .ok (.loc s.length) (s ++ [.dK [] []]) := fun _ _ => rfl
      have d1 : ∀ (en : Z.Env) (s : Sto), fDctO [((fC (.str "a")), (fC (.int 1)))] en s = .ok (.loc s.length) (s ++ [.dK [.inr "a"] [.int 1]]) := fun _ _ => rfl
      simp [d0, d1, xs, s1]
    unfold m__law_odd_number b__law_odd_number
    generalize fLst _ = DD at dis ⊢
    generalize hxs : xs = X at dis e1
    simp [-Box.o, dis, e1, e2]
  · rw [List.getElem?_append_left (by rw [List.length_set]; exact hn1)]
    exact set_get hs1
  · obtain ⟨h1, h2⟩ := od.loc k e
    have := kp1.len
    rw [List.length_set] at h1
    exact ⟨by omega, h2⟩
theorem nr_int {s : Sto} {v : Int} (h : ringB v = false) : NR s (.int v) := by
  show m_is_ring [.int v] s = _
  rw [s_ring, h]
theorem nr_sc {s : Sto} {d : D} {t : PT} (h : tyD s d = some t) (ht : t ≠ .int) : NR s d := s_ring_no h ht
theorem odd_ring {st : Sto} {n : Nat} {b : Box} {C : Int} (hs : st[n]? = some b.o) (ok : b.ok C) (hC : C < 1000000000) :
    ∃ d st' b', m__law_odd_ring [.loc n] st = .ok d st' ∧ st'[n]? = some (Box.o b') ∧ b'.ok (C + 1) ∧ Kp n st st' ∧ Odd NR st.length st' d := by
  have hn := (List.getElem?_eq_some_iff.mp hs).1
  let s1 : Sto := st ++ [.dK [] []]
  have hs1 : s1[n]? = some b.o := by
    show (st ++ [Ob.dK [] []])[n]? = _
    rw [List.getElem?_append_left hn, hs]
  let xs : List D := [.int 0, .int (-5), .int 4, .int 8, .int 9, .int 12, .int 300, .int 301, .int 18, .int 50, .int 289, .int (10 ^ 29), .bl true, .non, .str "5", .tup [.int 5], .lst [.int 5], .loc st.length]
  obtain ⟨x, hx, b', e1, ok'⟩ := pickS s1 n b xs (.lst xs) C (.inl rfl) hs1 ok hC (by simp [xs]) (by simp [xs])
  have kp1 : Kp n st s1 := Kp.app
  have kp2 : Kp n s1 (s1.set n b'.o) := Kp.box hs1
  have hn1 : n < s1.length := (List.getElem?_eq_some_iff.mp hs1).1
  have ci : ∀ v : Int, ringB v = false → CopyR NR (s1.set n b'.o) (.int v) := fun v hv => copy_1 rfl rfl rfl (fun _ => nofun) fun s2 => nr_int hv
  have c : CopyR NR (s1.set n b'.o) x := by
    have g1 : (s1.set n b'.o)[st.length]? = some (.dK [] []) := by
      rw [List.getElem?_set_ne (by omega)]
      exact snoc_get
    simp only [xs, List.mem_cons, List.not_mem_nil, or_false] at hx
    rcases hx with rfl | rfl | rfl | rfl | rfl | rfl | rfl | rfl | rfl | rfl | rfl | rfl | rfl | rfl | rfl | rfl | rfl | rfl
    · exact ci _ (by decide +kernel)
    · exact ci _ (by decide +kernel)
    · exact ci _ (by decide +kernel)
    · exact ci _ (by decide +kernel)
    · exact ci _ (by decide +kernel)
    · exact ci _ (by decide +kernel)
    · exact ci _ (by decide +kernel)
    · exact ci _ (by decide +kernel)
    · exact ci _ (by decide +kernel)
    · exact ci _ (by decide +kernel)
    · exact ci _ (by decide +kernel)
    · exact ci _ (by decide +kernel)
    · exact copy_1 (by decide +kernel) (by decide +kernel) rfl (fun _ => nofun) fun s2 => nr_sc (t := .bl) rfl (by decide)
    · exact copy_1 (by decide +kernel) (by decide +kernel) rfl (fun _ => nofun) fun s2 => nr_sc (t := .non) rfl (by decide)
    · exact copy_1 (by decide +kernel) (by decide +kernel) rfl (fun _ => nofun) fun s2 => nr_sc (t := .str) rfl (by decide)
    · exact copy_1 (by decide +kernel) (by decide +kernel) rfl (fun _ => nofun) fun s2 => nr_sc (t := .tup) rfl (by decide)
    · exact copy_2 (fun x hx => by
        rw [List.mem_singleton.mp hx]; rfl) (by decide +kernel) (by decide) fun s2 k h => nr_sc h (by decide)
    · exact copy_3 g1 (by decide) rfl rfl (fun x hx => by cases hx) (fun x hx => by cases hx) fun s2 k h => nr_sc h (by decide)
  obtain ⟨d, more, e2, od⟩ := c
  have kp3 : Kp n (s1.set n b'.o) (s1.set n b'.o ++ more) := Kp.app
  have kp := (kp1.trans kp2).trans kp3
  refine ⟨d, s1.set n b'.o ++ more, b', ?_, ?_, ok', kp, ⟨od.val, od.top, fun k e => ?_, od.p⟩⟩
  · have dis : fLst (fCons (fC (.int 0)) (fCons (fUn oNeg (fC (.int 5))) (fCons (fC (.int 4)) (fCons (fC (.int 8)) (fCons (fC (.int 9)) (fCons (fC (.int 12)) (fCons (fC (.int 300)) (fCons (fC (.int 301)) (fCons (fC (.int 18)) (fCons (fC (.int 50)) (fCons (fC (.int 289)) (fCons (fOp oPow (fC (.int 10)) (fC (.int 29))) (fCons (fC (.bl true)) (fCons (fC .non) (fCons (fC (.str "5")) (fCons (fTup (fCons (fC (.int 5)) fNil)) (fCons (fLst (fCons (fC (.int 5)) fNil)) (fCons fDct0 fNil)))))))))))))))))) [some (.loc n)] st = .ok (.lst xs) s1 := by
      have d0 : ∀ (en : Z.Env) (s : Sto), fDct0 en s = .ok (.loc s.length) (s ++ [.dK [] []]) := fun _ _ => rfl
      have p29 : powOk 10 29 = true := by decide
      simp [d0, xs, s1, oPow_int p29]
    unfold m__law_odd_ring b__law_odd_ring
    generalize fLst _ = DD at dis ⊢
    generalize hxs : xs = X at dis e1
    simp [-Box.o, dis, e1, e2]
  · rw [List.getElem?_append_left (by rw [List.length_set]; exact hn1)]
    exact set_get hs1
  · obtain ⟨h1, h2⟩ := od.loc k e
    have := kp1.len
    rw [List.length_set] at h1
    exact ⟨by omega, h2⟩
end L

set_option maxHeartbeats 4000000
namespace L
open PySem PySem.Spec PyProof.Rows L2 Z
theorem Odd.lift {P : Sto → D → Prop} {base : Nat} {s s' : Sto} {d : D} (o : Odd P base s d) (x : SLe s s') (e : ∀ k, d = .loc k → s'[k]? = s[k]?) : Odd P base s' d :=
  ⟨val_le x 4 d o.val, o.top, fun k h => by rw [e k h]; exact o.loc k h, fun s2 y => o.p s2 (x.trans y)⟩
theorem Odd.lt {P : Sto → D → Prop} {base : Nat} {s : Sto} {d : D} (o : Odd P base s d) {k : Nat} (h : d = .loc k) : base ≤ k ∧ k < s.length := by
  obtain ⟨h1, o', h2, _⟩ := o.loc k h
  exact ⟨h1, (List.getElem?_eq_some_iff.mp h2).1⟩
theorem Odd.kp {P : Sto → D → Prop} {base n : Nat} {s s' : Sto} {d : D} (o : Odd P base s d) (x : Kp n s s') (hn : n < base) : Odd P base s' d :=
  o.lift x.le fun k h => by
    have := o.lt h
    exact x.eq k this.2 (by omega)
theorem very_odd {P : Sto → D → Prop} {base : Nat} {s : Sto} {d : D} (o : Odd P base s d) : ∃ s', m__law_very [d, d] s = .ok (.bl true) s' ∧ SLe s s' ∧ (∀ j, d ≠ .loc j → s'[j]? = s[j]?) ∧ s'.length = s.length := by
  rw [e_very]
  exact very_ok (n := 4) o.val (by decide) o.top fun k h u hu => by
    obtain ⟨_, o', h2, h3⟩ := o.loc k h
    rw [hu] at h2
    cases h2
    exact h3
/-- elder objects stay, the box aside -/
structure KB (n base : Nat) (s s' : Sto) : Prop where
  le : SLe s s'
  len : s.length ≤ s'.length
  eq : ∀ j, j < base → j ≠ n → s'[j]? = s[j]?
theorem KB.of {n base : Nat} {s s' : Sto} (x : Kp n s s') (h : base ≤ s.length) : KB n base s s' := ⟨x.le, x.len, fun j h1 h2 => x.eq j (by omega) h2⟩
theorem KB.trans {n base : Nat} {a b c : Sto} (x : KB n base a b) (y : KB n base b c) : KB n base a c := ⟨x.le.trans y.le, Nat.le_trans x.len y.len, fun j h1 h2 => by rw [y.eq j h1 h2, x.eq j h1 h2]⟩
theorem KB.refl {n base : Nat} {a : Sto} : KB n base a a := ⟨SLe.refl, Nat.le_refl _, fun _ _ _ => rfl⟩
def refBody : StmD := (sSeq (sPar3 5 6 7 (fCons (fCall m__law_odd_ring (fCons (fVar 0) fNil)) (fCons (fCall m__law_odd_number (fCons (fVar 0) fNil)) (fCons (fCall m__law_odd_number (fCons (fVar 0) fNil)) fNil))))
    (sSeq (sAsg (fCall m__law_met (fCons (fVar 4) (fCons (fVar 5) (fCons (fVar 6) (fCons (fVar 7) (fCons (fVar 3) fNil)))))) (gN 8))
    (sSeq (sIf (fOr (fTest (fOp oNe (fOp oIx (fVar 8) (fC (.int 0))) (fC (.str "ring")))) (fNot (fTru (fCall m__law_very (fCons (fOp oIx (fVar 8) (fC (.int 1))) (fCons (fVar 5) fNil)))))) (sRet (fC (.bl false))) sSkip)
    (sSeq (sAsg (fCall m__law_met (fCons (fVar 4) (fCons (fVar 1) (fCons (fVar 6) (fCons (fCall m__law_pick (fCons (fVar 0) (fCons (fLst (fCons (fVar 7) (fCons (fVar 2) fNil))) fNil))) (fCons (fNotV (fVar 3)) fNil)))))) (gN 8))
    (sSeq (sIf (fOr (fTest (fOp oNe (fOp oIx (fVar 8) (fC (.int 0))) (fC (.str "number")))) (fNot (fTru (fCall m__law_very (fCons (fOp oIx (fVar 8) (fC (.int 1))) (fCons (fVar 6) fNil)))))) (sRet (fC (.bl false))) sSkip)
    (sSeq (sIf (fTest (fOp (oCmp fun i j => decide (i < j)) (fVar 4) (fC (.int 2)))) (sSeq (sAsg (fCall m__law_met (fCons (fVar 4) (fCons (fVar 1) (fCons (fVar 2) (fCons (fVar 7) (fCons (fVar 3) fNil)))))) (gN 8))
    (sIf (fOr (fTest (fOp oNe (fOp oIx (fVar 8) (fC (.int 0))) (fC (.str "number")))) (fNot (fTru (fCall m__law_very (fCons (fOp oIx (fVar 8) (fC (.int 1))) (fCons (fVar 7) fNil)))))) (sRet (fC (.bl false))) sSkip)) sSkip)
    (sAsg (fNotV (fVar 3)) (gN 3))))))))
theorem b_ref : b__law_refused_right = sSeq (sFor (fRg1 (fCons (fC (.int 4)) fNil)) (gN 4) refBody) (sRet (fC (.bl true))) := rfl
theorem ref_turn {n base : Nat} {s0 : Sto} {b : Box} {C : Int} {r w : Int} {p : Nu} {nm : Bool} {x5 x6 x7 x8 : Option D} (hb : n < base) (hb2 : base ≤ s0.length) (hs : s0[n]? = some b.o) (ok : b.ok C) (hC : C < 900000000) (hr : ringB r = true) (hw : 0 ≤ w ∧ w < 4) :
    ∃ e s b', refBody [some (.loc n), some (.int r), some (nu p), some (.bl nm), some (.int w), x5, x6, x7, x8] s0 = .nx e s ∧ (∃ y5 y6 y7 y8, e = [some (.loc n), some (.int r), some (nu p), some (.bl !nm), some (.int w), y5, y6, y7, y8]) ∧ s[n]? = some (Box.o b') ∧ b'.ok (C + 4) ∧ KB n base s0 s := by
  obtain ⟨root, s1, b1, e1, h1, ok1, k1, o1⟩ := odd_ring hs ok (by omega)
  obtain ⟨bad, s2, b2, e2, h2, ok2, k2, o2⟩ := odd_number h1 ok1 (by omega)
  obtain ⟨last, s3, b3, e3, h3, ok3, k3, o3⟩ := odd_number h2 ok2 (by omega)
  have l1 := k1.len
  have l2 := k2.len
  have l3 := k3.len
  have root3 : Odd NR s0.length s3 root := (o1.kp (k2.trans k3) (by omega))
  have bad3 : Odd NN s1.length s3 bad := o2.kp k3 (by omega)
  have m1 : m__law_met [.int w, root, bad, last, .bl nm] s3 = .ok (.lst [.str "ring", root]) s3 := met_ring (ref_ring hw (root3.p s3 SLe.refl) (bad3.p s3 SLe.refl) (o3.p s3 SLe.refl))
  obtain ⟨s4, v1, le4, eq4, len4⟩ := very_odd root3
  have rn : ∀ k, root = .loc k → s0.length ≤ k ∧ k < s1.length := fun k h => o1.lt h
  have bn : ∀ k, bad = .loc k → s1.length ≤ k ∧ k < s2.length := fun k h => o2.lt h
  have ln : ∀ k, last = .loc k → s2.length ≤ k ∧ k < s3.length := fun k h => o3.lt h
  have h4 : s4[n]? = some b3.o := by
    rw [eq4 n fun h => by have := rn n h; omega]
    exact h3
  obtain ⟨y, hy, b4, pk, ok4⟩ := pickS s4 n b3 [last, nu p] (.lst [last, nu p]) (C + 1 + 1 + 1) (.inl rfl) h4 ok3 (by omega) (by simp) (by simp)
  have kp5 : Kp n s4 (s4.set n b4.o) := Kp.box h4
  have bad5 : Odd NN s1.length (s4.set n b4.o) bad := (bad3.lift le4 fun k h => eq4 k fun h' => by have := rn k h'; have := bn k h; omega).kp kp5 (by omega)
  have last5 : Odd NN s2.length (s4.set n b4.o) last := (o3.lift le4 fun k h => eq4 k fun h' => by have := rn k h'; have := ln k h; omega).kp kp5 (by omega)
  have ny : ∃ k, m_is_number [y] (s4.set n b4.o) = .ok (.bl k) (s4.set n b4.o) := by
    rcases List.mem_cons.mp hy with rfl | hy
    · exact ⟨false, last5.p _ SLe.refl⟩
    · rw [List.mem_singleton.mp hy]
      exact ⟨true, s_num p⟩
  obtain ⟨k, ny⟩ := ny
  have m2 : m__law_met [.int w, .int r, bad, y, .bl !nm] (s4.set n b4.o) = .ok (.lst [.str "number", bad]) (s4.set n b4.o) := met_number (ref_one hw (ring_true hr) (bad5.p _ SLe.refl) ny)
  obtain ⟨s6, v2, le6, eq6, len6⟩ := very_odd bad5
  have last6 : Odd NN s2.length s6 last := last5.lift le6 fun k h => eq6 k fun h' => by have := bn k h'; have := ln k h; omega
  have h6 : s6[n]? = some b4.o := by
    rw [eq6 n fun h => by have := bn n h; omega]
    exact set_get h4
  have kb4 : KB n base s3 s4 := ⟨le4, by omega, fun j hj _ => eq4 j fun h => by have := rn j h; omega⟩
  have kb6 : KB n base (s4.set n b4.o) s6 := ⟨le6, by omega, fun j hj _ => eq6 j fun h => by have := bn j h; omega⟩
  have kb : KB n base s0 s6 := ((((KB.of k1 hb2).trans (KB.of k2 (by omega))).trans (KB.of k3 (by omega))).trans kb4).trans ((KB.of kp5 (by omega)).trans kb6)
  generalize hS : s4.set n b4.o = s5 at *
  have a0 : ∀ (a c : D), oIx (.lst [a, c]) (.int 0) = fun st => .ok a st := fun _ _ => rfl
  by_cases hw2 : w < 2
  · have m3 : m__law_met [.int w, .int r, nu p, last, .bl nm] s6 = .ok (.lst [.str "number", last]) s6 := met_number (ref_two ⟨hw.1, hw2⟩ (ring_true hr) (s_num p) (last6.p _ SLe.refl))
    obtain ⟨s7, v3, le7, eq7, len7⟩ := very_odd last6
    have h7 : s7[n]? = some b4.o := by
      rw [eq7 n fun h => by have := ln n h; omega]
      exact h6
    have kb7 : KB n base s6 s7 := ⟨le7, by omega, fun j hj _ => eq7 j fun h => by have := ln j h; omega⟩
    refine ⟨_, s7, b4, ?_, ⟨some root, some bad, some last, some (.lst [.str "number", last]), rfl⟩, h7, ok4.mono (by omega), kb.trans kb7⟩
    simp [-nu, -Box.o, refBody, e1, e2, e3, m1, v1, pk, m2, v2, hw2, m3, v3, atI, ixN, hS]
  · refine ⟨_, s6, b4, ?_, ⟨some root, some bad, some last, some (.lst [.str "number", bad]), rfl⟩, h6, ok4.mono (by omega), kb⟩
    simp [-nu, -Box.o, refBody, e1, e2, e3, m1, v1, pk, m2, v2, hw2, atI, ixN, hS]
theorem refused_right {n : Nat} {st : Sto} {b : Box} {C : Int} {r : Int} {p : Nu} (nm : Bool) (hs : st[n]? = some b.o) (ok : b.ok C) (hC : C < 800000000) (hr : ringB r = true) (hc : Cl st) :
    ∃ b', m__law_refused_right [.loc n, .int r, nu p, .bl nm] st = .ok (.bl true) (st.set n (Box.o b')) ∧ b'.ok (C + 16) := by
  have hn := (List.getElem?_eq_some_iff.mp hs).1
  obtain ⟨e, s, fo, b', y3, y4, y5, y6, y7, y8, rfl, h1, h2, h3⟩ := forD_inv (g := gN 4) (body := refBody)
    (P := fun j e s => ∃ (b' : Box) (y3 : Bool) (y4 y5 y6 y7 y8 : Option D), e = [some (.loc n), some (.int r), some (nu p), some (.bl y3), y4, y5, y6, y7, y8] ∧ s[n]? = some b'.o ∧ b'.ok (C + 4 * j) ∧ KB n st.length st s)
    (rgD 0 1 4) 0 [some (.loc n), some (.int r), some (nu p), some (.bl nm), none, none, none, none, none] st ⟨b, nm, none, none, none, none, none, rfl, hs, by simpa using ok, KB.refl⟩ (by
      rintro j x en s1 hx ⟨b1, y3, y4, y5, y6, y7, y8, rfl, g1, g2, g3⟩
      obtain ⟨hj, rfl⟩ := rgD_get hx
      obtain ⟨e2, s2, b2, q1, ⟨z5, z6, z7, z8, rfl⟩, q2, q3, q4⟩ := ref_turn (nm := y3) (p := p) (x5 := y5) (x6 := y6) (x7 := y7) (x8 := y8) (w := 0 + (j : Int) * 1) hn g3.len g1 g2 (by omega) hr (by omega)
      exact ⟨_, _, _, _, rfl, .inl q1, b2, !y3, _, z5, z6, z7, z8, rfl, q2, q3.mono (by omega), g3.trans q4⟩)
  have hl : s.take st.length = st.set n b'.o := by
    have hlen := h3.len
    apply List.ext_getElem?
    intro j
    by_cases hj : j < st.length
    · rw [List.getElem?_take_of_lt hj]
      by_cases hjn : n = j
      · subst hjn
        rw [h1, List.getElem?_set_self hn]
      · rw [List.getElem?_set_ne hjn, h3.eq j hj fun z => hjn z.symm]
    · rw [List.getElem?_eq_none (by rw [List.length_take]; omega), List.getElem?_eq_none (by rw [List.length_set]; omega)]
  have run : runFn 9 b__law_refused_right [.loc n, .int r, nu p, .bl nm] st = .ok (.bl true) s := by
    have rg : fRg1 (fCons (fC (.int 4)) fNil) [some (.loc n), some (.int r), some (nu p), some (.bl nm), none, none, none, none, none] st = .ok (.fz (rgD 0 1 4)) st := rg1_ok (n := 4) (by simp) (by decide)
    rw [b_ref]
    simp [-nu, rg, fo]
  have hcl : (st.set n b'.o).all (Ob.lt st.length) = true := by
    rw [List.all_eq_true]
    intro o ho
    rcases List.mem_or_eq_of_mem_set ho with q | q
    · exact List.all_eq_true.mp hc o q
    · rw [q] <;> rfl
  refine ⟨b', ?_, h2.mono (by rw [rgD_len]; omega)⟩
  have g := gcT_ok run rfl (by rw [hl]; exact hcl)
  rw [hl] at g
  exact g
end L

set_option maxHeartbeats 4000000
namespace L
open PySem PySem.Spec PyProof.Rows L2 Z
section
variable {st : Sto} {n : Nat} {b : Box} {C : Int}
theorem tkB (many : Int) (hn : n < st.length) (ok : b.ok C) (hC : C < 1000000000) (hm : 0 < many) (hl : many.natAbs.log2 < 9000) : ∃ (r : Int) (b' : Box), m__law_take [.loc n, .int many] (st.set n b.o) = .ok (.int r) (st.set n b'.o) ∧ 0 ≤ r ∧ r < many ∧ b'.ok (C + 1) := by
  obtain ⟨r, b', e, h1, h2, h3⟩ := takeS (st.set n b.o) n b many C (List.getElem?_set_self hn) ok hC hm hl
  rw [List.set_set] at e
  exact ⟨r, b', e, h1, h2, h3⟩
theorem pkB (xs : List D) (hn : n < st.length) (ok : b.ok C) (hC : C < 1000000000) (hx : xs ≠ []) (hl : xs.length < 1000000) : ∃ x ∈ xs, ∃ b' : Box, m__law_pick [.loc n, .lst xs] (st.set n b.o) = .ok x (st.set n b'.o) ∧ b'.ok (C + 1) := by
  obtain ⟨x, hx, b', e, h3⟩ := pickS (st.set n b.o) n b xs (.lst xs) C (.inl rfl) (List.getElem?_set_self hn) ok hC hx hl
  rw [List.set_set] at e
  exact ⟨x, hx, b', e, h3⟩
theorem rg3_ok {ga : ArgD} {env : Z.Env} {s : Sto} {i j c : Int} {k : Nat} (h : ga env s = .ok [.int i, .int j, .int c] s) (hr : RgC i j c k) : fRg3 ga env s = .ok (.fz (rgD i c k)) s := by
  obtain ⟨h0, h1, h2, h3⟩ := hr
  have e : rg3 i j c = some k := by
    unfold rg3
    rw [if_neg h0, if_pos h1]
    simp only [h2, h3, Int.toNat_natCast]
  have e2 : decide (Builtin.Range.rangeSize i j c = (k : Int)) = true := decide_eq_true h3
  unfold fRg3
  rw [h, Res.bind_ok]
  simp only [three?, e, e2]
def rootBody : StmD := sIf (fTru (fCall m__law_is_root (fCons (fVar 3) fNil))) (sRet (fVar 3)) sSkip
theorem root_loop : ∀ (xs : List D) (a0 a1 a2 a3 : Option D) (s : Sto), (∀ x ∈ xs, ∃ k : Int, x = .int k) → (∃ e, forD (gN 3) rootBody xs [a0, a1, a2, a3] s = .nx e s) ∨ ∃ d, ringB d = true ∧ forD (gN 3) rootBody xs [a0, a1, a2, a3] s = .rt (.int d) s
  | [], _, _, _, _, s, _ => .inl ⟨_, rfl⟩
  | x :: xs, a0, a1, a2, a3, s, h => by
    obtain ⟨k, rfl⟩ := h x List.mem_cons_self
    have ih := root_loop xs a0 a1 a2 (some (.int k)) s fun y hy => h y (List.mem_cons_of_mem _ hy)
    cases hk : ringB k with
    | true => exact .inr ⟨k, hk, by simp [rootBody, s_is_root, hk]⟩
    | false =>
      have e : forD (gN 3) rootBody (.int k :: xs) [a0, a1, a2, a3] s = forD (gN 3) rootBody xs [a0, a1, a2, some (.int k)] s := by
        have eb : rootBody [a0, a1, a2, some (.int k)] s = .nx [a0, a1, a2, some (.int k)] s := by simp [rootBody, s_is_root, hk]
        rw [forD_cons, ev_gN, k_f1_ok]
        show k_f2 _ _ _ (rootBody [a0, a1, a2, some (.int k)] s) = _
        rw [eb, k_f2_nx]
      rw [e]
      exact ih
theorem s_roots (s : Sto) : ∃ xs, m__law_roots [] s = .ok (.lst xs) s ∧ xs ≠ [] ∧ xs.length < 1000000 ∧ ∀ x ∈ xs, ∃ k, x = .int k ∧ ringB k = true := by
  refine ⟨[.int 5, .int 14, .int 23, .int 6, .int 21, .int 1, .int 2, .int 3, .int 15, .int 30, .int 31, .int 33, .int 42, .int 47, .int 65, .int 71, .int 105, .int 210, .int 239, .int 290, .int 7, .int 11, .int 10, .int 13], by simp [m__law_roots, b__law_roots], by simp, by simp, fun x hx => ?_⟩
  simp only [List.mem_cons, List.not_mem_nil, or_false] at hx
  rcases hx with rfl | rfl | rfl | rfl | rfl | rfl | rfl | rfl | rfl | rfl | rfl | rfl | rfl | rfl | rfl | rfl | rfl | rfl | rfl | rfl | rfl | rfl | rfl | rfl <;> exact ⟨_, rfl, by decide +kernel⟩
def rootF : ExpD := fIf (fTest (fOp oEq (fVar 1) (fC (.int 2)))) (fOp oAdd (fC (.int 1)) (fCall m__law_take (fCons (fVar 0) (fCons (fC (.int 300)) fNil)))) (fC (.int 300))
theorem b_root : b__law_ring_root = (sSeq (sAsg (fCall m__law_take (fCons (fVar 0) (fCons (fC (.int 4)) fNil))) (gN 1))
    (sSeq (sIf (fTest (fOp (oCmp fun i j => decide (i < j)) (fVar 1) (fC (.int 2)))) (sRet (fCall m__law_pick (fCons (fVar 0) (fCons (fCall m__law_roots fNil) fNil)))) sSkip)
    (sSeq (sAsg rootF (gN 2))
    (sSeq (sFor (fRg3 (fCons (fVar 2) (fCons (fC (.int 0)) (fCons (fUn oNeg (fC (.int 1))) fNil)))) (gN 3) rootBody)
    (sRet (fC (.int 1))))))) := rfl
theorem ring_root (hn : n < st.length) (ok : b.ok C) (hC : C < 900000000) : ∃ d b', m__law_ring_root [.loc n] (st.set n b.o) = .ok (.int d) (st.set n (Box.o b')) ∧ ringB d = true ∧ b'.ok (C + 2) := by
  obtain ⟨way, b1, e1, w0, w1, ok1⟩ := tkB (st := st) 4 hn ok (by omega) (by decide) (by decide)
  unfold m__law_ring_root
  rw [b_root]
  by_cases h2 : way < 2
  · obtain ⟨xs, er, hne, hl, hx⟩ := s_roots (st.set n b1.o)
    obtain ⟨x, hxm, b2, e2, ok2⟩ := pkB (st := st) xs hn ok1 (by omega) hne hl
    obtain ⟨k, rfl, hk⟩ := hx x hxm
    exact ⟨k, b2, by simp [-Box.o, e1, h2, er, e2], hk, ok2.mono (by omega)⟩
  · have key : ∀ (first : Int) (b2 : Box), 1 ≤ first → first ≤ 300 → b2.ok (C + 2) → rootF [some (.loc n), some (.int way), none, none] (st.set n b1.o) = .ok (.int first) (st.set n b2.o) →
        ∃ d b', runFn 4 (sSeq (sAsg (fCall m__law_take (fCons (fVar 0) (fCons (fC (.int 4)) fNil))) (gN 1))
    (sSeq (sIf (fTest (fOp (oCmp fun i j => decide (i < j)) (fVar 1) (fC (.int 2)))) (sRet (fCall m__law_pick (fCons (fVar 0) (fCons (fCall m__law_roots fNil) fNil)))) sSkip)
    (sSeq (sAsg rootF (gN 2))
    (sSeq (sFor (fRg3 (fCons (fVar 2) (fCons (fC (.int 0)) (fCons (fUn oNeg (fC (.int 1))) fNil)))) (gN 3) rootBody)
    (sRet (fC (.int 1))))))) [.loc n] (st.set n b.o) = .ok (.int d) (st.set n (Box.o b')) ∧ ringB d = true ∧ b'.ok (C + 2) := fun first b2 f1 f2 ok2 ef => by
      have rc : RgC first 0 (-1) first.toNat := by
        have q := RgC.neg (i := first) (j := 0) (by omega) (by omega) (by decide) (by decide)
        rw [Int.sub_zero] at q
        exact q
      have rg : fRg3 (fCons (fVar 2) (fCons (fC (.int 0)) (fCons (fUn oNeg (fC (.int 1))) fNil))) [some (.loc n), some (.int way), some (.int first), none] (st.set n b2.o) = .ok (.fz (rgD first (-1) first.toNat)) (st.set n b2.o) := rg3_ok (by simp) rc
      rcases root_loop (rgD first (-1) first.toNat) (some (.loc n)) (some (.int way)) (some (.int first)) none (st.set n b2.o) (fun x hx => by
        obtain ⟨i, _, e⟩ := rgD_mem hx
        exact ⟨_, e⟩) with ⟨e, hl⟩ | ⟨d, hd, hl⟩
      · exact ⟨1, b2, by simp [-Box.o, e1, h2, ef, rg, hl], by decide +kernel, ok2⟩
      · exact ⟨d, b2, by simp [-Box.o, e1, h2, ef, rg, hl], hd, ok2⟩
    by_cases h3 : way = 2
    · obtain ⟨f, b2, e2, f0, f1, ok2⟩ := tkB (st := st) 300 hn ok1 (by omega) (by decide) (by decide)
      exact key (1 + f) b2 (by omega) (by omega) (ok2.mono (by omega)) (by simp [-Box.o, rootF, h3, e2])
    · exact key 300 b1 (by decide) (by decide) (ok1.mono (by omega)) (by simp [-Box.o, rootF, h3])
/-! some number -/
theorem sz_pow {k j : Nat} (h : j ≤ 29) (hk : k = 10 ^ j) : Sz 100 (k : Int) ∧ 1 ≤ k := by
  have h1 : 10 ^ j ≤ 10 ^ 29 := Nat.pow_le_pow_right (by decide) h
  have h2 : (10 : Nat) ^ 29 < 2 ^ 100 := by decide
  have h3 : 0 < 10 ^ j := Nat.pow_pos (by decide)
  unfold Sz
  rw [Int.natAbs_natCast]
  omega
def numBody : StmD := (sAsg (fOp oMul (fVar 3) (fC (.int 10))) (gN 3))
theorem num_loop {F way : Int} (m : Nat) (hm : m ≤ 29) (s : Sto) : ∃ x4, forD (gN 4) numBody (rgD 0 1 m) [some (.loc n), some (.int F), some (.int way), some (.int 1), none, none, none] s = .nx [some (.loc n), some (.int F), some (.int way), some (.int ((10 ^ m : Nat) : Int)), x4, none, none] s := by
  obtain ⟨e, s2, fo, rfl, x4, rfl⟩ := forD_inv (g := gN 4) (body := numBody) (P := fun j e s' => s' = s ∧ ∃ x4 : Option D, e = [some (.loc n), some (.int F), some (.int way), some (.int ((10 ^ j : Nat) : Int)), x4, none, none])
    (rgD 0 1 m) 0 [some (.loc n), some (.int F), some (.int way), some (.int 1), none, none, none] s ⟨rfl, none, rfl⟩ (by
      rintro j x en s1 hx ⟨rfl, x4, rfl⟩
      obtain ⟨hj, rfl⟩ := rgD_get hx
      have mo : mulOk ((10 ^ (0 + j) : Nat) : Int) 10 = true := mulOk_r (by decide)
      have e1 : ((10 ^ (0 + j) : Nat) : Int) * 10 = ((10 ^ (0 + j + 1) : Nat) : Int) := by
        rw [Nat.pow_succ]
        omega
      generalize ((10 ^ (0 + j) : Nat) : Int) = G at mo e1 ⊢
      exact ⟨[some (.loc n), some (.int F), some (.int way), some (.int G), some (.int (0 + (j : Int) * 1)), none, none], s1, [some (.loc n), some (.int F), some (.int way), some (.int (G * 10)), some (.int (0 + (j : Int) * 1)), none, none], s1, rfl, .inl (by simp [numBody, oMul_int mo]), rfl, some (.int (0 + (j : Int) * 1)), by rw [e1]⟩)
  refine ⟨x4, ?_⟩
  rw [rgD_len, Nat.zero_add] at fo
  exact fo
theorem b_num : b__law_some_number = (sSeq (sPar 2 3 (fCons (fCall m__law_take (fCons (fVar 0) (fCons (fC (.int 7)) fNil))) (fCons (fC (.int 1)) fNil)))
    (sSeq (sFor (fRg1 (fCons (fOp oSub (fVar 1) (fC (.int 1))) fNil)) (gN 4) numBody)
    (sSeq (sPar 5 6 (fCons (fOp oIx (fLst (fCons (fC (.int 1)) (fCons (fUn oNeg (fC (.int 1))) fNil))) (fCall m__law_take (fCons (fVar 0) (fCons (fC (.int 2)) fNil)))) (fCons (fOp oIx (fLst (fCons (fC (.int 1)) (fCons (fUn oNeg (fC (.int 1))) fNil))) (fCall m__law_take (fCons (fVar 0) (fCons (fC (.int 2)) fNil)))) fNil)))
    (sSeq (sIf (fTest (fOp (oCmp fun i j => decide (i < j)) (fVar 2) (fC (.int 3)))) (sRet (fTup (fCons (fOp oSub (fCall m__law_take (fCons (fVar 0) (fCons (fC (.int 19)) fNil))) (fC (.int 9))) (fCons (fOp oSub (fCall m__law_take (fCons (fVar 0) (fCons (fC (.int 19)) fNil))) (fC (.int 9))) fNil)))) sSkip)
    (sSeq (sIf (fTest (fOp oEq (fVar 2) (fC (.int 3)))) (sRet (fIf (fTest (fOp oEq (fVar 6) (fC (.int 1)))) (fTup (fCons (fOp oMul (fVar 5) (fCall m__law_take (fCons (fVar 0) (fCons (fC (.int 30)) fNil)))) (fCons (fC (.int 0)) fNil))) (fTup (fCons (fC (.int 0)) (fCons (fOp oMul (fVar 5) (fCall m__law_take (fCons (fVar 0) (fCons (fC (.int 30)) fNil)))) fNil))))) sSkip)
    (sSeq (sIf (fTest (fOp oEq (fVar 2) (fC (.int 4)))) (sRet (fCall m__law_pick (fCons (fVar 0) (fCons (fLst (fCons (fTup (fCons (fC (.int 0)) (fCons (fC (.int 0)) fNil))) (fCons (fTup (fCons (fC (.int 1)) (fCons (fC (.int 0)) fNil))) (fCons (fTup (fCons (fC (.int 0)) (fCons (fC (.int 1)) fNil))) (fCons (fTup (fCons (fUn oNeg (fC (.int 1))) (fCons (fC (.int 0)) fNil))) (fCons (fTup (fCons (fC (.int 0)) (fCons (fUn oNeg (fC (.int 1))) fNil))) (fCons (fTup (fCons (fC (.int 1)) (fCons (fC (.int 1)) fNil))) (fCons (fTup (fCons (fC (.int 1)) (fCons (fUn oNeg (fC (.int 1))) fNil))) fNil)))))))) fNil)))) sSkip)
    (sRet (fTup (fCons (fOp oMul (fVar 5) (fOp oAdd (fVar 3) (fCall m__law_take (fCons (fVar 0) (fCons (fOp oMul (fC (.int 9)) (fVar 3)) fNil))))) (fCons (fOp oMul (fVar 6) (fIf (fTest (fOp oEq (fVar 2) (fC (.int 5)))) (fOp oAdd (fVar 3) (fCall m__law_take (fCons (fVar 0) (fCons (fOp oMul (fC (.int 9)) (fVar 3)) fNil)))) (fCall m__law_take (fCons (fVar 0) (fCons (fC (.int 9)) fNil))))) fNil)))))))))) := rfl
theorem sign_at {r : Int} (h0 : 0 ≤ r) (h1 : r < 2) : ∃ g : Int, (g = 1 ∨ g = -1) ∧ atI [D.int 1, D.int (-1)] r = some (.int g) := by
  have : r = 0 ∨ r = 1 := by omega
  rcases this with rfl | rfl
  · exact ⟨1, .inl rfl, rfl⟩
  · exact ⟨-1, .inr rfl, rfl⟩
theorem mul_sign {g x : Int} (h : g = 1 ∨ g = -1) : mulOk g x = true ∧ (g * x).natAbs = x.natAbs := by
  rcases h with rfl | rfl
  · exact ⟨mulOk_l (by decide), by rw [Int.one_mul]⟩
  · exact ⟨mulOk_l (by decide), by omega⟩
theorem some_number {F : Nat} (hF : 1 ≤ F) (hF2 : F ≤ 30) (hn : n < st.length) (ok : b.ok C) (hC : C < 900000000) : ∃ q b', m__law_some_number [.loc n, .int F] (st.set n b.o) = .ok (nu q) (st.set n (Box.o b')) ∧ Sz2 110 q ∧ b'.ok (C + 6) := by
  obtain ⟨way, b1, e1, w0, w1, ok1⟩ := tkB (st := st) 7 hn ok (by omega) (by decide) (by decide)
  obtain ⟨r2, b2, e2, p0, p1, ok2⟩ := tkB (st := st) 2 hn ok1 (by omega) (by decide) (by decide)
  obtain ⟨r3, b3, e3, q0, q1, ok3⟩ := tkB (st := st) 2 hn ok2 (by omega) (by decide) (by decide)
  obtain ⟨sg, hsg, as⟩ := sign_at p0 p1
  obtain ⟨ot, hot, ao⟩ := sign_at q0 q1
  obtain ⟨x4, lp⟩ := num_loop (n := n) (F := F) (way := way) (F - 1) (by omega) (st.set n b1.o)
  have rg : fRg1 (fCons (fOp oSub (fVar 1) (fC (.int 1))) fNil) [some (.loc n), some (.int F), some (.int way), some (.int 1), none, none, none] (st.set n b1.o) = .ok (.fz (rgD 0 1 (F - 1))) (st.set n b1.o) := rg1_ok (n := F - 1) (by
    simp
    omega) (by omega)
  have hG : ∃ G : Int, ((10 ^ (F - 1) : Nat) : Int) = G ∧ 1 ≤ G ∧ G < 2 ^ 100 := by
    obtain ⟨h1, h2⟩ := sz_pow (k := 10 ^ (F - 1)) (j := F - 1) (by omega) rfl
    unfold Sz at h1
    rw [Int.natAbs_natCast] at h1
    exact ⟨_, rfl, by omega, by omega⟩
  obtain ⟨G, eG, g1, g2⟩ := hG
  rw [eG] at lp
  unfold m__law_some_number
  rw [b_num]
  have sm : ∀ {x : Int}, x.natAbs < 2 ^ 110 → Sz 110 x := fun h => h
  have two : mulOk 9 G = true := mulOk_l (by decide)
  have h9 : (9 * G).natAbs.log2 < 9000 := by
    have : (9 * G).natAbs < 2 ^ 110 := by omega
    have z : (9 * G).natAbs ≠ 0 := by omega
    have := (Nat.log2_lt z).mpr this
    omega
  by_cases c3 : way < 3
  · obtain ⟨r4, b4, e4, s0, s1, ok4⟩ := tkB (st := st) 19 hn ok3 (by omega) (by decide) (by decide)
    obtain ⟨r5, b5, e5, t0, t1, ok5⟩ := tkB (st := st) 19 hn ok4 (by omega) (by decide) (by decide)
    exact ⟨(r4 - 9, r5 - 9), b5, by simp [-Box.o, e1, rg, lp, e2, as, e3, ao, c3, e4, e5], ⟨sm (by show (r4 - 9).natAbs < _; omega), sm (by show (r5 - 9).natAbs < _; omega)⟩, ok5.mono (by omega)⟩
  · by_cases c4 : way = 3
    · subst c4
      obtain ⟨r4, b4, e4, s0, s1, ok4⟩ := tkB (st := st) 30 hn ok3 (by omega) (by decide) (by decide)
      obtain ⟨mo, na⟩ := mul_sign (x := r4) hsg
      by_cases co : ot = 1
      · subst co
        exact ⟨(sg * r4, 0), b4, by simp [-Box.o, e1, rg, lp, e2, as, e3, ao, e4, oMul_int mo], ⟨sm (by show (sg * r4).natAbs < _; omega), sm (by show (0 : Int).natAbs < _; decide)⟩, ok4.mono (by omega)⟩
      · exact ⟨(0, sg * r4), b4, by simp [-Box.o, e1, rg, lp, e2, as, e3, ao, co, e4, oMul_int mo], ⟨sm (by show (0 : Int).natAbs < _; decide), sm (by show (sg * r4).natAbs < _; omega)⟩, ok4.mono (by omega)⟩
    · by_cases c5 : way = 4
      · subst c5
        obtain ⟨x, hx, b4, e4, ok4⟩ := pkB (st := st) [nu (0, 0), nu (1, 0), nu (0, 1), nu (-1, 0), nu (0, -1), nu (1, 1), nu (1, -1)] hn ok3 (by omega) (by simp) (by simp)
        have hx2 : ∃ q : Nu, x = nu q ∧ Sz2 110 q := by
          simp only [List.mem_cons, List.not_mem_nil, or_false] at hx
          rcases hx with rfl | rfl | rfl | rfl | rfl | rfl | rfl <;> exact ⟨_, rfl, by unfold Sz2 Sz; decide⟩
        obtain ⟨q, rfl, hq⟩ := hx2
        refine ⟨q, b4, ?_, hq, ok4.mono (by omega)⟩
        simp only [nu] at e4
        simp [-Box.o, e1, rg, lp, e2, as, e3, ao, e4]
      · obtain ⟨r4, b4, e4, s0, s1, ok4⟩ := tkB (st := st) (9 * G) hn ok3 (by omega) (by omega) h9
        obtain ⟨mo1, na1⟩ := mul_sign (x := G + r4) hsg
        by_cases c6 : way = 5
        · subst c6
          obtain ⟨r5, b5, e5, t0, t1, ok5⟩ := tkB (st := st) (9 * G) hn ok4 (by omega) (by omega) h9
          obtain ⟨mo2, na2⟩ := mul_sign (x := G + r5) hot
          exact ⟨(sg * (G + r4), ot * (G + r5)), b5, by simp [-Box.o, e1, rg, lp, e2, as, e3, ao, oMul_int two, e4, e5, oMul_int mo1, oMul_int mo2], ⟨sm (by show (sg * (G + r4)).natAbs < _; omega), sm (by show (ot * (G + r5)).natAbs < _; omega)⟩, ok5.mono (by omega)⟩
        · obtain ⟨r5, b5, e5, t0, t1, ok5⟩ := tkB (st := st) 9 hn ok4 (by omega) (by decide) (by decide)
          obtain ⟨mo2, na2⟩ := mul_sign (x := r5) hot
          exact ⟨(sg * (G + r4), ot * r5), b5, by simp [-Box.o, e1, rg, lp, e2, as, e3, ao, c3, c4, c5, c6, oMul_int two, e4, e5, oMul_int mo1, oMul_int mo2], ⟨sm (by show (sg * (G + r4)).natAbs < _; omega), sm (by show (ot * r5).natAbs < _; omega)⟩, ok5.mono (by omega)⟩
end
end L

set_option maxHeartbeats 4000000
namespace L
open PySem PySem.Spec PyProof.Rows L2 Z
section
variable {st : Sto} {n : Nat} {b : Box} {C : Int}
theorem rg302 {first : Int} (h0 : 0 ≤ first) (h1 : first < 4) : ∃ k, RgC first 302 4 k := by
  have : first = 0 ∨ first = 1 ∨ first = 2 ∨ first = 3 := by omega
  rcases this with rfl | rfl | rfl | rfl
  · exact ⟨(Builtin.Range.rangeSize 0 302 4).toNat, by decide, by decide, by decide +kernel, by decide +kernel⟩
  · exact ⟨(Builtin.Range.rangeSize 1 302 4).toNat, by decide, by decide, by decide +kernel, by decide +kernel⟩
  · exact ⟨(Builtin.Range.rangeSize 2 302 4).toNat, by decide, by decide, by decide +kernel, by decide +kernel⟩
  · exact ⟨(Builtin.Range.rangeSize 3 302 4).toNat, by decide, by decide, by decide +kernel, by decide +kernel⟩
def rrB1 : StmD := (sSeq (sIf (fNot (fTru (fCall (m__law_same 12) (fCons (fIf (fTru (fVar 1)) (fCallK m_is_ring [0] (fCons (fVar 3) fNil)) (fCall m_is_ring (fCons (fVar 3) fNil))) (fCons (fCall m__law_is_root (fCons (fVar 3) fNil)) fNil))))) (sRet (fC (.bl false))) sSkip)
    (sAsg (fNotV (fVar 1)) (gN 1)))
def rrB2 : StmD := (sSeq (sIf (fNot (fTru (fCall (m__law_same 12) (fCons (fIf (fTru (fVar 1)) (fCall m_is_ring (fCons (fVar 3) fNil)) (fCallK m_is_ring [0] (fCons (fCall (m__law_copy 12) (fCons (fVar 3) fNil)) fNil))) (fCons (fCall m__law_is_root (fCons (fVar 3) fNil)) fNil))))) (sRet (fC (.bl false))) sSkip)
    (sAsg (fNotV (fVar 1)) (gN 1)))
def rrT : ExpD := (fTup (fCons (fC .non) (fCons (fC (.bl true)) (fCons (fC (.bl false)) (fCons (fC (.str "5")) (fCons (fTup (fCons (fC (.int 5)) fNil)) (fCons (fLst (fCons (fC (.int 5)) fNil)) (fCons fDct0 (fCons (fUn oNeg (fC (.int 1))) (fCons (fUn oNeg (fC (.int 5))) (fCons (fOp oPow (fC (.int 10)) (fC (.int 29))) (fCons (fOp oMul (fC (.int 5)) (fOp oPow (fC (.int 10)) (fC (.int 28)))) (fCons (fC (.int 293)) (fCons (fC (.int 299)) (fCons (fC (.int 294)) (fCons (fC (.int 295)) (fCons (fC (.int 289)) (fCons (fC (.int 242)) (fCons (fC (.int 245)) (fCons (fC (.int 1)) (fCons (fC (.int 2)) (fCons (fC (.int 4)) fNil))))))))))))))))))))))
theorem b_rr : b__law_roots_right = (sSeq (sAsg (fCall m__law_take (fCons (fVar 0) (fCons (fC (.int 4)) fNil))) (gN 2))
    (sSeq (sFor (fRg3 (fCons (fVar 2) (fCons (fC (.int 302)) (fCons (fC (.int 4)) fNil)))) (gN 3) rrB1)
    (sSeq (sFor (fIt rrT) (gN 3) rrB2)
    (sRet (fC (.bl true)))))) := rfl
theorem same_b {k : Bool} {s : Sto} : m__law_same 12 [.bl k, .bl k] s = .ok (.bl true) s := same_of rfl
/-- a value that both judge alike, its copy too -/
def RR (s : Sto) (x : D) : Prop := ∃ k, (∀ s2, SLe s s2 → m_is_ring [x] s2 = .ok (.bl k) s2 ∧ m__law_is_root [x] s2 = .ok (.bl k) s2) ∧ ∀ s2 : Sto, (∀ j, j < s.length → s2[j]? = s[j]?) → CopyR (fun s d => m_is_ring [d] s = .ok (.bl k) s) s2 x
theorem rr_int {s : Sto} (v : Int) : RR s (.int v) := ⟨ringB v, fun s2 _ => ⟨s_ring, s_is_root⟩, fun s2 _ => copy_1 rfl rfl rfl (fun _ => nofun) fun _ => s_ring⟩
theorem rr_sc {s : Sto} {x : D} {t : PT} (ht : ∀ s, tyD s x = some t) (hn : t ≠ .int) (h1 : ptD 3 x = true) (h2 : flatD 4 x = true) (h3 : topD x = true) (h4 : ∀ k, x ≠ .loc k) : RR s x := ⟨false, fun s2 _ => ⟨s_ring_no (ht s2) hn, s_is_root_no (ht s2) hn⟩, fun s2 _ => copy_1 h1 h2 h3 h4 fun s3 => s_ring_no (ht s3) hn⟩
theorem rr_turn {s0 s : Sto} {x : D} {nm : Bool} {a0 a2 : Option D} (h : RR s0 x) (le : SLe s0 s) (eq : ∀ j, j < s0.length → s[j]? = s0[j]?) :
    ∃ s', rrB2 [a0, some (.bl nm), a2, some x] s = .nx [a0, some (.bl !nm), a2, some x] s' ∧ SLe s0 s' ∧ (∀ j, j < s0.length → s'[j]? = s0[j]?) ∧ s.length ≤ s'.length := by
  obtain ⟨k, h1, h2⟩ := h
  cases nm with
  | true =>
    obtain ⟨e1, e2⟩ := h1 s le
    exact ⟨s, by simp [rrB2, e1, e2, same_b], le, eq, Nat.le_refl _⟩
  | false =>
    obtain ⟨d, more, e3, od⟩ := h2 s eq
    have e4 := od.p _ SLe.refl
    obtain ⟨_, e2⟩ := h1 (s ++ more) (le.trans SLe.app)
    refine ⟨s ++ more, by simp [rrB2, e3, perm, e4, e2, same_b], le.trans SLe.app, fun j hj => ?_, by rw [List.length_append]; omega⟩
    have hl : j < s.length := by
      have e := eq j hj
      rw [List.getElem?_eq_getElem hj] at e
      exact (List.getElem?_eq_some_iff.mp e).1
    rw [List.getElem?_append_left hl, eq j hj]
theorem roots_right (nm : Bool) (hs : st[n]? = some b.o) (ok : b.ok C) (hC : C < 900000000) (hc : Cl st) :
    ∃ b', m__law_roots_right [.loc n, .bl nm] st = .ok (.bl true) (st.set n (Box.o b')) ∧ b'.ok (C + 1) := by
  have hn := (List.getElem?_eq_some_iff.mp hs).1
  obtain ⟨first, b1, e1, f0, f1, ok1⟩ := takeS st n b 4 C hs ok (by omega) (by decide) (by decide)
  obtain ⟨k, rc⟩ := rg302 f0 f1
  generalize hS : st.set n b1.o = s0 at e1
  have rg : fRg3 (fCons (fVar 2) (fCons (fC (.int 302)) (fCons (fC (.int 4)) fNil))) [some (.loc n), some (.bl nm), some (.int first), none] s0 = .ok (.fz (rgD first 4 k)) s0 := rg3_ok (by simp) rc
  obtain ⟨e, s, fo1, rfl, nm2, x3, rfl⟩ := forD_inv (g := gN 3) (body := rrB1) (P := fun j e s => s = s0 ∧ ∃ (nm : Bool) (x3 : Option D), e = [some (.loc n), some (.bl nm), some (.int first), x3])
    (rgD first 4 k) 0 [some (.loc n), some (.bl nm), some (.int first), none] s0 ⟨rfl, nm, none, rfl⟩ (by
      rintro j x en s1 hx ⟨rfl, nm2, x3, rfl⟩
      obtain ⟨hj, rfl⟩ := rgD_get hx
      refine ⟨[some (.loc n), some (.bl nm2), some (.int first), some (.int (first + (j : Int) * 4))], s1, [some (.loc n), some (.bl !nm2), some (.int first), some (.int (first + (j : Int) * 4))], s1, rfl, .inl ?_, rfl, !nm2, _, rfl⟩
      cases nm2 <;> simp [rrB1, s_ring, s_is_root, same_b, perm])
  let s1 : Sto := s ++ [.dK [] []]
  let xs : List D := [.non, .bl true, .bl false, .str "5", .tup [.int 5], .lst [.int 5], .loc s.length, .int (-1), .int (-5), .int (10 ^ 29), .int (5 * 10 ^ 28), .int 293, .int 299, .int 294, .int 295, .int 289, .int 242, .int 245, .int 1, .int 2, .int 4]
  have dis : rrT [some (.loc n), some (.bl nm2), some (.int first), x3] s = .ok (.tup xs) s1 := by
    have d0 : ∀ (en : Z.Env) (s : Sto), fDct0 en s = .ok (.loc s.length) (s ++ [.dK [] []]) := fun _ _ => rfl
    have p29 : powOk 10 29 = true := by decide
    have p28 : powOk 10 28 = true := by decide
    have mo : mulOk 5 10000000000000000000000000000 = true := mulOk_l (by decide)
    simp [rrT, d0, xs, s1, oPow_int p29, oPow_int p28, oMul_int mo]
  have all : ∀ x ∈ xs, RR s1 x := by
    intro x hx
    simp only [xs, List.mem_cons, List.not_mem_nil, or_false] at hx
    have g1 : s1[s.length]? = some (.dK [] []) := snoc_get
    rcases hx with rfl | rfl | rfl | rfl | rfl | rfl | rfl | rfl | rfl | rfl | rfl | rfl | rfl | rfl | rfl | rfl | rfl | rfl | rfl | rfl | rfl
    · exact rr_sc (t := .non) (fun _ => rfl) (by decide) rfl rfl rfl (fun _ => nofun)
    · exact rr_sc (t := .bl) (fun _ => rfl) (by decide) rfl rfl rfl (fun _ => nofun)
    · exact rr_sc (t := .bl) (fun _ => rfl) (by decide) rfl rfl rfl (fun _ => nofun)
    · exact rr_sc (t := .str) (fun _ => rfl) (by decide) (by decide +kernel) (by decide +kernel) rfl (fun _ => nofun)
    · exact rr_sc (t := .tup) (fun _ => rfl) (by decide) (by decide +kernel) (by decide +kernel) rfl (fun _ => nofun)
    · exact ⟨false, fun s2 _ => ⟨s_ring_no (t := .lst) rfl (by decide), s_is_root_no (t := .lst) rfl (by decide)⟩, fun s2 _ => copy_2 (fun x hx => by rw [List.mem_singleton.mp hx]; rfl) (by decide +kernel) (by decide) fun s3 k h => s_ring_no h (by decide)⟩
    · exact ⟨false, fun s2 x => ⟨s_ring_no (ty_le g1 x) (by decide), s_is_root_no (ty_le g1 x) (by decide)⟩, fun s2 eq => copy_3 (by rw [eq _ (by show s.length < (s ++ [Ob.dK [] []]).length; simp)]; exact g1) (by decide) rfl rfl (fun x hx => by cases hx) (fun x hx => by cases hx) fun s3 k h => s_ring_no h (by decide)⟩
    all_goals exact rr_int _
  obtain ⟨e, s2, fo2, le2, eq2, len2, nm3, x4, rfl⟩ := forD_inv (g := gN 3) (body := rrB2) (P := fun j e s' => SLe s1 s' ∧ (∀ j, j < s1.length → s'[j]? = s1[j]?) ∧ s1.length ≤ s'.length ∧ ∃ (nm : Bool) (x3 : Option D), e = [some (.loc n), some (.bl nm), some (.int first), x3])
    xs 0 [some (.loc n), some (.bl nm2), some (.int first), x3] s1 ⟨SLe.refl, fun _ _ => rfl, Nat.le_refl _, nm2, x3, rfl⟩ (by
      rintro j x en s3 hx ⟨le, eq, len, nm4, x5, rfl⟩
      obtain ⟨s4, q1, q2, q3, q4⟩ := rr_turn (a0 := some (.loc n)) (a2 := some (.int first)) (nm := nm4) (all x (List.mem_of_getElem? hx)) le eq
      exact ⟨_, s3, _, s4, rfl, .inl q1, q2, q3, by omega, !nm4, some x, rfl⟩)
  have run : runFn 4 b__law_roots_right [.loc n, .bl nm] st = .ok (.bl true) s2 := by
    rw [b_rr]
    generalize hxs : xs = X at dis fo2
    generalize hs1 : s1 = S1 at dis fo2
    simp [-Box.o, e1, rg, fo1, dis, fo2]
  have hsl : s.length = st.length := by rw [← hS, List.length_set]
  have hl : s2.take st.length = s := by
    apply List.ext_getElem?
    intro j
    have h1 : s1.length = s.length + 1 := by simp [s1]
    by_cases hj : j < st.length
    · rw [List.getElem?_take_of_lt hj, eq2 j (by omega)]
      show (s ++ [Ob.dK [] []])[j]? = _
      rw [List.getElem?_append_left (by omega)]
    · rw [List.getElem?_eq_none (by rw [List.length_take]; omega), List.getElem?_eq_none (by omega)]
  have hcl : s.all (Ob.lt st.length) = true := by
    rw [List.all_eq_true]
    intro o ho
    rw [← hS] at ho
    rcases List.mem_or_eq_of_mem_set ho with q | q
    · exact List.all_eq_true.mp hc o q
    · rw [q] <;> rfl
  refine ⟨b1, ?_, ok1⟩
  have g := gcT_ok run rfl (by rw [hl]; exact hcl)
  rw [hl] at g
  rw [hS]
  exact g
end
end L

set_option maxHeartbeats 4000000
namespace L
open PySem PySem.Spec PyProof.Rows L2 Z
mutual
theorem d_lt_le {n : Nat} : ∀ d : D, d.lt n = true → d.lt (n + 1) = true
  | .tup xs, h => l_lt_le xs h
  | .lst xs, h => l_lt_le xs h
  | .scr xs, h => l_lt_le xs h
  | .dct _ xs, h => l_lt_le xs h
  | .loc k, h => decide_eq_true (Nat.lt_succ_of_lt (of_decide_eq_true h))
  | .non, _ => rfl
  | .bl _, _ => rfl
  | .int _, _ => rfl
  | .str _, _ => rfl
theorem l_lt_le {n : Nat} : ∀ xs : List D, D.ltL n xs = true → D.ltL (n + 1) xs = true
  | [], _ => rfl
  | x :: xs, h => by
    obtain ⟨a, b⟩ := Bool.and_eq_true_iff.mp h
    show (x.lt (n + 1) && D.ltL (n + 1) xs) = true
    rw [d_lt_le x a, l_lt_le xs b] <;> rfl
end
theorem ob_lt_le {n : Nat} : ∀ o : Ob, o.lt n = true → o.lt (n + 1) = true
  | .lst xs, h => l_lt_le xs h
  | .dK _ xs, h => l_lt_le xs h
  | .lk _ xs, h => l_lt_le xs h
theorem cl_set {st : Sto} {n : Nat} {b : Box} (hc : Cl st) : Cl (st.set n b.o) := by
  unfold Z.Cl at *
  rw [List.length_set, List.all_eq_true]
  intro o ho
  rcases List.mem_or_eq_of_mem_set ho with q | q
  · exact List.all_eq_true.mp hc o q
  · rw [q] <;> rfl
def lawOther : StmD := (sIf (fTest (fOp (oCmp fun i j => decide (i < j)) (fVar 9) (fC (.int 3)))) (sAsg (fOp oIx (fLst (fCons (fVar 7) (fCons (fTup (fCons (fOp oSub (fC (.int 0)) (fOp oIx (fVar 7) (fC (.int 0)))) (fCons (fOp oSub (fC (.int 0)) (fOp oIx (fVar 7) (fC (.int 1)))) fNil))) (fCons (fTup (fCons (fOp oIx (fVar 7) (fC (.int 1))) (fCons (fOp oIx (fVar 7) (fC (.int 0))) fNil))) fNil)))) (fVar 9)) (gN 8)) sSkip)
def lawIn : StmD := (sSeq (sPar3 6 7 8 (fCons (fOp oIx (fVar 4) (fOp oMod (fCall oInt (fCons (fVar 5) fNil)) (fC (.int 2)))) (fCons (fCall m__law_some_number (fCons (fVar 2) (fCons (fCall m__law_pick (fCons (fVar 2) (fCons (fLst (fCons (fC (.int 30)) (fCons (fC (.int 12)) (fCons (fC (.int 30)) fNil)))) fNil))) fNil))) (fCons (fCall m__law_some_number (fCons (fVar 2) (fCons (fC (.int 30)) fNil))) fNil))))
    (sSeq (sAsg (fCall m__law_take (fCons (fVar 2) (fCons (fC (.int 6)) fNil))) (gN 9))
    (sSeq lawOther
    (sSeq (sIf (fOr (fNot (fTru (fCall m__law_two_right (fCons (fVar 6) (fCons (fVar 7) (fCons (fVar 8) (fCons (fVar 3) fNil))))))) (fOr (fNot (fTru (fCall m__law_three_right (fCons (fVar 6) (fCons (fVar 7) (fCons (fVar 8) (fCons (fCall m__law_some_number (fCons (fVar 2) (fCons (fC (.int 9)) fNil))) (fCons (fNotV (fVar 3)) fNil)))))))) (fNot (fTru (fCall m__law_w_right (fCons (fVar 6) (fCons (fVar 3) fNil))))))) (sRet (fC (.bl false))) sSkip)
    (sAsg (fNotV (fVar 3)) (gN 3))))))
def lawOut : StmD := (sSeq (sAsg (fCall m__law_box (fCons (fCall m__law_cell (fCons (fVar 0) (fCons (fVar 1) fNil))) fNil)) (gN 2))
    (sSeq (sPar 3 4 (fCons (fOp oEq (fCall m__law_take (fCons (fVar 2) (fCons (fC (.int 2)) fNil))) (fC (.int 0))) (fCons (fLst (fCons (fCall m__law_ring_root (fCons (fVar 2) fNil)) (fCons (fCall m__law_ring_root (fCons (fVar 2) fNil)) fNil))) fNil)))
    (sSeq (sIf (fNot (fTru (fCall m__law_roots_right (fCons (fVar 2) (fCons (fVar 3) fNil))))) (sRet (fC (.bl false))) sSkip)
    (sSeq (sFor (fRg1 (fCons (fC (.int 6)) fNil)) (gN 5) lawIn)
    (sIf (fNot (fTru (fCall m__law_refused_right (fCons (fVar 2) (fCons (fOp oIx (fVar 4) (fC (.int 0))) (fCons (fVar 7) (fCons (fVar 3) fNil))))))) (sRet (fC (.bl false))) sSkip)))))
def lawR : ItrD := (fRg1 (fCons (fCall (oInt2 fun i j => .int (if j > i then j else i)) (fCons (fC (.int 2)) (fCons (fCall (oInt2 fun i j => .int (if j < i then j else i)) (fCons (fC (.int 3)) (fCons (fCall oLen (fCons (fVar 0) fNil)) fNil))) fNil))) fNil))
theorem b_law_is : b_law = (sSeq (sFor lawR (gN 1) lawOut) (sRet (fC (.bl true)))) := rfl
section
variable {st : Sto} {n : Nat} {b : Box} {C : Int}
theorem other_ok {w : Int} (h0 : 0 ≤ w) {q q2 : Nu} (hq : Sz2 110 q) (hq2 : Sz2 110 q2) (a0 a1 a2 a3 a4 a5 a6 : Option D) (s : Sto) : ∃ q3, Sz2 110 q3 ∧ lawOther [a0, a1, a2, a3, a4, a5, a6, some (nu q), some (nu q2), some (.int w)] s = .nx [a0, a1, a2, a3, a4, a5, a6, some (nu q), some (nu q3), some (.int w)] s := by
  by_cases h : w < 3
  · have : w = 0 ∨ w = 1 ∨ w = 2 := by omega
    rcases this with rfl | rfl | rfl
    · exact ⟨q, hq, by simp [lawOther, atI, ixN]⟩
    · exact ⟨(-q.1, -q.2), ⟨hq.1.neg, hq.2.neg⟩, by simp [lawOther, atI, ixN]⟩
    · exact ⟨(q.2, q.1), ⟨hq.2, hq.1⟩, by simp [lawOther, atI, ixN]⟩
  · exact ⟨q2, hq2, by simp [lawOther, h]⟩
theorem in_turn {r1 r2 : Int} {nm : Bool} {j : Nat} {a0 a1 x6 x7 x8 x9 : Option D} (hn : n < st.length) (ok : b.ok C) (hC : C < 800000000) (h1 : ringB r1 = true) (h2 : ringB r2 = true) (hc : Cl st) :
    ∃ e b' q, lawIn [a0, a1, some (.loc n), some (.bl nm), some (.lst [.int r1, .int r2]), some (.int (0 + (j : Int) * 1)), x6, x7, x8, x9] (st.set n b.o) = .nx e (st.set n (Box.o b')) ∧ b'.ok (C + 20) ∧
      ∃ y6 y8 y9 : Option D, e = [a0, a1, some (.loc n), some (.bl !nm), some (.lst [.int r1, .int r2]), some (.int (0 + (j : Int) * 1)), y6, some (nu q), y8, y9] := by
  have hr : ∃ r, ringB r = true ∧ atI [D.int r1, D.int r2] ((0 + (j : Int) * 1).fmod 2) = some (.int r) := by
    rw [Int.fmod_eq_emod_of_nonneg _ (by decide)]
    have : (0 + (j : Int) * 1) % 2 = 0 ∨ (0 + (j : Int) * 1) % 2 = 1 := by omega
    rcases this with e | e <;> rw [e]
    · exact ⟨r1, h1, rfl⟩
    · exact ⟨r2, h2, rfl⟩
  obtain ⟨r, hrr, hat⟩ := hr
  obtain ⟨x, hx, b1, e1, ok1⟩ := pkB (st := st) [.int 30, .int 12, .int 30] hn ok (by omega) (by simp) (by simp)
  have hx2 : ∃ F : Nat, x = .int F ∧ 1 ≤ F ∧ F ≤ 30 := by
    simp only [List.mem_cons, List.not_mem_nil, or_false] at hx
    rcases hx with rfl | rfl | rfl
    · exact ⟨30, rfl, by decide, by decide⟩
    · exact ⟨12, rfl, by decide, by decide⟩
    · exact ⟨30, rfl, by decide, by decide⟩
  obtain ⟨F, rfl, f1, f2⟩ := hx2
  obtain ⟨q, b2, e2, sq, ok2⟩ := some_number f1 f2 hn ok1 (by omega)
  obtain ⟨q2, b3, e3, sq2, ok3⟩ := some_number (F := 30) (by decide) (by decide) hn ok2 (by omega)
  have e3 : m__law_some_number [.loc n, .int 30] (st.set n b2.o) = .ok (nu q2) (st.set n b3.o) := e3
  obtain ⟨w, b4, e4, w0, w1, ok4⟩ := tkB (st := st) 6 hn ok3 (by omega) (by decide) (by decide)
  obtain ⟨q4, b5, e5, sq4, ok5⟩ := some_number (F := 9) (by decide) (by decide) hn ok4 (by omega)
  have e5 : m__law_some_number [.loc n, .int 9] (st.set n b4.o) = .ok (nu q4) (st.set n b5.o) := e5
  obtain ⟨q3, sq3, eo⟩ := other_ok w0 sq sq2 a0 a1 (some (.loc n)) (some (.bl nm)) (some (.lst [.int r1, .int r2])) (some (.int (0 + (j : Int) * 1))) (some (.int r)) (st.set n b4.o)
  have t1 := two_right hrr sq sq3 nm (cl_set (n := n) (b := b4) hc)
  have t2 := three_right (st := st.set n b5.o) hrr sq sq3 sq4 (!nm)
  have t3 := w_right (st := st.set n b5.o) hrr nm
  have m2 : (2 : Int) ≠ 0 := by decide
  generalize hJ : (0 + (j : Int) * 1) = J at *
  refine ⟨_, b5, q, ?_, ok5.mono (by omega), some (.int r), some (nu q3), some (.int w), rfl⟩
  simp [-nu, -Box.o, lawIn, oMod_int m2, hat, e1, e2, e3, e4, eo, t1, e5, t2, t3]
theorem out_turn {ns : List Int} {k : Nat} {x1 x2 x3 x4 x5 x6 x7 x8 x9 : Option D} (hc : Cl st) :
    ∃ s, Cl s ∧ ∃ y2 y3 y4 y5 y6 y7 y8 y9 : Option D, lawOut [some (.scr (ns.map D.int)), some (.int (0 + (k : Int) * 1)), x2, x3, x4, x5, x6, x7, x8, x9] st = .nx [some (.scr (ns.map D.int)), some (.int (0 + (k : Int) * 1)), y2, y3, y4, y5, y6, y7, y8, y9] s := by
  obtain ⟨v, ec⟩ := cell_ok (c := 9981) (q := 1000003) (by decide) (by decide) ns k st
  rw [← e_cell] at ec
  have ek : (k : Int) = 0 + (k : Int) * 1 := by omega
  rw [ek] at ec
  obtain ⟨b, eb, ok⟩ := box_ok (p := 2147483629) (by decide) (by decide) v st
  rw [← e_box] at eb
  have hn : st.length < (st ++ [b.o]).length := by simp
  have e0 : st ++ [b.o] = (st ++ [b.o]).set st.length b.o := by
    have h : (st ++ [b.o])[st.length]? = some b.o := snoc_get
    have h2 := (List.getElem?_eq_some_iff.mp h).2
    have h3 := List.set_getElem_self (as := st ++ [b.o]) (i := st.length) hn
    rw [h2] at h3
    exact h3.symm
  have hc0 : Cl (st ++ [b.o]) := by
    unfold Z.Cl at *
    rw [List.all_append, List.length_append, List.length_singleton]
    have mono : ∀ o : Ob, o.lt st.length = true → o.lt (st.length + 1) = true := fun o h => ob_lt_le o h
    have h1 : st.all (Ob.lt (st.length + 1)) = true := List.all_eq_true.mpr fun o ho => mono o (List.all_eq_true.mp hc o ho)
    rw [h1]
    rfl
  generalize hJ : 0 + (k : Int) * 1 = J at *
  clear ek hJ
  rw [e0] at eb
  generalize hT : st ++ [b.o] = T at *
  generalize hN : st.length = n at *
  obtain ⟨w, b1, e1, w0, w1, ok1⟩ := tkB (st := T) 2 hn ok (by decide) (by decide) (by decide)
  obtain ⟨r1, b2, e2, h1, ok2⟩ := ring_root (st := T) hn ok1 (by decide)
  obtain ⟨r2, b3, e3, h2, ok3⟩ := ring_root (st := T) hn ok2 (by decide)
  obtain ⟨b4, e4, ok4⟩ := roots_right (st := T.set n b3.o) (n := n) (decide (w = 0)) (List.getElem?_set_self hn) ok3 (by decide) (cl_set hc0)
  rw [List.set_set] at e4
  obtain ⟨e, s, fo, hP⟩ := forD_inv (g := gN 5) (body := lawIn) (P := fun j e s => ∃ (b' : Box) (nm : Bool) (x5 x6 x7 x8 x9 : Option D), s = T.set n b'.o ∧ b'.ok (100 + 20 * j) ∧ e = [some (.scr (ns.map D.int)), some (.int J), some (.loc n), some (.bl nm), some (.lst [.int r1, .int r2]), x5, x6, x7, x8, x9] ∧ (0 < j → ∃ q : Nu, x7 = some (nu q)))
    (rgD 0 1 6) 0 [some (.scr (ns.map D.int)), some (.int J), some (.loc n), some (.bl (decide (w = 0))), some (.lst [.int r1, .int r2]), x5, x6, x7, x8, x9] (T.set n b4.o) ⟨b4, _, _, _, _, _, _, rfl, ok4.mono (by decide), rfl, fun h => absurd h (by decide)⟩ (by
      rintro j x en s1 hx ⟨b', nm, x5, x6, x7, x8, x9, rfl, g1, rfl, g2⟩
      obtain ⟨hj, rfl⟩ := rgD_get hx
      obtain ⟨e5, b5, q, q1, q2, y6, y8, y9, rfl⟩ := in_turn (st := T) (n := n) (b := b') (nm := nm) (j := j) (a0 := some (.scr (ns.map D.int))) (a1 := some (.int J)) (x6 := x6) (x7 := x7) (x8 := x8) (x9 := x9) hn g1 (by omega) h1 h2 hc0
      exact ⟨_, _, _, _, rfl, .inl q1, b5, !nm, _, y6, some (nu q), y8, y9, rfl, q2.mono (by omega), rfl, fun _ => ⟨q, rfl⟩⟩)
  obtain ⟨b6, nm, z5, z6, z7, z8, z9, rfl, ok6, rfl, hq⟩ := hP
  obtain ⟨q, rfl⟩ := hq (by rw [rgD_len]; decide)
  obtain ⟨b7, e7, ok7⟩ := refused_right (st := T.set n b6.o) (n := n) (r := r1) (p := q) nm (List.getElem?_set_self hn) ok6 (by rw [rgD_len]; decide) h1 (cl_set hc0)
  rw [List.set_set] at e7
  have rg : fRg1 (fCons (fC (.int 6)) fNil) [some (.scr (ns.map D.int)), some (.int J), some (.loc n), some (.bl (decide (w = 0))), some (.lst [.int r1, .int r2]), x5, x6, x7, x8, x9] (T.set n b4.o) = .ok (.fz (rgD 0 1 6)) (T.set n b4.o) := rg1_ok (n := 6) (by simp) (by decide)
  refine ⟨T.set n b7.o, cl_set hc0, some (.loc n), some (.bl nm), some (.lst [.int r1, .int r2]), z5, z6, some (nu q), z8, z9, ?_⟩
  simp [-nu, -Box.o, lawOut, ec, eb, e1, e2, e3, e4, rg, fo, atI, ixN, e7]
end
end L

set_option maxHeartbeats 4000000
namespace L
open PySem PySem.Spec PyProof.Rows L2 Z
theorem lawR_ok (ns : List Int) : ∃ K : Nat, lawR [some (.scr (ns.map D.int)), none, none, none, none, none, none, none, none, none] [] = .ok (.fz (rgD 0 1 K)) [] := by
  by_cases h : ns.length < 3
  · refine ⟨2, rg1_ok (n := 2) ?_ (by decide)⟩
    have h1 : ((ns.length : Int) < 3) := by omega
    have h2 : ¬ ((2 : Int) < ns.length) := by omega
    simp [h1, h2]
  · refine ⟨3, rg1_ok (n := 3) ?_ (by decide)⟩
    have h1 : ¬ ((ns.length : Int) < 3) := by omega
    simp [h1]
theorem law_true0 (ns : List Int) (h63 : ns.length ≤ 63) : ∃ s, m_law [.scr (ns.map D.int)] [] = .ok (.bl true) s := by
  obtain ⟨K, rg⟩ := lawR_ok ns
  obtain ⟨e, s, fo, hc, _⟩ := forD_inv (g := gN 1) (body := lawOut) (P := fun j e s => Z.Cl s ∧ ∃ x1 x2 x3 x4 x5 x6 x7 x8 x9 : Option D, e = [some (.scr (ns.map D.int)), x1, x2, x3, x4, x5, x6, x7, x8, x9])
    (rgD 0 1 K) 0 [some (.scr (ns.map D.int)), none, none, none, none, none, none, none, none, none] [] ⟨rfl, _, _, _, _, _, _, _, _, _, rfl⟩ (by
      rintro j x en s1 hx ⟨hc, x1, x2, x3, x4, x5, x6, x7, x8, x9, rfl⟩
      obtain ⟨hj, rfl⟩ := rgD_get hx
      obtain ⟨s2, hc2, y2, y3, y4, y5, y6, y7, y8, y9, e⟩ := out_turn (st := s1) (ns := ns) (k := j) (x1 := x1) (x2 := x2) (x3 := x3) (x4 := x4) (x5 := x5) (x6 := x6) (x7 := x7) (x8 := x8) (x9 := x9) hc
      exact ⟨_, _, _, s2, rfl, .inl e, hc2, _, _, _, _, _, _, _, _, _, rfl⟩)
  have run : runFn 10 b_law [.scr (ns.map D.int)] [] = .ok (.bl true) s := by
    rw [b_law_is]
    simp [rg, fo]
  exact ⟨_, gcT_ok run rfl rfl⟩
end L

set_option maxHeartbeats 0
namespace L
open PySem PySem.Spec PyProof.Rows L2 Z
def d_is_integer : He.DefD := ⟨("is_integer", none), "is_integer", "is_integer", defArgs st_is_integer, defBody st_is_integer, defScope st_is_integer, [], []⟩
def d_is_between : He.DefD := ⟨("is_between", none), "is_between", "is_between", defArgs st_is_between, defBody st_is_between, defScope st_is_between, [], []⟩
def d_is_tuple_of : He.DefD := ⟨("is_tuple_of", none), "is_tuple_of", "is_tuple_of", defArgs st_is_tuple_of, defBody st_is_tuple_of, defScope st_is_tuple_of, [], []⟩
def d_are_integers : He.DefD := ⟨("are_integers", none), "are_integers", "are_integers", defArgs st_are_integers, defBody st_are_integers, defScope st_are_integers, [], []⟩
def d_is_ring : He.DefD := ⟨("is_ring", none), "is_ring", "is_ring", defArgs st_is_ring, defBody st_is_ring, defScope st_is_ring, [], []⟩
def d_check_ring : He.DefD := ⟨("check_ring", none), "check_ring", "check_ring", defArgs st_check_ring, defBody st_check_ring, defScope st_check_ring, [], []⟩
def d_is_number : He.DefD := ⟨("is_number", none), "is_number", "is_number", defArgs st_is_number, defBody st_is_number, defScope st_is_number, [], []⟩
def d_check_number : He.DefD := ⟨("check_number", none), "check_number", "check_number", defArgs st_check_number, defBody st_check_number, defScope st_check_number, [], []⟩
def d_check_one : He.DefD := ⟨("check_one", none), "check_one", "check_one", defArgs st_check_one, defBody st_check_one, defScope st_check_one, [], []⟩
def d_check_two : He.DefD := ⟨("check_two", none), "check_two", "check_two", defArgs st_check_two, defBody st_check_two, defScope st_check_two, [], []⟩
def d_trace_of : He.DefD := ⟨("trace_of", none), "trace_of", "trace_of", defArgs st_trace_of, defBody st_trace_of, defScope st_trace_of, [], []⟩
def d_last_in : He.DefD := ⟨("last_in", none), "last_in", "last_in", defArgs st_last_in, defBody st_last_in, defScope st_last_in, [], []⟩
def d_plus_in : He.DefD := ⟨("plus_in", none), "plus_in", "plus_in", defArgs st_plus_in, defBody st_plus_in, defScope st_plus_in, [], []⟩
def d_times_in : He.DefD := ⟨("times_in", none), "times_in", "times_in", defArgs st_times_in, defBody st_times_in, defScope st_times_in, [], []⟩
def d_mirror_in : He.DefD := ⟨("mirror_in", none), "mirror_in", "mirror_in", defArgs st_mirror_in, defBody st_mirror_in, defScope st_mirror_in, [], []⟩
def d_norm_in : He.DefD := ⟨("norm_in", none), "norm_in", "norm_in", defArgs st_norm_in, defBody st_norm_in, defScope st_norm_in, [], []⟩
def d_plus : He.DefD := ⟨("plus", none), "plus", "plus", defArgs st_plus, defBody st_plus, defScope st_plus, [], []⟩
def d_product : He.DefD := ⟨("product", none), "product", "product", defArgs st_product, defBody st_product, defScope st_product, [], []⟩
def d_mirror : He.DefD := ⟨("mirror", none), "mirror", "mirror", defArgs st_mirror, defBody st_mirror, defScope st_mirror, [], []⟩
def d_norm : He.DefD := ⟨("norm", none), "norm", "norm", defArgs st_norm, defBody st_norm, defScope st_norm, [], []⟩
def d__law_cell : He.DefD := ⟨("_law_cell", none), "_law_cell", "_law_cell", defArgs st__law_cell, defBody st__law_cell, defScope st__law_cell, [], []⟩
def d__law_box : He.DefD := ⟨("_law_box", none), "_law_box", "_law_box", defArgs st__law_box, defBody st__law_box, defScope st__law_box, [], []⟩
def d__law_take : He.DefD := ⟨("_law_take", none), "_law_take", "_law_take", defArgs st__law_take, defBody st__law_take, defScope st__law_take, [], []⟩
def d__law_pick : He.DefD := ⟨("_law_pick", none), "_law_pick", "_law_pick", defArgs st__law_pick, defBody st__law_pick, defScope st__law_pick, [], []⟩
def d__law_same : He.DefD := ⟨("_law_same", none), "_law_same", "_law_same", defArgs st__law_same, defBody st__law_same, defScope st__law_same, [], []⟩
def d__law_copy : He.DefD := ⟨("_law_copy", none), "_law_copy", "_law_copy", defArgs st__law_copy, defBody st__law_copy, defScope st__law_copy, [], []⟩
def d__law_very : He.DefD := ⟨("_law_very", none), "_law_very", "_law_very", defArgs st__law_very, defBody st__law_very, defScope st__law_very, [], []⟩
def d__law_roots : He.DefD := ⟨("_law_roots", none), "_law_roots", "_law_roots", defArgs st__law_roots, defBody st__law_roots, defScope st__law_roots, [], []⟩
def d__law_trace : He.DefD := ⟨("_law_trace", none), "_law_trace", "_law_trace", defArgs st__law_trace, defBody st__law_trace, defScope st__law_trace, [], []⟩
def d__law_ring_times : He.DefD := ⟨("_law_ring_times", none), "_law_ring_times", "_law_ring_times", defArgs st__law_ring_times, defBody st__law_ring_times, defScope st__law_ring_times, [], []⟩
def d__law_mirror : He.DefD := ⟨("_law_mirror", none), "_law_mirror", "_law_mirror", defArgs st__law_mirror, defBody st__law_mirror, defScope st__law_mirror, [], []⟩
def d__law_norm : He.DefD := ⟨("_law_norm", none), "_law_norm", "_law_norm", defArgs st__law_norm, defBody st__law_norm, defScope st__law_norm, [], []⟩
def d__law_is_root : He.DefD := ⟨("_law_is_root", none), "_law_is_root", "_law_is_root", defArgs st__law_is_root, defBody st__law_is_root, defScope st__law_is_root, [], []⟩
def d__law_ring_root : He.DefD := ⟨("_law_ring_root", none), "_law_ring_root", "_law_ring_root", defArgs st__law_ring_root, defBody st__law_ring_root, defScope st__law_ring_root, [], []⟩
def d__law_some_number : He.DefD := ⟨("_law_some_number", none), "_law_some_number", "_law_some_number", defArgs st__law_some_number, defBody st__law_some_number, defScope st__law_some_number, [], []⟩
def d__law_odd_number : He.DefD := ⟨("_law_odd_number", none), "_law_odd_number", "_law_odd_number", defArgs st__law_odd_number, defBody st__law_odd_number, defScope st__law_odd_number, [], []⟩
def d__law_odd_ring : He.DefD := ⟨("_law_odd_ring", none), "_law_odd_ring", "_law_odd_ring", defArgs st__law_odd_ring, defBody st__law_odd_ring, defScope st__law_odd_ring, [], []⟩
def d__law_told : He.DefD := ⟨("_law_told", none), "_law_told", "_law_told", defArgs st__law_told, defBody st__law_told, defScope st__law_told, [], []⟩
def d__law_met : He.DefD := ⟨("_law_met", none), "_law_met", "_law_met", defArgs st__law_met, defBody st__law_met, defScope st__law_met, [], []⟩
def d__law_sum_of : He.DefD := ⟨("_law_sum_of", none), "_law_sum_of", "_law_sum_of", defArgs st__law_sum_of, defBody st__law_sum_of, defScope st__law_sum_of, [], []⟩
def d__law_two_right : He.DefD := ⟨("_law_two_right", none), "_law_two_right", "_law_two_right", defArgs st__law_two_right, defBody st__law_two_right, defScope st__law_two_right, [], []⟩
def d__law_three_right : He.DefD := ⟨("_law_three_right", none), "_law_three_right", "_law_three_right", defArgs st__law_three_right, defBody st__law_three_right, defScope st__law_three_right, [], []⟩
def d__law_w_right : He.DefD := ⟨("_law_w_right", none), "_law_w_right", "_law_w_right", defArgs st__law_w_right, defBody st__law_w_right, defScope st__law_w_right, [], []⟩
def d__law_roots_right : He.DefD := ⟨("_law_roots_right", none), "_law_roots_right", "_law_roots_right", defArgs st__law_roots_right, defBody st__law_roots_right, defScope st__law_roots_right, [], []⟩
def d__law_refused_right : He.DefD := ⟨("_law_refused_right", none), "_law_refused_right", "_law_refused_right", defArgs st__law_refused_right, defBody st__law_refused_right, defScope st__law_refused_right, [], []⟩
def d_law : He.DefD := ⟨("law", none), "law", "law", defArgs st_law, defBody st_law, defScope st_law, [], []⟩
def di_InvalidNumber : He.DefD := ⟨("InvalidNumber", some "__init__"), "__init__", "InvalidNumber.__init__", defArgs st_InvalidNumber_init, defBody st_InvalidNumber_init, defScope st_InvalidNumber_init, [], []⟩
def di_InvalidRing : He.DefD := ⟨("InvalidRing", some "__init__"), "__init__", "InvalidRing.__init__", defArgs st_InvalidRing_init, defBody st_InvalidRing_init, defScope st_InvalidRing_init, [], []⟩
def fn0 : List He.DefD := [d_is_integer, d_is_between, d_is_tuple_of, d_are_integers, d_is_ring, d_check_ring, d_is_number, d_check_number, d_check_one, d_check_two, d_trace_of, d_last_in, d_plus_in, d_times_in, d_mirror_in, d_norm_in]
def fn1 : List He.DefD := [d_plus, d_product, d_mirror, d_norm, d__law_cell, d__law_box, d__law_take, d__law_pick, d__law_same, d__law_copy, d__law_very, d__law_roots, d__law_trace, d__law_ring_times, d__law_mirror, d__law_norm]
def fn2 : List He.DefD := [d__law_is_root, d__law_ring_root, d__law_some_number, d__law_odd_number, d__law_odd_ring, d__law_told, d__law_met, d__law_sum_of, d__law_two_right, d__law_three_right, d__law_w_right, d__law_roots_right, d__law_refused_right, d_law, di_InvalidNumber, di_InvalidRing]
def fn : List He.DefD := fn0 ++ fn1 ++ fn2
def fa0 : List He.Fa := [.glo "is_integer", .glo "is_between", .glo "is_tuple_of", .glo "are_integers", .glo "is_ring", .glo "check_ring", .glo "is_number", .glo "check_number", .glo "check_one", .glo "check_two", .glo "trace_of", .glo "last_in", .glo "plus_in", .glo "times_in", .glo "mirror_in", .glo "norm_in"]
def fa1 : List He.Fa := [.glo "plus", .glo "product", .glo "mirror", .glo "norm", .glo "_law_cell", .glo "_law_box", .glo "_law_take", .glo "_law_pick", .glo "_law_same", .glo "_law_copy", .glo "_law_very", .glo "_law_roots", .glo "_law_trace", .glo "_law_ring_times", .glo "_law_mirror", .glo "_law_norm"]
def fa2 : List He.Fa := [.glo "_law_is_root", .glo "_law_ring_root", .glo "_law_some_number", .glo "_law_odd_number", .glo "_law_odd_ring", .glo "_law_told", .glo "_law_met", .glo "_law_sum_of", .glo "_law_two_right", .glo "_law_three_right", .glo "_law_w_right", .glo "_law_roots_right", .glo "_law_refused_right", .glo "law", .glo "FactoringError", .glo "InvalidNumber"]
def fa3 : List He.Fa := [.glo "InvalidRing", .free "ValueError", .free "abs", .free "all", .free "bool", .free "dict", .free "int", .free "isinstance", .free "len", .free "list", .free "max", .free "min", .free "range", .free "str", .free "sum", .free "tuple"]
def fa4 : List He.Fa := [.int "MOST_ROOT" 300, .int "MOST_SIDE" 17]
def fa : List He.Fa := fa0 ++ fa1 ++ fa2 ++ fa3 ++ fa4
def exB (K : PySem.W.Frag) : Bool := exmB K subTab && errB K "InvalidNumber" "given" && errB K "InvalidRing" "given"
abbrev R : PySem.W.OpenRow := PySem.W.OpenLaw.row RWo
abbrev hk : PySem.W.Hook := He.hookX 4 fa fn [] [] exB
def ob (s : PySem.W.SharedT) : He.AlX := He.obsX 4 fa fn [] [] exB (HandSHeadRun.getT s)
theorem ob_eq (s : PySem.W.SharedT) : ob s = hk.obs s.abs := He.obsX_eq (HandSHeadRun.getT_eq s)
def loose0 : List PySem.Str := [("FactoringError" : PySem.Str), ("InvalidNumber" : PySem.Str), ("InvalidRing" : PySem.Str), ("is_integer" : PySem.Str), ("is_between" : PySem.Str), ("is_tuple_of" : PySem.Str), ("are_integers" : PySem.Str), ("MOST_ROOT" : PySem.Str), ("MOST_SIDE" : PySem.Str), ("is_ring" : PySem.Str), ("check_ring" : PySem.Str), ("is_number" : PySem.Str), ("check_number" : PySem.Str), ("check_one" : PySem.Str), ("check_two" : PySem.Str), ("trace_of" : PySem.Str)]
def loose1 : List PySem.Str := [("last_in" : PySem.Str), ("plus_in" : PySem.Str), ("times_in" : PySem.Str), ("mirror_in" : PySem.Str), ("norm_in" : PySem.Str), ("plus" : PySem.Str), ("product" : PySem.Str), ("mirror" : PySem.Str), ("norm" : PySem.Str), ("_law_cell" : PySem.Str), ("_law_box" : PySem.Str), ("_law_take" : PySem.Str), ("_law_pick" : PySem.Str), ("_law_same" : PySem.Str), ("_law_copy" : PySem.Str), ("_law_very" : PySem.Str)]
def loose2 : List PySem.Str := [("_law_roots" : PySem.Str), ("_law_trace" : PySem.Str), ("_law_ring_times" : PySem.Str), ("_law_mirror" : PySem.Str), ("_law_norm" : PySem.Str), ("_law_is_root" : PySem.Str), ("_law_ring_root" : PySem.Str), ("_law_some_number" : PySem.Str), ("_law_odd_number" : PySem.Str), ("_law_odd_ring" : PySem.Str), ("_law_told" : PySem.Str), ("_law_met" : PySem.Str), ("_law_sum_of" : PySem.Str), ("_law_two_right" : PySem.Str), ("_law_three_right" : PySem.Str), ("_law_w_right" : PySem.Str)]
def loose3 : List PySem.Str := [("_law_roots_right" : PySem.Str), ("_law_refused_right" : PySem.Str)]
def looseA : List PySem.Str := loose0 ++ loose1 ++ loose2 ++ loose3
theorem run (w : World) : HandSHeadRun.RunEq R (PySem.W.view R.prog [54]) hk ob 6000 looseA w := by
  intro os
  kernel_rfl
theorem txt {P : Program} {w : World} {K : PySem.W.Frag} {h : Heap} {mg : Str → Option Value} {base : Heap} (X : K.In h) (G : h.Ns mainGlobals mg) (c : He.SaysX fa fn [] [] exB w h K) : Txt P w K mg base (He.ga K) := by
  have cd := c.t.d
  have cx : exB K = true := c.more
  unfold exB at cx
  simp only [Bool.and_eq_true] at cx
  obtain ⟨⟨cm, x0⟩, x1⟩ := cx
  have i_InvalidNumber := cd.def_ 46 (d := di_InvalidNumber) rfl
  have i_InvalidRing := cd.def_ 47 (d := di_InvalidRing) rfl
  refine { a_is_integer := ?_, a_is_between := ?_, a_is_tuple_of := ?_, a_are_integers := ?_, a_is_ring := ?_, a_check_ring := ?_, a_is_number := ?_, a_check_number := ?_, a_check_one := ?_, a_check_two := ?_, a_trace_of := ?_, a_last_in := ?_, a_plus_in := ?_, a_times_in := ?_, a_mirror_in := ?_, a_norm_in := ?_, a_plus := ?_, a_product := ?_, a_mirror := ?_, a_norm := ?_, a__law_cell := ?_, a__law_box := ?_, a__law_take := ?_, a__law_pick := ?_, a__law_same := ?_, a__law_copy := ?_, a__law_very := ?_, a__law_roots := ?_, a__law_trace := ?_, a__law_ring_times := ?_, a__law_mirror := ?_, a__law_norm := ?_, a__law_is_root := ?_, a__law_ring_root := ?_, a__law_some_number := ?_, a__law_odd_number := ?_, a__law_odd_ring := ?_, a__law_told := ?_, a__law_met := ?_, a__law_sum_of := ?_, a__law_two_right := ?_, a__law_three_right := ?_, a__law_w_right := ?_, a__law_roots_right := ?_, a__law_refused_right := ?_, a_law := ?_, f_ValueError := He.free_ok X G (cd.fact 49 (f := .free "ValueError") rfl), f_abs := He.free_ok X G (cd.fact 50 (f := .free "abs") rfl), f_all := He.free_ok X G (cd.fact 51 (f := .free "all") rfl), f_bool := He.free_ok X G (cd.fact 52 (f := .free "bool") rfl), f_dict := He.free_ok X G (cd.fact 53 (f := .free "dict") rfl), f_int := He.free_ok X G (cd.fact 54 (f := .free "int") rfl), f_isinstance := He.free_ok X G (cd.fact 55 (f := .free "isinstance") rfl), f_len := He.free_ok X G (cd.fact 56 (f := .free "len") rfl), f_list := He.free_ok X G (cd.fact 57 (f := .free "list") rfl), f_max := He.free_ok X G (cd.fact 58 (f := .free "max") rfl), f_min := He.free_ok X G (cd.fact 59 (f := .free "min") rfl), f_range := He.free_ok X G (cd.fact 60 (f := .free "range") rfl), f_str := He.free_ok X G (cd.fact 61 (f := .free "str") rfl), f_sum := He.free_ok X G (cd.fact 62 (f := .free "sum") rfl), f_tuple := He.free_ok X G (cd.fact 63 (f := .free "tuple") rfl), c_MOST_ROOT := He.int_ok X G (cd.fact 64 (f := .int "MOST_ROOT" 300) rfl), c_MOST_SIDE := He.int_ok X G (cd.fact 65 (f := .int "MOST_SIDE" 17) rfl), e_InvalidNumber := ?_, e_InvalidRing := ?_, n_FactoringError := He.glo_ok X G (cd.fact 46 (f := .glo "FactoringError") rfl), n_InvalidNumber := He.glo_ok X G (cd.fact 47 (f := .glo "InvalidNumber") rfl), n_InvalidRing := He.glo_ok X G (cd.fact 48 (f := .glo "InvalidRing") rfl), sub := exmB_ok cm }
  · obtain ⟨fd, FD⟩ := cd.def_ 0 (d := d_is_integer) rfl
    exact ⟨_, fd, FD, He.glo_ok X G (cd.fact 0 (f := .glo "is_integer") rfl)⟩
  · obtain ⟨fd, FD⟩ := cd.def_ 1 (d := d_is_between) rfl
    exact ⟨_, fd, FD, He.glo_ok X G (cd.fact 1 (f := .glo "is_between") rfl)⟩
  · obtain ⟨fd, FD⟩ := cd.def_ 2 (d := d_is_tuple_of) rfl
    exact ⟨_, fd, FD, He.glo_ok X G (cd.fact 2 (f := .glo "is_tuple_of") rfl)⟩
  · obtain ⟨fd, FD⟩ := cd.def_ 3 (d := d_are_integers) rfl
    exact ⟨_, fd, FD, He.glo_ok X G (cd.fact 3 (f := .glo "are_integers") rfl)⟩
  · obtain ⟨fd, FD⟩ := cd.def_ 4 (d := d_is_ring) rfl
    exact ⟨_, fd, FD, He.glo_ok X G (cd.fact 4 (f := .glo "is_ring") rfl)⟩
  · obtain ⟨fd, FD⟩ := cd.def_ 5 (d := d_check_ring) rfl
    exact ⟨_, fd, FD, He.glo_ok X G (cd.fact 5 (f := .glo "check_ring") rfl)⟩
  · obtain ⟨fd, FD⟩ := cd.def_ 6 (d := d_is_number) rfl
    exact ⟨_, fd, FD, He.glo_ok X G (cd.fact 6 (f := .glo "is_number") rfl)⟩
  · obtain ⟨fd, FD⟩ := cd.def_ 7 (d := d_check_number) rfl
    exact ⟨_, fd, FD, He.glo_ok X G (cd.fact 7 (f := .glo "check_number") rfl)⟩
  · obtain ⟨fd, FD⟩ := cd.def_ 8 (d := d_check_one) rfl
    exact ⟨_, fd, FD, He.glo_ok X G (cd.fact 8 (f := .glo "check_one") rfl)⟩
  · obtain ⟨fd, FD⟩ := cd.def_ 9 (d := d_check_two) rfl
    exact ⟨_, fd, FD, He.glo_ok X G (cd.fact 9 (f := .glo "check_two") rfl)⟩
  · obtain ⟨fd, FD⟩ := cd.def_ 10 (d := d_trace_of) rfl
    exact ⟨_, fd, FD, He.glo_ok X G (cd.fact 10 (f := .glo "trace_of") rfl)⟩
  · obtain ⟨fd, FD⟩ := cd.def_ 11 (d := d_last_in) rfl
    exact ⟨_, fd, FD, He.glo_ok X G (cd.fact 11 (f := .glo "last_in") rfl)⟩
  · obtain ⟨fd, FD⟩ := cd.def_ 12 (d := d_plus_in) rfl
    exact ⟨_, fd, FD, He.glo_ok X G (cd.fact 12 (f := .glo "plus_in") rfl)⟩
  · obtain ⟨fd, FD⟩ := cd.def_ 13 (d := d_times_in) rfl
    exact ⟨_, fd, FD, He.glo_ok X G (cd.fact 13 (f := .glo "times_in") rfl)⟩
  · obtain ⟨fd, FD⟩ := cd.def_ 14 (d := d_mirror_in) rfl
    exact ⟨_, fd, FD, He.glo_ok X G (cd.fact 14 (f := .glo "mirror_in") rfl)⟩
  · obtain ⟨fd, FD⟩ := cd.def_ 15 (d := d_norm_in) rfl
    exact ⟨_, fd, FD, He.glo_ok X G (cd.fact 15 (f := .glo "norm_in") rfl)⟩
  · obtain ⟨fd, FD⟩ := cd.def_ 16 (d := d_plus) rfl
    exact ⟨_, fd, FD, He.glo_ok X G (cd.fact 16 (f := .glo "plus") rfl)⟩
  · obtain ⟨fd, FD⟩ := cd.def_ 17 (d := d_product) rfl
    exact ⟨_, fd, FD, He.glo_ok X G (cd.fact 17 (f := .glo "product") rfl)⟩
  · obtain ⟨fd, FD⟩ := cd.def_ 18 (d := d_mirror) rfl
    exact ⟨_, fd, FD, He.glo_ok X G (cd.fact 18 (f := .glo "mirror") rfl)⟩
  · obtain ⟨fd, FD⟩ := cd.def_ 19 (d := d_norm) rfl
    exact ⟨_, fd, FD, He.glo_ok X G (cd.fact 19 (f := .glo "norm") rfl)⟩
  · obtain ⟨fd, FD⟩ := cd.def_ 20 (d := d__law_cell) rfl
    exact ⟨_, fd, FD, He.glo_ok X G (cd.fact 20 (f := .glo "_law_cell") rfl)⟩
  · obtain ⟨fd, FD⟩ := cd.def_ 21 (d := d__law_box) rfl
    exact ⟨_, fd, FD, He.glo_ok X G (cd.fact 21 (f := .glo "_law_box") rfl)⟩
  · obtain ⟨fd, FD⟩ := cd.def_ 22 (d := d__law_take) rfl
    exact ⟨_, fd, FD, He.glo_ok X G (cd.fact 22 (f := .glo "_law_take") rfl)⟩
  · obtain ⟨fd, FD⟩ := cd.def_ 23 (d := d__law_pick) rfl
    exact ⟨_, fd, FD, He.glo_ok X G (cd.fact 23 (f := .glo "_law_pick") rfl)⟩
  · obtain ⟨fd, FD⟩ := cd.def_ 24 (d := d__law_same) rfl
    exact ⟨_, fd, FD, He.glo_ok X G (cd.fact 24 (f := .glo "_law_same") rfl)⟩
  · obtain ⟨fd, FD⟩ := cd.def_ 25 (d := d__law_copy) rfl
    exact ⟨_, fd, FD, He.glo_ok X G (cd.fact 25 (f := .glo "_law_copy") rfl)⟩
  · obtain ⟨fd, FD⟩ := cd.def_ 26 (d := d__law_very) rfl
    exact ⟨_, fd, FD, He.glo_ok X G (cd.fact 26 (f := .glo "_law_very") rfl)⟩
  · obtain ⟨fd, FD⟩ := cd.def_ 27 (d := d__law_roots) rfl
    exact ⟨_, fd, FD, He.glo_ok X G (cd.fact 27 (f := .glo "_law_roots") rfl)⟩
  · obtain ⟨fd, FD⟩ := cd.def_ 28 (d := d__law_trace) rfl
    exact ⟨_, fd, FD, He.glo_ok X G (cd.fact 28 (f := .glo "_law_trace") rfl)⟩
  · obtain ⟨fd, FD⟩ := cd.def_ 29 (d := d__law_ring_times) rfl
    exact ⟨_, fd, FD, He.glo_ok X G (cd.fact 29 (f := .glo "_law_ring_times") rfl)⟩
  · obtain ⟨fd, FD⟩ := cd.def_ 30 (d := d__law_mirror) rfl
    exact ⟨_, fd, FD, He.glo_ok X G (cd.fact 30 (f := .glo "_law_mirror") rfl)⟩
  · obtain ⟨fd, FD⟩ := cd.def_ 31 (d := d__law_norm) rfl
    exact ⟨_, fd, FD, He.glo_ok X G (cd.fact 31 (f := .glo "_law_norm") rfl)⟩
  · obtain ⟨fd, FD⟩ := cd.def_ 32 (d := d__law_is_root) rfl
    exact ⟨_, fd, FD, He.glo_ok X G (cd.fact 32 (f := .glo "_law_is_root") rfl)⟩
  · obtain ⟨fd, FD⟩ := cd.def_ 33 (d := d__law_ring_root) rfl
    exact ⟨_, fd, FD, He.glo_ok X G (cd.fact 33 (f := .glo "_law_ring_root") rfl)⟩
  · obtain ⟨fd, FD⟩ := cd.def_ 34 (d := d__law_some_number) rfl
    exact ⟨_, fd, FD, He.glo_ok X G (cd.fact 34 (f := .glo "_law_some_number") rfl)⟩
  · obtain ⟨fd, FD⟩ := cd.def_ 35 (d := d__law_odd_number) rfl
    exact ⟨_, fd, FD, He.glo_ok X G (cd.fact 35 (f := .glo "_law_odd_number") rfl)⟩
  · obtain ⟨fd, FD⟩ := cd.def_ 36 (d := d__law_odd_ring) rfl
    exact ⟨_, fd, FD, He.glo_ok X G (cd.fact 36 (f := .glo "_law_odd_ring") rfl)⟩
  · obtain ⟨fd, FD⟩ := cd.def_ 37 (d := d__law_told) rfl
    exact ⟨_, fd, FD, He.glo_ok X G (cd.fact 37 (f := .glo "_law_told") rfl)⟩
  · obtain ⟨fd, FD⟩ := cd.def_ 38 (d := d__law_met) rfl
    exact ⟨_, fd, FD, He.glo_ok X G (cd.fact 38 (f := .glo "_law_met") rfl)⟩
  · obtain ⟨fd, FD⟩ := cd.def_ 39 (d := d__law_sum_of) rfl
    exact ⟨_, fd, FD, He.glo_ok X G (cd.fact 39 (f := .glo "_law_sum_of") rfl)⟩
  · obtain ⟨fd, FD⟩ := cd.def_ 40 (d := d__law_two_right) rfl
    exact ⟨_, fd, FD, He.glo_ok X G (cd.fact 40 (f := .glo "_law_two_right") rfl)⟩
  · obtain ⟨fd, FD⟩ := cd.def_ 41 (d := d__law_three_right) rfl
    exact ⟨_, fd, FD, He.glo_ok X G (cd.fact 41 (f := .glo "_law_three_right") rfl)⟩
  · obtain ⟨fd, FD⟩ := cd.def_ 42 (d := d__law_w_right) rfl
    exact ⟨_, fd, FD, He.glo_ok X G (cd.fact 42 (f := .glo "_law_w_right") rfl)⟩
  · obtain ⟨fd, FD⟩ := cd.def_ 43 (d := d__law_roots_right) rfl
    exact ⟨_, fd, FD, He.glo_ok X G (cd.fact 43 (f := .glo "_law_roots_right") rfl)⟩
  · obtain ⟨fd, FD⟩ := cd.def_ 44 (d := d__law_refused_right) rfl
    exact ⟨_, fd, FD, He.glo_ok X G (cd.fact 44 (f := .glo "_law_refused_right") rfl)⟩
  · obtain ⟨fd, FD⟩ := cd.def_ 45 (d := d_law) rfl
    exact ⟨_, fd, FD, He.glo_ok X G (cd.fact 45 (f := .glo "law") rfl)⟩
  · obtain ⟨fd, FD⟩ := i_InvalidNumber
    exact errB_ok x0 (He.glo_ok X G (cd.fact 47 (f := .glo "InvalidNumber") rfl)) (err_init (s := "self") (g := "given") (st := st_InvalidNumber_init) FD ⟨rfl, rfl, rfl, by decide +kernel, rfl, by decide +kernel, by decide +kernel⟩ rfl (Or.inl rfl) (Or.inl rfl) (by decide) (by decide) (by decide) (by decide) (fun _ => rfl) fun _ _ _ _ _ _ us hl => match us, hl with | [_, _], _ => rfl)
  · obtain ⟨fd, FD⟩ := i_InvalidRing
    exact errB_ok x1 (He.glo_ok X G (cd.fact 48 (f := .glo "InvalidRing") rfl)) (err_init (s := "self") (g := "given") (st := st_InvalidRing_init) FD ⟨rfl, rfl, rfl, by decide +kernel, rfl, by decide +kernel, by decide +kernel⟩ rfl (Or.inl rfl) (Or.inl rfl) (by decide) (by decide) (by decide) (by decide) (fun _ => rfl) fun _ _ _ _ _ _ us hl => match us, hl with | [_, _], _ => rfl)
theorem law_true : ∀ ns : List Int, ns.length ≤ 63 → ∃ s, m_law [.scr (ns.map D.int)] [] = .ok (.bl true) s := law_true0
end L
open PySem PySem.W PySem.Calls PyProof.Rows
theorem PySem.Challenge.cw_manyfactorings_k40_ring_numbers_holds : PySem.Challenge.rw_manyfactorings_k40_ring_numbers.Holds := by
  w_on; o_law
  refine HandSHeadRun.head_any (r := OpenLaw.row PySem.Challenge.rw_manyfactorings_k40_ring_numbers) (q := view (OpenLaw.row PySem.Challenge.rw_manyfactorings_k40_ring_numbers).prog [54]) (H := L.hk) (ob := L.ob) (M := 6000) (loose := L.looseA) (d := HandSHeadRun.topDef (OpenLaw.row PySem.Challenge.rw_manyfactorings_k40_ring_numbers).prog 54) (kwd := []) L.ob_eq
    (by kernel_rfl) (fun s => by kernel_rfl) L.run (by kernel_rfl) (by kernel_rfl) (by kernel_rfl) (by rfl) (by first | assumption | decide +kernel) (by decide +kernel) ⟨rfl, rfl, rfl, rfl, rfl, by decide +kernel⟩ ?hw ?hc
  case hw => w_witness2
  case hc =>
    refine L2.walk_ofE (l := PySem.Challenge.rw_manyfactorings_k40_ring_numbers) (n := 63) (k := 15) (x := "script") (CX := L2.CX0) rfl (by decide) (by kernel_rfl) ⟨rfl, by decide, by decide⟩ ?F ?G
    case G => exact fun _ _ _ _ z => z
    intro w mg fa h Y G hmg0
    obtain ⟨K, KX, c⟩ := Y
    have hmg : mg ("law" : PySem.Str) = some (.ref fa) := by
      have e : (HandSHeadRun.topDef (OpenLaw.row PySem.Challenge.rw_manyfactorings_k40_ring_numbers).prog 54).name = ("law" : PySem.Str) := by kernel_rfl
      rw [← e]
      exact hmg0
    obtain ⟨fd, FD⟩ := c.t.d.def_ 45 (d := L.d_law) rfl
    have hm2 := He.glo_ok KX G (c.t.d.fact 45 (f := .glo "law") rfl)
    have e := hmg.symm.trans hm2
    cases e
    obtain ⟨sp, h1, h2⟩ := Z.law_end (P := PySem.Challenge.rw_manyfactorings_k40_ring_numbers.prog) (w := w) (cm := He.ga K) (k := 15) (st := L.st_law) (M := L.m_law) FD hm2 (fun base X2 G2 => (L.ok_law (L.txt KX G c (base := base))).mono (by decide)) L.law_true
    exact ⟨K, fd, sp, KX, fun s v => (L2.FunD.bindsA (ps := ["script"]) FD fun _ _ _ _ _ _ us hl => match us, hl with | [_], _ => rfl) s [v] rfl, h1, h2⟩

